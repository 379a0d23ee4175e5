import PyProof.Rows.All
import Wide.All
import OpenK.AllK
import Wide.FinOn
import PyProof.EqAt
import PyProof.EqKinds
import PyProof.TupleCall
import HandS.ForMost
import HandS.ClsMeth
import KE.GoesEnum
import KE.KDictKeyed
import KE.KeyNested
import HandS.TupMul
import HandS.Defaults
import HandS.MakeKwOnly
import HandS.Property
import HandS.NoneIn
import HandS.Conv
import HandS.DictComp
import HandS.TupAny
import HandS.Deep
import HandS.IsInst
import HandS.Style
import HandS.Flow
import HandS.HeadHook2
import PyProof.Lay0
import HandS.Codes
import HandS.HeadEnd
import HandS.Head2
import KE.KStateDown
import HandS.Head0
import HandS.Head1
import HandS.Steps
import PySem.Challenge.RW_leverhouse_k58_whole_flashes_are_seen
set_option Elab.async false
set_option linter.all false
/-! M1 -/
section
set_option autoImplicit false
namespace K58

/-! ### the current: what pairs reach -/
inductive Rch {N : Type} (ps : List (N × N)) (s : N) : N → Prop
  | refl : Rch ps s s
  | step {a b : N} : Rch ps s a → (a, b) ∈ ps → Rch ps s b

theorem nodup_le {α : Type} [DecidableEq α] : ∀ {l m : List α}, l.Nodup → (∀ x ∈ l, x ∈ m) → l.length ≤ m.length
  | [], _, _, _ => Nat.zero_le _
  | a :: l, m, h, hs => by
    have ha : a ∈ m := hs a List.mem_cons_self
    have h1 := List.nodup_cons.mp h
    have h2 := nodup_le (l := l) (m := m.erase a) h1.2 (fun x hx => (List.mem_erase_of_ne (by rintro rfl; exact h1.1 hx)).mpr (hs x (List.mem_cons_of_mem _ hx)))
    rw [List.length_erase_of_mem ha] at h2
    have h3 : 0 < m.length := List.length_pos_of_mem ha
    rw [List.length_cons]; omega

section
variable {N : Type} [DecidableEq N]
/-- the program's inner loop: the targets of c are added -/
def addT (c : N) (fs : List N) (ps : List (N × N)) : List N := ps.foldl (fun fs p => if p.1 = c ∧ p.2 ∉ fs then fs ++ [p.2] else fs) fs
theorem addT_nil (c : N) (fs : List N) : addT c fs [] = fs := rfl
theorem addT_snoc (c : N) (fs : List N) (ps : List (N × N)) (p : N × N) : addT c fs (ps ++ [p]) = if p.1 = c ∧ p.2 ∉ addT c fs ps then addT c fs ps ++ [p.2] else addT c fs ps := by
  unfold addT; rw [List.foldl_append]; rfl
theorem addT_mem (c : N) (n : N) : ∀ (ps : List (N × N)) (fs : List N), n ∈ addT c fs ps ↔ n ∈ fs ∨ (c, n) ∈ ps
  | [], fs => by simp [addT]
  | (a, b) :: ps, fs => by
    show n ∈ addT c (if a = c ∧ b ∉ fs then fs ++ [b] else fs) ps ↔ _
    rw [addT_mem c n ps]
    by_cases h : a = c ∧ b ∉ fs
    · rw [if_pos h, List.mem_append, List.mem_singleton, List.mem_cons]
      obtain ⟨rfl, h2⟩ := h
      constructor
      · rintro ((h | rfl) | h)
        · exact .inl h
        · exact .inr (.inl rfl)
        · exact .inr (.inr h)
      · rintro (h | h | h)
        · exact .inl (.inl h)
        · cases h; exact .inl (.inr rfl)
        · exact .inr h
    · rw [if_neg h, List.mem_cons]
      constructor
      · rintro (h | h)
        · exact .inl h
        · exact .inr (.inr h)
      · rintro (h1 | h1 | h1)
        · exact .inl h1
        · cases h1
          refine .inl (Classical.byContradiction fun q => h ⟨rfl, q⟩)
        · exact .inr h1
theorem addT_nodup (c : N) : ∀ (ps : List (N × N)) (fs : List N), fs.Nodup → (addT c fs ps).Nodup
  | [], _, h => h
  | (a, b) :: ps, fs, h => by
    refine addT_nodup c ps (if a = c ∧ b ∉ fs then fs ++ [b] else fs) ?_
    by_cases q : a = c ∧ b ∉ fs
    · rw [if_pos q, List.nodup_append]
      exact ⟨h, by simp, fun x hx y hy => by rw [List.mem_singleton] at hy; subst hy; rintro rfl; exact q.2 hx⟩
    · rw [if_neg q]; exact h
theorem addT_pre (c : N) : ∀ (ps : List (N × N)) (fs : List N), ∃ t, addT c fs ps = fs ++ t
  | [], fs => ⟨[], by simp [addT]⟩
  | (a, b) :: ps, fs => by
    obtain ⟨t, e⟩ := addT_pre c ps (if a = c ∧ b ∉ fs then fs ++ [b] else fs)
    by_cases q : a = c ∧ b ∉ fs
    · rw [if_pos q, List.append_assoc] at e
      exact ⟨_, by show addT c (if a = c ∧ b ∉ fs then fs ++ [b] else fs) ps = _; rw [if_pos q]; exact e⟩
    · rw [if_neg q] at e
      exact ⟨_, by show addT c (if a = c ∧ b ∉ fs then fs ++ [b] else fs) ps = _; rw [if_neg q]; exact e⟩
theorem addT_get (c : N) (ps : List (N × N)) (fs : List N) {i : Nat} {x : N} (h : fs[i]? = some x) : (addT c fs ps)[i]? = some x := by
  obtain ⟨t, e⟩ := addT_pre c ps fs
  rw [e, List.getElem?_append_left (List.getElem?_eq_some_iff.mp h).1]; exact h
theorem addT_len (c : N) (ps : List (N × N)) (fs : List N) : fs.length ≤ (addT c fs ps).length := by
  obtain ⟨t, e⟩ := addT_pre c ps fs
  rw [e, List.length_append]; omega

/-- the program's worklist -/
structure RI (ps : List (N × N)) (s : N) (pl : Nat) (fs : List N) : Prop where
  hd : s ∈ fs
  nd : fs.Nodup
  re : ∀ n ∈ fs, Rch ps s n
  cl : ∀ (i : Nat) (a b : N), i < pl → fs[i]? = some a → (a, b) ∈ ps → b ∈ fs
  le : pl ≤ fs.length
  sub : ∀ n ∈ fs, n ∈ s :: ps.map (·.2)
theorem RI.start (ps : List (N × N)) (s : N) : RI ps s 0 [s] :=
  ⟨by simp, by simp, fun n h => by rw [List.mem_singleton] at h; subst h; exact .refl, fun i a b h => absurd h (Nat.not_lt_zero _), Nat.zero_le _, fun n h => by rw [List.mem_singleton] at h; subst h; simp⟩
theorem RI.next {ps : List (N × N)} {s c : N} {pl : Nat} {fs : List N} (h : RI ps s pl fs) (hc : fs[pl]? = some c) : RI ps s (pl + 1) (addT c fs ps) where
  hd := (addT_mem c s ps fs).mpr (.inl h.hd)
  nd := addT_nodup c ps fs h.nd
  re := fun n hn => by
    rcases (addT_mem c n ps fs).mp hn with q | q
    · exact h.re n q
    · exact .step (h.re c (List.mem_of_getElem? hc)) q
  cl := fun i a b hi ha hab => by
    refine (addT_mem c b ps fs).mpr ?_
    by_cases e : i = pl
    · subst e
      rw [addT_get c ps fs hc] at ha; cases ha; exact .inr hab
    · have hi' : i < pl := by omega
      have hlt : i < fs.length := Nat.lt_of_lt_of_le hi' h.le
      obtain ⟨x, hx⟩ : ∃ x, fs[i]? = some x := ⟨fs[i], by simp [hlt]⟩
      rw [addT_get c ps fs hx] at ha; cases ha
      exact .inl (h.cl i _ b hi' hx hab)
  le := by
    have h1 := (List.getElem?_eq_some_iff.mp hc).1
    have h2 := addT_len c ps fs
    omega
  sub := fun n hn => by
    rcases (addT_mem c n ps fs).mp hn with q | q
    · exact h.sub n q
    · exact List.mem_cons_of_mem _ (List.mem_map.mpr ⟨_, q, rfl⟩)
theorem RI.bound {ps : List (N × N)} {s : N} {pl : Nat} {fs : List N} (h : RI ps s pl fs) : fs.length ≤ ps.length + 1 := by
  have := nodup_le h.nd h.sub
  simpa using this
theorem RI.done {ps : List (N × N)} {s : N} {pl : Nat} {fs : List N} (h : RI ps s pl fs) (e : fs.length ≤ pl) (n : N) : n ∈ fs ↔ Rch ps s n := by
  refine ⟨h.re n, fun r => ?_⟩
  induction r with
  | refl => exact h.hd
  | step _ hab ih =>
    obtain ⟨i, hi, e2⟩ := List.mem_iff_getElem.mp ih
    exact h.cl i _ _ (by omega) (by rw [← e2]; simp [hi]) hab

/-- the law's rounds -/
def moreT (fs : List N) (ps : List (N × N)) : List N := (ps.filter fun p => decide (p.1 ∈ fs) && decide (p.2 ∉ fs)).map (·.2)
theorem moreT_mem {fs : List N} {ps : List (N × N)} {n : N} : n ∈ moreT fs ps ↔ n ∉ fs ∧ ∃ a, a ∈ fs ∧ (a, n) ∈ ps := by
  unfold moreT
  rw [List.mem_map]
  constructor
  · rintro ⟨⟨a, b⟩, h, rfl⟩
    rw [List.mem_filter, Bool.and_eq_true, decide_eq_true_eq, decide_eq_true_eq] at h
    exact ⟨h.2.2, a, h.2.1, h.1⟩
  · rintro ⟨h1, a, h2, h3⟩
    exact ⟨(a, n), by rw [List.mem_filter, Bool.and_eq_true, decide_eq_true_eq, decide_eq_true_eq]; exact ⟨h3, h2, h1⟩, rfl⟩
structure RL (ps : List (N × N)) (s : N) (i : Nat) (fs : List N) : Prop where
  hd : s ∈ fs
  re : ∀ n ∈ fs, Rch ps s n
  ds : ∃ ds : List N, ds.Nodup ∧ ds.length = i + 1 ∧ ∀ n ∈ ds, n ∈ fs
  ln : fs.length ≤ 1 + i * ps.length
theorem RL.start (ps : List (N × N)) (s : N) : RL ps s 0 [s] :=
  ⟨by simp, fun n h => by rw [List.mem_singleton] at h; subst h; exact .refl, ⟨[s], by simp, rfl, fun _ h => h⟩, by simp⟩
theorem RL.next {ps : List (N × N)} {s : N} {i : Nat} {fs : List N} (h : RL ps s i fs) (hm : moreT fs ps ≠ []) : RL ps s (i + 1) (fs ++ moreT fs ps) where
  hd := List.mem_append_left _ h.hd
  re := fun n hn => by
    rcases List.mem_append.mp hn with q | q
    · exact h.re n q
    · obtain ⟨_, a, h2, h3⟩ := moreT_mem.mp q
      exact .step (h.re a h2) h3
  ds := by
    obtain ⟨ds, h1, h2, h3⟩ := h.ds
    obtain ⟨x, hx⟩ := List.exists_mem_of_ne_nil _ hm
    have hx' := moreT_mem.mp hx
    refine ⟨x :: ds, List.nodup_cons.mpr ⟨fun q => hx'.1 (h3 x q), h1⟩, by rw [List.length_cons, h2], fun n hn => ?_⟩
    rcases List.mem_cons.mp hn with rfl | hn
    · exact List.mem_append_right _ hx
    · exact List.mem_append_left _ (h3 n hn)
  ln := by
    have h1 := h.ln
    have h2 : (moreT fs ps).length ≤ ps.length := by unfold moreT; rw [List.length_map]; exact List.length_filter_le _ _
    rw [List.length_append, Nat.succ_mul]; omega
theorem RL.done {ps : List (N × N)} {s : N} {i : Nat} {fs : List N} (h : RL ps s i fs) (hm : moreT fs ps = []) (n : N) : n ∈ fs ↔ Rch ps s n := by
  refine ⟨h.re n, fun r => ?_⟩
  induction r with
  | refl => exact h.hd
  | @step a b _ hab ih =>
    refine Classical.byContradiction fun q => ?_
    have : b ∈ moreT fs ps := moreT_mem.mpr ⟨q, a, ih, hab⟩
    rw [hm] at this; cases this
theorem Rch.mem {ps : List (N × N)} {s n : N} {ns : List N} (r : Rch ps s n) (hs : s ∈ ns) (hp : ∀ a b, (a, b) ∈ ps → b ∈ ns) : n ∈ ns := by
  cases r with
  | refl => exact hs
  | step _ h => exact hp _ _ h
theorem RL.lt {ps : List (N × N)} {s : N} {i : Nat} {fs ns : List N} (h : RL ps s i fs) (hs : s ∈ ns) (hp : ∀ a b, (a, b) ∈ ps → b ∈ ns) : i < ns.length := by
  obtain ⟨ds, h1, h2, h3⟩ := h.ds
  have := nodup_le h1 (m := ns) fun x hx => (h.re x (h3 x hx)).mem hs hp
  omega
end

theorem snoc_ind {α : Type} (P : List α → Prop) (h0 : P []) (h1 : ∀ l a, P l → P (l ++ [a])) (l : List α) : P l := by
  have key : ∀ r : List α, P r.reverse := by
    intro r
    induction r with
    | nil => exact h0
    | cons a r ih => rw [List.reverse_cons]; exact h1 _ _ ih
  have := key l.reverse
  rwa [List.reverse_reverse] at this

/-! ### a search by rounds over any graph -/
section
variable {C M : Type} [DecidableEq C]
abbrev Ents (C M : Type) := List (C × Option (C × M))
def keys (cs : Ents C M) : List C := cs.map (·.1)
def note (cs : Ents C M) (c : C) (s : Option (C × M)) : Ents C M := if c ∈ keys cs then cs else cs ++ [(c, s)]
def notes (c : C) (cs : Ents C M) (es : List (M × C)) : Ents C M := es.foldl (fun cs e => note cs e.2 (some (c, e.1))) cs
theorem notes_nil (c : C) (cs : Ents C M) : notes c cs [] = cs := rfl
theorem notes_snoc (c : C) (cs : Ents C M) (es : List (M × C)) (e : M × C) : notes c cs (es ++ [e]) = note (notes c cs es) e.2 (some (c, e.1)) := by
  unfold notes; rw [List.foldl_append]; rfl
theorem note_nodup {cs : Ents C M} (h : (keys cs).Nodup) (c : C) (s : Option (C × M)) : (keys (note cs c s)).Nodup := by
  unfold note
  split
  · exact h
  · rename_i q
    unfold keys at h q ⊢
    rw [List.map_append, List.nodup_append]
    refine ⟨h, by simp, fun x hx y hy => ?_⟩
    simp only [List.map_cons, List.map_nil, List.mem_singleton] at hy
    subst hy
    rintro rfl; exact q hx
theorem note_keys {cs : Ents C M} {c x : C} {s : Option (C × M)} : x ∈ keys (note cs c s) ↔ x ∈ keys cs ∨ x = c := by
  unfold note
  split
  · rename_i q
    exact ⟨.inl, fun h => h.elim id fun e => by rw [e]; exact q⟩
  · unfold keys; simp
theorem note_get {cs : Ents C M} {c : C} {s : Option (C × M)} {i : Nat} {x : C × Option (C × M)} (h : cs[i]? = some x) : (note cs c s)[i]? = some x := by
  unfold note
  split
  · exact h
  · rw [List.getElem?_append_left (List.getElem?_eq_some_iff.mp h).1]; exact h
theorem note_of {cs : Ents C M} {c : C} {s : Option (C × M)} {i : Nat} {x : C × Option (C × M)} (h : (note cs c s)[i]? = some x) : cs[i]? = some x ∨ (i = cs.length ∧ x = (c, s) ∧ c ∉ keys cs) := by
  unfold note at h
  split at h
  · exact .inl h
  · rename_i q
    by_cases hi : i < cs.length
    · rw [List.getElem?_append_left hi] at h; exact .inl h
    · rw [List.getElem?_append_right (by omega)] at h
      have h1 := (List.getElem?_eq_some_iff.mp h).1
      simp only [List.length_singleton] at h1
      have h2 : i = cs.length := by omega
      subst h2
      simp only [Nat.sub_self, List.getElem?_cons_zero, Option.some.injEq] at h
      exact .inr ⟨rfl, h.symm, q⟩
theorem note_len (cs : Ents C M) (c : C) (s : Option (C × M)) : cs.length ≤ (note cs c s).length := by
  unfold note; split
  · exact Nat.le_refl _
  · rw [List.length_append]; omega
theorem keys_get {cs : Ents C M} {c : C} : c ∈ keys cs ↔ ∃ (i : Nat) (s : Option (C × M)), cs[i]? = some (c, s) := by
  unfold keys
  rw [List.mem_map]
  constructor
  · rintro ⟨⟨a, s⟩, h, rfl⟩
    obtain ⟨i, hi⟩ := List.mem_iff_getElem?.mp h
    exact ⟨i, s, hi⟩
  · rintro ⟨i, s, h⟩
    exact ⟨_, List.mem_of_getElem? h, rfl⟩
theorem get_inj {cs : Ents C M} (nd : (keys cs).Nodup) {i j : Nat} {c : C} {s t : Option (C × M)} (h1 : cs[i]? = some (c, s)) (h2 : cs[j]? = some (c, t)) : i = j := by
  have e1 : (keys cs)[i]? = some c := by unfold keys; rw [List.getElem?_map, h1]; rfl
  have e2 : (keys cs)[j]? = some c := by unfold keys; rw [List.getElem?_map, h2]; rfl
  exact (List.getElem?_inj (List.getElem?_eq_some_iff.mp e1).1 nd).mp (e1.trans e2.symm)

/-- the search, at a turn; d: the depth of each entry -/
structure BI (succ : C → List (M × C)) (c0 : C) (cs : Ents C M) (at_ : Nat) (d : Nat → Nat) : Prop where
  nd : (keys cs).Nodup
  z : cs[0]? = some (c0, none)
  z0 : d 0 = 0
  src : ∀ (i : Nat) (c c' : C) (m : M), cs[i]? = some (c, some (c', m)) → ∃ (j : Nat) (s' : Option (C × M)), j < i ∧ cs[j]? = some (c', s') ∧ (m, c) ∈ succ c' ∧ d i = d j + 1
  nosrc : ∀ (i : Nat) (c : C), cs[i]? = some (c, none) → i = 0
  cl : ∀ (i : Nat) (c : C) (s : Option (C × M)) (e : M × C), i < at_ → cs[i]? = some (c, s) → e ∈ succ c → ∃ (j : Nat) (t : Option (C × M)), cs[j]? = some (e.2, t) ∧ d j ≤ d i + 1
  mono : ∀ i j : Nat, i ≤ j → j < cs.length → d i ≤ d j
  last : ∀ i j : Nat, i < cs.length → j < cs.length → at_ ≤ j → d i ≤ d j + 1
theorem BI.start (succ : C → List (M × C)) (c0 : C) : BI succ c0 [(c0, none)] 0 (fun _ => 0) where
  nd := by simp [keys]
  z := rfl
  z0 := rfl
  src := fun i c c' m h => by
    cases i with
    | zero => simp at h
    | succ i => simp at h
  nosrc := fun i c h => by
    cases i with
    | zero => rfl
    | succ i => simp at h
  cl := fun i c s e h => absurd h (Nat.not_lt_zero _)
  mono := fun _ _ _ _ => Nat.le_refl _
  last := fun _ _ _ _ _ => Nat.zero_le _
/-- in the turn of the entry at at_, some of its edges done -/
structure BJ (succ : C → List (M × C)) (c0 : C) (cs : Ents C M) (at_ : Nat) (c : C) (es : List (M × C)) (d : Nat → Nat) : Prop where
  bi : BI succ c0 cs at_ d
  here : ∃ s, cs[at_]? = some (c, s)
  did : ∀ e ∈ es, ∃ (j : Nat) (t : Option (C × M)), cs[j]? = some (e.2, t) ∧ d j ≤ d at_ + 1
theorem BJ.next {succ : C → List (M × C)} {c0 c : C} {cs : Ents C M} {at_ : Nat} {es : List (M × C)} {d : Nat → Nat} {e : M × C} (h : BJ succ c0 cs at_ c es d) (he : e ∈ succ c) :
    ∃ d', BJ succ c0 (note cs e.2 (some (c, e.1))) at_ c (es ++ [e]) d' := by
  obtain ⟨s, hs⟩ := h.here
  have hat : at_ < cs.length := (List.getElem?_eq_some_iff.mp hs).1
  by_cases q : e.2 ∈ keys cs
  · refine ⟨d, ?_⟩
    unfold note
    rw [if_pos q]
    refine ⟨h.bi, h.here, fun x hx => ?_⟩
    rcases List.mem_append.mp hx with hx | hx
    · exact h.did x hx
    · rw [List.mem_singleton] at hx; subst hx
      obtain ⟨j, t, hj⟩ := keys_get.mp q
      exact ⟨j, t, hj, h.bi.last j at_ (List.getElem?_eq_some_iff.mp hj).1 hat (Nat.le_refl _)⟩
  · have en : note cs e.2 (some (c, e.1)) = cs ++ [(e.2, some (c, e.1))] := by unfold note; rw [if_neg q]
    refine ⟨fun i => if i < cs.length then d i else d at_ + 1, ?_⟩
    have dl : ∀ i, i < cs.length → (fun i => if i < cs.length then d i else d at_ + 1) i = d i := fun i hi => if_pos hi
    have dn : (fun i => if i < cs.length then d i else d at_ + 1) cs.length = d at_ + 1 := if_neg (Nat.lt_irrefl _)
    have ln : (note cs e.2 (some (c, e.1))).length = cs.length + 1 := by rw [en, List.length_append]; rfl
    have gl : ∀ {i : Nat} {x : C × Option (C × M)}, cs[i]? = some x → (note cs e.2 (some (c, e.1)))[i]? = some x := fun hx => note_get hx
    refine ⟨⟨note_nodup h.bi.nd _ _, gl h.bi.z, ?_, fun i c1 c' m hi => ?_, fun i c1 hi => ?_, fun i c1 s1 e1 hi hc he1 => ?_, fun i j hij hj => ?_, fun i j hi hj haj => ?_⟩, ⟨s, gl hs⟩, fun x hx => ?_⟩
    · show (if 0 < cs.length then d 0 else d at_ + 1) = 0
      rw [if_pos (by omega)]; exact h.bi.z0
    · rcases note_of hi with hi | ⟨ei, ex, _⟩
      · obtain ⟨j, s', h1, h2, h3, h4⟩ := h.bi.src i c1 c' m hi
        have hil := (List.getElem?_eq_some_iff.mp hi).1
        refine ⟨j, s', h1, gl h2, h3, ?_⟩
        show (if i < cs.length then d i else d at_ + 1) = (if j < cs.length then d j else d at_ + 1) + 1
        rw [if_pos hil, if_pos (by omega)]; exact h4
      · cases ex
        refine ⟨at_, s, by omega, gl hs, he, ?_⟩
        show (if i < cs.length then d i else d at_ + 1) = (if at_ < cs.length then d at_ else d at_ + 1) + 1
        rw [if_neg (by omega), if_pos hat]
    · rcases note_of hi with hi | ⟨_, ex, _⟩
      · exact h.bi.nosrc i c1 hi
      · cases ex
    · rcases note_of hc with hc | ⟨ei, _, _⟩
      · obtain ⟨j, t, h1, h2⟩ := h.bi.cl i c1 s1 e1 hi hc he1
        have hil := (List.getElem?_eq_some_iff.mp hc).1
        have hjl := (List.getElem?_eq_some_iff.mp h1).1
        refine ⟨j, t, gl h1, ?_⟩
        show (if j < cs.length then d j else d at_ + 1) ≤ (if i < cs.length then d i else d at_ + 1) + 1
        rw [if_pos hil, if_pos hjl]; exact h2
      · omega
    · show (if i < cs.length then d i else d at_ + 1) ≤ (if j < cs.length then d j else d at_ + 1)
      by_cases hjl : j < cs.length
      · rw [if_pos hjl, if_pos (by omega)]; exact h.bi.mono i j hij hjl
      · rw [if_neg hjl]
        by_cases hil : i < cs.length
        · rw [if_pos hil]; exact h.bi.last i at_ hil hat (Nat.le_refl _)
        · rw [if_neg hil]; exact Nat.le_refl _
    · show (if i < cs.length then d i else d at_ + 1) ≤ (if j < cs.length then d j else d at_ + 1) + 1
      rw [ln] at hi hj
      by_cases hjl : j < cs.length
      · rw [if_pos hjl]
        by_cases hil : i < cs.length
        · rw [if_pos hil]; exact h.bi.last i j hil hjl haj
        · rw [if_neg hil]
          have := h.bi.mono at_ j haj hjl
          omega
      · rw [if_neg hjl]
        by_cases hil : i < cs.length
        · rw [if_pos hil]
          have := h.bi.last i at_ hil hat (Nat.le_refl _)
          omega
        · rw [if_neg hil]; omega
    · rcases List.mem_append.mp hx with hx | hx
      · obtain ⟨j, t, h1, h2⟩ := h.did x hx
        have hjl := (List.getElem?_eq_some_iff.mp h1).1
        refine ⟨j, t, gl h1, ?_⟩
        show (if j < cs.length then d j else d at_ + 1) ≤ (if at_ < cs.length then d at_ else d at_ + 1) + 1
        rw [if_pos hjl, if_pos hat]; exact h2
      · rw [List.mem_singleton] at hx; subst hx
        refine ⟨cs.length, some (c, x.1), ?_, ?_⟩
        · rw [en, List.getElem?_append_right (Nat.le_refl _), Nat.sub_self]; rfl
        · show (if cs.length < cs.length then d cs.length else d at_ + 1) ≤ (if at_ < cs.length then d at_ else d at_ + 1) + 1
          rw [if_neg (Nat.lt_irrefl _), if_pos hat]; exact Nat.le_refl _
theorem BI.turn {succ : C → List (M × C)} {c0 c : C} {cs : Ents C M} {at_ : Nat} {d : Nat → Nat} (h : BI succ c0 cs at_ d) {s : Option (C × M)} (hs : cs[at_]? = some (c, s)) :
    ∃ d', BI succ c0 (notes c cs (succ c)) (at_ + 1) d' := by
  have key : ∀ (es es' : List (M × C)), es ++ es' = succ c → ∃ d', BJ succ c0 (notes c cs es) at_ c es d' := by
    refine snoc_ind (fun es => ∀ es', es ++ es' = succ c → ∃ d', BJ succ c0 (notes c cs es) at_ c es d') ?_ ?_
    · intro _ _; exact ⟨d, h, ⟨s, hs⟩, fun e he => nomatch he⟩
    · intro es e ih es' hes
      obtain ⟨d1, h1⟩ := ih (e :: es') (by rw [← hes]; simp)
      rw [notes_snoc]
      exact h1.next (by rw [← hes]; simp)
  obtain ⟨d1, h1⟩ := key (succ c) [] (List.append_nil _)
  refine ⟨d1, h1.bi.nd, h1.bi.z, h1.bi.z0, h1.bi.src, h1.bi.nosrc, fun i c1 s1 e hi hc he => ?_, h1.bi.mono, fun i j hi hj haj => h1.bi.last i j hi hj (by omega)⟩
  by_cases ei : i = at_
  · subst ei
    obtain ⟨s2, h2⟩ := h1.here
    rw [h2] at hc; cases hc
    exact h1.did e he
  · exact h1.bi.cl i c1 s1 e (by omega) hc he

/-- a path -/
inductive Pth (succ : C → List (M × C)) (c0 : C) : List M → C → Prop
  | nil : Pth succ c0 [] c0
  | snoc {p : List M} {c c' : C} {m : M} : Pth succ c0 p c → (m, c') ∈ succ c → Pth succ c0 (p ++ [m]) c'
theorem BI.reach {succ : C → List (M × C)} {c0 c : C} {cs : Ents C M} {d : Nat → Nat} (h : BI succ c0 cs cs.length d) {p : List M} (hp : Pth succ c0 p c) :
    ∃ (j : Nat) (t : Option (C × M)), cs[j]? = some (c, t) ∧ d j ≤ p.length := by
  induction hp with
  | nil => exact ⟨0, _, h.z, by rw [h.z0]; exact Nat.zero_le _⟩
  | @snoc p c1 c' m hp he ih =>
    obtain ⟨j, t, h1, h2⟩ := ih
    obtain ⟨j', t', h3, h4⟩ := h.cl j c1 t (m, c') (List.getElem?_eq_some_iff.mp h1).1 h1 he
    exact ⟨j', t', h3, by rw [List.length_append, List.length_singleton]; omega⟩
/-- the play that the sources tell -/
inductive Back (cs : Ents C M) : C → List M → Prop
  | nil {c : C} : (c, none) ∈ cs → Back cs c []
  | snoc {c c' : C} {m : M} {p : List M} : (c, some (c', m)) ∈ cs → Back cs c' p → Back cs c (p ++ [m])
theorem BI.back {succ : C → List (M × C)} {c0 : C} {cs : Ents C M} {at_ : Nat} {d : Nat → Nat} (h : BI succ c0 cs at_ d) : ∀ (i : Nat) (c : C) (s : Option (C × M)), cs[i]? = some (c, s) →
    ∃ p, Back cs c p ∧ p.length = d i ∧ Pth succ c0 p c := by
  intro i
  induction i using Nat.strongRecOn with
  | _ i ih =>
    intro c s hi
    cases s with
    | none =>
      have e := h.nosrc i c hi
      subst e
      have z := h.z
      rw [z] at hi; cases hi
      exact ⟨[], .nil (List.mem_of_getElem? z), h.z0.symm, .nil⟩
    | some cm =>
      obtain ⟨c', m⟩ := cm
      obtain ⟨j, s', h1, h2, h3, h4⟩ := h.src i c c' m hi
      obtain ⟨p, q1, q2, q3⟩ := ih j h1 c' s' h2
      exact ⟨p ++ [m], .snoc (List.mem_of_getElem? hi) q1, by rw [List.length_append, List.length_singleton, q2, h4], .snoc q3 h3⟩
theorem ent_uniq {cs : Ents C M} (nd : (keys cs).Nodup) {c : C} {s t : Option (C × M)} (h1 : (c, s) ∈ cs) (h2 : (c, t) ∈ cs) : s = t := by
  obtain ⟨i, hi⟩ := List.mem_iff_getElem?.mp h1
  obtain ⟨j, hj⟩ := List.mem_iff_getElem?.mp h2
  have e := get_inj nd hi hj
  subst e
  rw [hi] at hj; cases hj; rfl
theorem Back.none {cs : Ents C M} (nd : (keys cs).Nodup) {c : C} {p : List M} (h : Back cs c p) (hn : (c, none) ∈ cs) : p = [] := by
  cases h with
  | nil _ => rfl
  | snoc h1 _ => exact nomatch ent_uniq nd h1 hn
theorem Back.some {cs : Ents C M} (nd : (keys cs).Nodup) {c c' : C} {m : M} {p : List M} (h : Back cs c p) (hs : (c, some (c', m)) ∈ cs) : ∃ p', p = p' ++ [m] ∧ Back cs c' p' := by
  cases h with
  | nil h1 => exact nomatch ent_uniq nd h1 hs
  | snoc h1 h2 =>
    cases ent_uniq nd h1 hs
    exact ⟨_, rfl, h2⟩
end
end K58
end
/-! M2 -/
section
set_option autoImplicit false
namespace K58

/-! ### boards, states, moves -/
structure Con (N : Type) where
  one : N
  other : N
  mover : Option N
  make : Bool
  both : Bool
structure Brd (N : Type) where
  plus : N
  minus : N
  more : List N
  sw : List N
  rel : List (N × N × N)
  lamps : List (N × N × N)
  con : List (Con N)
abbrev BState := List Bool × Bool
abbrev Phase := Int × Bool
abbrev Case := BState × Phase

section
variable {N : Type} [DecidableEq N]
def Brd.nodes (B : Brd N) : List N := B.plus :: B.minus :: B.more
def Brd.movers (B : Brd N) : List N := B.sw ++ B.rel.map (·.1)
def Brd.idx (B : Brd N) (n : N) : Nat := B.movers.idxOf n
def Brd.closed (B : Brd N) (on : List Bool) (c : Con N) : Bool := match c.mover with
  | none => true
  | some m => on.getD (B.idx m) false == c.make
def prs (c : Con N) : List (N × N) := (c.one, c.other) :: (if c.both then [(c.other, c.one)] else [])
def Brd.pairs (B : Brd N) (on : List Bool) : List (N × N) := (B.con.filter (B.closed on)).flatMap prs
def swp (p : N × N) : N × N := (p.2, p.1)
open Classical in
noncomputable def rch (ps : List (N × N)) (s n : N) : Bool := decide (Rch ps s n)
noncomputable def Brd.fed (B : Brd N) (on : List Bool) (n : N) : Bool := rch (B.pairs on) B.plus n
noncomputable def Brd.feeds (B : Brd N) (on : List Bool) (n : N) : Bool := rch ((B.pairs on).map swp) B.minus n
noncomputable def Brd.short (B : Brd N) (on : List Bool) : Bool := B.fed on B.minus
noncomputable def Brd.liveL (B : Brd N) (on : List Bool) (l : N × N × N) : Bool := (B.fed on l.2.1 && B.feeds on l.2.2) || (B.fed on l.2.2 && B.feeds on l.2.1)
noncomputable def Brd.live (B : Brd N) (st : BState) (ls : List (N × N × N)) : List N := if st.2 = true then [] else (ls.filter (B.liveL st.1)).map (·.1)
noncomputable def Brd.due (B : Brd N) (st : BState) : List N := (B.rel.filter fun r => st.1.getD (B.idx r.1) false != decide (r.1 ∈ B.live st B.rel)).map (·.1)
def flipAt (on : List Bool) (i : Nat) : List Bool := on.set i (!on.getD i false)
noncomputable def Brd.step (B : Brd N) (st : BState) (n : N) : BState := (flipAt st.1 (B.idx n), st.2 || B.short (flipAt st.1 (B.idx n)))
noncomputable def Brd.first (B : Brd N) : BState := (List.replicate B.movers.length false, B.short (List.replicate B.movers.length false))
noncomputable def Brd.moves (B : Brd N) (st : BState) : List (Bool × N) := (if (B.due st).length ≤ 0 then B.sw.map fun n => (true, n) else []) ++ (B.due st).map fun n => (false, n)
noncomputable def Brd.lit (B : Brd N) (lamp : N) (st : BState) : Bool := decide (lamp ∈ B.live st B.lamps)
noncomputable def Brd.rest (B : Brd N) (st : BState) : Bool := (B.due st).isEmpty
noncomputable def Brd.phase (B : Brd N) (lamp : N) (before : BState) (ph : Phase) (mv : Bool × N) (after : BState) : Phase :=
  if mv.1 = true then
    if B.rest after = true then (0, false) else if B.lit lamp after ≠ B.lit lamp before then (2, B.lit lamp before) else (1, B.lit lamp before)
  else if ph.1 = 0 then ph
  else if ph.1 = 2 ∧ B.lit lamp after = ph.2 ∧ B.rest after = true then (3, ph.2)
  else if B.rest after = true then (0, false)
  else if B.lit lamp after ≠ ph.2 then (2, ph.2) else ph
noncomputable def Brd.succ (B : Brd N) (lamp : N) (c : Case) : List ((Bool × N) × Case) :=
  if c.2.1 = 3 then [] else (B.moves c.1).map fun m => (m, (B.step c.1 m.2, B.phase lamp c.1 c.2 m (B.step c.1 m.2)))
noncomputable def Brd.case0 (B : Brd N) : Case := (B.first, (0, false))

/-! ### plays -/
noncomputable def Brd.run (B : Brd N) (p : List (Bool × N)) : BState := p.foldl (fun st m => B.step st m.2) B.first
theorem Brd.run_nil (B : Brd N) : B.run [] = B.first := rfl
theorem Brd.run_snoc (B : Brd N) (p : List (Bool × N)) (m : Bool × N) : B.run (p ++ [m]) = B.step (B.run p) m.2 := by
  unfold Brd.run; rw [List.foldl_append]; rfl
def Brd.Valid (B : Brd N) (p : List (Bool × N)) : Prop := ∀ (i : Nat) (m : Bool × N), p[i]? = some m → m ∈ B.moves (B.run (p.take i))
theorem Brd.Valid.nil (B : Brd N) : B.Valid [] := fun i m h => by simp at h
theorem Brd.Valid.snoc {B : Brd N} {p : List (Bool × N)} {m : Bool × N} (h : B.Valid p) (hm : m ∈ B.moves (B.run p)) : B.Valid (p ++ [m]) := fun i x hi => by
  by_cases q : i < p.length
  · rw [List.getElem?_append_left q] at hi
    rw [List.take_append_of_le_length (by omega)]
    exact h i x hi
  · rw [List.getElem?_append_right (by omega)] at hi
    have h1 := (List.getElem?_eq_some_iff.mp hi).1
    simp only [List.length_singleton] at h1
    have h2 : i = p.length := by omega
    subst h2
    simp only [Nat.sub_self, List.getElem?_cons_zero, Option.some.injEq] at hi
    subst hi
    rw [List.take_append_of_le_length (Nat.le_refl _), List.take_length]
    exact hm
theorem Brd.Valid.init {B : Brd N} {p : List (Bool × N)} {m : Bool × N} (h : B.Valid (p ++ [m])) : B.Valid p ∧ m ∈ B.moves (B.run p) := by
  constructor
  · intro i x hi
    have h1 := (List.getElem?_eq_some_iff.mp hi).1
    have := h i x (by rw [List.getElem?_append_left h1]; exact hi)
    rwa [List.take_append_of_le_length (by omega)] at this
  · have := h p.length m (by simp)
    rwa [List.take_append_of_le_length (Nat.le_refl _), List.take_length] at this

/-! ### the law's parts: found so far, the number of the hand's move whose part is open -/
abbrev Ends0 := List (Nat × Nat) × Option Nat
def flashW (lit : Nat → Bool) (h e : Nat) : Bool := (lit h == lit e) && (List.range (e - h - 1)).any fun i => lit (h + 1 + i) == !lit h
def eStep (lit rest isH : Nat → Bool) (a : Ends0) (k : Nat) : Ends0 :=
  match (if isH k = true then some k else a.2) with
  | none => (a.1, none)
  | some h => if rest (k + 1) = true then (if flashW lit h (k + 1) = true then a.1 ++ [(h, k + 1)] else a.1, none) else (a.1, some h)
def endsK (lit rest isH : Nat → Bool) (n : Nat) : Ends0 := (List.range n).foldl (eStep lit rest isH) ([], none)
theorem endsK_zero (lit rest isH : Nat → Bool) : endsK lit rest isH 0 = ([], none) := rfl
theorem endsK_succ (lit rest isH : Nat → Bool) (n : Nat) : endsK lit rest isH (n + 1) = eStep lit rest isH (endsK lit rest isH n) n := by
  unfold endsK; rw [List.range_succ, List.foldl_append]; rfl
theorem eStep_hand {lit rest isH : Nat → Bool} {a : Ends0} {k h : Nat} (e : (eStep lit rest isH a k).2 = some h) : h = k ∨ a.2 = some h := by
  unfold eStep at e
  split at e
  · exact nomatch e
  · rename_i h' hh
    split at e
    · exact nomatch e
    · simp only [Option.some.injEq] at e
      subst e
      split at hh
      · simp only [Option.some.injEq] at hh; exact .inl hh.symm
      · exact .inr hh
theorem endsK_lt {lit rest isH : Nat → Bool} : ∀ {n h : Nat}, (endsK lit rest isH n).2 = some h → h < n
  | 0, h, e => nomatch e
  | n + 1, h, e => by
    rw [endsK_succ] at e
    rcases eStep_hand e with rfl | e
    · exact Nat.lt_succ_self _
    · exact Nat.lt_succ_of_lt (endsK_lt e)
theorem any_congr' {α : Type} {f g : α → Bool} : ∀ {l : List α}, (∀ x ∈ l, f x = g x) → l.any f = l.any g
  | [], _ => rfl
  | a :: l, h => by
    rw [List.any_cons, List.any_cons, h a List.mem_cons_self, any_congr' fun x hx => h x (List.mem_cons_of_mem _ hx)]
theorem flashW_congr {lit lit' : Nat → Bool} {h e : Nat} (hh : h ≤ e) (l : ∀ i, i ≤ e → lit i = lit' i) : flashW lit h e = flashW lit' h e := by
  unfold flashW
  rw [l h hh, l e (Nat.le_refl _)]
  congr 1
  refine any_congr' fun i hi => ?_
  rw [List.mem_range] at hi
  rw [l (h + 1 + i) (by omega)]
theorem endsK_congr {lit rest isH lit' rest' isH' : Nat → Bool} : ∀ {n : Nat}, (∀ i, i ≤ n → lit i = lit' i) → (∀ i, i ≤ n → rest i = rest' i) → (∀ i, i < n → isH i = isH' i) →
    endsK lit rest isH n = endsK lit' rest' isH' n
  | 0, _, _, _ => rfl
  | n + 1, l, r, i => by
    rw [endsK_succ, endsK_succ, endsK_congr (fun j hj => l j (by omega)) (fun j hj => r j (by omega)) (fun j hj => i j (by omega))]
    unfold eStep
    rw [i n (Nat.lt_succ_self _)]
    split
    · rfl
    · rename_i h hh
      have hl : h ≤ n + 1 := by
        split at hh
        · simp only [Option.some.injEq] at hh; omega
        · have := endsK_lt hh; omega
      rw [r (n + 1) (Nat.le_refl _), flashW_congr hl fun j hj => l j hj]
noncomputable def Brd.litP (B : Brd N) (lamp : N) (p : List (Bool × N)) (i : Nat) : Bool := B.lit lamp (B.run (p.take i))
noncomputable def Brd.restP (B : Brd N) (p : List (Bool × N)) (i : Nat) : Bool := B.rest (B.run (p.take i))
def isHP (p : List (Bool × N)) (i : Nat) : Bool := match p[i]? with
  | some m => m.1
  | none => false
/-- what the law tells of a play -/
noncomputable def Brd.ends (B : Brd N) (lamp : N) (p : List (Bool × N)) : Ends0 := endsK (B.litP lamp p) (B.restP p) (isHP p) p.length
theorem take_pre (p : List (Bool × N)) (m : Bool × N) {i : Nat} (h : i ≤ p.length) : (p ++ [m]).take i = p.take i := List.take_append_of_le_length h
theorem Brd.ends_snoc (B : Brd N) (lamp : N) (p : List (Bool × N)) (m : Bool × N) :
    B.ends lamp (p ++ [m]) = eStep (B.litP lamp (p ++ [m])) (B.restP (p ++ [m])) (isHP (p ++ [m])) (B.ends lamp p) p.length := by
  unfold Brd.ends
  rw [List.length_append, List.length_singleton, endsK_succ]
  congr 1
  refine endsK_congr (fun i hi => ?_) (fun i hi => ?_) (fun i hi => ?_)
  · unfold Brd.litP; rw [take_pre p m hi]
  · unfold Brd.restP; rw [take_pre p m hi]
  · unfold isHP; rw [List.getElem?_append_left hi]

/-- how a phase tells the open part -/
structure Rel (lit : Nat → Bool) (n : Nat) (ph : Phase) (hand : Option Nat) : Prop where
  w : ph.1 = 0 → hand = none
  k : ph.1 = 0 ∨ ph.1 = 1 ∨ ph.1 = 2
  h : ph.1 ≠ 0 → ∃ h, hand = some h ∧ h < n ∧ ph.2 = lit h ∧ (ph.1 = 2 ↔ ∃ j, h < j ∧ j ≤ n ∧ lit j = !lit h)
theorem flashW_iff {lit : Nat → Bool} {h e : Nat} : flashW lit h e = true ↔ lit h = lit e ∧ ∃ j, h < j ∧ j < e ∧ lit j = !lit h := by
  unfold flashW
  rw [Bool.and_eq_true, beq_iff_eq, List.any_eq_true]
  refine and_congr_right fun _ => ?_
  constructor
  · rintro ⟨i, hi, e1⟩
    rw [List.mem_range] at hi
    exact ⟨h + 1 + i, by omega, by omega, beq_iff_eq.mp e1⟩
  · rintro ⟨j, h1, h2, e1⟩
    refine ⟨j - h - 1, by rw [List.mem_range]; omega, ?_⟩
    rw [show h + 1 + (j - h - 1) = j by omega]
    exact beq_iff_eq.mpr e1
theorem bnot_of_ne {a b : Bool} (h : a ≠ b) : a = !b := by cases a <;> cases b <;> simp_all
theorem ne_of_bnot {a b : Bool} (h : a = !b) : a ≠ b := by cases a <;> cases b <;> simp_all
theorem isHP_last (p : List (Bool × N)) (m : Bool × N) : isHP (p ++ [m]) p.length = m.1 := by
  unfold isHP; rw [List.getElem?_append_right (Nat.le_refl _), Nat.sub_self]; rfl
theorem Brd.litP_last (B : Brd N) (lamp : N) (p : List (Bool × N)) : B.litP lamp p p.length = B.lit lamp (B.run p) := by unfold Brd.litP; rw [List.take_length]
theorem Brd.litP_pre (B : Brd N) (lamp : N) (p : List (Bool × N)) (m : Bool × N) {i : Nat} (h : i ≤ p.length) : B.litP lamp (p ++ [m]) i = B.litP lamp p i := by unfold Brd.litP; rw [take_pre p m h]

/-- one move: the phase and the law's parts go together -/
theorem Brd.step_rel (B : Brd N) (lamp : N) (p : List (Bool × N)) (m : Bool × N) (ph : Phase) (hand : Option Nat) (fs : List (Nat × Nat)) (he : B.ends lamp p = (fs, hand)) (R : Rel (B.litP lamp p) p.length ph hand) :
    (B.phase lamp (B.run p) ph m (B.run (p ++ [m]))).1 = 3 ∧ (∃ h, hand = some h ∧ m.1 = false ∧ B.ends lamp (p ++ [m]) = (fs ++ [(h, p.length + 1)], none)) ∨
    (B.phase lamp (B.run p) ph m (B.run (p ++ [m]))).1 ≠ 3 ∧ ∃ hand', B.ends lamp (p ++ [m]) = (fs, hand') ∧ Rel (B.litP lamp (p ++ [m])) (p ++ [m]).length (B.phase lamp (B.run p) ph m (B.run (p ++ [m]))) hand' := by
  have ln : (p ++ [m]).length = p.length + 1 := by rw [List.length_append]; rfl
  have el : B.litP lamp (p ++ [m]) (p.length + 1) = B.lit lamp (B.run (p ++ [m])) := by rw [← ln]; exact B.litP_last lamp _
  have er : B.restP (p ++ [m]) (p.length + 1) = B.rest (B.run (p ++ [m])) := by unfold Brd.restP; rw [← ln, List.take_length]
  have e0 : B.litP lamp (p ++ [m]) p.length = B.lit lamp (B.run p) := by rw [B.litP_pre lamp p m (Nat.le_refl _)]; exact B.litP_last lamp p
  have es := B.ends_snoc lamp p m
  rw [he] at es
  unfold eStep at es
  rw [isHP_last] at es
  rw [er] at es
  unfold Brd.phase
  by_cases hm : m.1 = true
  · -- a hand's move
    rw [if_pos hm]
    rw [if_pos hm] at es
    right
    by_cases hr : B.rest (B.run (p ++ [m])) = true
    · rw [if_pos hr]
      have nf : ¬ flashW (B.litP lamp (p ++ [m])) p.length (p.length + 1) = true := fun q => by
        obtain ⟨_, j, h1, h2, _⟩ := flashW_iff.mp q
        omega
      simp only [hr, if_true] at es
      rw [if_neg nf] at es
      exact ⟨by decide, none, es, ⟨fun _ => rfl, .inl rfl, fun h => absurd rfl h⟩⟩
    · rw [if_neg hr]
      have es2 : B.ends lamp (p ++ [m]) = (fs, some p.length) := by rw [es]; simp [hr]
      by_cases hl : B.lit lamp (B.run (p ++ [m])) ≠ B.lit lamp (B.run p)
      · rw [if_pos hl]
        refine ⟨(by show (2 : Int) ≠ 3; decide), _, es2, ⟨fun h => absurd h (by show ¬ (2 : Int) = 0; decide), .inr (.inr rfl), fun _ => ⟨p.length, rfl, by omega, e0.symm, fun _ => ⟨p.length + 1, by omega, by omega, ?_⟩, fun _ => rfl⟩⟩⟩
        rw [el, e0]; exact bnot_of_ne hl
      · rw [if_neg hl]
        refine ⟨(by show (1 : Int) ≠ 3; decide), _, es2, ⟨fun h => absurd h (by show ¬ (1 : Int) = 0; decide), .inr (.inl rfl), fun _ => ⟨p.length, rfl, by omega, e0.symm, fun h => absurd h (by show ¬ (1 : Int) = 2; decide), fun ⟨j, h1, h2, h3⟩ => ?_⟩⟩⟩
        have ej : j = p.length + 1 := by omega
        subst ej
        rw [el, e0] at h3
        exact absurd (Classical.not_not.mp hl) (ne_of_bnot h3)
  · rw [if_neg hm]
    have hmf : m.1 = false := by cases h : m.1 <;> simp_all
    rw [if_neg hm] at es
    by_cases h0 : ph.1 = 0
    · rw [if_pos h0]
      right
      have hn := R.w h0
      subst hn
      refine ⟨by rw [h0]; decide, none, es, ⟨fun _ => rfl, .inl h0, fun h => absurd h0 h⟩⟩
    · rw [if_neg h0]
      obtain ⟨h, hh, hlt, hs, hk⟩ := R.h h0
      subst hh
      have e1 : B.litP lamp (p ++ [m]) h = ph.2 := by rw [B.litP_pre lamp p m (by omega)]; exact hs.symm
      have fl : flashW (B.litP lamp (p ++ [m])) h (p.length + 1) = true ↔ (ph.1 = 2 ∧ B.lit lamp (B.run (p ++ [m])) = ph.2) := by
        rw [flashW_iff, el, e1, hk]
        constructor
        · rintro ⟨a, j, b, c, d⟩
          refine ⟨⟨j, b, by omega, ?_⟩, a.symm⟩
          rw [B.litP_pre lamp p m (by omega)] at d
          rw [d, hs]
        · rintro ⟨⟨j, a, b, c⟩, d⟩
          refine ⟨d.symm, j, a, by omega, ?_⟩
          rw [B.litP_pre lamp p m b, c, hs]
      by_cases hr : B.rest (B.run (p ++ [m])) = true
      · by_cases h3 : ph.1 = 2 ∧ B.lit lamp (B.run (p ++ [m])) = ph.2 ∧ B.rest (B.run (p ++ [m])) = true
        · rw [if_pos h3]
          left
          refine ⟨rfl, h, rfl, hmf, ?_⟩
          rw [es]
          simp only [hr, if_true]
          rw [if_pos (fl.mpr ⟨h3.1, h3.2.1⟩)]
        · rw [if_neg h3, if_pos hr]
          right
          refine ⟨by decide, none, ?_, ⟨fun _ => rfl, .inl rfl, fun h => absurd rfl h⟩⟩
          rw [es]
          simp only [hr, if_true]
          rw [if_neg fun q => h3 ⟨(fl.mp q).1, (fl.mp q).2, hr⟩]
      · rw [if_neg fun q => hr q.2.2, if_neg hr]
        have es2 : B.ends lamp (p ++ [m]) = (fs, some h) := by rw [es]; simp [hr]
        right
        by_cases hl : B.lit lamp (B.run (p ++ [m])) ≠ ph.2
        · rw [if_pos hl]
          refine ⟨(by show (2 : Int) ≠ 3; decide), _, es2, ⟨fun h => absurd h (by show ¬ (2 : Int) = 0; decide), .inr (.inr rfl), fun _ => ⟨h, rfl, by omega, e1.symm, fun _ => ⟨p.length + 1, by omega, by omega, ?_⟩, fun _ => rfl⟩⟩⟩
          rw [el, e1]; exact bnot_of_ne hl
        · rw [if_neg hl]
          refine ⟨?_, _, es2, ⟨fun h => absurd h h0, R.k, fun _ => ⟨h, rfl, by omega, e1.symm, fun h2 => ?_, fun ⟨j, a, b, c⟩ => ?_⟩⟩⟩
          · rcases R.k with k | k | k <;> rw [k] <;> decide
          · obtain ⟨j, a, b, c⟩ := hk.mp h2
            exact ⟨j, a, by omega, by rw [B.litP_pre lamp p m b, c, e1, hs]⟩
          · rw [ln] at b
            by_cases ej : j = p.length + 1
            · subst ej
              rw [el, e1] at c
              exact absurd (Classical.not_not.mp hl) (ne_of_bnot c)
            · refine hk.mpr ⟨j, a, by omega, ?_⟩
              rw [B.litP_pre lamp p m (by omega), e1] at c
              rw [c, hs]
theorem Brd.rel0 (B : Brd N) (lamp : N) : Rel (B.litP lamp []) 0 (0, false) none := ⟨fun _ => rfl, .inl rfl, fun h => absurd rfl h⟩

/-- a path of cases: its play can be played, its parts -/
theorem Brd.path (B : Brd N) (lamp : N) {p : List (Bool × N)} {c : Case} (hp : Pth (B.succ lamp) B.case0 p c) :
    B.Valid p ∧ c.1 = B.run p ∧ (c.2.1 ≠ 3 ∧ (∃ hand, B.ends lamp p = ([], hand) ∧ Rel (B.litP lamp p) p.length c.2 hand) ∨ c.2.1 = 3 ∧ ∃ h, B.ends lamp p = ([(h, p.length)], none) ∧ ∃ p' m, p = p' ++ [m] ∧ m.1 = false ∧ (B.ends lamp p').2 = some h) := by
  induction hp with
  | nil => exact ⟨.nil B, rfl, .inl ⟨(by show (0 : Int) ≠ 3; decide), none, rfl, B.rel0 lamp⟩⟩
  | @snoc p c c' m hp he ih =>
    obtain ⟨h1, h2, h3⟩ := ih
    unfold Brd.succ at he
    by_cases q : c.2.1 = 3
    · rw [if_pos q] at he; exact nomatch he
    · rw [if_neg q, List.mem_map] at he
      obtain ⟨m', hm, e⟩ := he
      cases e
      rcases h3 with ⟨_, hand, he, R⟩ | ⟨h3, _⟩
      · rw [h2] at hm
        have ev : B.step c.1 m.2 = B.run (p ++ [m]) := by rw [B.run_snoc, h2]
        refine ⟨h1.snoc hm, ev, ?_⟩
        show ((B.phase lamp c.1 c.2 m (B.step c.1 m.2)).1 ≠ 3 ∧ _) ∨ _
        rw [ev, h2]
        rcases B.step_rel lamp p m c.2 hand [] he R with ⟨a, h, b, b2, d⟩ | ⟨a, hand', b, d⟩
        · right
          refine ⟨a, h, ?_, p, m, rfl, b2, ?_⟩
          · rw [d, List.length_append]; rfl
          · rw [he]; exact b
        · left
          exact ⟨a, hand', b, d⟩
      · exact absurd h3 q
theorem eStep_mono {lit rest isH : Nat → Bool} {a : Ends0} {k e0 : Nat} (he : e0 ≤ k + 1) (h : ∀ x ∈ a.1, e0 ≤ x.2) : ∀ x ∈ (eStep lit rest isH a k).1, e0 ≤ x.2 := by
  intro x hx
  unfold eStep at hx
  split at hx
  · exact h x hx
  · split at hx
    · simp only at hx
      split at hx
      · rcases List.mem_append.mp hx with hx | hx
        · exact h x hx
        · rw [List.mem_singleton] at hx; subst hx; exact he
      · exact h x hx
    · exact h x hx
/-- a play that can be played: if the lamp flashes in it, a path leads to a flash as early -/
theorem Brd.flash_early (B : Brd N) (lamp : N) (p : List (Bool × N)) (hv : B.Valid p) :
    (∃ c, Pth (B.succ lamp) B.case0 p c ∧ c.2.1 ≠ 3 ∧ (B.ends lamp p).1 = []) ∨ (∃ p0 c0, Pth (B.succ lamp) B.case0 p0 c0 ∧ c0.2.1 = 3 ∧ p0.length ≤ p.length ∧ ∀ x ∈ (B.ends lamp p).1, p0.length ≤ x.2) := by
  refine snoc_ind (fun p => B.Valid p → (∃ c, Pth (B.succ lamp) B.case0 p c ∧ c.2.1 ≠ 3 ∧ (B.ends lamp p).1 = []) ∨ (∃ p0 c0, Pth (B.succ lamp) B.case0 p0 c0 ∧ c0.2.1 = 3 ∧ p0.length ≤ p.length ∧ ∀ x ∈ (B.ends lamp p).1, p0.length ≤ x.2)) ?_ ?_ p hv
  · intro _
    exact .inl ⟨_, .nil, (by show (0 : Int) ≠ 3; decide), rfl⟩
  · intro p m ih hv
    obtain ⟨h1, h2⟩ := hv.init
    rcases ih h1 with ⟨c, hp, hc, _⟩ | ⟨p0, c0, a, b, d, e⟩
    · obtain ⟨_, e2, _⟩ := B.path lamp hp
      have he : (m, (B.step c.1 m.2, B.phase lamp c.1 c.2 m (B.step c.1 m.2))) ∈ B.succ lamp c := by
        unfold Brd.succ
        rw [if_neg hc, List.mem_map]
        exact ⟨m, by rw [e2]; exact h2, rfl⟩
      have hp2 := Pth.snoc hp he
      obtain ⟨_, _, h3⟩ := B.path lamp hp2
      rcases h3 with ⟨a, hand, b, _⟩ | ⟨a, h, b, _⟩
      · exact .inl ⟨_, hp2, a, by rw [b]⟩
      · refine .inr ⟨_, _, hp2, a, Nat.le_refl _, fun x hx => ?_⟩
        rw [b, List.mem_singleton] at hx
        subst hx; exact Nat.le_refl _
    · refine .inr ⟨p0, c0, a, b, by rw [List.length_append]; omega, ?_⟩
      rw [B.ends_snoc]
      exact eStep_mono (by omega) e

/-! ### the last hand's move -/
def hands (p : List (Bool × N)) : List Nat := (List.range p.length).filter (isHP p)
theorem range_snoc_filter (f : Nat → Bool) (n : Nat) : (List.range (n + 1)).filter f = (List.range n).filter f ++ (if f n = true then [n] else []) := by
  rw [List.range_succ, List.filter_append, List.filter_cons, List.filter_nil]
theorem hands_snoc (p : List (Bool × N)) (m : Bool × N) : hands (p ++ [m]) = hands p ++ (if m.1 = true then [p.length] else []) := by
  unfold hands
  rw [List.length_append, List.length_singleton, range_snoc_filter, isHP_last]
  congr 1
  refine List.filter_congr fun i hi => ?_
  rw [List.mem_range] at hi
  unfold isHP; rw [List.getElem?_append_left hi]
theorem Brd.ends_hand (B : Brd N) (lamp : N) (p : List (Bool × N)) : ∀ h, (B.ends lamp p).2 = some h → ∃ l, hands p = l ++ [h] := by
  refine snoc_ind (fun p => ∀ h, (B.ends lamp p).2 = some h → ∃ l, hands p = l ++ [h]) ?_ ?_ p
  · intro h e; exact nomatch e
  · intro p m ih h e
    rw [B.ends_snoc] at e
    unfold eStep at e
    rw [isHP_last] at e
    rw [hands_snoc]
    by_cases hm : m.1 = true
    · rw [if_pos hm] at e ⊢
      dsimp only at e
      split at e
      · exact nomatch e
      · simp only [Option.some.injEq] at e
        exact ⟨_, by rw [e]⟩
    · rw [if_neg hm] at e ⊢
      rw [List.append_nil]
      cases q : (B.ends lamp p).2 with
      | none => rw [q] at e; exact nomatch e
      | some h' =>
        rw [q] at e
        dsimp only at e
        split at e
        · exact nomatch e
        · simp only [Option.some.injEq] at e
          subst e
          exact ih h' q

/-! ### what the search tells -/
/-- the first case in which the lamp has flashed -/
theorem Brd.told (B : Brd N) (lamp : N) {cs : Ents Case (Bool × N)} {d : Nat → Nat} (h : BI (B.succ lamp) B.case0 cs cs.length d) {p : List (Bool × N)} (hv : B.Valid p) :
    ((∀ c ∈ keys cs, c.2.1 ≠ 3) → (B.ends lamp p).1 = []) ∧
    (∀ (i : Nat) (c : Case) (s : Option (Case × (Bool × N))), cs[i]? = some (c, s) → c.2.1 = 3 → (∀ j x t, j < i → cs[j]? = some (x, t) → x.2.1 ≠ 3) →
      ∃ p0, Back cs c p0 ∧ B.Valid p0 ∧ (∃ l hd, hands p0 = l ++ [hd] ∧ (B.ends lamp p0).1 = [(hd, p0.length)]) ∧ ∀ x ∈ (B.ends lamp p).1, ¬ x.2 < p0.length) := by
  constructor
  · intro hn
    rcases B.flash_early lamp p hv with ⟨c, _, _, e⟩ | ⟨p0, c0, a, b, _⟩
    · exact e
    · obtain ⟨j, t, h1, _⟩ := h.reach a
      exact absurd b (hn c0 (keys_get.mpr ⟨j, t, h1⟩))
  · intro i c s hi hc hf
    obtain ⟨p0, q1, q2, q3⟩ := h.back i c s hi
    obtain ⟨v, _, z⟩ := B.path lamp q3
    rcases z with ⟨z, _⟩ | ⟨_, hd, z1, p', m, z2, z3, z4⟩
    · exact absurd hc z
    · refine ⟨p0, q1, v, ?_, fun x hx hlt => ?_⟩
      · obtain ⟨l, hl⟩ := B.ends_hand lamp p' hd z4
        refine ⟨l, hd, ?_, by rw [z1]⟩
        rw [z2, hands_snoc, hl, if_neg (by rw [z3]; decide), List.append_nil]
      · rcases B.flash_early lamp p hv with ⟨_, _, _, e⟩ | ⟨p1, c1, a, b, _, e⟩
        · rw [e] at hx; exact nomatch hx
        · have h1 := e x hx
          obtain ⟨j, t, h2, h3⟩ := h.reach a
          have : i ≤ j := Classical.byContradiction fun hji => hf j c1 t (by omega) h2 b
          have h4 := h.mono i j this (List.getElem?_eq_some_iff.mp h2).1
          omega

/-! ### how many cases there are -/
def allBits : Nat → List (List Bool)
  | 0 => [[]]
  | n + 1 => (allBits n).flatMap fun l => [false :: l, true :: l]
theorem mem_allBits : ∀ (l : List Bool), l ∈ allBits l.length
  | [] => List.mem_singleton.mpr rfl
  | b :: l => by
    show b :: l ∈ (allBits l.length).flatMap fun l => [false :: l, true :: l]
    rw [List.mem_flatMap]
    exact ⟨l, mem_allBits l, by cases b <;> simp⟩
theorem len_flatMap2 {α β : Type} (f g : α → β) : ∀ l : List α, (l.flatMap fun x => [f x, g x]).length = 2 * l.length
  | [] => rfl
  | a :: l => by
    rw [List.flatMap_cons, List.length_append, len_flatMap2 f g l, List.length_cons]
    show 2 + 2 * l.length = 2 * (l.length + 1)
    omega
theorem len_allBits : ∀ n, (allBits n).length = 2 ^ n
  | 0 => rfl
  | n + 1 => by
    show ((allBits n).flatMap fun l => [false :: l, true :: l]).length = _
    rw [len_flatMap2, len_allBits n, Nat.pow_succ]; omega
def allPh : List (Bool × Phase) := [false, true].flatMap fun b => [(0 : Int), 1, 2, 3].flatMap fun k => [false, true].map fun s => (b, (k, s))
def allCases (n : Nat) : List Case := (allBits n).flatMap fun l => allPh.map fun x => ((l, x.1), x.2)
theorem len_flatMapC {α β : Type} (f : α → List β) (k : Nat) (h : ∀ x, (f x).length = k) : ∀ l : List α, (l.flatMap f).length = k * l.length
  | [] => by simp
  | a :: l => by
    rw [List.flatMap_cons, List.length_append, len_flatMapC f k h l, List.length_cons, h a, Nat.mul_succ]; omega
theorem len_allCases (n : Nat) : (allCases n).length = 16 * 2 ^ n := by
  unfold allCases
  rw [len_flatMapC _ 16 (fun x => by rw [List.length_map]; rfl), len_allBits]
def CaseOk (n : Nat) (c : Case) : Prop := c.1.1.length = n ∧ (c.2.1 = 0 ∨ c.2.1 = 1 ∨ c.2.1 = 2 ∨ c.2.1 = 3)
theorem mem_allCases {n : Nat} {c : Case} (h : CaseOk n c) : c ∈ allCases n := by
  obtain ⟨⟨l, b⟩, ⟨k, s⟩⟩ := c
  obtain ⟨rfl, hk⟩ := h
  unfold allCases
  rw [List.mem_flatMap]
  refine ⟨l, mem_allBits l, List.mem_map.mpr ⟨(b, (k, s)), ?_, rfl⟩⟩
  unfold allPh
  have hk' : k = 0 ∨ k = 1 ∨ k = 2 ∨ k = 3 := hk
  rcases hk' with rfl | rfl | rfl | rfl <;> cases b <;> cases s <;> decide
theorem cases_le {M : Type} {n : Nat} {cs : Ents Case M} (nd : (keys cs).Nodup) (h : ∀ c ∈ keys cs, CaseOk n c) : cs.length ≤ 16 * 2 ^ n := by
  have h1 := nodup_le nd fun c hc => mem_allCases (h c hc)
  rw [len_allCases] at h1
  unfold keys at h1
  rwa [List.length_map] at h1
theorem flipAt_len (on : List Bool) (i : Nat) : (flipAt on i).length = on.length := by unfold flipAt; rw [List.length_set]
theorem Brd.step_len (B : Brd N) (st : BState) (n : N) : (B.step st n).1.length = st.1.length := flipAt_len _ _
theorem Brd.first_len (B : Brd N) : B.first.1.length = B.movers.length := List.length_replicate ..
theorem Brd.run_len (B : Brd N) (p : List (Bool × N)) : (B.run p).1.length = B.movers.length := by
  refine snoc_ind (fun p => (B.run p).1.length = B.movers.length) ?_ ?_ p
  · exact B.first_len
  · intro p m ih
    rw [B.run_snoc, B.step_len, ih]
theorem Brd.phase_ok (B : Brd N) (lamp : N) (before : BState) (ph : Phase) (mv : Bool × N) (after : BState) (h : ph.1 = 0 ∨ ph.1 = 1 ∨ ph.1 = 2 ∨ ph.1 = 3) :
    (B.phase lamp before ph mv after).1 = 0 ∨ (B.phase lamp before ph mv after).1 = 1 ∨ (B.phase lamp before ph mv after).1 = 2 ∨ (B.phase lamp before ph mv after).1 = 3 := by
  unfold Brd.phase
  repeat (first | (split) | exact h | simp)
theorem Brd.case0_ok (B : Brd N) : CaseOk B.movers.length B.case0 := ⟨B.first_len, .inl rfl⟩
theorem Brd.succ_ok (B : Brd N) (lamp : N) {c : Case} {e : (Bool × N) × Case} (h : CaseOk B.movers.length c) (he : e ∈ B.succ lamp c) : CaseOk B.movers.length e.2 := by
  unfold Brd.succ at he
  split at he
  · exact nomatch he
  · rw [List.mem_map] at he
    obtain ⟨m, _, rfl⟩ := he
    exact ⟨(B.step_len c.1 m.2).trans h.1, B.phase_ok lamp c.1 c.2 m _ h.2⟩
theorem note_ok {M : Type} {n : Nat} {cs : Ents Case M} (h : ∀ c ∈ keys cs, CaseOk n c) {c : Case} (hc : CaseOk n c) (s : Option (Case × M)) : ∀ x ∈ keys (note cs c s), CaseOk n x := fun x hx => by
  rcases note_keys.mp hx with q | q
  · exact h x q
  · rw [q]; exact hc
theorem notes_inv {M : Type} {n : Nat} {c : Case} : ∀ (es : List (M × Case)) (cs : Ents Case M), (keys cs).Nodup → (∀ x ∈ keys cs, CaseOk n x) → (∀ e ∈ es, CaseOk n e.2) → (keys (notes c cs es)).Nodup ∧ ∀ x ∈ keys (notes c cs es), CaseOk n x
  | [], _, h1, h2, _ => ⟨h1, h2⟩
  | e :: es, cs, h1, h2, h3 => notes_inv es (note cs e.2 (some (c, e.1))) (note_nodup h1 _ _) (note_ok h2 (h3 e List.mem_cons_self) _) fun x hx => h3 x (List.mem_cons_of_mem _ hx)
end
end K58
end
/-! M3 -/
section
set_option autoImplicit false
namespace K58
section
variable {N : Type} [DecidableEq N]
/-! ### the lists that the two texts make of what is reached -/
def wl (ps : List (N × N)) : Nat → Nat → List N → List N
  | 0, _, fs => fs
  | f + 1, pl, fs => match fs[pl]? with
    | none => fs
    | some c => wl ps f (pl + 1) (addT c fs ps)
def reachL (ps : List (N × N)) (s : N) : List N := wl ps (ps.length + 1) 0 [s]
theorem wl_ok {ps : List (N × N)} {s : N} : ∀ (f pl : Nat) (fs : List N), RI ps s pl fs → ps.length + 1 ≤ pl + f → ∀ n, n ∈ wl ps f pl fs ↔ Rch ps s n
  | 0, pl, fs, h, hl, n => h.done (by have := h.bound; omega) n
  | f + 1, pl, fs, h, hl, n => by
    unfold wl
    cases q : fs[pl]? with
    | none => exact h.done (List.getElem?_eq_none_iff.mp q) n
    | some c => exact wl_ok f (pl + 1) _ (h.next q) (by omega) n
theorem mem_reachL (ps : List (N × N)) (s n : N) : n ∈ reachL ps s ↔ Rch ps s n := wl_ok _ _ _ (RI.start ps s) (by omega) n
theorem wl_end {ps : List (N × N)} {f pl : Nat} {fs : List N} (h : fs.length ≤ pl) : wl ps f pl fs = fs := by
  cases f with
  | zero => rfl
  | succ f =>
    unfold wl
    rw [List.getElem?_eq_none_iff.mpr h]
theorem wl_step {ps : List (N × N)} {f pl : Nat} {fs : List N} {c : N} (h : fs[pl]? = some c) : wl ps (f + 1) pl fs = wl ps f (pl + 1) (addT c fs ps) := by
  show (match fs[pl]? with | none => fs | some c => wl ps f (pl + 1) (addT c fs ps)) = _
  rw [h]
def rl (ps : List (N × N)) : Nat → List N → List N
  | 0, fs => fs
  | k + 1, fs => if (moreT fs ps).isEmpty = true then fs else rl ps k (fs ++ moreT fs ps)
theorem rl_ok {ps : List (N × N)} {s : N} {ns : List N} (hs : s ∈ ns) (hp : ∀ a b, (a, b) ∈ ps → b ∈ ns) : ∀ (k i : Nat) (fs : List N), RL ps s i fs → i + k = ns.length → ∀ n, n ∈ rl ps k fs ↔ Rch ps s n
  | 0, i, fs, h, hl, n => by have := h.lt hs hp; omega
  | k + 1, i, fs, h, hl, n => by
    unfold rl
    by_cases q : (moreT fs ps).isEmpty = true
    · rw [if_pos q]; exact h.done (List.isEmpty_iff.mp q) n
    · rw [if_neg q]; exact rl_ok hs hp k (i + 1) _ (h.next fun e => q (by rw [e]; rfl)) (by omega) n
def reachR (ps : List (N × N)) (s : N) (n : Nat) : List N := rl ps n [s]
theorem mem_reachR {ps : List (N × N)} {s : N} {ns : List N} (hs : s ∈ ns) (hp : ∀ a b, (a, b) ∈ ps → b ∈ ns) (n : N) : n ∈ reachR ps s ns.length ↔ Rch ps s n := rl_ok hs hp _ 0 _ (RL.start ps s) (by omega) n
open Classical in
theorem dec_reachL (ps : List (N × N)) (s n : N) : decide (n ∈ reachL ps s) = rch ps s n := by
  unfold rch
  by_cases h : Rch ps s n
  · rw [decide_eq_true ((mem_reachL ps s n).mpr h), decide_eq_true h]
  · rw [decide_eq_false fun q => h ((mem_reachL ps s n).mp q), decide_eq_false h]
open Classical in
theorem dec_reachR {ps : List (N × N)} {s : N} {ns : List N} (hs : s ∈ ns) (hp : ∀ a b, (a, b) ∈ ps → b ∈ ns) (n : N) : decide (n ∈ reachR ps s ns.length) = rch ps s n := by
  unfold rch
  by_cases h : Rch ps s n
  · rw [decide_eq_true ((mem_reachR hs hp n).mpr h), decide_eq_true h]
  · rw [decide_eq_false fun q => h ((mem_reachR hs hp n).mp q), decide_eq_false h]
theorem prs_mem {c : Con N} {ns : List N} (h1 : c.one ∈ ns) (h2 : c.other ∈ ns) : ∀ p ∈ prs c, p.1 ∈ ns ∧ p.2 ∈ ns := fun p hp => by
  unfold prs at hp
  rcases List.mem_cons.mp hp with rfl | hp
  · exact ⟨h1, h2⟩
  · split at hp
    · rw [List.mem_singleton] at hp; subst hp; exact ⟨h2, h1⟩
    · exact nomatch hp
theorem pairs_mem {B : Brd N} (h : ∀ c ∈ B.con, c.one ∈ B.nodes ∧ c.other ∈ B.nodes) (on : List Bool) : ∀ p ∈ B.pairs on, p.1 ∈ B.nodes ∧ p.2 ∈ B.nodes := fun p hp => by
  unfold Brd.pairs at hp
  obtain ⟨c, h1, h2⟩ := List.mem_flatMap.mp hp
  have := h c (List.mem_filter.mp h1).1
  exact prs_mem this.1 this.2 p h2
theorem prs_len (c : Con N) : (prs c).length ≤ 2 := by unfold prs; split <;> simp
theorem flat_len {α β : Type} (f : α → List β) (k : Nat) (h : ∀ x, (f x).length ≤ k) : ∀ l : List α, (l.flatMap f).length ≤ k * l.length
  | [] => by simp
  | a :: l => by
    have := flat_len f k h l
    have := h a
    rw [List.flatMap_cons, List.length_append, List.length_cons, Nat.mul_succ]; omega
theorem pairs_len (B : Brd N) (on : List Bool) : (B.pairs on).length ≤ 2 * B.con.length := by
  unfold Brd.pairs
  have h1 := flat_len prs 2 prs_len (B.con.filter (B.closed on))
  have h2 := List.length_filter_le (B.closed on) B.con
  have := Nat.mul_le_mul_left 2 h2
  omega
/-! ### numbers of the closed contacts -/
def gotP {α : Type} (p : α → Bool) (l : List α) (i : Nat) : Bool := match l[i]? with
  | some c => p c
  | none => false
def ixs {α : Type} (p : α → Bool) (l : List α) (n : Nat) : List Nat := (List.range n).filter (gotP p l)
theorem ixs_succ {α : Type} (p : α → Bool) (l : List α) (n : Nat) : ixs p l (n + 1) = ixs p l n ++ (if gotP p l n = true then [n] else []) := range_snoc_filter _ _
theorem ixs_get {α : Type} (p : α → Bool) (l : List α) : ∀ n, n ≤ l.length → (ixs p l n).filterMap (fun i => l[i]?) = (l.take n).filter p
  | 0, _ => by simp [ixs]
  | n + 1, h => by
    have hn : n < l.length := h
    have e : l[n]? = some l[n] := by simp [hn]
    rw [ixs_succ, List.filterMap_append, ixs_get p l n (by omega), List.take_add_one, e, List.filter_append]
    congr 1
    unfold gotP
    rw [e]
    by_cases q : p l[n] = true
    · simp [q, e, hn]
    · simp [q]
theorem ixs_lt {α : Type} {p : α → Bool} {l : List α} {n i : Nat} (h : i ∈ ixs p l n) : i < n := List.mem_range.mp (List.mem_filter.mp h).1
theorem ixs_len {α : Type} (p : α → Bool) (l : List α) (n : Nat) : (ixs p l n).length ≤ n := by
  have := List.length_filter_le (gotP p l) (List.range n)
  rw [List.length_range] at this
  exact this
theorem filter_take_snoc {α : Type} (p : α → Bool) {l : List α} {i : Nat} {x : α} (h : l[i]? = some x) : (l.take (i + 1)).filter p = (l.take i).filter p ++ (if p x = true then [x] else []) := by
  rw [List.take_add_one, h, List.filter_append]
  congr 1
  show [x].filter p = _
  by_cases q : p x = true
  · simp [q]
  · simp [q]
theorem swp_map_len (ps : List (N × N)) : (ps.map swp).length = ps.length := List.length_map ..
theorem pos_idx {l : List N} {x : N} (h : x ∈ l) : l[l.idxOf x]? = some x := by
  have hi := List.idxOf_lt_length_iff.mpr h
  rw [List.getElem?_eq_getElem hi, List.getElem_idxOf hi]
end
end K58
end
/-! X0 -/
section
set_option maxRecDepth 100000
set_option maxHeartbeats 2000000
/-! Rules that the layer lacks: a static method called through its class; enumerate(tuple). -/
namespace K58
open PySem PySem.Spec PyProof.Rows L2 ClX

/-! ### C.m(e, ..), m a static method -/
structure SMet (K : PySem.W.Frag) (C : Addr) (mc : Value) (m : Str) (p g : Addr) : Prop where
  at_ : PySem.W.findCls K (.ref C) mc m = some (.get (.builtin "staticmethod.__get__") (.ref p) .none (.ref C))
  rc : ∃ rest, PySem.W.recIn K p "staticmethod" = some (.ref g :: rest)
  kp : PySem.W.keepIn K (.ref g) = true
section
variable {X : Cx} {CX : CXT} {k : Nat} {C p g : Addr} {mc : Value} {sp : Sp} {E : XK} {o e : Expr} {es : List Expr} {m : Str} {pos apos : Pos} {ta : TE} {t : TA} {pl : Sem Bool} {fd : FuncData} {ps : List Str} {dvs : List V} {ds : List Value}
theorem getsm_ok {pins : List (Addr × Obj)} {σ : L2.St} {H : Hp} {s : Shared} {A : Around} {E : Value → Shared → Prop} {pl : Sem Bool} {Q : Value × List Value → Shared → Prop} (I : Inv X pins σ H s) (r : CRead X.K C mc) (c : SMet X.K C mc m p g)
    (h : ∀ s', Inv X pins σ H s' → Q (.ref g, []) s') : wpAny (model X.prog X.w) A (getMethod (.ref C) m pl) Q E s := by
  obtain ⟨rest, hp⟩ := c.rc
  refine PySem.W.method_cls I.kIn r.ga (PySem.W.cls_bind I.kIn r.rd c.at_ ?_)
  refine wpAny_call (PySem.W.sm_get (s := { s with toks := s.toks + 1 }) I.kIn hp (PySem.W.handed_on rfl ?_))
  exact h _ (I.tok _)
def tSMeth (C : Addr) (sp : Sp) (dvs : List V) (E : XK) (ta : TE) (t : TA) : TE := fun σ H Q => ta σ H fun x H1 => x = .ref C ∧ t σ H1 fun vs H2 => sp (vs ++ dvs) H2 Q E
theorem pe_smeth (he : PE X o ta) (r : CRead X.K C mc) (c : SMet X.K C mc m p g) (F : FnOk X.prog X.w X.K X.mg X.base CX k g fd ps sp) (hr : Room k X.A) (hb : Binds X.K fd ps ds) (hd : Vals dvs ds) (hx : Passes CX X E) (ha : PA X (e :: es) t)
    (hst : starEach (e :: es) X.env = (false, eval e X.env) :: starEach es X.env := by rfl) (hpl : (backTo pos (starEach es X.env)).any (·.1) = false := by rfl)
    (ht : eval (.Call (.Attribute o m apos) (e :: es) [] pos) X.env = (do
      let ov ← eval o X.env
      standAt apos.atName
      let (f, first) ← holding [ov] (getMethod ov m pl)
      callWith pos f first (backTo pos (starEach (e :: es) X.env)) (backToKw pos (keywordEach [] X.env))) := by rfl) :
    PE X (.Call (.Attribute o m apos) (e :: es) [] pos) (tSMeth C sp dvs E ta t) := by
  refine ⟨fun pins s σ H Q I h => ?_⟩
  refine PySem.W.methodCall_KW (pl := pl) (thn (he.run pins s σ H _ I h) fun u s1 ⟨x, H1, I1, rx, ex, q⟩ => ?_) ht
  subst ex
  obtain rfl : u = Value.ref C := rx
  refine getsm_ok I1 r c fun s2 I2 => ?_
  refine PySem.W.callWith_K (first := []) (h₀ := X.base) I.ok.mod.kin c.kp (thn (ha.run pos pins s2 σ H1 _ I2 q) fun us s3 ⟨vs, H2, I3, rv, q2⟩ => ⟨I3.kIn, ?_⟩) hst hpl
  exact run_fn F hr hb hd hx I3 rv q2
end

/-! ### enumerate(tuple) -/
set_option maxHeartbeats 4000000 in
theorem meets_enumerate_newT {v : Value} {o : Obj} {H : Heap → Prop} (B : Begins v o H) :
    Meets (Builtin.«enumerate.__new__» ⟨[.type "enumerate", v], []⟩) (fun _ R s => H s.heap ∧
      R (.ok (.ret (.ref (s.heap.push o).objs.size))) { s with heap := (s.heap.push o).push { cls := .type "enumerate", data := .fields #[.none, .bool false, .ref s.heap.objs.size, rawInt 0, .none, .none] } }) :=
  .of_wp fun prog w A R s h => by
    obtain ⟨hp, g, d, tk, os⟩ := s; obtain ⟨h1, h⟩ := h
    have hsub := sub_enumerate
    have q1 : ∀ {A' : Around} {E : Value → Shared → Prop} {Q : Value → Shared → Prop}, Q (.ref hp.objs.size) ⟨hp.push o, g, d, tk, os⟩ → wpAny (model prog w) A' (pyIter v) Q E ⟨hp, g, d, tk, os⟩ :=
      fun q => B.iter prog w _ _ ⟨hp, g, d, tk, os⟩ _ h1 q
    wp_walk using q1
    refine wpAny_stack_any fun st => wpAny_pure ?_
    split
    · rename_i c _ _ _ _ _
      cases (c == Value.type "enumerate")
      · wp_walk using q1
        exact ⟨_, rfl, h⟩
      · wp_walk using q1
        exact ⟨_, rfl, h⟩
    · wp_walk using q1
      exact ⟨_, rfl, h⟩
theorem enum_begins1 {prog : Program} {w : World} {A : Around} {E : Value → Shared → Prop} {s : Shared} {v : Value} {o : Obj} {H : Heap → Prop} {Q : Value → Shared → Prop} (B : Begins v o H) (h1 : H s.heap)
    (h : ∀ h', IsEnum h' (s.heap.objs.size + 1) s.heap.objs.size 0 .none → h'.get? s.heap.objs.size = some o → h'.objs.size = s.heap.objs.size + 2 →
      (∀ b o, s.heap.get? b = some o → h'.get? b = some o) → Q (.ref (s.heap.objs.size + 1)) { s with heap := h' }) :
    wpAny (model prog w) A (call (.type "enumerate") [v]) Q E s := by
  refine callType_new F.called_enumerate (by decide) (F.typeCall_enumerate_1 _) (F.newCall_enumerate_1 _) (fun obj => F.args_object_init_2 obj _) F.entry_enumerate_new (meets_enumerate_newT B) ⟨h1, ?_⟩
  have hz : (s.heap.push o).objs.size = s.heap.objs.size + 1 := Heap.size_push ..
  show _ ∧ _
  rw [hz]
  have he : IsEnum ((s.heap.push o).push { cls := .type "enumerate", data := .fields #[.none, .bool false, .ref s.heap.objs.size, rawInt 0, .none, .none] }) (s.heap.objs.size + 1) s.heap.objs.size 0 .none := by
    have := Heap.get?_push_size (s.heap.push o) (o := { cls := .type "enumerate", data := .fields #[.none, .bool false, .ref s.heap.objs.size, rawInt 0, .none, .none] }) rfl
    rw [hz] at this; exact this
  refine ⟨⟨_, he, rfl⟩, h _ he (Heap.get?_push_of_some _ (Heap.get?_push_size _ B.free)) (by rw [Heap.size_push, hz]) fun b o x => Heap.get?_push_of_some _ (Heap.get?_push_of_some _ x)⟩
/-- the tuple at a, each item in a new pair -/
def IteT (K : PySem.W.Frag) (a : Addr) : It :=
  ⟨fun i H => ∃ (xs : List V) (x : V), SqT K H a xs ∧ xs[i]? = some x, fun i H v H' => ∃ T x, v = .ref T ∧ H T = none ∧ H' = upd H T (.tup [.int (i : Nat), x]) ∧ ∀ xs, SqT K H a xs → xs[i]? = some x, fun i H => ∃ xs : List V, SqT K H a xs ∧ xs.length = i⟩
theorem turn_enumT {P : Program} {w : World} {K : PySem.W.Frag} {elts : List Expr} {kk : Nat} {tpos : Pos} (a e it : Addr) (items : Array Value) :
    Turn P w K (.Tuple elts kk tpos) (IteT K a) [e, it] e (fun i h => (∃ old, IsEnum h e it ((i : Nat) : Int) old) ∧ h.IsTupleIter it a i ∧ e ≠ it) where
  mem := by simp
  obj := fun i h st b hb => by
    obtain ⟨⟨old, he⟩, ⟨o, ho, hc, hd⟩, _⟩ := st
    have e' : b = e ∨ b = it := by simpa using hb
    rcases e' with z | z
    · rw [z]; exact ⟨_, he, fun v q => nomatch q⟩
    · rw [z]; exact ⟨o, ho, fun v q => by rw [hd] at q; cases q⟩
  keep := fun i h h' st k => let ⟨⟨old, he⟩, hi, hne⟩ := st; ⟨⟨old, k e (by simp) _ he⟩, hi.at fun o q => k it (by simp) o q, hne⟩
  item := by
    intro X hP hw hK hc i pins s σ H E I hf st hg
    subst hP hw hK
    obtain ⟨⟨old, he⟩, hit, hne⟩ := st
    obtain ⟨xs, x, hq, hx⟩ := hg
    obtain ⟨its, rv, p, hz⟩ := I.tuple hq
    obtain ⟨u, hu, ru⟩ := rv.get hx
    have hel : e < s.heap.objs.size := Heap.lt_size he
    have hil : it < s.heap.objs.size := by obtain ⟨_, q, _⟩ := hit; exact Heap.lt_size q
    have hea : e ∉ [it, a] := by
      intro hm
      have e' : e = it ∨ e = a := by simpa using hm
      rcases e' with z | z
      · exact hne z
      · obtain ⟨o, ho, hc', _⟩ := p
        rw [← z, he] at ho; cases ho; exact absurd (Value.type.inj hc') (by decide)
    have hai : a ≠ it := by
      intro z
      obtain ⟨o, ho, hc', _⟩ := p
      obtain ⟨o2, ho2, hc2, _⟩ := hit
      rw [z, ho2] at ho; cases ho; rw [hc2] at hc'; exact absurd (Value.type.inj hc') (by decide)
    have hh : X.A.in1.handled = none := by
      have := I.ok.hd hc
      exact this
    refine wpAny_pyNext_enum_itemC (Draws.tuple (prog := X.prog) (w := X.w) hh it a hai its.toArray) he ⟨hit, p⟩ (by have := (List.getElem?_eq_some_iff.mp hu).1; simpa using this) hne hea fun x' h' tk hP ho hit' hT hsz hk => ?_
    have ex : x' = u := by
      have h1 : its.toArray[i]? = some x' := hP
      rw [List.getElem?_toArray, hu] at h1
      exact (Option.some.inj h1).symm
    subst ex
    refine ⟨_, rfl, wpAny_letOwnedTupleGo_enum (s := { s with heap := h', toks := tk + 1 }) ho fun h'' he' sb => ?_⟩
    have hT2 : h''.get? s.heap.objs.size = some { cls := .type "tuple", data := .seq #[.int i tk, x'] } := (sb.2 _ (Nat.ne_of_gt hel)).trans hT
    have new : ObjOk X.prog X.w (upd H s.heap.objs.size (.tup [.int (i : Nat), x])) h'' s.heap.objs.size (.tup [.int (i : Nat), x]) :=
      ⟨by show 2 ≤ sizeLine; decide, [.int i tk, x'], .cons ⟨_, rfl⟩ (.cons ru .nil), ⟨_, hT2, rfl, _, rfl⟩⟩
    have I1 : Inv X pins σ (upd H s.heap.objs.size (.tup [.int (i : Nat), x])) { s with heap := h'', toks := tk + 1 } :=
      I.turnedNew (ch := [e, it]) (fun b ob hb q => (sb.2 b (fun z => hb (by simp [z]))).trans (hk b ob (fun z => hb (by simp [z])) (fun z => hb (by simp [z])) q)) hf (Nat.le_refl _) new
    refine ⟨.ref s.heap.objs.size, _, I1, rfl, ⟨_, x, rfl, I.hok.fresh (Nat.le_refl _), rfl, fun ys hy => by rw [I.tuple_inj hy hq]; exact hx⟩, ⟨⟨x', ?_⟩, hit'.1.at fun o q => (sb.2 it (Ne.symm hne)).trans q, hne⟩, fun b hb => ?_⟩
    · have e1 : ((i + 1 : Nat) : Int) = (i : Int) + 1 := by omega
      rw [e1]; exact he'
    · have hb' : b < s.heap.objs.size := by
        have e' : b = e ∨ b = it := by simpa using hb
        rcases e' with z | z
        · rw [z]; exact hel
        · rw [z]; exact hil
      rw [upd_ne (Nat.ne_of_lt hb')]
      exact (hf b hb).1
  done := by
    intro X hP hw hK hc i pins s σ H E I hf st hg
    subst hP hw hK
    obtain ⟨⟨old, he⟩, hit, hne⟩ := st
    obtain ⟨xs, hq, hx⟩ := hg
    obtain ⟨its, rv, p, hz⟩ := I.tuple hq
    obtain ⟨f0, f1, f2, f3, f4, f5⟩ := hf it (by simp)
    have hl := rv.length
    have hai : a ≠ it := by
      intro z
      obtain ⟨o, ho, hc', _⟩ := p
      obtain ⟨o2, ho2, hc2, _⟩ := hit
      rw [z, ho2] at ho; cases ho; rw [hc2] at hc'; exact absurd (Value.type.inj hc') (by decide)
    have hh : X.A.in1.handled = none := by
      have := I.ok.hd hc
      exact this
    have hn : its.toArray.size = i := by rw [List.size_toArray, ← hl]; exact hx
    exact wpAny_pyNext_enum_endD (Draws.tuple (prog := X.prog) (w := X.w) hh it a hai its.toArray) he (by rw [hn]; exact ⟨hit, p⟩) fun h' eb => ⟨rfl, I.turned (t' := s.toks) (fun b o hb q => eb b o hb q) f0 f1 f3 f4 f5⟩
  self := fun A i s Q E st h => let ⟨⟨_, he⟩, _⟩ := st; wpAny_pyIter_enum he h
def iEnumT (K : PySem.W.Frag) (ta : TA) : TI := fun σ H R => ta σ H fun vs H1 => ∃ a xs, vs = [.ref a] ∧ SqT K H1 a xs ∧ R (IteT K a) H1
theorem pi_enumT {X : Cx} {e : Expr} {ta : TA} {p pos tpos : Pos} {elts : List Expr} {kk : Nat} (hg : Gl X "enumerate") (hm : X.mg "enumerate" = none) (ha : PA X [e] ta) (hs : starEach [e] X.env = [(false, eval e X.env)] := by rfl) :
    PI X (.Tuple elts kk tpos) (.Call (.Name "enumerate" p) [e] [] pos) (iEnumT X.K ta) := by
  refine ⟨fun pins s σ H R I h => ?_⟩
  refine Call_ (ld_blt I hg hm boot_enumerate (PyProof.Rows.callWith_type1 (thn (ha.run pos pins s σ H _ I h) fun us s1 ⟨vs, H1, I1, r1, q1⟩ => ?_) hs rfl))
  obtain ⟨a, xs, ex, hq, q⟩ := q1
  subst ex
  cases r1 with
  | cons r rr =>
    cases rr
    cases r
    obtain ⟨its, rv, p', hz⟩ := I1.tuple hq
    refine enum_begins1 (begins_tuple a its.toArray) p' fun h' he hit hsz hk => wpAny_pyIter_enum he ?_
    have I2 : Inv X pins σ H1 { s1 with heap := h' } := I1.kept (t' := s1.toks) hk
    refine ⟨s1.heap.objs.size + 1, [s1.heap.objs.size + 1, s1.heap.objs.size], _, _, H1, rfl, I2, turn_enumT a (s1.heap.objs.size + 1) s1.heap.objs.size its.toArray, ⟨⟨.none, he⟩, ⟨_, hit, rfl, rfl⟩, Nat.succ_ne_self _⟩, fun b hb => ?_, q⟩
    have e' : b = s1.heap.objs.size + 1 ∨ b = s1.heap.objs.size := by simpa using hb
    have hle : s1.heap.objs.size ≤ b := by
      rcases e' with z | z
      · rw [z]; exact Nat.le_add_right _ _
      · rw [z]; exact Nat.le_refl _
    exact I1.fpOk hle (I1.hok.fresh hle)
end K58
end
/-! X1 -/
section
set_option maxRecDepth 100000
set_option maxHeartbeats 2000000
/-! A dict whose keys are nested tuples of ints and bools: {}, k not in d, d[k], d[k] = v (k new). -/
namespace K58
open PySem PySem.Spec PyProof.Rows L2

mutual
/-- the value v is the key k, as the tracked tuples tell -/
inductive NV (K : PySem.W.Frag) (H : Hp) : V → NestedKey → Prop
  | bl (b : Bool) : NV K H (.bl b) (.num (if b = true then 1 else 0))
  | int (i : Int) : NV K H (.int i) (.num i)
  | tup {a : Addr} {xs : List V} {ks : List NestedKey} : SqT K H a xs → NVs K H xs ks → NV K H (.ref a) (.tup ks)
inductive NVs (K : PySem.W.Frag) (H : Hp) : List V → List NestedKey → Prop
  | nil : NVs K H [] []
  | cons {v : V} {vs : List V} {k : NestedKey} {ks : List NestedKey} : NV K H v k → NVs K H vs ks → NVs K H (v :: vs) (k :: ks)
end
section
variable {X : Cx} {pins : List (Addr × Obj)} {σ : L2.St} {H : Hp} {s : Shared}
mutual
theorem NV.is (I : Inv X pins σ H s) : ∀ {v : V} {k : NestedKey} {u : Value}, NV X.K H v k → RelV v u → NestedIs s.heap k u
  | _, _, _, .bl b, r => by cases r; exact .bool rfl
  | _, _, _, .int i, r => by obtain ⟨t, rfl⟩ := r; exact .int i t
  | _, _, _, .tup (a := a) (xs := xs) e hs, r => by
    cases r
    obtain ⟨its, rv, ⟨o, h1, h2, n, h3⟩, _⟩ := I.tuple e
    exact .tup h1 h2 h3 (by simpa using NVs.are I hs rv)
theorem NVs.are (I : Inv X pins σ H s) : ∀ {vs : List V} {ks : List NestedKey} {us : List Value}, NVs X.K H vs ks → Vals vs us → NestedAll s.heap ks us
  | _, _, _, .nil, .nil => .nil
  | _, _, _, .cons x xs, .cons r rs => .cons (NV.is I x r) (NVs.are I xs rs)
end
end
/-- entries: the key, where its tuple stands, the value -/
abbrev NEnts := List (NestedKey × Addr × V)
abbrev NRel : NEnts → List (NestedKey × Addr × Value) → Prop := Paired fun p q => p.1 = q.1 ∧ p.2.1 = q.2.1 ∧ RelV p.2.2 q.2.2
def nLook (xs : NEnts) (k : NestedKey) : Option V := (xs.find? fun x => decide (x.1 = k)).map (·.2.2)
theorem NRel.look {xs : NEnts} {ys : List (NestedKey × Addr × Value)} (r : NRel xs ys) (k : NestedKey) : RelO (nLook xs k) ((atKey ys k).map (·.2)) := by
  induction r with
  | nil => exact trivial
  | @cons p q ps qs h t ih =>
    obtain ⟨h1, h2, h3⟩ := h
    unfold nLook atKey
    by_cases e : p.1 = k
    · have e2 : q.1 = k := h1 ▸ e
      simp only [List.find?_cons, e, e2, decide_true, Option.map_some]
      exact h3
    · have e2 : ¬ q.1 = k := fun z => e (h1.trans z)
      simp only [List.find?_cons, e, e2, decide_false]
      exact ih
theorem NRel.keys {xs : NEnts} {ys : List (NestedKey × Addr × Value)} (r : NRel xs ys) : xs.map (·.1) = ys.map (·.1) := by
  induction r with
  | nil => rfl
  | cons h t ih => rw [List.map_cons, List.map_cons, h.1, ih]
theorem NRel.snoc {xs : NEnts} {ys : List (NestedKey × Addr × Value)} (r : NRel xs ys) {k : NestedKey} {a : Addr} {v : V} {u : Value} (ru : RelV v u) : NRel (xs ++ [(k, a, v)]) (ys ++ [(k, a, u)]) := by
  induction r with
  | nil => exact .cons ⟨rfl, rfl, ru⟩ .nil
  | cons h t ih => exact .cons h ih
def NDphi (P : Program) (w : World) (a : Addr) (xs : NEnts) : Heap → Prop := fun h => (a == sysModules) = false ∧ xs.length ≤ sizeLine ∧
  ∃ ys, NRel xs ys ∧ ∃ o es ep, h.get? a = some o ∧ o.ExactDict ∧ o.data = .dict es ep ∧ es.toList = ys.map (entryOfKey (nestedKind P w)) ∧ (ys.map (·.1)).Nodup
def NDO (P : Program) (w : World) (a : Addr) (xs : NEnts) : HO := .ext (NDphi P w a xs)
theorem NDphi.ob {P P' : Program} {w w' : World} {H : Hp} {h : Heap} {a : Addr} {xs : NEnts} (x : NDphi P w a xs h) : ObjOk P' w' H h a (NDO P w a xs) := by
  refine ⟨x, ?_, fun h1 h2 y k => ?_⟩
  · obtain ⟨_, _, ys, _, o, es, ep, e, _⟩ := x
    exact ⟨o, e⟩
  · obtain ⟨y1, y2, ys, y3, o, es, ep, e, y4⟩ := y
    exact ⟨y1, y2, ys, y3, o, es, ep, k o e, y4⟩
/-- a dict with the entries xs stands at a -/
structure NDAt (P : Program) (w : World) (K : PySem.W.Frag) (H : Hp) (a : Addr) (xs : NEnts) : Prop where
  ob : H a = some (NDO P w a xs)
  key : ∀ x ∈ xs, NV K H (.ref x.2.1) x.1 ∧ x.1.depth ≤ 8
section
variable {X : Cx} {pins : List (Addr × Obj)} {σ : L2.St} {H : Hp} {s : Shared} {a b : Addr} {k : NestedKey} {xs : NEnts} {A : Around} {E : Value → Shared → Prop}
theorem nd_of (I : Inv X pins σ H s) (d : NDAt X.prog X.w X.K H a xs) : (a == sysModules) = false ∧ xs.length ≤ sizeLine ∧ ∃ ys, NRel xs ys ∧ s.heap.DictOfH (nestedKind X.prog X.w) a ys := by
  obtain ⟨⟨h1, h2, ys, h3, o, es, ep, h4, h5, h6, h7, h8⟩, _, _⟩ := (show ObjOk X.prog X.w H s.heap a (NDO X.prog X.w a xs) from I.hok a _ d.ob)
  refine ⟨h1, h2, ys, h3, o, es, ep, h4, h5, h6, h7, fun y hy => ?_, h8⟩
  have all : ∀ {l : NEnts} {m : List (NestedKey × Addr × Value)}, NRel l m → (∀ x ∈ l, NV X.K H (.ref x.2.1) x.1 ∧ x.1.depth ≤ 8) → ∀ y ∈ m, (nestedKind X.prog X.w).is s.heap y.1 y.2.1 := by
    intro l m q
    induction q with
    | nil => intro _ x hx; exact nomatch hx
    | @cons p q ps qs hq t ih =>
      intro hl x hx
      rcases List.mem_cons.mp hx with e | hx
      · subst e
        obtain ⟨z1, z2⟩ := hl p List.mem_cons_self
        rw [← hq.1, ← hq.2.1]
        exact ⟨NV.is I z1 rfl, z2⟩
      · exact ih (fun y hy => hl y (List.mem_cons_of_mem _ hy)) x hx
  exact all h3 d.key y hy
theorem nd_room (hu : A.units + 9 < cLine) : (nestedKind X.prog X.w).room A.in1 := by show A.units + 1 + 8 < cLine; omega
theorem n_getItem {v : V} {Q : Value → Shared → Prop} (hu : A.units + 9 < cLine) (I : Inv X pins σ H s) (d : NDAt X.prog X.w X.K H a xs) (hk : NV X.K H (.ref b) k) (hd : k.depth ≤ 8) (hv : nLook xs k = some v)
    (h : ∀ w' s', Inv X pins σ H s' → RelV v w' → Q w' s') : wpAny (model X.prog X.w) A (getItem (.ref a) (.ref b)) Q E s := by
  obtain ⟨_, _, ys, rel, dd⟩ := nd_of I d
  obtain ⟨w', hw, rw'⟩ := RelO.some_of (v := v) (o := (atKey ys k).map (·.2)) (by rw [← hv]; exact rel.look k)
  obtain ⟨p, hp, hp2⟩ := Option.map_eq_some_iff.mp hw
  refine wpAny_getItem_heap (nd_room hu) ⟨NV.is I hk rfl, hd⟩ dd hp ?_
  rw [hp2]
  exact h w' _ (I.tok _) rw'
theorem n_notIn {Q : Value → Shared → Prop} (hu : A.units + 9 < cLine) (I : Inv X pins σ H s) (d : NDAt X.prog X.w X.K H a xs) (hk : NV X.K H (.ref b) k) (hd : k.depth ≤ 8)
    (h : ∀ s', Inv X pins σ H s' → Q (.bool (!(nLook xs k).isSome)) s') : wpAny (model X.prog X.w) A (compareOp .NotIn (.ref b) (.ref a)) Q E s := by
  obtain ⟨z, _, ys, rel, dd⟩ := nd_of I d
  refine wpAny_notIn_heap (nd_room hu) ⟨NV.is I hk rfl, hd⟩ z dd ?_
  have l := RelO.isSome_eq (rel.look k)
  rw [Option.isSome_map] at l
  rw [← l]
  exact h _ (I.tok _)
theorem n_setItem {v : V} {r : Value} {Q : Unit → Shared → Prop} (hu : A.units + 9 < cLine) (I : Inv X pins σ H s) (d : NDAt X.prog X.w X.K H a xs) (hk : NV X.K H (.ref b) k) (hd : k.depth ≤ 8) (hn : nLook xs k = none) (hl : xs.length < sizeLine) (rv : RelV v r)
    (h : ∀ s', Inv X pins σ (upd H a (NDO X.prog X.w a (xs ++ [(k, b, v)]))) s' → Q () s') : wpAny (model X.prog X.w) A (setItem (.ref a) (.ref b) r) Q E s := by
  obtain ⟨z, hz, ys, rel, dd⟩ := nd_of I d
  have hly : ys.length ≤ sizeLine := by rw [← Paired.length rel]; exact hz
  refine wpAny_setItem_heap (hsz := hly) (nd_room hu) ⟨NV.is I hk rfl, hd⟩ dd fun h' dd' hs => h _ ?_
  obtain ⟨q, es, ep, hq, h2, h3, h4, _, h5⟩ := dd'
  have l : atKey ys k = none := by
    have l := RelO.isSome_eq (rel.look k)
    rw [hn, Option.isSome_map] at l
    cases e : atKey ys k with
    | none => rfl
    | some p => rw [e] at l; cases l
  rw [storedH_new l] at h4 h5
  refine d_write I (by rw [d.ob]; exact True.intro) hs ⟨q, hq⟩ (NDphi.ob ⟨z, by rw [List.length_append, List.length_singleton]; omega, _, rel.snoc rv, q, es, ep, hq, h2, h3, h4, h5⟩)
end
/-! ### readings and rules -/
def tNNew (P : Program) (w : World) : TE := fun _ H Q => ∀ p, H p = none → Q (.ref p) (upd H p (NDO P w p []))
def tNGet (P : Program) (w : World) (K : PySem.W.Frag) (td ty : TE) : TE := fun σ H Q => td σ H fun x H1 => ty σ H1 fun y H2 => ∃ a b k xs v, x = .ref a ∧ y = .ref b ∧ NDAt P w K H2 a xs ∧ NV K H2 (.ref b) k ∧ k.depth ≤ 8 ∧ nLook xs k = some v ∧ Q v H2
def tNNotIn (P : Program) (w : World) (K : PySem.W.Frag) (ty td : TE) : TE := fun σ H Q => ty σ H fun y H1 => td σ H1 fun x H2 => ∃ a b k xs, x = .ref a ∧ y = .ref b ∧ NDAt P w K H2 a xs ∧ NV K H2 (.ref b) k ∧ k.depth ≤ 8 ∧ Q (.bl (!(nLook xs k).isSome)) H2
def sNPut (P : Program) (w : World) (K : PySem.W.Frag) (td ty tv : TE) : TS := fun D σ H => tv σ H fun v H1 => td σ H1 fun x H2 => ty σ H2 fun y H3 => ∃ a b k xs, x = .ref a ∧ y = .ref b ∧ NDAt P w K H3 a xs ∧ NV K H3 (.ref b) k ∧ k.depth ≤ 8 ∧ nLook xs k = none ∧ xs.length < sizeLine ∧
  D.nx σ (upd H3 a (NDO P w a (xs ++ [(k, b, v)])))
theorem nd_empty {P P' : Program} {w w' : World} {H : Hp} (h : Heap) (hb : sysModules < h.objs.size) : ObjOk P' w' H (h.push { cls := .type "dict", data := .dict #[] }) h.objs.size (NDO P w h.objs.size []) :=
  NDphi.ob ⟨beq_eq_false_iff_ne.mpr (Ne.symm (Nat.ne_of_lt hb)), Nat.zero_le _, [], .nil, _, #[], 0, Heap.get?_push_size _ rfl, ⟨rfl, rfl, rfl⟩, rfl, rfl, List.nodup_nil⟩
section
variable {X : Cx} {o i e value : Expr} {pos pos' tpos : Pos} {td ty tv : TE}
theorem pe_nnew : PE X (.Dict [] [] pos) (tNNew X.prog X.w) := ⟨fun pins s σ H Q I h =>
  wpAny_Dict_empty ⟨.ref s.heap.objs.size, _, I.laid (a := s.heap.objs.size) (o := NDO X.prog X.w s.heap.objs.size []) (t' := s.toks) (fun _ _ q => Heap.get?_push_of_some _ q) (Nat.le_refl _) (nd_empty s.heap I.big), rfl, h _ (I.hok.fresh (Nat.le_refl _))⟩⟩
theorem nd_typeIs {pins : List (Addr × Obj)} {σ : L2.St} {H : Hp} {s : Shared} {a : Addr} {xs : NEnts} (I : Inv X pins σ H s) (d : NDAt X.prog X.w X.K H a xs) : s.TypeIs (.ref a) "dict" := by
  obtain ⟨_, _, ys, _, dd⟩ := nd_of I d
  exact dd.typeIs
theorem pe_nget (hu : X.A.units + 9 < cLine) (ho : PE X o td) (hi : PE X i ty) (hs : NoSl i) : PE X (.Subscript o i pos) (tNGet X.prog X.w X.K td ty) := by
  refine ⟨fun pins s σ H Q I h => ?_⟩
  refine subD_of PySem.F.slot_dict_getitem.lookup hs (thn (ho.run pins s σ H _ I h) fun u s1 ⟨x, H1, I1, rx, q1⟩ => thn (hi.run pins s1 σ H1 _ I1 q1) fun iv s2 ⟨y, H2, I2, ry, a, b, k, xs, v, ex, ey, g, hk, hd, hv, q2⟩ => ?_)
  subst ex ey
  obtain rfl : u = Value.ref a := rx
  obtain rfl : iv = Value.ref b := ry
  exact ⟨nd_typeIs I2 g, n_getItem hu I2 g hk hd hv fun w' s3 I3 rw' => ⟨v, H2, I3, rw', q2⟩⟩
theorem pc_nnotin (hu : X.A.units + 9 < cLine) (hi : PE X i ty) (ho : PE X o td) : PC X .NotIn i o (tNNotIn X.prog X.w X.K ty td) := by
  refine ⟨fun pins s σ H Q I h => ?_⟩
  refine thn (hi.run pins s σ H _ I h) fun iv s1 ⟨y, H1, I1, ry, q1⟩ => thn (ho.run pins s1 σ H1 _ I1 q1) fun u s2 ⟨x, H2, I2, rx, a, b, k, xs, ex, ey, g, hk, hd, q2⟩ => ?_
  subst ex ey
  obtain rfl : u = Value.ref a := rx
  obtain rfl : iv = Value.ref b := ry
  exact n_notIn hu I2 g hk hd fun s3 I3 => ⟨.bl _, H2, I3, rfl, q2⟩
theorem ps_nput (hu : X.A.units + 9 < cLine) (ho : PE X o td) (hi : PE X i ty) (hv : PE X value tv) (hs : swapsWith value (some (.Subscript o i pos')) pos.line X.env = pure false) :
    PS X (.Assign [.Subscript o i pos'] value pos) (sNPut X.prog X.w X.K td ty tv) := by
  refine ⟨fun pins s σ H D I h => ?_⟩
  refine wpAny_Assign_Subscript (thn (hv.run pins s σ H _ I h) fun r s1 ⟨v, H1, I1, rv, q1⟩ => thn (ho.run pins s1 σ H1 _ I1 q1) fun u s2 ⟨x, H2, I2, rx, q2⟩ => thn (hi.run pins s2 σ H2 _ I2 q2) fun iv s3 ⟨y, H3, I3, ry, a, b, k, xs, ex, ey, g, hk, hd, hn, hl, q3⟩ => ?_) hs
  subst ex ey
  obtain rfl : u = Value.ref a := rx
  obtain rfl : iv = Value.ref b := ry
  exact n_setItem hu I3 g hk hd hn hl rv fun s4 I4 => ⟨σ, _, I4, q3⟩
end
end K58
end
/-! X2 -/
section
set_option maxRecDepth 100000
set_option maxHeartbeats 4000000
/-! tuple * int with any small number. -/
namespace K58
open PySem PySem.Spec PyProof.Rows L2
theorem tuple_mul1 (l : Addr) (items : Array Value) (n : Nat) (dd : Option Addr) (sl : Array (Option Value)) (u : Tok) :
    Meets (Builtin.«tuple.__mul__» ⟨[.ref l, .int 1 u], []⟩) (fun _ R s => s.heap.get? l = some { cls := .type "tuple", dict := dd, data := .seq items n, slots := sl } ∧ R (.ok (.ret (Value.ref l))) s) :=
  .of_wp fun prog w A R s h => by
    obtain ⟨hp, g, d, tk, os⟩ := s
    obtain ⟨hl, h⟩ := h
    have f1 := AutoSeq1.idx_int
    have c1 : (items.isEmpty || (1 : Int) == 1) = true := by simp
    wp_walk using wpAny_loadPart' hl
    repeat (first
      | (refine wpAny_ite_true (decide_eq_true c1) ?_; wp_walk using wpAny_loadPart' hl)
      | (refine wpAny_ite_true c1 ?_; wp_walk using wpAny_loadPart' hl))
    exact ⟨_, rfl, h⟩
theorem tuple_mul0 (l : Addr) (items : Array Value) (n : Nat) (dd : Option Addr) (sl : Array (Option Value)) (u : Tok) (hi : items.isEmpty = false) :
    Meets (Builtin.«tuple.__mul__» ⟨[.ref l, .int 0 u], []⟩) (fun _ R s => s.heap.get? l = some { cls := .type "tuple", dict := dd, data := .seq items n, slots := sl } ∧ R (.ok (.ret (Value.ref s.heap.objs.size))) { s with heap := s.heap.push { cls := Value.type "tuple", data := Data.seq #[] }, toks := s.toks }) :=
  .of_wp fun prog w A R s h => by
    obtain ⟨hp, g, d, tk, os⟩ := s
    obtain ⟨hl, h⟩ := h
    have f1 := AutoSeq1.idx_int
    have c1 : (items.isEmpty || (0 : Int) == 1) = false := by rw [hi]; rfl
    have c2 : (decide ((0 : Int) ≤ 0) || items.isEmpty) = true := by simp
    wp_walk using wpAny_loadPart' hl
    repeat (first
      | (refine wpAny_ite_false (decide_eq_false (by rw [c1]; exact Bool.false_ne_true)) ?_; wp_walk using wpAny_loadPart' hl)
      | (refine wpAny_ite_true (decide_eq_true c2) ?_; wp_walk using wpAny_loadPart' hl))
    exact ⟨_, rfl, h⟩
def rRepA (K : PySem.W.Frag) : R2 := fun x y H Q => ∃ l k xs, x = .ref l ∧ y = .int k ∧ SqT K H l xs ∧ xs ≠ [] ∧ 0 ≤ k ∧ k ≤ 1000 ∧ xs.length ≤ 1000 ∧ (k = 1 → Q (.ref l) H) ∧ (k ≠ 1 → ∀ p, H p = none → Q (.ref p) (upd H p (.tup (List.replicate k.toNat xs).flatten)))
theorem op_repA {X : Cx} : OpR X (binaryOp .Mult) (rRepA X.K) := by
  intro pins s σ H x y v u Q I rx ry h
  obtain ⟨l, k, xs, rfl, rfl, hT, hne, h1, h2, hz, q1, q2⟩ := h
  by_cases k2 : 2 ≤ k
  · exact op_repT pins s σ H _ _ v u Q I rx ry ⟨l, k, xs, rfl, rfl, hT, hne, k2, h2, hz, q2 (by omega)⟩
  · have hk : k = 0 ∨ k = 1 := by omega
    cases rx
    obtain ⟨t, rfl⟩ := ry
    obtain ⟨its, r, ⟨⟨cls, dd, data, sl⟩, ho, hc, n, hd⟩, hs⟩ := I.tuple hT
    simp only at hc hd
    subst hc hd
    have hle : its.length = xs.length := r.length.symm
    have hi : its.toArray.isEmpty = false := by
      cases its with
      | nil => exact absurd (List.eq_nil_of_length_eq_zero hle.symm) hne
      | cons a b => rfl
    rcases hk with rfl | rfl
    · refine wpAny_binaryOp_repeat_ref (T := "tuple") (U := "int") (by decide) ⟨_, ho, rfl⟩ (fun s' => typeIs_int s' 0 t) noFill_tuple_mul F.fills_int_mul F.slot_int_rmul repeat_tuple F.slot_int_index.lookup
        (call_meets F.slot_int_rmul (typeIs_int s 0 t) F.entry_int_rmul (F.args_int_rmul_2 _ _) (int_rmul_tuple 0 t l its.toArray n dd sl)
          ⟨ho, rfl, ⟨_, ho, rfl⟩, call_meets F.slot_tuple_mul ⟨_, ho, rfl⟩ F.entry_tuple_mul (F.args_tuple_mul_2 _ _) (tuple_mul0 l its.toArray n dd sl t hi) ⟨ho, ?_⟩⟩)
      refine ⟨.ref s.heap.objs.size, _, I.laid (t' := s.toks) (o := .tup []) (fun b ob q => Heap.get?_push_of_some _ q) (Nat.le_refl _) ?_, rfl, q2 (by decide) _ (I.hok.fresh (Nat.le_refl _))⟩
      exact ⟨Nat.zero_le _, [], .nil, IsTup.new _ _⟩
    · refine wpAny_binaryOp_repeat_ref (T := "tuple") (U := "int") (by decide) ⟨_, ho, rfl⟩ (fun s' => typeIs_int s' 1 t) noFill_tuple_mul F.fills_int_mul F.slot_int_rmul repeat_tuple F.slot_int_index.lookup
        (call_meets F.slot_int_rmul (typeIs_int s 1 t) F.entry_int_rmul (F.args_int_rmul_2 _ _) (int_rmul_tuple 1 t l its.toArray n dd sl)
          ⟨ho, rfl, ⟨_, ho, rfl⟩, call_meets F.slot_tuple_mul ⟨_, ho, rfl⟩ F.entry_tuple_mul (F.args_tuple_mul_2 _ _) (tuple_mul1 l its.toArray n dd sl t) ⟨ho, ?_⟩⟩)
      exact ⟨.ref l, H, I, rfl, q1 rfl⟩
end K58
end
/-! DL -/
section
set_option maxRecDepth 100000
set_option maxHeartbeats 1000000
/-! Expressions that evaluate to data; statements by what the names hold. -/
namespace K58
open PySem PySem.Spec L2

/-! ### data -/
mutual
inductive Da (K : PySem.W.Frag) (H : Hp) : V → PyData → Prop
  | non : Da K H .non .none
  | bl (b : Bool) : Da K H (.bl b) (.bool b)
  | int (i : Int) : Da K H (.int i) (.int i)
  | str (x : Str) : Da K H (.str x) (.str x)
  | lst {a : Addr} {xs : List V} {ds : List PyData} : H a = some (.lst xs) → Das K H xs ds → Da K H (.ref a) (.list ds)
  | tup {a : Addr} {xs : List V} {ds : List PyData} : SqT K H a xs → Das K H xs ds → Da K H (.ref a) (.tuple ds)
  /-- a Flash, told as its fields -/
  | fla {a dx : Addr} {vp : V} {l : Str} {h : Int} {ms : List PyData} : H a = some (.ins (He.ga K "Flash") dx [("lamp", .str l), ("play", vp), ("hand", .int h)]) → Da K H vp (.list ms) →
      Da K H (.ref a) (.dict [(.str "lamp", .str l), (.str "play", .list ms), (.str "hand", .int h)])
inductive Das (K : PySem.W.Frag) (H : Hp) : List V → List PyData → Prop
  | nil : Das K H [] []
  | cons {v : V} {vs : List V} {d : PyData} {ds : List PyData} : Da K H v d → Das K H vs ds → Das K H (v :: vs) (d :: ds)
end
theorem seqT_same {K : PySem.W.Frag} {H H' : Hp} {a : Addr} {xs : List V} (e : Same H H') (h : SqT K H a xs) : SqT K H' a xs := by
  rcases h with (h | ⟨o, h⟩) | h
  · exact .inl (.inl (e _ _ h))
  · exact .inl (.inr ⟨o, e _ _ h⟩)
  · exact .inr h
section
variable {K : PySem.W.Frag} {H H' : Hp}
mutual
theorem Da.mono (e : Same H H') : ∀ {v : V} {d : PyData}, Da K H v d → Da K H' v d
  | _, _, .non => .non
  | _, _, .bl b => .bl b
  | _, _, .int i => .int i
  | _, _, .str x => .str x
  | _, _, .lst h hs => .lst (e _ _ h) (Das.mono e hs)
  | _, _, .tup h hs => .tup (seqT_same e h) (Das.mono e hs)
  | _, _, .fla h hp => .fla (e _ _ h) (Da.mono e hp)
theorem Das.mono (e : Same H H') : ∀ {vs : List V} {ds : List PyData}, Das K H vs ds → Das K H' vs ds
  | _, _, .nil => .nil
  | _, _, .cons x xs => .cons (Da.mono e x) (Das.mono e xs)
end
mutual
theorem Da.dp : ∀ {v : V} {d : PyData}, d.canLay0 = true → Da K H v d → Dp K H v d
  | _, _, _, .non => .non
  | _, _, _, .bl b => .bl b
  | _, _, _, .int i => .int i
  | _, _, _, .str x => .str x
  | _, _, c, .lst h hs => .lst (SqL.of h) (Das.dp (by simpa [PyData.canLay0] using c) hs)
  | _, _, c, .tup h hs => .tup h (Das.dp (by simpa [PyData.canLay0] using c) hs)
  | _, _, c, .fla _ _ => by simp [PyData.canLay0] at c
theorem Das.dp : ∀ {vs : List V} {ds : List PyData}, PyData.canLayAll0 ds = true → Das K H vs ds → DpAll K H vs ds
  | _, _, _, .nil => .nil
  | _, _, c, .cons x xs => by
    simp only [PyData.canLayAll0, Bool.and_eq_true] at c
    exact .cons (Da.dp c.1 x) (Das.dp c.2 xs)
end
theorem Das.len : ∀ {vs : List V} {ds : List PyData}, Das K H vs ds → vs.length = ds.length
  | _, _, .nil => rfl
  | _, _, .cons _ h => congrArg Nat.succ (Das.len h)
theorem Das.get : ∀ {vs : List V} {ds : List PyData} {i : Nat} {d : PyData}, Das K H vs ds → ds[i]? = some d → ∃ v, vs[i]? = some v ∧ Da K H v d
  | _, _, _, _, .nil, h => by simp at h
  | _, _, 0, _, .cons x _, h => by simp at h; subst h; exact ⟨_, rfl, x⟩
  | _, _, i + 1, _, .cons _ xs, h => by
    obtain ⟨v, h1, h2⟩ := Das.get (i := i) xs (by simpa using h)
    exact ⟨v, by simpa using h1, h2⟩
theorem Das.getV : ∀ {vs : List V} {ds : List PyData} {i : Nat} {v : V}, Das K H vs ds → vs[i]? = some v → ∃ d, ds[i]? = some d ∧ Da K H v d
  | _, _, _, _, .nil, h => by simp at h
  | _, _, 0, _, .cons x _, h => by simp at h; subst h; exact ⟨_, rfl, x⟩
  | _, _, i + 1, _, .cons _ xs, h => by
    obtain ⟨v, h1, h2⟩ := Das.getV (i := i) xs (by simpa using h)
    exact ⟨v, by simpa using h1, h2⟩
theorem Das.append : ∀ {vs ws : List V} {ds es : List PyData}, Das K H vs ds → Das K H ws es → Das K H (vs ++ ws) (ds ++ es)
  | _, _, _, _, .nil, h => h
  | _, _, _, _, .cons x xs, h => .cons x (Das.append xs h)
theorem Das.take : ∀ {vs : List V} {ds : List PyData} (n : Nat), Das K H vs ds → Das K H (vs.take n) (ds.take n)
  | _, _, 0, _ => .nil
  | _, _, _ + 1, .nil => .nil
  | _, _, n + 1, .cons x xs => .cons x (Das.take n xs)
theorem Das.drop : ∀ {vs : List V} {ds : List PyData} (n : Nat), Das K H vs ds → Das K H (vs.drop n) (ds.drop n)
  | _, _, 0, h => h
  | _, _, _ + 1, .nil => .nil
  | _, _, n + 1, .cons _ xs => Das.drop n xs
theorem Das.reverse : ∀ {vs : List V} {ds : List PyData}, Das K H vs ds → Das K H vs.reverse ds.reverse
  | _, _, .nil => .nil
  | _, _, .cons x xs => by rw [List.reverse_cons, List.reverse_cons]; exact (Das.reverse xs).append (.cons x .nil)
theorem Das.set : ∀ {vs : List V} {ds : List PyData} {v : V} {d : PyData} (n : Nat), Das K H vs ds → Da K H v d → Das K H (vs.set n v) (ds.set n d)
  | _, _, _, _, _, .nil, _ => .nil
  | _, _, _, _, 0, .cons _ xs, x => .cons x xs
  | _, _, _, _, n + 1, .cons y ys, x => .cons y (Das.set n ys x)
end
/-- the data of a scalar -/
def toD : V → PyData
  | .bl b => .bool b
  | .int i => .int i
  | .str x => .str x
  | _ => .none
def isSc : V → Bool
  | .non => true
  | .bl _ => true
  | .int _ => true
  | .str _ => true
  | _ => false
theorem da_sc {K : PySem.W.Frag} {H : Hp} {v : V} (h : isSc v = true) : Da K H v (toD v) := by
  cases v <;> first | exact Da.non | exact Da.bl _ | exact Da.int _ | exact Da.str _ | (cases h)
/-- the value of scalar data -/
def ofD : PyData → V
  | .bool b => .bl b
  | .int i => .int i
  | .str x => .str x
  | _ => .non
def scD : PyData → Bool
  | .none => true
  | .bool _ => true
  | .int _ => true
  | .str _ => true
  | _ => false
theorem da_of {K : PySem.W.Frag} {H : Hp} {v : V} {d : PyData} (x : Da K H v d) (h : scD d = true) : v = ofD d := by
  cases x <;> first | rfl | (cases h)
theorem toD_ofD {d : PyData} (h : scD d = true) : toD (ofD d) = d := by cases d <;> first | rfl | (cases h)
theorem isSc_ofD {d : PyData} (h : scD d = true) : isSc (ofD d) = true := by cases d <;> first | rfl | (cases h)
theorem da_int {K : PySem.W.Frag} {H : Hp} {v : V} {i : Int} (x : Da K H v (.int i)) : v = .int i := da_of x rfl
theorem da_bool {K : PySem.W.Frag} {H : Hp} {v : V} {b : Bool} (x : Da K H v (.bool b)) : v = .bl b := da_of x rfl
theorem da_str {K : PySem.W.Frag} {H : Hp} {v : V} {s : Str} (x : Da K H v (.str s)) : v = .str s := da_of x rfl
theorem das_sc {K : PySem.W.Frag} {H : Hp} : ∀ {vs : List V} {ds : List PyData}, Das K H vs ds → ds.all scD = true → vs = ds.map ofD
  | _, _, .nil, _ => rfl
  | _, _, .cons x xs, h => by
    rw [List.all_cons, Bool.and_eq_true] at h
    rw [da_of x h.1, das_sc xs h.2, List.map_cons]
theorem das_of {K : PySem.W.Frag} {H : Hp} : ∀ {ds : List PyData}, ds.all scD = true → Das K H (ds.map ofD) ds
  | [], _ => .nil
  | d :: ds, h => by
    rw [List.all_cons, Bool.and_eq_true] at h
    have := da_sc (K := K) (H := H) (isSc_ofD h.1)
    rw [toD_ofD h.1] at this
    exact .cons this (das_of h.2)

/-! ### hidden objects -/
def hid (N : List Addr) (H : Hp) : Hp := fun a => if a ∈ N then none else H a
theorem hid_in {N : List Addr} {H : Hp} {a : Addr} (h : a ∈ N) : hid N H a = none := if_pos h
theorem hid_out {N : List Addr} {H : Hp} {a : Addr} (h : a ∉ N) : hid N H a = H a := if_neg h
theorem hid_get {N : List Addr} {H : Hp} {a : Addr} {o : HO} (h : hid N H a = some o) : a ∉ N ∧ H a = some o := by
  unfold hid at h
  by_cases q : a ∈ N
  · rw [if_pos q] at h; cases h
  · rw [if_neg q] at h; exact ⟨q, h⟩
theorem hid_le {N : List Addr} {H : Hp} : Same (hid N H) H := fun _ _ h => (hid_get h).2
theorem hid_mono {N : List Addr} {H H1 : Hp} (e : Same H H1) : Same (hid N H) (hid N H1) := fun a o h => by
  obtain ⟨h1, h2⟩ := hid_get h
  rw [hid_out h1]; exact e a o h2
theorem hid_sub {N N' : List Addr} {H : Hp} (s : ∀ a ∈ N', a ∈ N) : Same (hid N H) (hid N' H) := fun a o h => by
  obtain ⟨h1, h2⟩ := hid_get h
  rw [hid_out fun q => h1 (s a q)]; exact h2
theorem hid_upd {N : List Addr} {H : Hp} {a : Addr} {o : HO} (h : a ∈ N) : hid N (upd H a o) = hid N H := by
  funext b
  unfold hid
  by_cases q : b ∈ N
  · rw [if_pos q, if_pos q]
  · rw [if_neg q, if_neg q, upd_ne fun z => q (by rw [z]; exact h)]
def Alive (N : List Addr) (H : Hp) : Prop := ∀ a ∈ N, ∃ o, H a = some o
theorem Alive.mono {N : List Addr} {H H1 : Hp} (e : Same H H1) (h : Alive N H) : Alive N H1 := fun a ha => let ⟨o, q⟩ := h a ha; ⟨o, e a o q⟩
theorem Alive.nin {N : List Addr} {H : Hp} {p : Addr} (h : Alive N H) (hp : H p = none) : p ∉ N := fun q => by
  obtain ⟨o, z⟩ := h p q
  rw [hp] at z; cases z
theorem same_new {H : Hp} {p : Addr} {o : HO} (h : H p = none) : Same H (upd H p o) := fun a u e => by
  rw [upd_ne (ne_of_none e h)]; exact e
theorem Alive.new {N : List Addr} {H : Hp} {p : Addr} {o : HO} (h : Alive N H) (hp : H p = none) : Alive (p :: N) (upd H p o) := fun a ha => by
  rcases List.mem_cons.mp ha with rfl | ha
  · exact ⟨o, upd_same⟩
  · exact h.mono (same_new hp) a ha
theorem hid_new {N : List Addr} {H : Hp} {p : Addr} {o : HO} (h : Alive N H) (hp : H p = none) : hid N (upd H p o) p = some o := by
  rw [hid_out (h.nin hp)]; exact upd_same

/-! ### boards -/
abbrev BR := Brd Str
def dStrs (xs : List Str) : List PyData := xs.map PyData.str
def dLoad (l : Str × Str × Str) : PyData := .tuple [.str l.1, .str l.2.1, .str l.2.2]
def dCon (c : Con Str) : PyData := .tuple [.str c.one, .str c.other, (match c.mover with | none => .none | some m => .str m), .str (if c.make = true then "make" else "break"), .str (if c.both = true then "both" else "forward")]
def dLoads (ls : List (Str × Str × Str)) : List PyData := ls.map dLoad
def dCons (cs : List (Con Str)) : List PyData := cs.map dCon
def dBits (bs : List Bool) : List PyData := bs.map PyData.bool
def dState (s : BState) : PyData := .tuple [.tuple (dBits s.1), .bool s.2]
def dMove (m : Bool × Str) : PyData := .tuple [.str (if m.1 = true then "hand" else "relay"), .str m.2]
def dMoves (ms : List (Bool × Str)) : List PyData := ms.map dMove
def dPhase (p : Phase) : PyData := .tuple [.int p.1, .bool p.2]
def dCase (c : Case) : PyData := .tuple [dState c.1, dPhase c.2]
abbrev bFs (v1 v2 v3 v4 v5 : V) : List (Str × V) := [("nodes", v1), ("switches", v2), ("relays", v3), ("lamps", v4), ("contacts", v5)]
structure BoardAt (K : PySem.W.Frag) (H : Hp) (a : Addr) (B : BR) : Prop where
  ex : ∃ dx v1 v2 v3 v4 v5, H a = some (.ins (He.ga K "Board") dx (bFs v1 v2 v3 v4 v5)) ∧ Da K H v1 (.tuple (dStrs B.nodes)) ∧ Da K H v2 (.tuple (dStrs B.sw)) ∧ Da K H v3 (.tuple (dLoads B.rel)) ∧
    Da K H v4 (.tuple (dLoads B.lamps)) ∧ Da K H v5 (.tuple (dCons B.con))
theorem BoardAt.mono {K : PySem.W.Frag} {H H' : Hp} {a : Addr} {B : BR} (e : Same H H') (h : BoardAt K H a B) : BoardAt K H' a B := by
  obtain ⟨dx, v1, v2, v3, v4, v5, h0, h1, h2, h3, h4, h5⟩ := h.ex
  exact ⟨dx, v1, v2, v3, v4, v5, e _ _ h0, h1.mono e, h2.mono e, h3.mono e, h4.mono e, h5.mono e⟩

/-! ### what a name holds -/
inductive Ar where
  /-- data -/
  | d (x : PyData)
  /-- a board -/
  | b (B : BR)
  /-- a list of one's own, that may grow -/
  | m (ds : List PyData)
  /-- a dict -/
  | k (kvs : List (Key × V))
  /-- a value as it is -/
  | v (x : V)
  /-- a list that is read -/
  | s (vs : List V)
  /-- an object that is read -/
  | r (S : Hp → V → Prop)
def ArR (K : PySem.W.Frag) (N : List Addr) (H : Hp) (v : V) : Ar → Prop
  | .d x => Da K (hid N H) v x
  | .b B => ∃ a, v = .ref a ∧ BoardAt K (hid N H) a B
  | .m ds => ∃ l vs, v = .ref l ∧ l ∈ N ∧ H l = some (.lst vs) ∧ Das K (hid N H) vs ds
  | .k kvs => ∃ a, v = .ref a ∧ hid N H a = some (.dK kvs)
  | .v x => v = x
  | .s vs => ∃ a, v = .ref a ∧ SqL K (hid N H) a vs
  | .r S => ∃ H0, S H0 v ∧ Same H0 (hid N H)
def Ar.nm : Ar → Bool
  | .m _ => false
  | _ => true
/-- an own list given away -/
def Ar.fz : Ar → Ar
  | .m ds => .d (.list ds)
  | x => x
section
variable {K : PySem.W.Frag} {N N' : List Addr} {H H' : Hp} {v : V} {x : Ar}
theorem ArR.mono' (s : ∀ a ∈ N, a ∈ N') (e : ∀ a ∈ N, ∀ o, H a = some o → H' a = some o) (h : Same (hid N H) (hid N' H')) (r : ArR K N H v x) : ArR K N' H' v x := by
  cases x with
  | d x => exact Da.mono h r
  | b B => obtain ⟨a, e1, e2⟩ := r; exact ⟨a, e1, e2.mono h⟩
  | m ds => obtain ⟨l, vs, e1, e2, e3, e4⟩ := r; exact ⟨l, vs, e1, s l e2, e l e2 _ e3, e4.mono h⟩
  | k kvs => obtain ⟨a, e1, e2⟩ := r; exact ⟨a, e1, h _ _ e2⟩
  | v x => exact r
  | s vs => obtain ⟨a, e1, e2⟩ := r; exact ⟨a, e1, Same.seq h e2⟩
  | r S => obtain ⟨H0, e1, e2⟩ := r; exact ⟨H0, e1, e2.trans h⟩
theorem ArR.mono (e : Same H H') (r : ArR K N H v x) : ArR K N H' v x := r.mono' (fun _ h => h) (fun a _ o => e a o) (hid_mono e)
end
/-- the names' values -/
structure Sl (K : PySem.W.Frag) (N : List Addr) (H : Hp) (σ : L2.St) (xs : List (Option Ar)) : Prop where
  len : σ.length = xs.length
  at_ : ∀ (i : Nat) (x : Ar), xs[i]? = some (some x) → ∃ v, σ[i]? = some (some v) ∧ ArR K N H v x
section
variable {K : PySem.W.Frag} {N N' : List Addr} {H H' : Hp} {σ : L2.St} {xs : List (Option Ar)}
theorem Sl.mono' (s : ∀ a ∈ N, a ∈ N') (e : ∀ a ∈ N, ∀ o, H a = some o → H' a = some o) (h : Same (hid N H) (hid N' H')) (r : Sl K N H σ xs) : Sl K N' H' σ xs :=
  ⟨r.len, fun i x hx => let ⟨v, h1, h2⟩ := r.at_ i x hx; ⟨v, h1, h2.mono' s e h⟩⟩
theorem Sl.mono (e : Same H H') (r : Sl K N H σ xs) : Sl K N H' σ xs := r.mono' (fun _ h => h) (fun a _ o => e a o) (hid_mono e)
theorem Sl.set {v : V} {x : Ar} (i : Nat) (r : Sl K N H σ xs) (h : ArR K N H v x) : Sl K N H (σ.set i (some v)) (xs.set i (some x)) := by
  refine ⟨by rw [List.length_set, List.length_set, r.len], fun j y hy => ?_⟩
  rw [List.getElem?_set] at hy ⊢
  by_cases e : i = j
  · subst e
    rw [if_pos rfl] at hy ⊢
    by_cases hl : i < xs.length
    · rw [if_pos hl] at hy
      rw [if_pos (by rw [r.len]; exact hl)]
      cases hy
      exact ⟨v, rfl, h⟩
    · rw [if_neg hl] at hy; cases hy
  · rw [if_neg e] at hy ⊢
    exact r.at_ j y hy
def wipeX (xs : List (Option Ar)) : List Nat → List (Option Ar)
  | [] => xs
  | i :: is => (wipeX xs is).set i none
theorem Sl.setN (i : Nat) (o : Option V) (r : Sl K N H σ xs) : Sl K N H (σ.set i o) (xs.set i none) := by
  refine ⟨by rw [List.length_set, List.length_set, r.len], fun j y hy => ?_⟩
  rw [List.getElem?_set] at hy ⊢
  by_cases e : i = j
  · subst e
    rw [if_pos rfl] at hy
    split at hy <;> cases hy
  · rw [if_neg e] at hy ⊢
    exact r.at_ j y hy
theorem Sl.wipe (r : Sl K N H σ xs) : ∀ is : List Nat, Sl K N H (L2.wipe σ is) (wipeX xs is)
  | [] => r
  | i :: is => (Sl.wipe r is).setN i none
end

/-! ### the judgements of expressions -/
abbrev Xs := List (Option Ar)
def Ed (K : PySem.W.Frag) (te : TE) (xs : Xs) (x : Ar) : Prop := ∀ (N : List Addr) (H : Hp) (σ : L2.St), Alive N H → Sl K N H σ xs → ∀ Q : VK, (∀ v H1, Same H H1 → ArR K N H1 v x → Q v H1) → te σ H Q
def Et (K : PySem.W.Frag) (tt : TT) (xs : Xs) (b : Bool) : Prop := ∀ (N : List Addr) (H : Hp) (σ : L2.St), Alive N H → Sl K N H σ xs → ∀ Q : Bool → Hp → Prop, (∀ H1, Same H H1 → Q b H1) → tt σ H Q
abbrev ArRs (K : PySem.W.Frag) (N : List Addr) (H : Hp) : List V → List Ar → Prop := Paired fun v a => ArR K N H v a
def Ea (K : PySem.W.Frag) (ta : TA) (xs : Xs) (as : List Ar) : Prop := ∀ (N : List Addr) (H : Hp) (σ : L2.St), Alive N H → Sl K N H σ xs → ∀ Q : List V → Hp → Prop, (∀ vs H1, Same H H1 → ArRs K N H1 vs as → Q vs H1) → ta σ H Q
/-- a NEW list -/
def En (K : PySem.W.Frag) (te : TE) (xs : Xs) (ds : List PyData) : Prop := ∀ (N : List Addr) (H : Hp) (σ : L2.St), Alive N H → Sl K N H σ xs → ∀ Q : VK,
  (∀ l vs H1, H l = none → Same H H1 → H1 l = some (.lst vs) → Das K (hid (l :: N) H1) vs ds → Q (.ref l) H1) → te σ H Q
section
variable {K : PySem.W.Frag} {ta tb te tx : TE} {tr : TA} {t u : TT} {xs : Xs} {x y z : Ar}
theorem ArRs.mono {N : List Addr} {H H' : Hp} (e : Same H H') : ∀ {vs : List V} {as : List Ar}, ArRs K N H vs as → ArRs K N H' vs as
  | _, _, .nil => .nil
  | _, _, .cons h hs => .cons (h.mono e) (ArRs.mono e hs)
theorem En.ed {ds : List PyData} (h : En K te xs ds) : Ed K te xs (.d (.list ds)) := fun N H σ al sl Q q =>
  h N H σ al sl Q fun l vs H1 hn e hl hd => q _ _ e (Da.lst (by rw [hid_out (al.nin hn)]; exact hl) (hd.mono (hid_sub fun a ha => List.mem_cons_of_mem _ ha)))
theorem ed_var {i : Nat} (h : xs[i]? = some (some x)) : Ed K (tVar i) xs x := fun N H σ al sl Q q => by
  obtain ⟨v, h1, h2⟩ := sl.at_ i x h
  exact ⟨v, h1, q v H (Same.refl H) h2⟩
theorem ed_c {v : V} (h : isSc v = true) : Ed K (tC v) xs (.d (toD v)) := fun N H σ al sl Q q => q v H (Same.refl H) (da_sc h)
theorem ed_cv {v : V} : Ed K (tC v) xs (.v v) := fun N H σ al sl Q q => q v H (Same.refl H) rfl
theorem ed_is (h : Ed K te xs x) (e : x = y) : Ed K te xs y := e ▸ h
theorem ed_d {a b : PyData} (h : Ed K te xs (.d a)) (e : a = b) : Ed K te xs (.d b) := e ▸ h
theorem et_is {a b : Bool} (h : Et K t xs a) (e : a = b) : Et K t xs b := e ▸ h
/-- a two-place operation -/
def Rv (K : PySem.W.Frag) (r : R2) (x y z : Ar) : Prop := ∀ (N : List Addr) (H : Hp) (v w : V), Alive N H → ArR K N H v x → ArR K N H w y → ∀ Q : VK, (∀ u H1, Same H H1 → ArR K N H1 u z → Q u H1) → r v w H Q
theorem ed_op {r : R2} (ha : Ed K ta xs x) (hb : Ed K tb xs y) (hr : Rv K r x y z) : Ed K (tOp r ta tb) xs z := fun N H σ al sl Q q =>
  ha N H σ al sl _ fun v H1 e1 h1 => hb N H1 σ (al.mono e1) (sl.mono e1) _ fun w H2 e2 h2 => hr N H2 v w ((al.mono e1).mono e2) (h1.mono e2) h2 Q fun u H3 e3 h3 => q u H3 ((e1.trans e2).trans e3) h3
/-- .. that makes a new list -/
def Rn (K : PySem.W.Frag) (r : R2) (x y : Ar) (ds : List PyData) : Prop := ∀ (N : List Addr) (H : Hp) (v w : V), Alive N H → ArR K N H v x → ArR K N H w y → ∀ Q : VK,
  (∀ l vs H1, H l = none → Same H H1 → H1 l = some (.lst vs) → Das K (hid (l :: N) H1) vs ds → Q (.ref l) H1) → r v w H Q
theorem free_of {H H1 : Hp} {l : Addr} (e : Same H H1) (h : H1 l = none) : H l = none := e.free h
theorem en_op {r : R2} {ds : List PyData} (ha : Ed K ta xs x) (hb : Ed K tb xs y) (hr : Rn K r x y ds) : En K (tOp r ta tb) xs ds := fun N H σ al sl Q q =>
  ha N H σ al sl _ fun v H1 e1 h1 => hb N H1 σ (al.mono e1) (sl.mono e1) _ fun w H2 e2 h2 => hr N H2 v w ((al.mono e1).mono e2) (h1.mono e2) h2 Q fun l vs H3 hn e3 hl hd =>
    q l vs H3 (free_of (e1.trans e2) hn) ((e1.trans e2).trans e3) hl hd
def Ru (K : PySem.W.Frag) (r : V → Hp → VK → Prop) (x z : Ar) : Prop := ∀ (N : List Addr) (H : Hp) (v : V), Alive N H → ArR K N H v x → ∀ Q : VK, (∀ u H1, Same H H1 → ArR K N H1 u z → Q u H1) → r v H Q
theorem ed_un {r : V → Hp → VK → Prop} (ha : Ed K ta xs x) (hr : Ru K r x z) : Ed K (tUn r ta) xs z := fun N H σ al sl Q q =>
  ha N H σ al sl _ fun v H1 e1 h1 => hr N H1 v (al.mono e1) h1 Q fun u H2 e2 h2 => q u H2 (e1.trans e2) h2
theorem ed_then {k : V → Hp → VK → Prop} (ha : Ed K ta xs x) (hr : Ru K k x z) : Ed K (tThen ta k) xs z := fun N H σ al sl Q q =>
  ha N H σ al sl _ fun v H1 e1 h1 => hr N H1 v (al.mono e1) h1 Q fun u H2 e2 h2 => q u H2 (e1.trans e2) h2
theorem ea_nil : Ea K tNil xs [] := fun N H σ al sl Q q => q [] H (Same.refl H) .nil
theorem ea_cons {as : List Ar} (h : Ed K te xs x) (hr : Ea K tr xs as) : Ea K (tCons te tr) xs (x :: as) := fun N H σ al sl Q q =>
  h N H σ al sl _ fun v H1 e1 h1 => hr N H1 σ (al.mono e1) (sl.mono e1) _ fun vs H2 e2 h2 => q _ H2 (e1.trans e2) (.cons (h1.mono e2) h2)
def dsAr (ds : List PyData) : List Ar := ds.map Ar.d
theorem das_of_arrs {N : List Addr} {H : Hp} : ∀ {vs : List V} {ds : List PyData}, ArRs K N H vs (ds.map Ar.d) → Das K (hid N H) vs ds
  | [], [], _ => .nil
  | _ :: _, [], h => nomatch h
  | [], _ :: _, h => nomatch h
  | v :: vs, d :: ds, .cons h hs => .cons h (das_of_arrs hs)
theorem sz_of {n : Nat} (h : n ≤ 1000000) : n ≤ sizeLine := Nat.le_trans h (by decide)
theorem sz_lt {n : Nat} (h : n < 1000000) : n < sizeLine := Nat.lt_of_lt_of_le h (by decide)
theorem ed_tup {ta : TA} {ds : List PyData} (h : Ea K ta xs (ds.map Ar.d)) (hl : ds.length ≤ 1000000) : Ed K (tTup ta) xs (.d (.tuple ds)) := fun N H σ al sl Q q =>
  h N H σ al sl _ fun vs H1 e1 h1 => by
    have hd := das_of_arrs h1
    refine ⟨by rw [hd.len]; exact sz_of hl, fun p hp => q _ _ (e1.trans (same_new hp)) ?_⟩
    exact Da.tup (SqT.of (hid_new (al.mono e1) hp)) (hd.mono (hid_mono (same_new hp)))
theorem same_hid_new {N : List Addr} {H : Hp} {p : Addr} {o : HO} (hp : H p = none) : Same (hid N H) (hid (p :: N) (upd H p o)) := fun a u h => by
  obtain ⟨h1, h2⟩ := hid_get h
  have ne : a ≠ p := ne_of_none h2 hp
  rw [hid_out (by simp [ne, h1]), upd_ne ne]; exact h2
theorem en_lst {ta : TA} {ds : List PyData} (h : Ea K ta xs (ds.map Ar.d)) (hl : ds.length ≤ 1000000) : En K (tLst ta) xs ds := fun N H σ al sl Q q =>
  h N H σ al sl _ fun vs H1 e1 h1 => by
    have hd := das_of_arrs h1
    exact ⟨by rw [hd.len]; exact sz_of hl, fun p hp => q p vs _ (free_of e1 hp) (e1.trans (same_new hp)) upd_same (hd.mono (same_hid_new hp))⟩
/-! calls -/
def Rc (K : PySem.W.Frag) (r : List V → Hp → VK → Prop) (as : List Ar) (z : Ar) : Prop := ∀ (N : List Addr) (H : Hp) (vs : List V), Alive N H → ArRs K N H vs as → ∀ Q : VK, (∀ u H1, Same H H1 → ArR K N H1 u z → Q u H1) → r vs H Q
theorem ed_cb {r : List V → Hp → VK → Prop} {ta : TA} {as : List Ar} (h : Ea K ta xs as) (hr : Rc K r as z) : Ed K (tCB r ta) xs z := fun N H σ al sl Q q =>
  h N H σ al sl _ fun vs H1 e1 h1 => hr N H1 vs (al.mono e1) h1 Q fun u H2 e2 h2 => q u H2 (e1.trans e2) h2
def Rcn (K : PySem.W.Frag) (r : List V → Hp → VK → Prop) (as : List Ar) (ds : List PyData) : Prop := ∀ (N : List Addr) (H : Hp) (vs : List V), Alive N H → ArRs K N H vs as → ∀ Q : VK,
  (∀ l ws H1, H l = none → Same H H1 → H1 l = some (.lst ws) → Das K (hid (l :: N) H1) ws ds → Q (.ref l) H1) → r vs H Q
theorem en_cb {r : List V → Hp → VK → Prop} {ta : TA} {as : List Ar} {ds : List PyData} (h : Ea K ta xs as) (hr : Rcn K r as ds) : En K (tCB r ta) xs ds := fun N H σ al sl Q q =>
  h N H σ al sl _ fun vs H1 e1 h1 => hr N H1 vs (al.mono e1) h1 Q fun l ws H2 hn e2 hl hd => q l ws H2 (free_of e1 hn) (e1.trans e2) hl hd
/-- a def's promise: R tells the result of the arguments -/
def FS (K : PySem.W.Frag) (R : List Ar → Ar → Prop) : Sp := fun vs H Q _ => ∃ (N : List Addr) (as : List Ar) (x : Ar), Alive N H ∧ ArRs K N H vs as ∧ R as x ∧ ∀ v H1, Same H H1 → ArR K N H1 v x → Q v H1
theorem arrs_append {N : List Addr} {H : Hp} : ∀ {vs ws : List V} {as bs : List Ar}, ArRs K N H vs as → ArRs K N H ws bs → ArRs K N H (vs ++ ws) (as ++ bs)
  | _, _, _, _, .nil, h => h
  | _, _, _, _, .cons x xs, h => .cons x (arrs_append xs h)
theorem arrs_len {N : List Addr} {H : Hp} : ∀ {vs : List V} {as : List Ar}, ArRs K N H vs as → vs.length = as.length
  | _, _, .nil => rfl
  | _, _, .cons _ h => congrArg Nat.succ (arrs_len h)
theorem ed_call {R : List Ar → Ar → Prop} {E : XK} {ta : TA} {as : List Ar} (h : Ea K ta xs as) (r : R as z) : Ed K (tCall (FS K R) [] E ta) xs z := fun N H σ al sl Q q =>
  h N H σ al sl _ fun vs H1 e1 h1 => ⟨N, as, z, al.mono e1, by rw [List.append_nil]; exact h1, r, fun v H2 e2 h2 => q v H2 (e1.trans e2) h2⟩
/-- .. with defaults that are scalars -/
theorem ed_callD {R : List Ar → Ar → Prop} {E : XK} {ta : TA} {as : List Ar} {dvs : List V} (hd : dvs.all isSc = true) (h : Ea K ta xs as) (r : R (as ++ (dvs.map toD).map Ar.d) z) : Ed K (tCall (FS K R) dvs E ta) xs z := fun N H σ al sl Q q =>
  h N H σ al sl _ fun vs H1 e1 h1 => by
    have hds : ∀ {ds : List V}, ds.all isSc = true → ArRs K N H1 ds ((ds.map toD).map Ar.d) := by
      intro ds
      induction ds with
      | nil => intro _; exact .nil
      | cons d ds ih =>
        intro hq
        rw [List.all_cons, Bool.and_eq_true] at hq
        exact .cons (da_sc hq.1) (ih hq.2)
    exact ⟨N, _, z, al.mono e1, arrs_append h1 (hds hd), r, fun v H2 e2 h2 => q v H2 (e1.trans e2) h2⟩
theorem ed_callS {C : Addr} {R : List Ar → Ar → Prop} {E : XK} {ta : TA} {as : List Ar} {to : TE} (ho : Ed K to xs (.v (.ref C))) (h : Ea K ta xs as) (r : R as z) : Ed K (tSMeth C (FS K R) [] E to ta) xs z := fun N H σ al sl Q q =>
  ho N H σ al sl _ fun v H1 e1 h1 => ⟨h1, h N H1 σ (al.mono e1) (sl.mono e1) _ fun vs H2 e2 h2 => ⟨N, as, z, (al.mono e1).mono e2, by rw [List.append_nil]; exact h2, r, fun v H3 e3 h3 => q v H3 ((e1.trans e2).trans e3) h3⟩⟩
/-! tests -/
theorem et_test {b : Bool} (h : Ed K te xs (.d (.bool b))) : Et K (tTest te) xs b := fun N H σ al sl Q q => h N H σ al sl _ fun v H1 e1 h1 => ⟨b, da_bool h1, q H1 e1⟩
theorem et_B {b : Bool} (h : Ed K te xs (.d (.bool b))) : Et K (tB te) xs b := fun N H σ al sl Q q => h N H σ al sl _ fun v H1 e1 h1 => ⟨b, da_bool h1, q H1 e1⟩
theorem et_and {a b : Bool} (h1 : Et K t xs a) (h2 : a = true → Et K u xs b) : Et K (tAnd t u) xs (a && b) := fun N H σ al sl Q q => h1 N H σ al sl _ fun H1 e1 => by
  cases a with
  | true => exact h2 rfl N H1 σ (al.mono e1) (sl.mono e1) Q fun H2 e2 => q H2 (e1.trans e2)
  | false => exact q H1 e1
theorem et_or {a b : Bool} (h1 : Et K t xs a) (h2 : a = false → Et K u xs b) : Et K (tOr t u) xs (a || b) := fun N H σ al sl Q q => h1 N H σ al sl _ fun H1 e1 => by
  cases a with
  | true => exact q H1 e1
  | false => exact h2 rfl N H1 σ (al.mono e1) (sl.mono e1) Q fun H2 e2 => q H2 (e1.trans e2)
theorem et_not {a : Bool} (h : Et K t xs a) : Et K (tNot t) xs (!a) := fun N H σ al sl Q q => h N H σ al sl _ fun H1 e1 => q H1 e1
theorem et_yes : Et K tYes xs true := fun N H σ al sl Q q => q H (Same.refl H)
theorem ed_andV {a b : Bool} (h1 : Ed K ta xs (.d (.bool a))) (h2 : a = true → Ed K tb xs (.d (.bool b))) : Ed K (tAndV ta tb) xs (.d (.bool (a && b))) := fun N H σ al sl Q q => h1 N H σ al sl _ fun v H1 e1 r1 => ⟨a, da_bool r1, by
  cases a with
  | true => exact h2 rfl N H1 σ (al.mono e1) (sl.mono e1) Q fun v H2 e2 => q v H2 (e1.trans e2)
  | false => exact q _ H1 e1 (Da.bl _)⟩
theorem ed_orV {a b : Bool} (h1 : Ed K ta xs (.d (.bool a))) (h2 : a = false → Ed K tb xs (.d (.bool b))) : Ed K (tOrV ta tb) xs (.d (.bool (a || b))) := fun N H σ al sl Q q => h1 N H σ al sl _ fun v H1 e1 r1 => ⟨a, da_bool r1, by
  cases a with
  | true => exact q _ H1 e1 (Da.bl _)
  | false => exact h2 rfl N H1 σ (al.mono e1) (sl.mono e1) Q fun v H2 e2 => q v H2 (e1.trans e2)⟩
theorem ed_notV {a : Bool} (h : Ed K ta xs (.d (.bool a))) : Ed K (tNotV ta) xs (.d (.bool (!a))) := fun N H σ al sl Q q => h N H σ al sl _ fun v H1 e1 r1 => ⟨a, da_bool r1, q _ H1 e1 (Da.bl _)⟩
theorem ed_chain {r r' : R2} {tc : TE} {a b : Bool} {w : Ar} (ha : Ed K ta xs x) (hb : Ed K tb xs y) (hc : Ed K tc xs w) (h1 : Rv K r x y (.d (.bool a))) (h2 : Rv K r' y w (.d (.bool b))) : Ed K (tChain r r' ta tb tc) xs (.d (.bool (a && b))) := fun N H σ al sl Q q =>
  ha N H σ al sl _ fun v H1 e1 r1 => hb N H1 σ (al.mono e1) (sl.mono e1) _ fun w' H2 e2 r2 => h1 N H2 v w' ((al.mono e1).mono e2) (r1.mono e2) r2 _ fun u H3 e3 r3 => ⟨a, da_bool r3, by
    cases a with
    | true => exact hc N H3 σ (((al.mono e1).mono e2).mono e3) (((sl.mono e1).mono e2).mono e3) _ fun w2 H4 e4 r4 => h2 N H4 w' w2 ((((al.mono e1).mono e2).mono e3).mono e4) ((r2.mono e3).mono e4) r4 Q fun u2 H5 e5 r5 => q u2 H5 ((((e1.trans e2).trans e3).trans e4).trans e5) r5
    | false => exact q _ H3 ((e1.trans e2).trans e3) (Da.bl _)⟩
end
end K58
end
/-! DM -/
section
set_option maxRecDepth 100000
set_option maxHeartbeats 1000000
/-! Operators, subscripts, fields; comprehensions; statements. -/
namespace K58
open PySem PySem.Spec L2
section
variable {K : PySem.W.Frag} {ta tb te tx : TE} {tr : TA} {t u : TT} {xs : Xs} {x y z : Ar}

/-! ### operators -/
theorem rv_i0 {g : Int → Int → V} {i j : Int} (h : isSc (g i j) = true) : Rv K (rI0 g) (.d (.int i)) (.d (.int j)) (.d (toD (g i j))) := fun N H v w al h1 h2 Q q =>
  ⟨i, j, da_int h1, da_int h2, q _ H (Same.refl H) (da_sc h)⟩
theorem rv_i {C : Int → Int → Prop} {g : Int → Int → V} {i j : Int} (hc : C i j) (h : isSc (g i j) = true) : Rv K (rI C g) (.d (.int i)) (.d (.int j)) (.d (toD (g i j))) := fun N H v w al h1 h2 Q q =>
  ⟨i, j, da_int h1, da_int h2, hc, q _ H (Same.refl H) (da_sc h)⟩
theorem rv_eq {a b : PyData} (ha : scD a = true) (hb : scD b = true) (hs : scal (ofD a) (ofD b) = true) : Rv K rEq (.d a) (.d b) (.d (.bool (decide (ofD a = ofD b)))) := fun N H v w al h1 h2 Q q => by
  rw [da_of h1 ha, da_of h2 hb]
  exact ⟨hs, q _ H (Same.refl H) (Da.bl _)⟩
theorem rv_ne {a b : PyData} (ha : scD a = true) (hb : scD b = true) (hs : scal (ofD a) (ofD b) = true) : Rv K rNe (.d a) (.d b) (.d (.bool (!decide (ofD a = ofD b)))) := fun N H v w al h1 h2 Q q => by
  rw [da_of h1 ha, da_of h2 hb]
  exact ⟨hs, q _ H (Same.refl H) (Da.bl _)⟩
theorem dec_str (a b : Str) : decide (V.str a = V.str b) = decide (a = b) := by
  by_cases h : a = b
  · subst h; simp
  · rw [decide_eq_false h, decide_eq_false fun q => h (V.str.inj q)]
theorem dec_bl (a b : Bool) : decide (V.bl a = V.bl b) = (a == b) := by cases a <;> cases b <;> rfl
theorem dec_int (a b : Int) : decide (V.int a = V.int b) = decide (a = b) := by
  by_cases h : a = b
  · subst h; simp
  · rw [decide_eq_false h, decide_eq_false fun q => h (V.int.inj q)]
theorem rv_eqS {a b : Str} : Rv K rEq (.d (.str a)) (.d (.str b)) (.d (.bool (decide (a = b)))) := by
  have h := rv_eq (K := K) (a := .str a) (b := .str b) rfl rfl rfl
  rw [show decide (ofD (.str a) = ofD (.str b)) = decide (a = b) from dec_str a b] at h
  exact h
theorem rv_neS {a b : Str} : Rv K rNe (.d (.str a)) (.d (.str b)) (.d (.bool (!decide (a = b)))) := by
  have h := rv_ne (K := K) (a := .str a) (b := .str b) rfl rfl rfl
  rw [show decide (ofD (.str a) = ofD (.str b)) = decide (a = b) from dec_str a b] at h
  exact h
theorem rv_eqB {a b : Bool} : Rv K rEq (.d (.bool a)) (.d (.bool b)) (.d (.bool (a == b))) := by
  have h := rv_eq (K := K) (a := .bool a) (b := .bool b) rfl rfl rfl
  rw [show decide (ofD (.bool a) = ofD (.bool b)) = (a == b) from dec_bl a b] at h
  exact h
theorem rv_neB {a b : Bool} : Rv K rNe (.d (.bool a)) (.d (.bool b)) (.d (.bool (a != b))) := by
  have h := rv_ne (K := K) (a := .bool a) (b := .bool b) rfl rfl rfl
  rw [show decide (ofD (.bool a) = ofD (.bool b)) = (a == b) from dec_bl a b] at h
  exact h
theorem rv_eqI {a b : Int} : Rv K rEq (.d (.int a)) (.d (.int b)) (.d (.bool (decide (a = b)))) := by
  have h := rv_eq (K := K) (a := .int a) (b := .int b) rfl rfl rfl
  rw [show decide (ofD (.int a) = ofD (.int b)) = decide (a = b) from dec_int a b] at h
  exact h
theorem rv_neI {a b : Int} : Rv K rNe (.d (.int a)) (.d (.int b)) (.d (.bool (!decide (a = b)))) := by
  have h := rv_ne (K := K) (a := .int a) (b := .int b) rfl rfl rfl
  rw [show decide (ofD (.int a) = ofD (.int b)) = decide (a = b) from dec_int a b] at h
  exact h
def isNoneD : PyData → Bool
  | .none => true
  | _ => false
theorem da_none {N : List Addr} {H : Hp} {v : V} {d : PyData} (h : Da K (hid N H) v d) : decide (v = .non) = isNoneD d := by cases h <;> rfl
theorem rv_isN {a : PyData} : Rv K (fun x y H Q => y = .non ∧ Q (.bl (decide (x = .non))) H) (.d a) (.d .none) (.d (.bool (isNoneD a))) := fun N H v w al h1 h2 Q q =>
  ⟨da_of h2 rfl, by rw [da_none h1]; exact q _ H (Same.refl H) (Da.bl _)⟩
theorem rv_notN {a : PyData} : Rv K (fun x y H Q => y = .non ∧ Q (.bl (!decide (x = .non))) H) (.d a) (.d .none) (.d (.bool (!isNoneD a))) := fun N H v w al h1 h2 Q q =>
  ⟨da_of h2 rfl, by rw [da_none h1]; exact q _ H (Same.refl H) (Da.bl _)⟩
theorem rv_addS {a b : Str} (h : a.length + b.length ≤ 1000000) : Rv K (fun x y H Q => ∃ i j, x = .str i ∧ y = .str j ∧ i.length + j.length ≤ sizeLine ∧ Q (.str (i ++ j)) H) (.d (.str a)) (.d (.str b)) (.d (.str (a ++ b))) := fun N H v w al h1 h2 Q q =>
  ⟨a, b, da_str h1, da_str h2, sz_of h, q _ H (Same.refl H) (Da.str _)⟩
/-! in -/
theorem inV_str (s : Str) : ∀ ss : List Str, inV (.str s) (ss.map V.str) = decide (s ∈ ss)
  | [] => by simp [inV]
  | a :: ss => by
    have ih := inV_str s ss
    unfold inV at ih ⊢
    rw [List.map_cons, List.any_cons, ih]
    have e : eqV (V.str a) (V.str s) = decide (s = a) := by
      show decide (a = s) = decide (s = a)
      by_cases h : a = s
      · subst h; rfl
      · rw [decide_eq_false h, decide_eq_false fun q => h q.symm]
    rw [e]
    by_cases h : s = a
    · subst h; simp
    · rw [decide_eq_false h, Bool.false_or]
      by_cases h2 : s ∈ ss
      · rw [decide_eq_true h2, decide_eq_true (List.mem_cons_of_mem _ h2)]
      · rw [decide_eq_false h2, decide_eq_false fun q => (List.mem_cons.mp q).elim h h2]
theorem das_strs {N : List Addr} {H : Hp} {vs : List V} {ss : List Str} (h : Das K (hid N H) vs (dStrs ss)) : vs = ss.map V.str := by
  rw [das_sc h (by rw [List.all_eq_true]; intro d hd; obtain ⟨s, _, rfl⟩ := List.mem_map.mp hd; rfl)]
  unfold dStrs
  rw [List.map_map]; rfl
theorem flat_strs (ss : List Str) : (ss.map V.str).all flatV = true := by
  rw [List.all_eq_true]; intro d hd; obtain ⟨s, _, rfl⟩ := List.mem_map.mp hd; rfl
/-- what x in .. may look into: texts -/
inductive Seq1 : Ar → List PyData → Prop
  | l (ds : List PyData) : Seq1 (.d (.list ds)) ds
  | t (ds : List PyData) : Seq1 (.d (.tuple ds)) ds
  | m (ds : List PyData) : Seq1 (.m ds) ds
theorem Seq1.at_ {N : List Addr} {H : Hp} {v : V} {ds : List PyData} (s : Seq1 x ds) (h : ArR K N H v x) : ∃ p vs, v = .ref p ∧ (SqL K H p vs ∨ SqT K H p vs) ∧ Das K (hid N H) vs ds := by
  cases s with
  | l =>
    cases h with
    | lst h1 h2 => exact ⟨_, _, rfl, .inl (SqL.of (hid_le _ _ h1)), h2⟩
  | t =>
    cases h with
    | tup h1 h2 => exact ⟨_, _, rfl, .inr (seqT_same hid_le h1), h2⟩
  | m =>
    obtain ⟨l, vs, rfl, _, h1, h2⟩ := h
    exact ⟨l, vs, rfl, .inl (SqL.of h1), h2⟩
theorem rv_in {neg : Bool} {s : Str} {ss : List Str} (hq : Seq1 y (dStrs ss)) : Rv K (rIn K neg) (.d (.str s)) y (.d (.bool (if neg then !decide (s ∈ ss) else decide (s ∈ ss)))) := fun N H v w al h1 h2 Q q => by
  obtain ⟨p, vs, rfl, hs, hd⟩ := hq.at_ h2
  have e := das_strs hd
  subst e
  refine ⟨p, _, rfl, hs, by rw [da_str h1]; rfl, flat_strs ss, ?_⟩
  rw [da_str h1, inV_str]
  cases neg
  · exact q _ H (Same.refl H) (Da.bl _)
  · exact q _ H (Same.refl H) (Da.bl _)
theorem rv_isIn {s : Str} {ss : List Str} (hq : Seq1 y (dStrs ss)) : Rv K (rIn K false) (.d (.str s)) y (.d (.bool (decide (s ∈ ss)))) := rv_in (neg := false) hq
theorem rv_notIn {s : Str} {ss : List Str} (hq : Seq1 y (dStrs ss)) : Rv K (rIn K true) (.d (.str s)) y (.d (.bool (!decide (s ∈ ss)))) := rv_in (neg := true) hq
/-! subscripts -/
theorem atI_da {N : List Addr} {H : Hp} {vs : List V} {ds : List PyData} {i : Int} {d : PyData} (h : Das K (hid N H) vs ds) (e : atI ds i = some d) : ∃ v, atI vs i = some v ∧ Da K (hid N H) v d := by
  unfold atI at e ⊢
  rw [h.len]
  obtain ⟨j, h1, h2⟩ := Option.bind_eq_some_iff.mp e
  rw [h1]
  exact h.get h2
theorem rv_ixL {ds : List PyData} {i : Int} {d : PyData} (e : atI ds i = some d) : Rv K (rIxL K) (.d (.list ds)) (.d (.int i)) (.d d) := fun N H v w al h1 h2 Q q => by
  cases h1 with
  | @lst a vs _ h1 h3 =>
    obtain ⟨u, h4, h5⟩ := atI_da h3 e
    exact ⟨_, _, i, u, rfl, da_int h2, SqL.of (hid_le _ _ h1), h4, q u H (Same.refl H) h5⟩
theorem rv_ixM {ds : List PyData} {i : Int} {d : PyData} (e : atI ds i = some d) : Rv K (rIxL K) (.m ds) (.d (.int i)) (.d d) := fun N H v w al h1 h2 Q q => by
  obtain ⟨l, vs, rfl, _, h3, h4⟩ := h1
  obtain ⟨u, h5, h6⟩ := atI_da h4 e
  exact ⟨_, _, i, u, rfl, da_int h2, SqL.of h3, h5, q u H (Same.refl H) h6⟩
theorem rv_ixT {ds : List PyData} {i : Int} {d : PyData} (e : atI ds i = some d) : Rv K (rIxT K) (.d (.tuple ds)) (.d (.int i)) (.d d) := fun N H v w al h1 h2 Q q => by
  cases h1 with
  | @tup a vs _ h1 h3 =>
    obtain ⟨u, h4, h5⟩ := atI_da h3 e
    exact ⟨_, _, i, u, rfl, da_int h2, seqT_same hid_le h1, h4, q u H (Same.refl H) h5⟩
theorem rv_ixS {s : Str} {i : Int} {c : Nat} (hl : s.length ≤ 1000000) (e : atI s.cps.toList i = some c) : Rv K rIxS (.d (.str s)) (.d (.int i)) (.d (.str ⟨#[c]⟩)) := fun N H v w al h1 h2 Q q =>
  ⟨s, i, c, da_str h1, da_int h2, sz_of hl, e, q _ H (Same.refl H) (Da.str _)⟩
/-! len, int, abs, max -/
theorem rc_len {ds : List PyData} (hq : Seq1 x ds) : Rc K (fun xs H Q => ∃ p ys, xs = [.ref p] ∧ (SqL K H p ys ∨ SqT K H p ys) ∧ Q (.int ys.length) H) [x] (.d (.int (ds.length : Nat))) := fun N H vs al h Q q => by
  cases h with
  | cons h hs =>
    cases hs
    obtain ⟨p, ys, rfl, h1, h2⟩ := hq.at_ h
    refine ⟨p, ys, rfl, h1, ?_⟩
    rw [h2.len]
    exact q _ H (Same.refl H) (Da.int _)
theorem rc_lenS {s : Str} (hl : s.length ≤ 1000000) : Rc K (fun xs H Q => ∃ z, xs = [.str z] ∧ z.length ≤ sizeLine ∧ Q (.int z.length) H) [.d (.str s)] (.d (.int (s.length : Nat))) := fun N H vs al h Q q => by
  cases h with
  | cons h hs =>
    cases hs
    rw [da_str h]
    exact ⟨s, rfl, sz_of hl, q _ H (Same.refl H) (Da.int _)⟩
theorem rc_int {i : Int} : Rc K (fun xs H Q => (∃ i, xs = [V.int i] ∧ Q (.int i) H) ∨ ∃ k, xs = [.bl k] ∧ Q (.int (if k then 1 else 0)) H) [.d (.int i)] (.d (.int i)) := fun N H vs al h Q q => by
  cases h with
  | cons h hs =>
    cases hs
    rw [da_int h]
    exact .inl ⟨i, rfl, q _ H (Same.refl H) (Da.int _)⟩
theorem rc_abs {i : Int} : Rc K (fun xs H Q => ∃ i, xs = [V.int i] ∧ Q (.int (if i < 0 then -i else i)) H) [.d (.int i)] (.d (.int (if i < 0 then -i else i))) := fun N H vs al h Q q => by
  cases h with
  | cons h hs =>
    cases hs
    rw [da_int h]
    exact ⟨i, rfl, q _ H (Same.refl H) (Da.int _)⟩
theorem rc_max2 {i j : Int} : Rc K (fun xs H Q => ∃ i j, xs = [V.int i, V.int j] ∧ Q (.int (if j > i then j else i)) H) [.d (.int i), .d (.int j)] (.d (.int (if j > i then j else i))) := fun N H vs al h Q q => by
  cases h with
  | cons h hs =>
    cases hs with
    | cons h2 hs =>
      cases hs
      rw [da_int h, da_int h2]
      exact ⟨i, j, rfl, q _ H (Same.refl H) (Da.int _)⟩
/-! list(..), tuple(..), + -/
theorem rcn_list {ds : List PyData} (hq : Seq1 x ds) : Rcn K (fun xs H Q => ∃ p ys, xs = [.ref p] ∧ (SqL K H p ys ∨ SqT K H p ys) ∧ ∀ l, H l = none → Q (.ref l) (upd H l (.lst ys))) [x] ds := fun N H vs al h Q q => by
  cases h with
  | cons h hs =>
    cases hs
    obtain ⟨p, ys, rfl, h1, h2⟩ := hq.at_ h
    exact ⟨p, ys, rfl, h1, fun l hl => q l ys _ hl (same_new hl) upd_same (h2.mono (same_hid_new hl))⟩
theorem ru_tuple {ds : List PyData} (hq : Seq1 x ds) : Ru K (kTup K) x (.d (.tuple ds)) := fun N H v al h Q q => by
  have fresh : ∀ {p : Addr} {ys : List V}, Das K (hid N H) ys ds → ∀ l, H l = none → Q (.ref l) (upd H l (.tup ys)) := fun h2 l hl =>
    q _ _ (same_new hl) (Da.tup (SqT.of (hid_new al hl)) (h2.mono (hid_mono (same_new hl))))
  cases hq with
  | l =>
    cases h with
    | lst h1 h2 => exact .inl ⟨_, _, rfl, SqL.of (hid_le _ _ h1), fresh (p := 0) h2⟩
  | t =>
    cases h with
    | tup h1 h2 => exact .inr ⟨_, _, rfl, seqT_same hid_le h1, q _ H (Same.refl H) (Da.tup h1 h2)⟩
  | m =>
    obtain ⟨l, vs, rfl, _, h1, h2⟩ := h
    exact .inl ⟨l, vs, rfl, SqL.of h1, fresh (p := 0) h2⟩
inductive Lst1 : Ar → List PyData → Prop
  | l (ds : List PyData) : Lst1 (.d (.list ds)) ds
  | m (ds : List PyData) : Lst1 (.m ds) ds
theorem Lst1.at_ {N : List Addr} {H : Hp} {v : V} {ds : List PyData} (s : Lst1 x ds) (h : ArR K N H v x) : ∃ p vs, v = .ref p ∧ H p = some (.lst vs) ∧ Das K (hid N H) vs ds := by
  cases s with
  | l =>
    cases h with
    | lst h1 h2 => exact ⟨_, _, rfl, hid_le _ _ h1, h2⟩
  | m =>
    obtain ⟨l, vs, rfl, _, h1, h2⟩ := h
    exact ⟨l, vs, rfl, h1, h2⟩
theorem rn_cat {ds es : List PyData} (h1 : Lst1 x ds) (h2 : Lst1 y es) (hl : ds.length + es.length ≤ 1000000) : Rn K rCat x y (ds ++ es) := fun N H v w al r1 r2 Q q => by
  obtain ⟨p, vs, rfl, a1, a2⟩ := h1.at_ r1
  obtain ⟨p2, ws, rfl, b1, b2⟩ := h2.at_ r2
  exact ⟨p, p2, vs, ws, rfl, rfl, a1, b1, by rw [a2.len, b2.len]; exact sz_of hl, fun l hn => q l _ _ hn (same_new hn) upd_same ((a2.append b2).mono (same_hid_new hn))⟩
theorem rv_catT {ds es : List PyData} (hl : ds.length + es.length ≤ 1000000) : Rv K (rCatA K) (.d (.tuple ds)) (.d (.tuple es)) (.d (.tuple (ds ++ es))) := fun N H v w al r1 r2 Q q => by
  cases r1 with
  | @tup a vs _ a1 a2 =>
  cases r2 with
  | @tup b ws _ b1 b2 =>
  refine ⟨a, b, vs, ws, rfl, rfl, seqT_same hid_le a1, seqT_same hid_le b1, by rw [a2.len, b2.len]; exact sz_of hl, fun e => ?_, fun e1 e2 => ?_, fun e1 e2 p hp => ?_⟩
  · subst e
    cases a2
    exact q _ H (Same.refl H) (Da.tup b1 b2)
  · subst e2
    cases b2
    rw [List.append_nil] at q
    exact q _ H (Same.refl H) (Da.tup a1 a2)
  · exact q _ _ (same_new hp) (Da.tup (SqT.of (hid_new al hp)) ((a2.append b2).mono (hid_mono (same_new hp))))
/-! slices -/
def Eo (K : PySem.W.Frag) (to : TO) (xs : Xs) (o : Option Int) : Prop := ∀ (N : List Addr) (H : Hp) (σ : L2.St), Alive N H → Sl K N H σ xs → ∀ Q : Option Int → Hp → Prop, (∀ H1, Same H H1 → Q o H1) → to σ H Q
theorem eo_none : Eo K tNoPart xs none := fun N H σ al sl Q q => q H (Same.refl H)
theorem eo_some {i : Int} (h : Ed K te xs (.d (.int i))) : Eo K (tPart te) xs (some i) := fun N H σ al sl Q q => h N H σ al sl _ fun v H1 e1 h1 => ⟨i, da_int h1, q H1 e1⟩
def cutD (xs : List PyData) (lo hi : Option Int) : List PyData := (xs.drop (HT.sIx xs.length 0 lo)).take (HT.sIx xs.length xs.length hi - HT.sIx xs.length 0 lo)
theorem cut_da {N : List Addr} {H : Hp} {vs : List V} {ds : List PyData} (h : Das K (hid N H) vs ds) (lo hi : Option Int) : Das K (hid N H) (cutV vs lo hi) (cutD ds lo hi) := by
  unfold cutV cutD
  rw [h.len]
  exact (h.drop _).take _
theorem en_slL {tl th : TO} {ds : List PyData} {lo hi : Option Int} (h : Ed K te xs x) (hq : Lst1 x ds) (h1 : Eo K tl xs lo) (h2 : Eo K th xs hi) : En K (tSl (rSlL K) te tl th) xs (cutD ds lo hi) := fun N H σ al sl Q q =>
  h N H σ al sl _ fun v H1 e1 r1 => h1 N H1 σ (al.mono e1) (sl.mono e1) _ fun H2 e2 => h2 N H2 σ ((al.mono e1).mono e2) ((sl.mono e1).mono e2) _ fun H3 e3 => by
    obtain ⟨p, vs, rfl, a1, a2⟩ := hq.at_ ((r1.mono e2).mono e3)
    exact ⟨p, vs, rfl, SqL.of a1, fun l hn => q l _ _ (free_of ((e1.trans e2).trans e3) hn) (((e1.trans e2).trans e3).trans (same_new hn)) upd_same ((cut_da a2 lo hi).mono (same_hid_new hn))⟩
theorem ed_slT {tl th : TO} {ds : List PyData} {lo hi : Option Int} (h : Ed K te xs (.d (.tuple ds))) (h1 : Eo K tl xs lo) (h2 : Eo K th xs hi) : Ed K (tSl (rSlA K) te tl th) xs (.d (.tuple (cutD ds lo hi))) := fun N H σ al sl Q q =>
  h N H σ al sl _ fun v H1 e1 r1 => h1 N H1 σ (al.mono e1) (sl.mono e1) _ fun H2 e2 => h2 N H2 σ ((al.mono e1).mono e2) ((sl.mono e1).mono e2) _ fun H3 e3 => by
    have r3 := (r1.mono e2).mono e3
    cases r3 with
    | @tup a vs _ a1 a2 =>
    have al3 := ((al.mono e1).mono e2).mono e3
    refine ⟨a, vs, rfl, seqT_same hid_le a1, fun hw => ?_, fun hw p hp => ?_⟩
    · refine q _ _ ((e1.trans e2).trans e3) ?_
      have ec : cutD ds lo hi = ds := by
        unfold cutD
        rw [a2.len] at hw
        rw [hw.1, hw.2, List.drop_zero, Nat.sub_zero, List.take_length]
      rw [ec]
      exact Da.tup a1 a2
    · exact q _ _ (((e1.trans e2).trans e3).trans (same_new hp)) (Da.tup (SqT.of (hid_new al3 hp)) ((cut_da a2 lo hi).mono (hid_mono (same_new hp))))
theorem ed_slS {tl th : TO} {s : Str} {lo hi : Option Int} (h : Ed K te xs (.d (.str s))) (hl : s.length ≤ 1000000) (h1 : Eo K tl xs lo) (h2 : Eo K th xs hi) : Ed K (tSl rSlS te tl th) xs (.d (.str (cutS s lo hi))) := fun N H σ al sl Q q =>
  h N H σ al sl _ fun v H1 e1 r1 => h1 N H1 σ (al.mono e1) (sl.mono e1) _ fun H2 e2 => h2 N H2 σ ((al.mono e1).mono e2) ((sl.mono e1).mono e2) _ fun H3 e3 =>
    ⟨s, da_str r1, sz_of hl, q _ _ ((e1.trans e2).trans e3) (Da.str _)⟩
/-- a slice of a list that is read -/
theorem en_slS {tl th : TO} {ds : List PyData} {lo hi : Option Int} (h : Ed K te xs (.s (ds.map ofD))) (hs : ds.all scD = true) (h1 : Eo K tl xs lo) (h2 : Eo K th xs hi) : En K (tSl (rSlL K) te tl th) xs (cutD ds lo hi) := fun N H σ al sl Q q =>
  h N H σ al sl _ fun v H1 e1 r1 => h1 N H1 σ (al.mono e1) (sl.mono e1) _ fun H2 e2 => h2 N H2 σ ((al.mono e1).mono e2) ((sl.mono e1).mono e2) _ fun H3 e3 => by
    obtain ⟨p, rfl, a1⟩ := (r1.mono e2).mono e3
    exact ⟨p, _, rfl, Same.seq hid_le a1, fun l hn => q l _ _ (free_of ((e1.trans e2).trans e3) hn) (((e1.trans e2).trans e3).trans (same_new hn)) upd_same ((cut_da (N := N) (das_of hs) lo hi).mono (same_hid_new hn))⟩
theorem en_rev {ds : List PyData} (h : Ed K te xs x) (hq : Lst1 x ds) : En K (tRevL K te) xs ds.reverse := fun N H σ al sl Q q =>
  h N H σ al sl _ fun v H1 e1 r1 => by
    obtain ⟨p, vs, rfl, a1, a2⟩ := hq.at_ r1
    exact ⟨p, vs, rfl, SqL.of a1, fun l hn => q l _ _ (free_of e1 hn) (e1.trans (same_new hn)) upd_same (a2.reverse.mono (same_hid_new hn))⟩
/-! deep ==, in -/
theorem da_hid {N : List Addr} {H : Hp} {v : V} {d : PyData} (c : SeqAt.shaped d = true) (h : Da K (hid N H) v d) : Dp K H v d := (h.mono hid_le).dp (SeqAt.canLay_of_shaped c)
inductive Dat : Ar → PyData → Prop
  | d (x : PyData) : Dat (.d x) x
  | m (ds : List PyData) : Dat (.m ds) (.list ds)
theorem Dat.dp {N : List Addr} {H : Hp} {v : V} {d : PyData} (c : SeqAt.shaped d = true) (s : Dat x d) (h : ArR K N H v x) : Dp K H v d := by
  cases s with
  | d => exact da_hid c h
  | m =>
    obtain ⟨l, vs, rfl, _, h1, h2⟩ := h
    exact .lst (SqL.of h1) (Das.dp (by have := SeqAt.canLay_of_shaped c; simpa [PyData.canLay0] using this) (h2.mono hid_le))
theorem rv_neD {a b : PyData} (h1 : Dat x a) (h2 : Dat y b) (sa : SeqAt.shaped a = true) (sb : SeqAt.shaped b = true) : Rv K (rNeD K) x y (.d (.bool (!PyData.eqv a b))) := fun N H v w al r1 r2 Q q =>
  ⟨a, b, h1.dp sa r1, h2.dp sb r2, sa, sb, q _ H (Same.refl H) (Da.bl _)⟩
theorem rv_notInD {a : PyData} {ds : List PyData} (h1 : Dat x a) (h2 : Dat y (.list ds)) (sa : SeqAt.shaped a = true) (sb : SeqAt.shaped (.list ds) = true) : Rv K (rNotInD K) x y (.d (.bool (!ds.any fun z => PyData.eqv z a))) := fun N H v w al r1 r2 Q q =>
  ⟨a, ds, h1.dp sa r1, h2.dp sb r2, sa, sb, q _ H (Same.refl H) (Da.bl _)⟩
/-! fields of a board -/
theorem fld_lookup {f : Str} {fs : List (Str × V)} : fs.lookup f = fs.lookup f := rfl
theorem ed_fld {B : BR} {f : Str} {d : PyData} (hc : Cls K (He.ga K "Board")) (hn : NoAttr K (He.ga K "Board") f) (h : Ed K te xs (.b B))
    (hf : ∀ (N : List Addr) (H : Hp) (v1 v2 v3 v4 v5 : V), Da K (hid N H) v1 (.tuple (dStrs B.nodes)) → Da K (hid N H) v2 (.tuple (dStrs B.sw)) → Da K (hid N H) v3 (.tuple (dLoads B.rel)) →
      Da K (hid N H) v4 (.tuple (dLoads B.lamps)) → Da K (hid N H) v5 (.tuple (dCons B.con)) → ∃ v, (bFs v1 v2 v3 v4 v5).lookup f = some v ∧ Da K (hid N H) v d) : Ed K (tFld K te f) xs (.d d) := fun N H σ al sl Q q =>
  h N H σ al sl _ fun v H1 e1 r1 => by
    obtain ⟨a, rfl, b⟩ := r1
    obtain ⟨dx, v1, v2, v3, v4, v5, h0, h1, h2, h3, h4, h5⟩ := b.ex
    obtain ⟨v, l, dv⟩ := hf N H1 v1 v2 v3 v4 v5 h1 h2 h3 h4 h5
    exact ⟨a, _, dx, _, v, rfl, hid_le _ _ h0, hc, hn, l, q v H1 e1 dv⟩
/-- a property or a method without arguments: the def is called with the board -/
theorem ed_prop {B : BR} {R : List Ar → Ar → Prop} {E : XK} (h : Ed K te xs (.b B)) (r : R [.b B] z) : Ed K (tProp (He.ga K "Board") (FS K R) [] E te) xs z := fun N H σ al sl Q q =>
  h N H σ al sl _ fun v H1 e1 r1 => by
    obtain ⟨a, rfl, b⟩ := id r1
    obtain ⟨dx, v1, v2, v3, v4, v5, h0, _⟩ := b.ex
    exact ⟨a, dx, _, rfl, hid_le _ _ h0, N, [.b B], z, al.mono e1, .cons r1 .nil, r, fun v H2 e2 h2 => q v H2 (e1.trans e2) h2⟩
theorem ed_meth {B : BR} {R : List Ar → Ar → Prop} {E : XK} {m : Str} {ta : TA} {as : List Ar} (h : Ed K te xs (.b B)) (hm : ∀ v1 v2 v3 v4 v5, (bFs v1 v2 v3 v4 v5).lookup m = none) (ha : Ea K ta xs as) (r : R (.b B :: as) z) :
    Ed K (tMeth (He.ga K "Board") m (FS K R) [] E te ta) xs z := fun N H σ al sl Q q =>
  h N H σ al sl _ fun v H1 e1 r1 => by
    obtain ⟨a, rfl, b⟩ := id r1
    obtain ⟨dx, v1, v2, v3, v4, v5, h0, _⟩ := b.ex
    refine ⟨a, dx, _, rfl, hid_le _ _ h0, hm _ _ _ _ _, ha N H1 σ (al.mono e1) (sl.mono e1) _ fun vs H2 e2 r2 => ?_⟩
    refine ⟨N, .b B :: as, z, (al.mono e1).mono e2, .cons (r1.mono e2) ?_, r, fun v H3 e3 h3 => q v H3 ((e1.trans e2).trans e3) h3⟩
    rw [List.append_nil]; exact r2
/-! d[k] of a dict that is read -/
theorem ed_dget {kvs : List (Key × V)} {k : Key} {v : V} {d : PyData} (hk : toD (kV k) = d) (hv : valV kvs k = some v) (hs : isSc v = true) (h : Ed K ta xs (.k kvs)) (hi : Ed K tb xs (.d d)) : Ed K (tDGet ta tb) xs (.d (toD v)) := fun N H σ al sl Q q =>
  h N H σ al sl _ fun x H1 e1 r1 => hi N H1 σ (al.mono e1) (sl.mono e1) _ fun y H2 e2 r2 => by
    obtain ⟨a, rfl, ha⟩ := r1.mono e2
    have ey : y = kV k := by
      cases k with
      | inl i => subst hk; exact da_int r2
      | inr s => subst hk; exact da_str r2
    subst ey
    have g := DGet.k (k := k) (hid_le _ _ ha)
    rw [hv] at g
    exact ⟨a, v, rfl, g, q v H2 (e1.trans e2) (da_sc hs)⟩
/-! x.index(y) of texts -/
omit K ta tb te tx tr t u xs x y z in
theorem idx_le : ∀ (ss : List Str) (m : Nat) (s : Str), ss[m]? = some s → ss.idxOf s ≤ m
  | [], m, s, h => by simp at h
  | a :: ss, 0, s, h => by
    simp only [List.getElem?_cons_zero, Option.some.injEq] at h
    subst h
    simp
  | a :: ss, m + 1, s, h => by
    have ih := idx_le ss m s (by simpa using h)
    rw [List.idxOf_cons]
    cases q : (a == s) with
    | true => exact Nat.zero_le _
    | false => show ss.idxOf s + 1 ≤ m + 1; omega
theorem ed_index {s : Str} {ss : List Str} {ta : TA} (hs : s ∈ ss) (h : Ed K te xs (.d (.list (dStrs ss)))) (ha : Ea K ta xs [.d (.str s)]) : Ed K (tBM K "list" (rIndex K) te ta) xs (.d (.int (ss.idxOf s : Nat))) := fun N H σ al sl Q q =>
  h N H σ al sl _ fun x H1 e1 r1 => by
    cases r1 with
    | @lst a vs _ h1 h2 =>
    have ev := das_strs h2
    subst ev
    refine ⟨.inl ⟨rfl, _, SqL.of (hid_le _ _ h1)⟩, ha N H1 σ (al.mono e1) (sl.mono e1) _ fun ys H2 e2 r2 => ?_⟩
    cases r2 with
    | cons r2 rr =>
      cases rr
      rw [da_str r2]
      have hi : ss.idxOf s < ss.length := List.idxOf_lt_length_iff.mpr hs
      refine ⟨a, ss.map V.str, .str s, ss.idxOf s, .str s, rfl, rfl, SqL.of (e2 _ _ (hid_le _ _ h1)), rfl, flat_strs ss, ?_, ?_, fun m z' hm hz => ?_, q _ H2 (e1.trans e2) (Da.int _)⟩
      · rw [List.getElem?_map, List.getElem?_eq_getElem hi, List.getElem_idxOf hi]; rfl
      · show decide (s = s) = true
        exact decide_eq_true rfl
      · rw [List.getElem?_map] at hz
        obtain ⟨t', ht, rfl⟩ := Option.map_eq_some_iff.mp hz
        show decide (t' = s) = false
        refine decide_eq_false fun e => ?_
        subst e
        have h3 : ss.idxOf t' ≤ m := idx_le ss m t' ht
        omega
end
end K58
end
/-! DS -/
section
set_option maxRecDepth 100000
set_option maxHeartbeats 1000000
/-! Targets, iterators, comprehensions, statements. -/
namespace K58
open PySem PySem.Spec L2
section
variable {K : PySem.W.Frag} {ta tb te tx : TE} {tr : TA} {t u : TT} {xs : Xs} {x y z : Ar}

/-! ### targets -/
/-- the value is stored: the names hold ys; js: the places that are stored to -/
structure Gd (K : PySem.W.Frag) (g : TG) (xs : Xs) (d : PyData) (js : List Nat) (ys : Xs) : Prop where
  run : ∀ (N : List Addr) (H : Hp) (σ : L2.St) (v : V), Sl K N H σ xs → Da K (hid N H) v d → ∀ Q : L2.St → Hp → Prop, (∀ σ', Sl K N H σ' ys → (σ'.length = σ.length ∧ ∀ i, i ∉ js → σ'[i]? = σ[i]?) → Q σ' H) → g v σ H Q
  out : ∀ i, i ∉ js → ys[i]? = xs[i]?
  nm : ∀ i ∈ js, ∀ ds, ys[i]? ≠ some (some (.m ds))
theorem gd_name {i : Nat} {d : PyData} : Gd K (gName i) xs d [i] (xs.set i (some (.d d))) where
  run := fun N H σ v sl hv Q q =>
    q _ (sl.set i (x := .d d) hv) ⟨List.length_set, fun j hj => by
      rw [List.getElem?_set, if_neg]
      intro e; subst e; exact hj List.mem_cons_self⟩
  out := fun j hj => by
    rw [List.getElem?_set, if_neg]
    intro e; subst e; exact hj List.mem_cons_self
  nm := fun j hj ds h => by
    rw [List.mem_singleton] at hj
    subst hj
    rw [List.getElem?_set, if_pos rfl] at h
    split at h <;> cases h
structure Gds (K : PySem.W.Frag) (g : TGs) (xs : Xs) (ds : List PyData) (js : List Nat) (ys : Xs) : Prop where
  run : ∀ (N : List Addr) (H : Hp) (σ : L2.St) (vs : List V), Sl K N H σ xs → Das K (hid N H) vs ds → ∀ Q : L2.St → Hp → Prop, (∀ σ', Sl K N H σ' ys → (σ'.length = σ.length ∧ ∀ i, i ∉ js → σ'[i]? = σ[i]?) → Q σ' H) → g vs σ H Q
  out : ∀ i, i ∉ js → ys[i]? = xs[i]?
  nm : ∀ i ∈ js, ∀ ds, ys[i]? ≠ some (some (.m ds))
theorem gds_nil : Gds K gNil xs [] [] xs where
  run := fun N H σ vs sl hv Q q => by
    cases hv
    exact ⟨rfl, q σ sl ⟨rfl, fun _ _ => rfl⟩⟩
  out := fun _ _ => rfl
  nm := fun _ h => nomatch h
theorem gds_cons {g : TG} {gs : TGs} {d : PyData} {ds : List PyData} {js ks : List Nat} {ys zs : Xs} (h : Gd K g xs d js ys) (hr : Gds K gs ys ds ks zs) : Gds K (gCons g gs) xs (d :: ds) (js ++ ks) zs where
  run := fun N H σ vs sl hv Q q => by
    cases hv with
    | @cons v vs _ _ h1 h2 =>
    refine ⟨v, vs, rfl, h.run N H σ v sl h1 _ fun σ' sl' e => hr.run N H σ' vs sl' h2 Q fun σ2 sl2 e2 => q σ2 sl2 ⟨e2.1.trans e.1, fun i hi => ?_⟩⟩
    rw [List.mem_append, not_or] at hi
    rw [e2.2 i hi.2, e.2 i hi.1]
  out := fun i hi => by
    rw [List.mem_append, not_or] at hi
    rw [hr.out i hi.2, h.out i hi.1]
  nm := fun i hi ds => by
    by_cases q : i ∈ ks
    · exact hr.nm i q ds
    · rw [hr.out i q]
      rcases List.mem_append.mp hi with z | z
      · exact h.nm i z ds
      · exact absurd z q
theorem gd_tup {n : Nat} {gs : TGs} {ds : List PyData} {js : List Nat} {ys : Xs} (h : Gds K gs xs ds js ys) (hn : ds.length = n) : Gd K (gTup K n gs) xs (.tuple ds) js ys where
  run := fun N H σ v sl hv Q q => by
    cases hv with
    | @tup a vs _ h1 h2 =>
    exact ⟨a, vs, rfl, seqT_same hid_le h1, by rw [h2.len, hn], h.run N H σ vs sl h2 Q q⟩
  out := h.out
  nm := h.nm
theorem gd_unl {n : Nat} {gs : TGs} {ds : List PyData} {js : List Nat} {ys : Xs} (h : Gds K gs xs ds js ys) (hn : ds.length = n) : Gd K (gUnl K n gs) xs (.list ds) js ys where
  run := fun N H σ v sl hv Q q => by
    cases hv with
    | @lst a vs _ h1 h2 =>
    exact ⟨a, vs, rfl, SqL.of (hid_le _ _ h1), by rw [h2.len, hn], h.run N H σ vs sl h2 Q q⟩
  out := h.out
  nm := h.nm
theorem wipe_eq {σ σ' : L2.St} : ∀ {vs : List Nat}, σ'.length = σ.length → (∀ i, i ∉ vs → σ'[i]? = σ[i]?) → L2.wipe σ' vs = L2.wipe σ vs := by
  intro vs hl h
  refine List.ext_getElem? fun i => ?_
  by_cases hi : i ∈ vs
  · have key : ∀ (τ : L2.St) (vs : List Nat), i ∈ vs → (L2.wipe τ vs)[i]? = if i < τ.length then some none else none := by
      intro τ vs
      induction vs with
      | nil => intro q; exact nomatch q
      | cons v vs ih =>
        intro q
        show ((L2.wipe τ vs).set v none)[i]? = _
        rw [List.getElem?_set]
        by_cases e : v = i
        · subst e
          rw [if_pos rfl, wipe_length]
        · rw [if_neg e]
          rcases List.mem_cons.mp q with z | z
          · exact absurd z.symm e
          · exact ih z
    rw [key σ' vs hi, key σ vs hi, hl]
  · rw [wipe_out hi, wipe_out hi, h i hi]
theorem wipe_idem (σ : L2.St) (vs : List Nat) : L2.wipe (L2.wipe σ vs) vs = L2.wipe σ vs := wipe_eq (wipe_length σ vs) fun i hi => wipe_out hi

/-! ### what is walked -/
structure Walks (K : PySem.W.Frag) (J : It) (ds : List PyData) (N : List Addr) (H1 : Hp) : Prop where
  to : ∀ (N' : List Addr) (H' : Hp), Alive N' H' → Same (hid N H1) (hid N' H') → ∀ i, (i < ds.length → J.go i H') ∧ (i = ds.length → J.stop i H') ∧
    (i < ds.length → ∀ v H'', J.yld i H' v H'' → Same H' H'' ∧ ∃ d, ds[i]? = some d ∧ Da K (hid N' H'') v d)
def Id (K : PySem.W.Frag) (wi : TI) (xs : Xs) (ds : List PyData) : Prop := ∀ (N : List Addr) (H : Hp) (σ : L2.St), Alive N H → Sl K N H σ xs → ∀ R : It → Hp → Prop, (∀ J H1, Same H H1 → Walks K J ds N H1 → R J H1) → wi σ H R
theorem id_list {ds : List PyData} (h : Ed K te xs (.d (.list ds))) : Id K (iList K te) xs ds := fun N H σ al sl R q =>
  h N H σ al sl _ fun v H1 e1 r1 => by
    cases r1 with
    | @lst a vs _ h1 h2 =>
    refine ⟨a, rfl, ⟨vs, SqL.of (hid_le _ _ h1)⟩, q _ H1 e1 ⟨fun N' H' al' e i => ?_⟩⟩
    have ha : H' a = some (.lst vs) := hid_le _ _ (e _ _ h1)
    have hd : Das K (hid N' H') vs ds := h2.mono e
    refine ⟨fun hi => ⟨vs, vs[i]'(by rw [hd.len]; exact hi), SqL.of ha, by simp [hd.len, hi]⟩, fun hi => ⟨vs, SqL.of ha, by rw [hd.len, hi]; exact Nat.le_refl _⟩, fun hi v H'' y => ?_⟩
    obtain ⟨rfl, y⟩ := y
    obtain ⟨d, hd1, hd2⟩ := hd.getV (y vs (SqL.of ha))
    exact ⟨Same.refl _, d, hd1, hd2⟩
theorem id_tup {ds : List PyData} (h : Ed K te xs (.d (.tuple ds))) : Id K (iTup K te) xs ds := fun N H σ al sl R q =>
  h N H σ al sl _ fun v H1 e1 r1 => by
    cases r1 with
    | @tup a vs _ h1 h2 =>
    refine ⟨a, rfl, ⟨vs, seqT_same hid_le h1⟩, q _ H1 e1 ⟨fun N' H' al' e i => ?_⟩⟩
    have ha : SqT K H' a vs := seqT_same hid_le (seqT_same e h1)
    have hd : Das K (hid N' H') vs ds := h2.mono e
    refine ⟨fun hi => ⟨vs, vs[i]'(by rw [hd.len]; exact hi), ha, by simp [hd.len, hi]⟩, fun hi => ⟨vs, ha, by rw [hd.len, hi]; exact Nat.le_refl _⟩, fun hi v H'' y => ?_⟩
    obtain ⟨rfl, y⟩ := y
    obtain ⟨d, hd1, hd2⟩ := hd.getV (y vs ha)
    exact ⟨Same.refl _, d, hd1, hd2⟩
/-- the pairs of enumerate -/
def enumD (ds : List PyData) : List PyData := (List.range ds.length).map fun i => .tuple [.int (i : Nat), ds.getD i .none]
theorem enumD_len (ds : List PyData) : (enumD ds).length = ds.length := by unfold enumD; rw [List.length_map, List.length_range]
theorem enumD_get {ds : List PyData} {i : Nat} {d : PyData} (h : ds[i]? = some d) : (enumD ds)[i]? = some (.tuple [.int (i : Nat), d]) := by
  unfold enumD
  have hi := (List.getElem?_eq_some_iff.mp h).1
  rw [List.getElem?_map, List.getElem?_range hi]
  simp [List.getD_eq_getElem?_getD, h]
theorem enum_yld {N' : List Addr} {H' H'' : Hp} {T : Addr} {v w : V} {ds : List PyData} {vs : List V} {i : Nat} (al : Alive N' H') (hd : Das K (hid N' H') vs ds) (hT : H' T = none) (hx : vs[i]? = some w) :
    Same H' (upd H' T (.tup [.int (i : Nat), w])) ∧ ∃ d, (enumD ds)[i]? = some d ∧ Da K (hid N' (upd H' T (.tup [.int (i : Nat), w]))) (.ref T) d := by
  obtain ⟨d, hd1, hd2⟩ := hd.getV hx
  refine ⟨same_new hT, _, enumD_get hd1, Da.tup (SqT.of (hid_new al hT)) (.cons (.int _) (.cons (hd2.mono (hid_mono (same_new hT))) .nil))⟩
theorem id_enum {ds : List PyData} (h : Ed K te xs x) (hx : Lst1 x ds) (hnm : x.nm = true) : Id K (iEnum K (tCons te tNil)) xs (enumD ds) := fun N H σ al sl R q =>
  h N H σ al sl _ fun v H1 e1 r1 => by
    cases hx with
    | m => cases hnm
    | l =>
    cases r1 with
    | @lst a vs _ h1 h2 =>
    refine ⟨a, vs, rfl, SqL.of (hid_le _ _ h1), q _ H1 e1 ⟨fun N' H' al' e i => ?_⟩⟩
    have ha : H' a = some (.lst vs) := hid_le _ _ (e _ _ h1)
    have hd : Das K (hid N' H') vs ds := h2.mono e
    rw [enumD_len]
    refine ⟨fun hi => ⟨vs, vs[i]'(by rw [hd.len]; exact hi), SqL.of ha, by simp [hd.len, hi]⟩, fun hi => ⟨vs, SqL.of ha, by rw [hd.len, hi]; exact Nat.le_refl _⟩, fun hi v H'' y => ?_⟩
    obtain ⟨T, w, rfl, hT, rfl, y⟩ := y
    exact enum_yld (v := .non) (H'' := H') al' hd hT (y vs (SqL.of ha))
theorem id_enumT {ds : List PyData} (h : Ed K te xs (.d (.tuple ds))) : Id K (iEnumT K (tCons te tNil)) xs (enumD ds) := fun N H σ al sl R q =>
  h N H σ al sl _ fun v H1 e1 r1 => by
    cases r1 with
    | @tup a vs _ h1 h2 =>
    refine ⟨a, vs, rfl, seqT_same hid_le h1, q _ H1 e1 ⟨fun N' H' al' e i => ?_⟩⟩
    have ha : SqT K H' a vs := seqT_same hid_le (seqT_same e h1)
    have hd : Das K (hid N' H') vs ds := h2.mono e
    rw [enumD_len]
    refine ⟨fun hi => ⟨vs, vs[i]'(by rw [hd.len]; exact hi), ha, by simp [hd.len, hi]⟩, fun hi => ⟨vs, ha, by rw [hd.len, hi]⟩, fun hi v H'' y => ?_⟩
    obtain ⟨T, w, rfl, hT, rfl, y⟩ := y
    exact enum_yld (v := .non) (H'' := H') al' hd hT (y vs ha)
def rangeD (n : Nat) : List PyData := (List.range n).map fun i => .int (i : Nat)
theorem rangeD_len (n : Nat) : (rangeD n).length = n := by unfold rangeD; rw [List.length_map, List.length_range]
theorem rangeD_get {n i : Nat} (h : i < n) : (rangeD n)[i]? = some (.int (i : Nat)) := by
  unfold rangeD
  rw [List.getElem?_map, List.getElem?_range h]; rfl
theorem id_range {n : Nat} (hn : n ≤ 1000000) (h : Ed K te xs (.d (.int (n : Nat)))) : Id K (iRng1 (tCons te tNil)) xs (rangeD n) := fun N H σ al sl R q =>
  h N H σ al sl _ fun v H1 e1 r1 => by
    rw [da_int r1]
    refine ⟨(n : Nat), rfl, by omega, by omega, q _ H1 e1 ⟨fun N' H' al' e i => ?_⟩⟩
    rw [rangeD_len]
    refine ⟨fun hi => ?_, fun hi => ?_, fun hi v H'' y => ?_⟩
    · show i < ((n : Nat) : Int).toNat
      simpa using hi
    · show ((n : Nat) : Int).toNat ≤ i
      simp; omega
    · obtain ⟨rfl, rfl⟩ := y
      refine ⟨Same.refl _, .int ((0 : Int) + (i : Nat)), ?_, Da.int _⟩
      rw [Int.zero_add]; exact rangeD_get hi
def signsD (s : Str) : List PyData := s.cps.toList.map fun c => .str ⟨#[c]⟩
theorem id_str {s : Str} (h : Ed K te xs (.d (.str s))) : Id K (iStr te) xs (signsD s) := fun N H σ al sl R q =>
  h N H σ al sl _ fun v H1 e1 r1 => by
    rw [da_str r1]
    refine ⟨s, rfl, q _ H1 e1 ⟨fun N' H' al' e i => ?_⟩⟩
    have hl : (signsD s).length = s.cps.size := by unfold signsD; rw [List.length_map, Array.length_toList]
    rw [hl]
    refine ⟨fun hi => hi, fun hi => Nat.le_of_eq hi.symm, fun hi v H'' y => ?_⟩
    obtain ⟨rfl, c, hc, rfl⟩ := y
    refine ⟨Same.refl _, .str ⟨#[c]⟩, ?_, Da.str _⟩
    unfold signsD
    rw [List.getElem?_map, Array.getElem?_toList, hc]; rfl

/-! ### comprehensions -/
theorem take_snoc {α : Type} {l : List α} {i : Nat} {x : α} (h : l[i]? = some x) : l.take (i + 1) = l.take i ++ [x] := by
  rw [List.take_add_one, h]; rfl
theorem en_lc {wi : TI} {g : TG} {tt : TT} {vs js : List Nat} {ds : List PyData} {ys : PyData → Xs} {f : PyData → Bool} {v : PyData → PyData} (hi : Id K wi xs ds) (hg : ∀ d ∈ ds, Gd K g (wipeX xs vs) d js (ys d)) (hjs : ∀ i ∈ js, i ∈ vs)
    (ht : ∀ d ∈ ds, Et K tt (ys d) (f d)) (he : ∀ d ∈ ds, f d = true → Ed K te (ys d) (.d (v d))) (hl : ds.length ≤ 100000) : En K (tLc wi g tt te vs) xs ((ds.filter f).map v) := fun N H σ al sl Q q =>
  hi N H σ al sl _ fun J H1 e1 W => fun D hD => by
    have al1 := al.mono e1
    have sl1 := sl.mono e1
    let acc : Nat → List PyData := fun i => ((ds.take i).filter f).map v
    have hw : ∀ {H' : Hp}, Same H1 H' → Same (hid N H1) (hid (D :: N) H') := fun e a o h => by
      obtain ⟨z1, z2⟩ := hid_get h
      have ne : a ≠ D := ne_of_none z2 hD
      rw [hid_out (by simp [ne, z1])]
      exact e a o z2
    refine ⟨fun i m H' => m = ds.length - i ∧ i ≤ ds.length ∧ Same H1 H' ∧ ∃ ws, H' D = some (.lst ws) ∧ Das K (hid (D :: N) H') ws (acc i), ⟨_, rfl, Nat.zero_le _, same_new hD, [], upd_same, by simpa [acc] using Das.nil⟩, fun i m H' hW => ?_⟩
    obtain ⟨hm, hile, eH, ws, hws, hdas⟩ := hW
    have alD : Alive (D :: N) H' := fun a ha => by
      rcases List.mem_cons.mp ha with rfl | ha
      · exact ⟨_, hws⟩
      · exact al1.mono eH a ha
    obtain ⟨w1, w2, w3⟩ := W.to (D :: N) H' alD (hw eH) i
    by_cases hlt : i < ds.length
    · refine .inr ⟨w1 hlt, fun H2 => i + 1 ≤ ds.length ∧ Same H1 H2 ∧ ∃ ws, H2 D = some (.lst ws) ∧ Das K (hid (D :: N) H2) ws (acc (i + 1)), fun H2 ⟨a1, a2, a3⟩ => ⟨ds.length - (i + 1), by omega, rfl, a1, a2, a3⟩, fun x H2 hy => ?_⟩
      obtain ⟨e2, d, hd, hx⟩ := w3 hlt x H2 hy
      have hdm : d ∈ ds := List.mem_of_getElem? hd
      have slD : Sl K (D :: N) H2 (L2.wipe σ vs) (wipeX xs vs) := (sl1.mono' (fun a ha => List.mem_cons_of_mem _ ha) (fun a ha o h => (eH.trans e2) a o h) (hw (eH.trans e2))).wipe vs
      have alD2 := alD.mono e2
      refine (hg d hdm).run (D :: N) H2 _ x slD hx _ fun σ2 sl2 ew => ⟨?_, ht d hdm (D :: N) H2 σ2 alD2 sl2 _ fun H3 e3 => ?_⟩
      · rw [← wipe_idem σ vs]
        exact wipe_eq ew.1 fun i hi => ew.2 i fun q => hi (hjs i q)
      · by_cases hf : f d = true
        · rw [if_pos hf]
          refine he d hdm hf (D :: N) H3 σ2 (alD2.mono e3) (sl2.mono e3) _ fun y H4 e4 hy4 => ?_
          have eH4 : Same H' H4 := (e2.trans e3).trans e4
          have h4 : H4 D = some (.lst ws) := eH4 _ _ hws
          have hl4 : ws.length ≤ ds.length := by
            rw [hdas.len]
            show (((ds.take i).filter f).map v).length ≤ _
            rw [List.length_map]
            exact Nat.le_trans (List.length_filter_le _ _) (by rw [List.length_take]; omega)
          refine ⟨ws, h4, sz_lt (by omega), hlt, fun a o h => ?_, ws ++ [y], upd_same, ?_⟩
          · have ne : a ≠ D := ne_of_none h hD
            rw [upd_ne ne]
            exact (eH.trans eH4) a o h
          · rw [hid_upd List.mem_cons_self]
            have e5 : acc (i + 1) = acc i ++ [v d] := by
              show ((ds.take (i + 1)).filter f).map v = _
              rw [take_snoc hd, List.filter_append, List.map_append, List.filter_cons, if_pos hf]
              rfl
            rw [e5]
            exact (hdas.mono (hid_mono eH4)).append (.cons hy4 .nil)
        · have hf' : f d = false := by cases q : f d <;> simp_all
          rw [if_neg hf]
          refine ⟨hlt, eH.trans (e2.trans e3), ws, (e2.trans e3) _ _ hws, ?_⟩
          have e5 : acc (i + 1) = acc i := by
            show ((ds.take (i + 1)).filter f).map v = _
            rw [take_snoc hd, List.filter_append, List.map_append, List.filter_cons, if_neg hf, List.filter_nil, List.map_nil, List.append_nil]
          rw [e5]
          exact hdas.mono (hid_mono (e2.trans e3))
    · have ei : i = ds.length := by omega
      refine .inl ⟨w2 ei, ?_⟩
      have e5 : acc i = (ds.filter f).map v := by
        show ((ds.take i).filter f).map v = _
        rw [ei, List.take_length]
      rw [e5] at hdas
      exact q D ws H' (free_of e1 hD) (e1.trans eH) hws hdas
end
end K58
end
/-! DT -/
section
set_option maxRecDepth 100000
set_option maxHeartbeats 1000000
/-! Statements, by what the names hold ahead and behind. -/
namespace K58
open PySem PySem.Spec L2

structure Wf (G : List Addr) (Hb : Hp) (F : List Addr) (H : Hp) : Prop where
  gl : ∀ a ∈ G, ∃ o, Hb a = some o
  ex : Same Hb H
  fr : ∀ a ∈ F, Hb a = none ∧ ∃ o, H a = some o
theorem Wf.alive {G F : List Addr} {Hb H : Hp} (w : Wf G Hb F H) : Alive (G ++ F) H := fun a ha => by
  rcases List.mem_append.mp ha with h | h
  · obtain ⟨o, e⟩ := w.gl a h
    exact ⟨o, w.ex a o e⟩
  · exact (w.fr a h).2
theorem Wf.same {G F : List Addr} {Hb H H1 : Hp} (w : Wf G Hb F H) (e : Same H H1) : Wf G Hb F H1 :=
  ⟨w.gl, w.ex.trans e, fun a ha => let ⟨h, o, q⟩ := w.fr a ha; ⟨h, o, e a o q⟩⟩
theorem Wf.notG {G F : List Addr} {Hb H : Hp} (w : Wf G Hb F H) {l : Addr} (h : l ∈ F) : l ∉ G := fun hg => by
  obtain ⟨o, e⟩ := w.gl l hg
  rw [(w.fr l h).1] at e; cases e
def Own (σ : L2.St) (xs : Xs) : Prop := ∀ (i j : Nat) (ds es : List PyData), xs[i]? = some (some (.m ds)) → xs[j]? = some (some (.m es)) → σ[i]? = σ[j]? → i = j
structure Sx (K : PySem.W.Frag) (G : List Addr) (Hb : Hp) (F : List Addr) (H : Hp) (σ : L2.St) (xs : Xs) : Prop where
  wf : Wf G Hb F H
  sl : Sl K (G ++ F) H σ xs
  own : Own σ xs
section
variable {K : PySem.W.Frag} {G F : List Addr} {Hb H H1 : Hp} {σ : L2.St} {xs : Xs}
theorem Sx.same (s : Sx K G Hb F H σ xs) (e : Same H H1) : Sx K G Hb F H1 σ xs := ⟨s.wf.same e, s.sl.mono e, s.own⟩
theorem Own.set {v : Option V} {i : Nat} {x : Option Ar} (h : Own σ xs) (hx : ∀ ds, x ≠ some (.m ds)) : Own (σ.set i v) (xs.set i x) := fun a b ds es ha hb e => by
  have key : ∀ (a : Nat) (ds : List PyData), (xs.set i x)[a]? = some (some (.m ds)) → a ≠ i ∧ xs[a]? = some (some (.m ds)) := fun a ds h => by
    rw [List.getElem?_set] at h
    by_cases q : i = a
    · rw [if_pos q] at h
      split at h
      · exact absurd (Option.some.inj h) (hx ds)
      · cases h
    · rw [if_neg q] at h
      exact ⟨fun z => q z.symm, h⟩
  obtain ⟨na, ha'⟩ := key a ds ha
  obtain ⟨nb, hb'⟩ := key b es hb
  rw [List.getElem?_set, if_neg fun z => na z.symm, List.getElem?_set, if_neg fun z => nb z.symm] at e
  exact h a b ds es ha' hb' e
theorem Sx.set {v : V} {x : Ar} (i : Nat) (s : Sx K G Hb F H σ xs) (h : ArR K (G ++ F) H v x) (hm : x.nm = true) : Sx K G Hb F H (σ.set i (some v)) (xs.set i (some x)) :=
  ⟨s.wf, s.sl.set i h, s.own.set fun ds e => by cases e; cases hm⟩
/-- a new list of one's own -/
theorem Sx.own_new {l : Addr} {vs : List V} {ds : List PyData} (i : Nat) (s : Sx K G Hb F H σ xs) (hl : H l = none) (e : Same H H1) (h1 : H1 l = some (.lst vs)) (hd : Das K (hid (l :: (G ++ F)) H1) vs ds) :
    Sx K G Hb (F ++ [l]) H1 (σ.set i (some (.ref l))) (xs.set i (some (.m ds))) := by
  have mem : ∀ a, a ∈ G ++ (F ++ [l]) ↔ a ∈ l :: (G ++ F) := fun a => by simp only [List.mem_append, List.mem_cons, List.mem_singleton, List.not_mem_nil, or_false]; exact ⟨fun h => by rcases h with h | h | h <;> simp [h], fun h => by rcases h with h | h | h <;> simp [h]⟩
  have hs : Same (hid (l :: (G ++ F)) H1) (hid (G ++ (F ++ [l])) H1) := hid_sub fun a ha => (mem a).mp ha
  have w1 : Wf G Hb (F ++ [l]) H1 := ⟨s.wf.gl, s.wf.ex.trans e, fun a ha => by
    rcases List.mem_append.mp ha with h | h
    · exact (s.wf.same e).fr a h
    · rw [List.mem_singleton] at h; subst h
      exact ⟨s.wf.ex.free hl, _, h1⟩⟩
  have s1 : Sl K (G ++ (F ++ [l])) H1 σ xs := s.sl.mono' (fun a ha => (mem a).mpr (List.mem_cons_of_mem _ ha)) (fun a ha o h => e a o h) (fun a o h => by
    obtain ⟨z1, z2⟩ := hid_get h
    have ne : a ≠ l := ne_of_none z2 hl
    rw [hid_out fun q => ((mem a).mp q |> List.mem_cons.mp).elim ne z1]
    exact e a o z2)
  refine ⟨w1, s1.set i (x := .m ds) ⟨l, vs, rfl, (mem l).mpr List.mem_cons_self, h1, hd.mono hs⟩, fun a b ds' es' ha hb eq => ?_⟩
  have key : ∀ (a : Nat) (ds' : List PyData), (xs.set i (some (.m ds)))[a]? = some (some (.m ds')) → a ≠ i → xs[a]? = some (some (.m ds')) ∧ (σ.set i (some (.ref l)))[a]? = σ[a]? ∧ σ[a]? ≠ some (some (.ref l)) := fun a ds' h q => by
    rw [List.getElem?_set, if_neg fun z => q z.symm] at h
    refine ⟨h, by rw [List.getElem?_set, if_neg fun z => q z.symm], fun z => ?_⟩
    obtain ⟨v, h3, h4⟩ := s.sl.at_ a _ h
    obtain ⟨l', vs', rfl, _, h5, _⟩ := h4
    rw [h3] at z
    cases z
    rw [hl] at h5; cases h5
  have lenI : ∀ {ds' : List PyData}, (xs.set i (some (.m ds)))[i]? = some (some (.m ds')) → (σ.set i (some (.ref l)))[i]? = some (some (.ref l)) := fun h => by
    rw [List.getElem?_set, if_pos rfl] at h ⊢
    split at h
    · rename_i hh
      rw [if_pos (by rw [s.sl.len]; exact hh)]
    · cases h
  by_cases qa : a = i
  · by_cases qb : b = i
    · rw [qa, qb]
    · subst qa
      obtain ⟨_, k2, k3⟩ := key b es' hb qb
      rw [lenI ha, k2] at eq
      exact absurd eq.symm k3
  · by_cases qb : b = i
    · subst qb
      obtain ⟨_, k2, k3⟩ := key a ds' ha qa
      rw [lenI hb, k2] at eq
      exact absurd eq k3
    · obtain ⟨k1, k2, _⟩ := key a ds' ha qa
      obtain ⟨k4, k5, _⟩ := key b es' hb qb
      rw [k2, k5] at eq
      exact s.own a b ds' es' k1 k4 eq
/-- an own list changes -/
theorem Sx.own_put {ws : List V} {i : Nat} {l : Addr} {ds es : List PyData} (s : Sx K G Hb F H σ xs) (hi : xs[i]? = some (some (.m ds))) (hv : σ[i]? = some (some (.ref l))) (hF : l ∈ F) (hd : Das K (hid (G ++ F) H) ws es) :
    Sx K G Hb F (upd H l (.lst ws)) σ (xs.set i (some (.m es))) := by
  have hlN : l ∈ G ++ F := List.mem_append_right _ hF
  refine ⟨⟨s.wf.gl, fun a o h => ?_, fun a ha => ⟨(s.wf.fr a ha).1, ?_⟩⟩, ⟨by rw [List.length_set]; exact s.sl.len, fun j y hy => ?_⟩, fun a b ds' es' ha hb e => ?_⟩
  · have ne : a ≠ l := fun z => by subst z; rw [(s.wf.fr a hF).1] at h; cases h
    rw [upd_ne ne]; exact s.wf.ex a o h
  · by_cases q : a = l
    · subst q; exact ⟨_, upd_same⟩
    · obtain ⟨o, h⟩ := (s.wf.fr a ha).2
      exact ⟨o, by rw [upd_ne q]; exact h⟩
  · rw [List.getElem?_set] at hy
    by_cases q : i = j
    · subst q
      rw [if_pos rfl] at hy
      split at hy
      · cases hy
        exact ⟨_, hv, l, ws, rfl, hlN, upd_same, by rw [hid_upd hlN]; exact hd⟩
      · cases hy
    · rw [if_neg q] at hy
      obtain ⟨v, h1, h2⟩ := s.sl.at_ j y hy
      refine ⟨v, h1, ?_⟩
      cases y with
      | d x => show Da K (hid (G ++ F) (upd H l (.lst ws))) v x; rw [hid_upd hlN]; exact h2
      | b B =>
        obtain ⟨a, e1, e2⟩ := h2
        refine ⟨a, e1, ?_⟩
        rw [hid_upd hlN]; exact e2
      | m fs =>
        obtain ⟨l', vs', e1, e2, e3, e4⟩ := h2
        have ne : l' ≠ l := fun z => by
          subst z
          refine q (s.own i j _ _ hi hy ?_)
          rw [hv, h1, e1]
        exact ⟨l', vs', e1, e2, by rw [upd_ne ne]; exact e3, by rw [hid_upd hlN]; exact e4⟩
      | k kvs =>
        obtain ⟨a, e1, e2⟩ := h2
        refine ⟨a, e1, ?_⟩
        rw [hid_upd hlN]; exact e2
      | v x => exact h2
      | s vs => obtain ⟨a, e1, e2⟩ := h2; exact ⟨a, e1, by rw [hid_upd hlN]; exact e2⟩
      | r S => obtain ⟨H0, e1, e2⟩ := h2; exact ⟨H0, e1, by rw [hid_upd hlN]; exact e2⟩
  · have key : ∀ (a : Nat) (ds' : List PyData), (xs.set i (some (.m es)))[a]? = some (some (.m ds')) → ∃ ds'', xs[a]? = some (some (.m ds'')) := fun a ds' h => by
      rw [List.getElem?_set] at h
      by_cases q : i = a
      · subst q; exact ⟨ds, hi⟩
      · rw [if_neg q] at h; exact ⟨_, h⟩
    obtain ⟨_, k1⟩ := key a ds' ha
    obtain ⟨_, k2⟩ := key b es' hb
    exact s.own a b _ _ k1 k2 e
theorem Sx.at_m {i : Nat} {ds : List PyData} (s : Sx K G Hb F H σ xs) (hi : xs[i]? = some (some (.m ds))) : ∃ l vs, σ[i]? = some (some (.ref l)) ∧ l ∈ G ++ F ∧ H l = some (.lst vs) ∧ Das K (hid (G ++ F) H) vs ds := by
  obtain ⟨v, h1, l, vs, rfl, h2, h3, h4⟩ := s.sl.at_ i _ hi
  exact ⟨l, vs, h1, h2, h3, h4⟩
end

/-! ### the judgement of statements -/
abbrev InF (F : List Addr) (σ : L2.St) (xs : Xs) : Prop := ∀ (i : Nat) (ds : List PyData), xs[i]? = some (some (Ar.m ds)) → ∀ l : Addr, σ[i]? = some (some (V.ref l)) → l ∈ F
def Sd (K : PySem.W.Frag) (ts : TS) (xs : Xs) (N : Xs → Prop) (R : Ar → Prop) : Prop := ∀ (G : List Addr) (Hb : Hp) (F : List Addr) (H : Hp) (σ : L2.St) (D : Ends), InF F σ xs → Sx K G Hb F H σ xs →
  (∀ F' H1 σ' xs', N xs' → InF F' σ' xs' → Sx K G Hb F' H1 σ' xs' → D.nx σ' H1) → (∀ F' H1 v x, R x → x.nm = true → Wf G Hb F' H1 → ArR K (G ++ F') H1 v x → D.rt v H1) → ts D σ H
theorem InF.set {F : List Addr} {σ : L2.St} {xs : Xs} {i : Nat} {v : Option V} {x : Option Ar} (h : InF F σ xs) (hx : ∀ ds, x ≠ some (.m ds)) : InF F (σ.set i v) (xs.set i x) := fun a ds ha l hl => by
  rw [List.getElem?_set] at ha hl
  by_cases q : i = a
  · rw [if_pos q] at ha
    split at ha
    · exact absurd (Option.some.inj ha) (hx ds)
    · cases ha
  · rw [if_neg q] at ha hl
    exact h a ds ha l hl
theorem nm_ne {x : Ar} (h : x.nm = true) : ∀ ds, (some x : Option Ar) ≠ some (.m ds) := fun ds e => by cases e; cases h
section
variable {K : PySem.W.Frag} {te ta tb : TE} {tr : TA} {tt : TT} {t u : TS} {g : TG} {xs : Xs} {x : Ar} {N M : Xs → Prop} {R : Ar → Prop}
theorem sd_seq (h1 : Sd K t xs M R) (h2 : ∀ ys, M ys → Sd K u ys N R) : Sd K (tSeq t u) xs N R := fun G Hb F H σ D hf s nx rt =>
  h1 G Hb F H σ { D with nx := u D } hf s (fun F' H1 σ' ys hm hf' s' => h2 ys hm G Hb F' H1 σ' D hf' s' nx rt) rt
theorem sd_nx (h : ∀ ys, M ys → N ys) (h1 : Sd K t xs M R) : Sd K t xs N R := fun G Hb F H σ D hf s nx rt => h1 G Hb F H σ D hf s (fun F' H1 σ' ys hm => nx F' H1 σ' ys (h ys hm)) rt
theorem sd_next (h : N xs) : Sd K tNext xs N R := fun G Hb F H σ D hf s nx rt => nx F H σ xs h hf s
theorem sd_asg {i : Nat} (h : Ed K te xs x) (hm : x.nm = true) (hn : N (xs.set i (some x))) : Sd K (tAsg te (gName i)) xs N R := fun G Hb F H σ D hf s nx rt =>
  h (G ++ F) H σ s.wf.alive s.sl _ fun v H1 e1 r1 => nx F H1 _ _ hn (hf.set (nm_ne hm)) ((s.same e1).set i r1 hm)
theorem sd_asgG {d : PyData} {js : List Nat} {ys : Xs} (h : Ed K te xs (.d d)) (hg : Gd K g xs d js ys) (hn : N ys) : Sd K (tAsg te g) xs N R := fun G Hb F H σ D hf s nx rt =>
  h (G ++ F) H σ s.wf.alive s.sl _ fun v H1 e1 r1 => hg.run (G ++ F) H1 σ v (s.sl.mono e1) r1 _ fun σ' sl' ew => by
    have key : ∀ (a : Nat) (ds : List PyData), ys[a]? = some (some (Ar.m ds)) → xs[a]? = some (some (Ar.m ds)) ∧ σ'[a]? = σ[a]? := fun a ds ha => by
      have q : a ∉ js := fun q => hg.nm a q ds ha
      exact ⟨by rw [← hg.out a q]; exact ha, ew.2 a q⟩
    refine nx F H1 σ' ys hn (fun a ds ha l hl => ?_) ⟨s.wf.same e1, sl', fun a b ds es ha hb e => ?_⟩
    · obtain ⟨k1, k2⟩ := key a ds ha
      exact hf a ds k1 l (by rw [← k2]; exact hl)
    · obtain ⟨k1, k2⟩ := key a ds ha
      obtain ⟨k3, k4⟩ := key b es hb
      exact s.own a b ds es k1 k3 (by rw [← k2, ← k4]; exact e)
theorem sd_new {i : Nat} {ds : List PyData} (h : En K te xs ds) (hn : N (xs.set i (some (.m ds)))) : Sd K (tAsg te (gName i)) xs N R := fun G Hb F H σ D hf s nx rt =>
  h (G ++ F) H σ s.wf.alive s.sl _ fun l vs H1 hl e1 h1 hd => nx (F ++ [l]) H1 _ _ hn (fun a ds' ha l' hl' => by
    rw [List.getElem?_set] at ha hl'
    by_cases q : i = a
    · subst q
      rw [if_pos rfl] at hl'
      split at hl'
      · cases hl'; simp
      · cases hl'
    · rw [if_neg q] at ha hl'
      exact List.mem_append_left _ (hf a ds' ha l' hl')) (s.own_new i hl e1 h1 hd)
theorem sd_app {i : Nat} {ds : List PyData} {d : PyData} (hi : xs[i]? = some (some (.m ds))) (h : Ed K te xs (.d d)) (hl : ds.length < 1000000) (hn : N (xs.set i (some (.m (ds ++ [d]))))) : Sd K (tDrop (tBM K "list" rAppend (tVar i) (tCons te tNil))) xs N R := fun G Hb F H σ D hf s nx rt => by
  obtain ⟨l, vs, h1, h2, h3, h4⟩ := s.at_m hi
  refine ⟨.ref l, h1, .inl ⟨rfl, vs, SqL.of h3⟩, h (G ++ F) H σ s.wf.alive s.sl _ fun v H1 e1 r1 => ⟨l, vs, v, rfl, rfl, e1 _ _ h3, by rw [h4.len]; exact sz_lt hl, ?_⟩⟩
  refine nx F _ σ _ hn (fun a ds' ha l' hl' => ?_) ((s.same e1).own_put hi h1 (hf i ds hi l h1) ((h4.mono (hid_mono e1)).append (.cons r1 .nil)))
  rw [List.getElem?_set] at ha
  by_cases q : i = a
  · subst q; exact hf i ds hi l' hl'
  · rw [if_neg q] at ha; exact hf a ds' ha l' hl'
theorem ixN_nat {n j : Nat} (hj : j < n) : ixN n (j : Int) = some j := by
  unfold ixN
  rw [if_pos (by omega), if_pos (by omega)]
  simp
theorem sd_setL {i j : Nat} {ds : List PyData} {d : PyData} (hi : xs[i]? = some (some (.m ds))) (h : Ed K te xs (.d d)) (hj : Ed K tb xs (.d (.int (j : Nat)))) (hl : j < ds.length) (hn : N (xs.set i (some (.m (ds.set j d))))) :
    Sd K (tAsg te (gSub (tVar i) tb rSetL)) xs N R := fun G Hb F H σ D hf s nx rt => by
  obtain ⟨l, vs, h1, h2, h3, h4⟩ := s.at_m hi
  refine h (G ++ F) H σ s.wf.alive s.sl _ fun v H1 e1 r1 => ⟨.ref l, h1, hj (G ++ F) H1 σ (s.wf.alive.mono e1) (s.sl.mono e1) _ fun w H2 e2 r2 => ⟨l, vs, (j : Nat), j, rfl, da_int r2, (e1.trans e2) _ _ h3, ixN_nat (by rw [h4.len]; exact hl), ?_⟩⟩
  refine nx F _ σ _ hn (fun a ds' ha l' hl' => ?_) ((s.same (e1.trans e2)).own_put hi h1 (hf i ds hi l h1) ((h4.mono (hid_mono (e1.trans e2))).set j (r1.mono e2)))
  rw [List.getElem?_set] at ha
  by_cases q : i = a
  · subst q; exact hf i ds hi l' hl'
  · rw [if_neg q] at ha; exact hf a ds' ha l' hl'
theorem sd_if {b : Bool} (h : Et K tt xs b) (h1 : b = true → Sd K t xs N R) (h2 : b = false → Sd K u xs N R) : Sd K (tIfS tt t u) xs N R := fun G Hb F H σ D hf s nx rt =>
  h (G ++ F) H σ s.wf.alive s.sl _ fun H1 e1 => by
    cases b with
    | true => exact h1 rfl G Hb F H1 σ D hf (s.same e1) nx rt
    | false => exact h2 rfl G Hb F H1 σ D hf (s.same e1) nx rt
theorem sd_drop (h : Ed K te xs x) (hn : N xs) : Sd K (tDrop te) xs N R := fun G Hb F H σ D hf s nx rt =>
  h (G ++ F) H σ s.wf.alive s.sl _ fun v H1 e1 r1 => nx F H1 σ xs hn hf (s.same e1)
theorem fz_nm (x : Ar) : x.fz.nm = true := by cases x <;> rfl
theorem sd_ret (h : Ed K te xs x) (hm : x.nm = true) (hr : R x) : Sd K (tRet te) xs N R := fun G Hb F H σ D hf s nx rt =>
  h (G ++ F) H σ s.wf.alive s.sl _ fun v H1 e1 r1 => rt F H1 v x hr hm (s.wf.same e1) r1
theorem filt_mem {F : List Addr} {l a : Addr} : a ∈ F.filter (fun b => decide (b ≠ l)) ↔ a ∈ F ∧ a ≠ l := by
  rw [List.mem_filter, decide_eq_true_eq]
/-- an own list is given away: it is data from now on -/
theorem Sx.freeze {G F : List Addr} {Hb H : Hp} {σ : L2.St} {i : Nat} {ds : List PyData} (s : Sx K G Hb F H σ xs) (hf : InF F σ xs) (hi : xs[i]? = some (some (.m ds))) :
    ∃ F', InF F' σ (xs.set i (some (.d (.list ds)))) ∧ Sx K G Hb F' H σ (xs.set i (some (.d (.list ds)))) := by
  obtain ⟨l, vs, h1, h2, h3, h4⟩ := s.at_m hi
  have hlF := hf i ds hi l h1
  have sub : ∀ a ∈ G ++ F.filter (fun b => decide (b ≠ l)), a ∈ G ++ F := fun a ha => by
    rcases List.mem_append.mp ha with h | h
    · exact List.mem_append_left _ h
    · exact List.mem_append_right _ (filt_mem.mp h).1
  have hs : Same (hid (G ++ F) H) (hid (G ++ F.filter (fun b => decide (b ≠ l))) H) := hid_sub sub
  have lout : l ∉ G ++ F.filter (fun b => decide (b ≠ l)) := fun h => by
    rcases List.mem_append.mp h with h | h
    · exact s.wf.notG hlF h
    · exact (filt_mem.mp h).2 rfl
  have key : ∀ (j : Nat) (es : List PyData), (xs.set i (some (.d (.list ds))))[j]? = some (some (.m es)) → j ≠ i ∧ xs[j]? = some (some (.m es)) := fun j es h => by
    rw [List.getElem?_set] at h
    by_cases q : i = j
    · rw [if_pos q] at h
      split at h
      · cases h
      · cases h
    · rw [if_neg q] at h; exact ⟨fun z => q z.symm, h⟩
  have inF : InF (F.filter (fun b => decide (b ≠ l))) σ (xs.set i (some (.d (.list ds)))) := fun j es hj l' hl' => by
    obtain ⟨nj, hj'⟩ := key j es hj
    refine filt_mem.mpr ⟨hf j es hj' l' hl', fun z => ?_⟩
    subst z
    exact nj (s.own j i _ _ hj' hi (by rw [hl', h1]))
  refine ⟨F.filter (fun b => decide (b ≠ l)), inF, ⟨s.wf.gl, s.wf.ex, fun a ha => s.wf.fr a (filt_mem.mp ha).1⟩, ⟨by rw [List.length_set]; exact s.sl.len, fun j y hy => ?_⟩, fun a b ds' es' ha hb e => ?_⟩
  · rw [List.getElem?_set] at hy
    by_cases q : i = j
    · subst q
      rw [if_pos rfl] at hy
      split at hy
      · cases hy
        exact ⟨_, h1, Da.lst (by rw [hid_out lout]; exact h3) (h4.mono hs)⟩
      · cases hy
    · rw [if_neg q] at hy
      obtain ⟨v, k1, k2⟩ := s.sl.at_ j y hy
      refine ⟨v, k1, ?_⟩
      cases y with
      | d x => exact Da.mono hs k2
      | b B => obtain ⟨a, e1, e2⟩ := k2; exact ⟨a, e1, e2.mono hs⟩
      | m es =>
        obtain ⟨l', vs', rfl, _, e3, e4⟩ := k2
        refine ⟨l', vs', rfl, List.mem_append_right _ ?_, e3, e4.mono hs⟩
        exact inF j es (by rw [List.getElem?_set, if_neg q]; exact hy) l' k1
      | k kvs => obtain ⟨a, e1, e2⟩ := k2; exact ⟨a, e1, hs _ _ e2⟩
      | v x => exact k2
      | s vs => obtain ⟨a, e1, e2⟩ := k2; exact ⟨a, e1, Same.seq hs e2⟩
      | r S => obtain ⟨H0, e1, e2⟩ := k2; exact ⟨H0, e1, e2.trans hs⟩
  · obtain ⟨_, k1⟩ := key a ds' ha
    obtain ⟨_, k2⟩ := key b es' hb
    exact s.own a b _ _ k1 k2 e
theorem sd_freeze {i : Nat} {ds : List PyData} (hi : xs[i]? = some (some (.m ds))) (h : Sd K t (xs.set i (some (.d (.list ds)))) N R) : Sd K t xs N R := fun G Hb F H σ D hf s nx rt => by
  obtain ⟨F', h1, h2⟩ := s.freeze hf hi
  exact h G Hb F' H σ D h1 h2 nx rt
/-- return an own list -/
theorem sd_retM {i : Nat} {ds : List PyData} (hi : xs[i]? = some (some (.m ds))) (hr : R (.d (.list ds))) : Sd K (tRet (tVar i)) xs N R :=
  sd_freeze hi (sd_ret (ed_var (by rw [List.getElem?_set, if_pos rfl, if_pos (List.getElem?_eq_some_iff.mp hi).1])) rfl hr)
theorem Sx.rebase {G F : List Addr} {Hb H : Hp} {σ : L2.St} (s : Sx K G Hb F H σ xs) : Sx K G (hid F H) F H σ xs :=
  ⟨⟨fun a ha => by
    obtain ⟨o, e⟩ := s.wf.gl a ha
    exact ⟨o, by rw [hid_out fun q => s.wf.notG q ha]; exact s.wf.ex a o e⟩, hid_le, fun a ha => ⟨hid_in ha, (s.wf.fr a ha).2⟩⟩, s.sl, s.own⟩
theorem Wf.base_le {G F : List Addr} {Hb H : Hp} (w : Wf G Hb F H) : Same Hb (hid F H) := fun a o h => by
  have : a ∉ F := fun q => by rw [(w.fr a q).1] at h; cases h
  rw [hid_out this]; exact w.ex a o h
theorem Wf.back {G F F' : List Addr} {Hb H H1 : Hp} (w : Wf G Hb F H) (w1 : Wf G (hid F H) F' H1) : Wf G Hb F' H1 :=
  ⟨w.gl, w.base_le.trans w1.ex, fun a ha => ⟨w.base_le.free (w1.fr a ha).1, (w1.fr a ha).2⟩⟩
theorem hid_hid {G F : List Addr} {H : Hp} : Same (hid (G ++ F) H) (hid G (hid F H)) := fun a o h => by
  obtain ⟨h1, h2⟩ := hid_get h
  rw [hid_out fun q => h1 (List.mem_append_left _ q), hid_out fun q => h1 (List.mem_append_right _ q)]; exact h2
theorem sd_for {wi : TI} {tb : TS} {ds : List PyData} (P : Nat → Xs → Prop) (hi : Id K wi xs ds) (h0 : P 0 xs) (hs : ∀ i d ys, ds[i]? = some d → P i ys → ∃ js zs, Gd K g ys d js zs ∧ Sd K tb zs (P (i + 1)) R) (hd : ∀ ys, P ds.length ys → N ys) :
    Sd K (tFor wi g tb) xs N R := fun G Hb F H σ D hf s nx rt =>
  hi (G ++ F) H σ s.wf.alive s.sl _ fun J H1 e1 W => by
    have s1 := s.same e1
    have wf1 := s1.wf
    refine ⟨fun i m σ' H' => m = ds.length - i ∧ i ≤ ds.length ∧ ∃ F' ys, P i ys ∧ InF F' σ' ys ∧ Sx K G (hid F H1) F' H' σ' ys, ⟨_, rfl, Nat.zero_le _, F, xs, h0, hf, s1.rebase⟩, fun i m σ' H' hW => ?_⟩
    obtain ⟨hm, hile, F', ys, hP, hf', sy⟩ := hW
    -- the iterator's list stands
    have hsame : Same (hid (G ++ F) H1) (hid ((G ++ F) ++ F') H') := fun a o h => by
      obtain ⟨z1, z2⟩ := hid_get h
      have z3 : hid F H1 a = some o := by rw [hid_out fun q => z1 (List.mem_append_right _ q)]; exact z2
      have z4 : a ∉ F' := fun q => by
        have := (sy.wf.fr a q).1
        rw [z3] at this; cases this
      rw [hid_out fun q => (List.mem_append.mp q).elim z1 z4]
      exact sy.wf.ex a o z3
    have alN : Alive (G ++ F') H' := sy.wf.alive
    have hsame2 : Same (hid (G ++ F) H1) (hid (G ++ F') H') := hsame.trans (hid_sub fun a ha => by
      rcases List.mem_append.mp ha with h | h
      · exact List.mem_append_left _ (List.mem_append_left _ h)
      · exact List.mem_append_right _ h)
    obtain ⟨w1, w2, w3⟩ := W.to (G ++ F') H' alN hsame2 i
    by_cases hlt : i < ds.length
    · refine .inr ⟨w1 hlt, fun σ2 H2 => i + 1 ≤ ds.length ∧ ∃ F2 ys2, P (i + 1) ys2 ∧ InF F2 σ2 ys2 ∧ Sx K G (hid F H1) F2 H2 σ2 ys2, fun σ2 H2 ⟨a1, a2⟩ => ⟨ds.length - (i + 1), by omega, rfl, a1, a2⟩, fun v H2 hy => ?_⟩
      obtain ⟨e2, d, hd1, hv⟩ := w3 hlt v H2 hy
      obtain ⟨js, zs, hg, hb⟩ := hs i d ys hd1 hP
      have sy2 := sy.same e2
      refine hg.run (G ++ F') H2 σ' v sy2.sl hv _ fun σ3 sl3 ew => ?_
      have key : ∀ (a : Nat) (ds : List PyData), zs[a]? = some (some (Ar.m ds)) → ys[a]? = some (some (Ar.m ds)) ∧ σ3[a]? = σ'[a]? := fun a ds ha => by
        have q : a ∉ js := fun q => hg.nm a q ds ha
        exact ⟨by rw [← hg.out a q]; exact ha, ew.2 a q⟩
      refine hb G (hid F H1) F' H2 σ3 _ (fun a ds ha l hl => ?_) ⟨sy2.wf, sl3, fun a b ds es ha hb e => ?_⟩ (fun F2 H3 σ4 ys4 hP4 hf4 s4 => ⟨hlt, F2, ys4, hP4, hf4, s4⟩) (fun F2 H3 v x hr hm w r => rt F2 H3 v x hr hm (wf1.back w) r)
      · obtain ⟨k1, k2⟩ := key a ds ha
        exact hf' a ds k1 l (by rw [← k2]; exact hl)
      · obtain ⟨k1, k2⟩ := key a ds ha
        obtain ⟨k3, k4⟩ := key b es hb
        exact sy.own a b ds es k1 k3 (by rw [← k2, ← k4]; exact e)
    · have ei : i = ds.length := by omega
      refine .inl ⟨w2 ei, ?_⟩
      subst ei
      exact nx F' H' σ' ys (hd ys hP) hf' ⟨wf1.back sy.wf, sy.sl, sy.own⟩
theorem sd_while {tb : TS} (P : Nat → Xs → Prop) (m0 : Nat) (h0 : P m0 xs) (hs : ∀ m ys, P m ys → ∃ b, Et K tt ys b ∧ (b = true → Sd K tb ys (fun zs => ∃ m', m' < m ∧ P m' zs) R) ∧ (b = false → N ys)) : Sd K (tWhile tt tb) xs N R := fun G Hb F H σ D hf s nx rt => by
  refine ⟨fun m σ' H' => ∃ F' ys, P m ys ∧ InF F' σ' ys ∧ Sx K G Hb F' H' σ' ys, ⟨m0, F, xs, h0, hf, s⟩, fun m σ' H' hW => ?_⟩
  obtain ⟨F', ys, hP, hf', sy⟩ := hW
  obtain ⟨b, hb, h1, h2⟩ := hs m ys hP
  refine hb (G ++ F') H' σ' sy.wf.alive sy.sl _ fun H1 e1 => ?_
  cases b with
  | true =>
    show ∃ N : L2.St → Hp → Prop, _
    refine ⟨fun σ2 H2 => ∃ m', m' < m ∧ ∃ F2 ys2, P m' ys2 ∧ InF F2 σ2 ys2 ∧ Sx K G Hb F2 H2 σ2 ys2, fun σ2 H2 h => h, ?_⟩
    exact h1 rfl G Hb F' H1 σ' _ hf' (sy.same e1) (fun F2 H2 σ2 ys2 ⟨m', l, hP'⟩ hf2 s2 => ⟨m', l, F2, ys2, hP', hf2, s2⟩) rt
  | false => exact nx F' H1 σ' ys (h2 rfl) hf' (sy.same e1)
/-! ### a def's body -/
theorem fs_len {R : List Ar → Ar → Prop} {vs : List V} {H : Hp} {Q : VK} {E : XK} {n : Nat} (h : FS K R vs H Q E) (hl : ∀ as x, R as x → as.length = n) : vs.length = n := by
  obtain ⟨N, as, x, _, h2, h3, _⟩ := h
  rw [arrs_len h2]; exact hl as x h3
theorem fs_body {R : List Ar → Ar → Prop} {ts : TS} {vs : List V} {H : Hp} {Q : VK} {E : XK} {Nm : List Str} (n : Nat) (h : FS K R vs H Q E) (hl : ∀ as x, R as x → as.length + n = Nm.length) (hm : ∀ as x, R as x → as.all Ar.nm = true)
    (hb : ∀ as x, R as x → Sd K ts (as.map some ++ List.replicate n none) (fun _ => x = .d .none) (fun y => y = x)) : ts { nx := fun _ H' => Q .non H', rt := Q } (L2.start Nm vs) H := by
  obtain ⟨N, as, x, al, h2, h3, q⟩ := h
  have hlen := arrs_len h2
  have hat : ∀ {vs : List V} {as : List Ar} (i : Nat) (y : Ar), ArRs K N H vs as → as[i]? = some y → ∃ v, vs[i]? = some v ∧ ArR K N H v y := by
    intro vs as i y h
    induction h generalizing i with
    | nil => intro e; simp at e
    | @cons v a vs as hv _ ih =>
      intro e
      cases i with
      | zero => simp at e; subst e; exact ⟨v, rfl, hv⟩
      | succ i => simp at e; obtain ⟨w, h1, h2⟩ := ih i e; exact ⟨w, by simpa using h1, h2⟩
  have xs_at : ∀ (i : Nat) (y : Ar), (as.map some ++ List.replicate n none)[i]? = some (some y) → as[i]? = some y := fun i y hy => by
    by_cases hi : i < as.length
    · rw [List.getElem?_append_left (by simpa using hi), List.getElem?_map] at hy
      obtain ⟨z, h1, h2⟩ := Option.map_eq_some_iff.mp hy
      rw [h1]; exact h2
    · rw [List.getElem?_append_right (by simpa using hi), List.getElem?_replicate] at hy
      split at hy <;> cases hy
  refine hb as x h3 N H [] H _ _ (fun i ds hi => ?_) ⟨⟨al, Same.refl H, fun a ha => nomatch ha⟩, ⟨?_, fun i y hy => ?_⟩, fun i j ds es hi => ?_⟩ (fun F' H1 σ' ys hx hf s => ?_) fun F' H1 v y hy hm' w r => ?_
  · exact absurd (List.all_eq_true.mp (hm as x h3) _ (List.mem_of_getElem? (xs_at i _ hi))) (by intro z; cases z)
  · unfold L2.start
    rw [List.length_append, List.length_map, List.length_replicate, List.length_append, List.length_map, List.length_replicate]
    have := hl as x h3
    omega
  · have ha := xs_at i y hy
    obtain ⟨v, h4, h5⟩ := hat i y h2 ha
    refine ⟨v, ?_, by rw [List.append_nil]; exact h5⟩
    unfold L2.start
    rw [List.getElem?_append_left (by rw [List.length_map]; exact (List.getElem?_eq_some_iff.mp h4).1), List.getElem?_map, h4]; rfl
  · exact absurd (List.all_eq_true.mp (hm as x h3) _ (List.mem_of_getElem? (xs_at i _ hi))) (by intro z; cases z)
  · subst hx
    exact q _ _ s.wf.ex Da.non
  · subst hy
    refine q v H1 w.ex ?_
    cases y with
    | m ds => cases hm'
    | d z => exact Da.mono (hid_sub fun a ha => List.mem_append_left _ ha) r
    | b B => obtain ⟨a, e1, e2⟩ := r; exact ⟨a, e1, e2.mono (hid_sub fun a ha => List.mem_append_left _ ha)⟩
    | k kvs => obtain ⟨a, e1, e2⟩ := r; exact ⟨a, e1, hid_sub (fun a ha => List.mem_append_left _ ha) _ _ e2⟩
    | v z => exact r
    | s vs => obtain ⟨a, e1, e2⟩ := r; exact ⟨a, e1, Same.seq (hid_sub fun a ha => List.mem_append_left _ ha) e2⟩
    | r S => obtain ⟨H0, e1, e2⟩ := r; exact ⟨H0, e1, e2.trans (hid_sub fun a ha => List.mem_append_left _ ha)⟩
end
end K58
end
/-! TXT -/
section
set_option maxRecDepth 100000
set_option maxHeartbeats 2000000
/-! The text by places; what stands behind the top's run. -/
namespace K58
open PySem PySem.Spec L2
def top (i : Nat) : Stmt := PySem.Challenge.pw_leverhouse_k58_whole_flashes_are_seen.main.body.getD i (.Pass ⟨0, 0, 0, 0⟩)
abbrev s_closes : Stmt := top 7
abbrev nm_closes : List Str := ["contact", "on"]
theorem scope_closes : FnScope nm_closes ["contact", "on"] (defScope s_closes) := ⟨rfl, rfl, rfl, by decide +kernel, rfl, by decide +kernel, by decide +kernel⟩
abbrev s_closed_contacts : Stmt := top 8
abbrev nm_closed_contacts : List Str := ["board", "state", "numbers", "found", "number", "contact", "name"]
theorem scope_closed_contacts : FnScope nm_closed_contacts ["board", "state"] (defScope s_closed_contacts) := ⟨rfl, rfl, rfl, by decide +kernel, rfl, by decide +kernel, by decide +kernel⟩
abbrev s_paths : Stmt := top 9
abbrev nm_paths : List Str := ["board", "state", "pairs", "number", "one", "other", "_", "way"]
theorem scope_paths : FnScope nm_paths ["board", "state"] (defScope s_paths) := ⟨rfl, rfl, rfl, by decide +kernel, rfl, by decide +kernel, by decide +kernel⟩
abbrev s_reached : Stmt := top 10
abbrev nm_reached : List Str := ["pairs", "start", "found", "place", "source", "target"]
theorem scope_reached : FnScope nm_reached ["pairs", "start"] (defScope s_reached) := ⟨rfl, rfl, rfl, by decide +kernel, rfl, by decide +kernel, by decide +kernel⟩
abbrev s_fed : Stmt := top 11
abbrev nm_fed : List Str := ["board", "state", "found", "node"]
theorem scope_fed : FnScope nm_fed ["board", "state"] (defScope s_fed) := ⟨rfl, rfl, rfl, by decide +kernel, rfl, by decide +kernel, by decide +kernel⟩
abbrev s_feeds : Stmt := top 12
abbrev nm_feeds : List Str := ["board", "state", "turned", "found", "source", "target", "node"]
theorem scope_feeds : FnScope nm_feeds ["board", "state"] (defScope s_feeds) := ⟨rfl, rfl, rfl, by decide +kernel, rfl, by decide +kernel, by decide +kernel⟩
abbrev s_is_short : Stmt := top 13
abbrev nm_is_short : List Str := ["board", "state"]
theorem scope_is_short : FnScope nm_is_short ["board", "state"] (defScope s_is_short) := ⟨rfl, rfl, rfl, by decide +kernel, rfl, by decide +kernel, by decide +kernel⟩
abbrev s_live_names : Stmt := top 14
abbrev nm_live_names : List Str := ["board", "state", "loads", "before", "behind", "found", "name", "one", "other"]
theorem scope_live_names : FnScope nm_live_names ["board", "state", "loads"] (defScope s_live_names) := ⟨rfl, rfl, rfl, by decide +kernel, rfl, by decide +kernel, by decide +kernel⟩
abbrev s_live_relays : Stmt := top 15
abbrev nm_live_relays : List Str := ["board", "state"]
theorem scope_live_relays : FnScope nm_live_relays ["board", "state"] (defScope s_live_relays) := ⟨rfl, rfl, rfl, by decide +kernel, rfl, by decide +kernel, by decide +kernel⟩
abbrev s_live_lamps : Stmt := top 16
abbrev nm_live_lamps : List Str := ["board", "state"]
theorem scope_live_lamps : FnScope nm_live_lamps ["board", "state"] (defScope s_live_lamps) := ⟨rfl, rfl, rfl, by decide +kernel, rfl, by decide +kernel, by decide +kernel⟩
abbrev s_first_state : Stmt := top 18
abbrev nm_first_state : List Str := ["board", "movers"]
theorem scope_first_state : FnScope nm_first_state ["board"] (defScope s_first_state) := ⟨rfl, rfl, rfl, by decide +kernel, rfl, by decide +kernel, by decide +kernel⟩
abbrev s_due : Stmt := top 19
abbrev nm_due : List Str := ["board", "state", "live", "found", "relay", "up"]
theorem scope_due : FnScope nm_due ["board", "state"] (defScope s_due) := ⟨rfl, rfl, rfl, by decide +kernel, rfl, by decide +kernel, by decide +kernel⟩
abbrev s_is_rest : Stmt := top 20
abbrev nm_is_rest : List Str := ["board", "state"]
theorem scope_is_rest : FnScope nm_is_rest ["board", "state"] (defScope s_is_rest) := ⟨rfl, rfl, rfl, by decide +kernel, rfl, by decide +kernel, by decide +kernel⟩
abbrev s_step : Stmt := top 21
abbrev nm_step : List Str := ["board", "state", "move", "number", "movers"]
theorem scope_step : FnScope nm_step ["board", "state", "move"] (defScope s_step) := ⟨rfl, rfl, rfl, by decide +kernel, rfl, by decide +kernel, by decide +kernel⟩
abbrev s_moves : Stmt := top 24
abbrev nm_moves : List Str := ["board", "state", "hurry", "waiting", "found", "name"]
theorem scope_moves : FnScope nm_moves ["board", "state", "hurry"] (defScope s_moves) := ⟨rfl, rfl, rfl, by decide +kernel, rfl, by decide +kernel, by decide +kernel⟩
abbrev s_check_lamps : Stmt := top 31
abbrev nm_check_lamps : List Str := ["board", "names", "lamps", "name", "lamp"]
theorem scope_check_lamps : FnScope nm_check_lamps ["board", "names"] (defScope s_check_lamps) := ⟨rfl, rfl, rfl, by decide +kernel, rfl, by decide +kernel, by decide +kernel⟩
abbrev s_is_lit : Stmt := top 32
abbrev nm_is_lit : List Str := ["board", "state", "lamp"]
theorem scope_is_lit : FnScope nm_is_lit ["board", "state", "lamp"] (defScope s_is_lit) := ⟨rfl, rfl, rfl, by decide +kernel, rfl, by decide +kernel, by decide +kernel⟩
abbrev s_phase_behind : Stmt := top 33
abbrev nm_phase_behind : List Str := ["board", "lamp", "before", "phase", "move", "after", "lit", "kind", "start"]
theorem scope_phase_behind : FnScope nm_phase_behind ["board", "lamp", "before", "phase", "move", "after"] (defScope s_phase_behind) := ⟨rfl, rfl, rfl, by decide +kernel, rfl, by decide +kernel, by decide +kernel⟩
abbrev s_first_flash : Stmt := top 35
abbrev nm_first_flash : List Str := ["board", "lamp", "limit", "search"]
theorem scope_first_flash : FnScope nm_first_flash ["board", "lamp", "limit"] (defScope s_first_flash) := ⟨rfl, rfl, rfl, by decide +kernel, rfl, by decide +kernel, by decide +kernel⟩
abbrev s_flashes : Stmt := top 36
abbrev nm_flashes : List Str := ["board", "limit", "lamp"]
theorem scope_flashes : FnScope nm_flashes ["board", "limit"] (defScope s_flashes) := ⟨rfl, rfl, rfl, by decide +kernel, rfl, by decide +kernel, by decide +kernel⟩
abbrev s_are_names : Stmt := top 42
abbrev nm_are_names : List Str := ["names", "least", "most", "number", "name"]
theorem scope_are_names : FnScope nm_are_names ["names", "least", "most"] (defScope s_are_names) := ⟨rfl, rfl, rfl, by decide +kernel, rfl, by decide +kernel, by decide +kernel⟩
abbrev s_is_between : Stmt := top 43
abbrev nm_is_between : List Str := ["one", "other", "nodes"]
theorem scope_is_between : FnScope nm_is_between ["one", "other", "nodes"] (defScope s_is_between) := ⟨rfl, rfl, rfl, by decide +kernel, rfl, by decide +kernel, by decide +kernel⟩
abbrev s_are_loads : Stmt := top 44
abbrev nm_are_loads : List Str := ["loads", "nodes", "name", "one", "other"]
theorem scope_are_loads : FnScope nm_are_loads ["loads", "nodes"] (defScope s_are_loads) := ⟨rfl, rfl, rfl, by decide +kernel, rfl, by decide +kernel, by decide +kernel⟩
abbrev s_is_contact : Stmt := top 45
abbrev nm_is_contact : List Str := ["contact", "nodes", "movers", "one", "other", "mover", "when", "way"]
theorem scope_is_contact : FnScope nm_is_contact ["contact", "nodes", "movers"] (defScope s_is_contact) := ⟨rfl, rfl, rfl, by decide +kernel, rfl, by decide +kernel, by decide +kernel⟩
abbrev s_law_row : Stmt := top 48
abbrev nm_law_row : List Str := ["_law_cell", "_law_many", "_law_row_here", "_law_rest", "_law_k", "_law_mixed"]
theorem scope_law_row : FnScope nm_law_row ["_law_cell", "_law_many"] (defScope s_law_row) := ⟨rfl, rfl, rfl, by decide +kernel, rfl, by decide +kernel, by decide +kernel⟩
abbrev s_law_numbers : Stmt := top 49
abbrev nm_law_numbers : List Str := ["_law_script", "_law_many", "_law_cells", "_law_each", "_law_numbers_here", "_law_cell", "_law_number"]
theorem scope_law_numbers : FnScope nm_law_numbers ["_law_script", "_law_many"] (defScope s_law_numbers) := ⟨rfl, rfl, rfl, by decide +kernel, rfl, by decide +kernel, by decide +kernel⟩
abbrev s_law_names : Stmt := top 50
abbrev nm_law_names : List Str := ["_law_number", "_law_other", "_law_many", "_law_chars", "_law_size", "_law_rest", "_law_place", "_law_k"]
theorem scope_law_names : FnScope nm_law_names ["_law_number", "_law_other", "_law_many"] (defScope s_law_names) := ⟨rfl, rfl, rfl, by decide +kernel, rfl, by decide +kernel, by decide +kernel⟩
abbrev s_law_loads : Stmt := top 51
abbrev nm_law_loads : List Str := ["_law_numbers_here", "_law_at", "_law_many", "_law_names_here", "_law_nodes", "_law_loads_here", "_law_k", "_law_one", "_law_other"]
theorem scope_law_loads : FnScope nm_law_loads ["_law_numbers_here", "_law_at", "_law_many", "_law_names_here", "_law_nodes"] (defScope s_law_loads) := ⟨rfl, rfl, rfl, by decide +kernel, rfl, by decide +kernel, by decide +kernel⟩
abbrev s_law_contact : Stmt := top 52
abbrev nm_law_contact : List Str := ["_law_numbers_here", "_law_at", "_law_nodes", "_law_movers_here", "_law_one", "_law_other", "_law_which", "_law_way"]
theorem scope_law_contact : FnScope nm_law_contact ["_law_numbers_here", "_law_at", "_law_nodes", "_law_movers_here"] (defScope s_law_contact) := ⟨rfl, rfl, rfl, by decide +kernel, rfl, by decide +kernel, by decide +kernel⟩
abbrev s_law_made : Stmt := top 53
abbrev nm_law_made : List Str := ["_law_spec", "_law_nodes", "_law_switches", "_law_relays", "_law_lamps", "_law_contacts"]
theorem scope_law_made : FnScope nm_law_made ["_law_spec"] (defScope s_law_made) := ⟨rfl, rfl, rfl, by decide +kernel, rfl, by decide +kernel, by decide +kernel⟩
abbrev s_law_movers : Stmt := top 54
abbrev nm_law_movers : List Str := ["_law_spec", "_law_relay"]
theorem scope_law_movers : FnScope nm_law_movers ["_law_spec"] (defScope s_law_movers) := ⟨rfl, rfl, rfl, by decide +kernel, rfl, by decide +kernel, by decide +kernel⟩
abbrev s_law_closed : Stmt := top 55
abbrev nm_law_closed : List Str := ["_law_spec", "_law_on", "_law_contact_here"]
theorem scope_law_closed : FnScope nm_law_closed ["_law_spec", "_law_on", "_law_contact_here"] (defScope s_law_closed) := ⟨rfl, rfl, rfl, by decide +kernel, rfl, by decide +kernel, by decide +kernel⟩
abbrev s_law_pairs : Stmt := top 56
abbrev nm_law_pairs : List Str := ["_law_spec", "_law_on", "_law_pairs_here", "_law_contact_here"]
theorem scope_law_pairs : FnScope nm_law_pairs ["_law_spec", "_law_on"] (defScope s_law_pairs) := ⟨rfl, rfl, rfl, by decide +kernel, rfl, by decide +kernel, by decide +kernel⟩
abbrev s_law_reach : Stmt := top 57
abbrev nm_law_reach : List Str := ["_law_spec", "_law_pairs_here", "_law_start", "_law_found", "_law_turn", "_law_more", "_law_pair"]
theorem scope_law_reach : FnScope nm_law_reach ["_law_spec", "_law_pairs_here", "_law_start"] (defScope s_law_reach) := ⟨rfl, rfl, rfl, by decide +kernel, rfl, by decide +kernel, by decide +kernel⟩
abbrev s_law_reaches : Stmt := top 58
abbrev nm_law_reaches : List Str := ["_law_spec", "_law_on"]
theorem scope_law_reaches : FnScope nm_law_reaches ["_law_spec", "_law_on"] (defScope s_law_reaches) := ⟨rfl, rfl, rfl, by decide +kernel, rfl, by decide +kernel, by decide +kernel⟩
abbrev s_law_live : Stmt := top 59
abbrev nm_law_live : List Str := ["_law_spec", "_law_state", "_law_loads_here", "_law_pairs_here", "_law_fed", "_law_feeds", "_law_found", "_law_load", "_law_pair"]
theorem scope_law_live : FnScope nm_law_live ["_law_spec", "_law_state", "_law_loads_here"] (defScope s_law_live) := ⟨rfl, rfl, rfl, by decide +kernel, rfl, by decide +kernel, by decide +kernel⟩
abbrev s_law_due : Stmt := top 60
abbrev nm_law_due : List Str := ["_law_spec", "_law_state", "_law_live_here", "_law_movers_here", "_law_relay"]
theorem scope_law_due : FnScope nm_law_due ["_law_spec", "_law_state"] (defScope s_law_due) := ⟨rfl, rfl, rfl, by decide +kernel, rfl, by decide +kernel, by decide +kernel⟩
abbrev s_law_step : Stmt := top 61
abbrev nm_law_step : List Str := ["_law_spec", "_law_state", "_law_name", "_law_on", "_law_place"]
theorem scope_law_step : FnScope nm_law_step ["_law_spec", "_law_state", "_law_name"] (defScope s_law_step) := ⟨rfl, rfl, rfl, by decide +kernel, rfl, by decide +kernel, by decide +kernel⟩
abbrev s_law_first : Stmt := top 62
abbrev nm_law_first : List Str := ["_law_spec", "_law_on", "_law_name"]
theorem scope_law_first : FnScope nm_law_first ["_law_spec"] (defScope s_law_first) := ⟨rfl, rfl, rfl, by decide +kernel, rfl, by decide +kernel, by decide +kernel⟩
abbrev s_law_moves : Stmt := top 63
abbrev nm_law_moves : List Str := ["_law_spec", "_law_state", "_law_hurry", "_law_due_here", "_law_moves_here", "_law_name"]
theorem scope_law_moves : FnScope nm_law_moves ["_law_spec", "_law_state", "_law_hurry"] (defScope s_law_moves) := ⟨rfl, rfl, rfl, by decide +kernel, rfl, by decide +kernel, by decide +kernel⟩
abbrev s_law_play : Stmt := top 64
abbrev nm_law_play : List Str := ["_law_spec", "_law_numbers_here", "_law_at", "_law_many", "_law_hurry", "_law_state", "_law_play_here", "_law_k", "_law_moves_here", "_law_move"]
theorem scope_law_play : FnScope nm_law_play ["_law_spec", "_law_numbers_here", "_law_at", "_law_many", "_law_hurry"] (defScope s_law_play) := ⟨rfl, rfl, rfl, by decide +kernel, rfl, by decide +kernel, by decide +kernel⟩
abbrev s_law_small : Stmt := top 65
abbrev nm_law_small : List Str := ["_law_numbers_here", "_law_big", "_law_sizes", "_law_nodes", "_law_movers_here", "_law_lamps", "_law_relays", "_law_contacts", "_law_k"]
theorem scope_law_small : FnScope nm_law_small ["_law_numbers_here", "_law_big"] (defScope s_law_small) := ⟨rfl, rfl, rfl, by decide +kernel, rfl, by decide +kernel, by decide +kernel⟩
abbrev s_law_states : Stmt := top 66
abbrev nm_law_states : List Str := ["_law_spec", "_law_play_here", "_law_states_here", "_law_move"]
theorem scope_law_states : FnScope nm_law_states ["_law_spec", "_law_play_here"] (defScope s_law_states) := ⟨rfl, rfl, rfl, by decide +kernel, rfl, by decide +kernel, by decide +kernel⟩
abbrev s_law_ends : Stmt := top 67
abbrev nm_law_ends : List Str := ["_law_spec", "_law_play_here", "_law_states_here", "_law_lamp", "_law_found", "_law_hand", "_law_k", "_law_lit", "_law_state"]
theorem scope_law_ends : FnScope nm_law_ends ["_law_spec", "_law_play_here", "_law_states_here", "_law_lamp"] (defScope s_law_ends) := ⟨rfl, rfl, rfl, by decide +kernel, rfl, by decide +kernel, by decide +kernel⟩
abbrev s_law : Stmt := top 68
abbrev nm_law : List Str := ["_law_script", "_law_numbers_here", "_law_spec", "_law_board", "_law_play_here", "_law_states_here", "_law_handed", "_law_made_here", "_law_told", "_law_k", "_law_lamp", "_law_ends_here", "_law_seen", "_law_end"]
theorem scope_law : FnScope nm_law ["_law_script"] (defScope s_law) := ⟨rfl, rfl, rfl, by decide +kernel, rfl, by decide +kernel, by decide +kernel⟩
abbrev s_Board_is_name : Stmt := inClass (top 46) 6
abbrev nm_Board_is_name : List Str := ["text", "char"]
theorem scope_Board_is_name : FnScope nm_Board_is_name ["text"] (defScope s_Board_is_name) := ⟨rfl, rfl, rfl, by decide +kernel, rfl, by decide +kernel, by decide +kernel⟩
abbrev s_Board_plus : Stmt := inClass (top 46) 7
abbrev nm_Board_plus : List Str := ["self"]
theorem scope_Board_plus : FnScope nm_Board_plus ["self"] (defScope s_Board_plus) := ⟨rfl, rfl, rfl, by decide +kernel, rfl, by decide +kernel, by decide +kernel⟩
abbrev s_Board_minus : Stmt := inClass (top 46) 8
abbrev nm_Board_minus : List Str := ["self"]
theorem scope_Board_minus : FnScope nm_Board_minus ["self"] (defScope s_Board_minus) := ⟨rfl, rfl, rfl, by decide +kernel, rfl, by decide +kernel, by decide +kernel⟩
abbrev s_Board_movers : Stmt := inClass (top 46) 9
abbrev nm_Board_movers : List Str := ["self", "relay"]
theorem scope_Board_movers : FnScope nm_Board_movers ["self"] (defScope s_Board_movers) := ⟨rfl, rfl, rfl, by decide +kernel, rfl, by decide +kernel, by decide +kernel⟩
abbrev s_Board_mover_number : Stmt := inClass (top 46) 10
abbrev nm_Board_mover_number : List Str := ["self", "name", "number", "mover"]
theorem scope_Board_mover_number : FnScope nm_Board_mover_number ["self", "name"] (defScope s_Board_mover_number) := ⟨rfl, rfl, rfl, by decide +kernel, rfl, by decide +kernel, by decide +kernel⟩
abbrev s_Flashinit : Stmt := inClass (top 30) 0
abbrev nm_Flashinit : List Str := ["self", "lamp", "play", "hand"]
theorem scope_Flashinit : FnScope nm_Flashinit ["self", "lamp", "play", "hand"] (defScope s_Flashinit) := ⟨rfl, rfl, rfl, by decide +kernel, rfl, by decide +kernel, by decide +kernel⟩
abbrev s_FlashSearchinit : Stmt := inClass (top 34) 0
abbrev nm_FlashSearchinit : List Str := ["self", "board", "lamp", "limit"]
theorem scope_FlashSearchinit : FnScope nm_FlashSearchinit ["self", "board", "lamp", "limit"] (defScope s_FlashSearchinit) := ⟨rfl, rfl, rfl, by decide +kernel, rfl, by decide +kernel, by decide +kernel⟩
abbrev s_FlashSearch_note : Stmt := inClass (top 34) 1
abbrev nm_FlashSearch_note : List Str := ["self", "case", "source"]
theorem scope_FlashSearch_note : FnScope nm_FlashSearch_note ["self", "case", "source"] (defScope s_FlashSearch_note) := ⟨rfl, rfl, rfl, by decide +kernel, rfl, by decide +kernel, by decide +kernel⟩
abbrev s_FlashSearch_find_all : Stmt := inClass (top 34) 2
abbrev nm_FlashSearch_find_all : List Str := ["self", "at", "state", "phase", "move", "after", "behind"]
theorem scope_FlashSearch_find_all : FnScope nm_FlashSearch_find_all ["self"] (defScope s_FlashSearch_find_all) := ⟨rfl, rfl, rfl, by decide +kernel, rfl, by decide +kernel, by decide +kernel⟩
abbrev s_FlashSearch_flash : Stmt := inClass (top 34) 3
abbrev nm_FlashSearch_flash : List Str := ["self", "case"]
theorem scope_FlashSearch_flash : FnScope nm_FlashSearch_flash ["self"] (defScope s_FlashSearch_flash) := ⟨rfl, rfl, rfl, by decide +kernel, rfl, by decide +kernel, by decide +kernel⟩
abbrev s_FlashSearch_flash_to : Stmt := inClass (top 34) 4
abbrev nm_FlashSearch_flash_to : List Str := ["self", "case", "play", "move", "hands", "number"]
theorem scope_FlashSearch_flash_to : FnScope nm_FlashSearch_flash_to ["self", "case"] (defScope s_FlashSearch_flash_to) := ⟨rfl, rfl, rfl, by decide +kernel, rfl, by decide +kernel, by decide +kernel⟩
abbrev s_Boardinit : Stmt := inClass (top 46) 5
abbrev nm_Boardinit : List Str := ["self", "nodes", "lamps", "switches", "relays", "contacts", "movers", "contact", "relay", "lamp"]
theorem scope_Boardinit : FnScope nm_Boardinit ["self", "nodes", "lamps", "switches", "relays", "contacts"] (defScope s_Boardinit) := ⟨rfl, rfl, rfl, by decide +kernel, rfl, by decide +kernel, by decide +kernel⟩

/-! ### addresses -/
def recA (K : PySem.W.Frag) (m : Str) (T : String) : Addr := match PySem.W.recIn K (He.ma K (He.ga K "Board") m) T with
  | some (.ref g :: _) => g
  | _ => 0
theorem recA_ok {K : PySem.W.Frag} {m : Str} {T : String} (h : (PySem.W.recIn K (He.ma K (He.ga K "Board") m) T).isSome = true) (h2 : recA K m T ≠ 0) : ∃ rest, PySem.W.recIn K (He.ma K (He.ga K "Board") m) T = some (.ref (recA K m T) :: rest) := by
  unfold recA at h2 ⊢
  cases e : PySem.W.recIn K (He.ma K (He.ga K "Board") m) T with
  | none => rw [e] at h; cases h
  | some l =>
    rw [e] at h2
    cases l with
    | nil => exact absurd rfl h2
    | cons v r =>
      cases v with
      | ref g => exact ⟨r, rfl⟩
      | _ => exact absurd rfl h2
/-! ### defs by address -/
structure DefE where
  at_ : PySem.W.Frag → Addr
  name : Str
  qual : Str
  params : Arguments
  body : List Stmt
  scope : Scope
  kwd : List (Str × V) := []
def fnE (K : PySem.W.Frag) (a : Addr) : He.FnW := match K.lookup a with
  | some ⟨_, _, .func fd, _⟩ => some (fd.name, fd.qualname, fd.params, fd.body, fd.scope, fd.globals, fd.closure, fd.builtins)
  | _ => none
def DefE.val (d : DefE) : He.FnW := some (d.name, d.qual, d.params, .stmts d.body, d.scope, mainGlobals, [], builtinsNs)
def DefE.ok (K : PySem.W.Frag) (d : DefE) : Bool := PySem.W.keepIn K (.ref (d.at_ K)) && (match K.lookup (d.at_ K) with
  | some ⟨_, _, .func fd, _⟩ => PySem.W.codeIn K fd.code d.qual && (He.dflB K fd.defaults [] && He.kwdB K fd.kwdefaults d.kwd)
  | _ => false)
theorem DefE.funD {K : PySem.W.Frag} {d : DefE} (e : fnE K (d.at_ K) = d.val) (c : d.ok K = true) : ∃ fd, FunD K d.name d.qual d.params d.body d.scope [] d.kwd (d.at_ K) fd := by
  obtain ⟨kp, c2⟩ := He.ba c
  unfold fnE at e
  cases q : K.lookup (d.at_ K) with
  | none =>
    rw [q] at c2
    cases c2
  | some o =>
    obtain ⟨oc, od, dt, osl⟩ := o
    rw [q] at c2 e
    cases dt with
    | func fd =>
      obtain ⟨n1, n2, n3, n4, n5, n6, n7, n8, n9, n10, n11, n12, n13, n14, n15⟩ := fd
      have e2 : (some (n1, n2, n3, n4, n5, n6, n7, n15) : He.FnW) = some (d.name, d.qual, d.params, .stmts d.body, d.scope, mainGlobals, [], builtinsNs) := e
      simp only [Option.some.injEq, Prod.mk.injEq] at e2
      obtain ⟨h1, h2, h3, h4, h5, h6, h7, h8⟩ := e2
      subst h1 h2 h3 h4 h5 h6 h7 h8
      have c3 : (PySem.W.codeIn K n13 d.qual && (He.dflB K n8 [] && He.kwdB K n9 d.kwd)) = true := c2
      obtain ⟨k1, k2⟩ := He.ba c3
      obtain ⟨k3, k4⟩ := He.ba k2
      exact ⟨_, ⟨oc, od, n8, n9, n10, n11, n12, n13, n14, osl, rfl, q, k1, He.dflB_ok k3, He.kwdB_ok k4⟩, kp⟩
    | _ => cases c2

/-- what is known of the top behind its run -/
structure TX (K : PySem.W.Frag) (mg : Str → Option Value) : Prop where
  g_closes : mg "closes" = some (.ref (He.ga K "closes"))
  g_closed_contacts : mg "closed_contacts" = some (.ref (He.ga K "closed_contacts"))
  g_paths : mg "paths" = some (.ref (He.ga K "paths"))
  g_reached : mg "reached" = some (.ref (He.ga K "reached"))
  g_fed : mg "fed" = some (.ref (He.ga K "fed"))
  g_feeds : mg "feeds" = some (.ref (He.ga K "feeds"))
  g_is_short : mg "is_short" = some (.ref (He.ga K "is_short"))
  g_live_names : mg "live_names" = some (.ref (He.ga K "live_names"))
  g_live_relays : mg "live_relays" = some (.ref (He.ga K "live_relays"))
  g_live_lamps : mg "live_lamps" = some (.ref (He.ga K "live_lamps"))
  g_first_state : mg "first_state" = some (.ref (He.ga K "first_state"))
  g_due : mg "due" = some (.ref (He.ga K "due"))
  g_is_rest : mg "is_rest" = some (.ref (He.ga K "is_rest"))
  g_step : mg "step" = some (.ref (He.ga K "step"))
  g_moves : mg "moves" = some (.ref (He.ga K "moves"))
  g_check_lamps : mg "check_lamps" = some (.ref (He.ga K "check_lamps"))
  g_is_lit : mg "is_lit" = some (.ref (He.ga K "is_lit"))
  g_phase_behind : mg "phase_behind" = some (.ref (He.ga K "phase_behind"))
  g_first_flash : mg "first_flash" = some (.ref (He.ga K "first_flash"))
  g_flashes : mg "flashes" = some (.ref (He.ga K "flashes"))
  g_are_names : mg "are_names" = some (.ref (He.ga K "are_names"))
  g_is_between : mg "is_between" = some (.ref (He.ga K "is_between"))
  g_are_loads : mg "are_loads" = some (.ref (He.ga K "are_loads"))
  g_is_contact : mg "is_contact" = some (.ref (He.ga K "is_contact"))
  g_law_row : mg "_law_row" = some (.ref (He.ga K "_law_row"))
  g_law_numbers : mg "_law_numbers" = some (.ref (He.ga K "_law_numbers"))
  g_law_names : mg "_law_names" = some (.ref (He.ga K "_law_names"))
  g_law_loads : mg "_law_loads" = some (.ref (He.ga K "_law_loads"))
  g_law_contact : mg "_law_contact" = some (.ref (He.ga K "_law_contact"))
  g_law_made : mg "_law_made" = some (.ref (He.ga K "_law_made"))
  g_law_movers : mg "_law_movers" = some (.ref (He.ga K "_law_movers"))
  g_law_closed : mg "_law_closed" = some (.ref (He.ga K "_law_closed"))
  g_law_pairs : mg "_law_pairs" = some (.ref (He.ga K "_law_pairs"))
  g_law_reach : mg "_law_reach" = some (.ref (He.ga K "_law_reach"))
  g_law_reaches : mg "_law_reaches" = some (.ref (He.ga K "_law_reaches"))
  g_law_live : mg "_law_live" = some (.ref (He.ga K "_law_live"))
  g_law_due : mg "_law_due" = some (.ref (He.ga K "_law_due"))
  g_law_step : mg "_law_step" = some (.ref (He.ga K "_law_step"))
  g_law_first : mg "_law_first" = some (.ref (He.ga K "_law_first"))
  g_law_moves : mg "_law_moves" = some (.ref (He.ga K "_law_moves"))
  g_law_play : mg "_law_play" = some (.ref (He.ga K "_law_play"))
  g_law_small : mg "_law_small" = some (.ref (He.ga K "_law_small"))
  g_law_states : mg "_law_states" = some (.ref (He.ga K "_law_states"))
  g_law_ends : mg "_law_ends" = some (.ref (He.ga K "_law_ends"))
  g_law : mg "law" = some (.ref (He.ga K "law"))
  g_Board : mg "Board" = some (.ref (He.ga K "Board"))
  g_Flash : mg "Flash" = some (.ref (He.ga K "Flash"))
  g_FlashSearch : mg "FlashSearch" = some (.ref (He.ga K "FlashSearch"))
  z_len : mg "len" = none
  z_int : mg "int" = none
  z_abs : mg "abs" = none
  z_max : mg "max" = none
  z_list : mg "list" = none
  z_tuple : mg "tuple" = none
  z_all : mg "all" = none
  z_range : mg "range" = none
  z_enumerate : mg "enumerate" = none
  z_isinstance : mg "isinstance" = none
  k_WAITING : ∃ u, mg "WAITING" = some u ∧ RelV (.int 0) u
  k_SAME : ∃ u, mg "SAME" = some u ∧ RelV (.int 1) u
  k_OTHER : ∃ u, mg "OTHER" = some u ∧ RelV (.int 2) u
  k_FLASHED : ∃ u, mg "FLASHED" = some u ∧ RelV (.int 3) u
  k_LIMIT : ∃ u, mg "LIMIT" = some u ∧ RelV (.int 3000) u
  k_MOST_NAME_CHARS : ∃ u, mg "MOST_NAME_CHARS" = some u ∧ RelV (.int 12) u
  k_NAME_CHARS : ∃ u, mg "NAME_CHARS" = some u ∧ RelV (.str "abcdefghijklmnopqrstuvwxyz0123456789") u
  k_WHENS : ∃ u, mg "WHENS" = some u ∧ RelV (.ref (He.ga K "WHENS")) u
  k_WAYS : ∃ u, mg "WAYS" = some u ∧ RelV (.ref (He.ga K "WAYS")) u
  cl_Board : Cls K (He.ga K "Board")
  na_Board_nodes : NoAttr K (He.ga K "Board") "nodes"
  na_Board_switches : NoAttr K (He.ga K "Board") "switches"
  na_Board_relays : NoAttr K (He.ga K "Board") "relays"
  na_Board_lamps : NoAttr K (He.ga K "Board") "lamps"
  na_Board_contacts : NoAttr K (He.ga K "Board") "contacts"
  me_mover_number : Meth K (He.ga K "Board") "mover_number" (He.ma K (He.ga K "Board") "mover_number")
  mk_Board : Mk K (He.ga K "Board") (He.ma K (He.ga K "Board") "__init__")
  cl_Flash : Cls K (He.ga K "Flash")
  na_Flash_lamp : NoAttr K (He.ga K "Flash") "lamp"
  na_Flash_play : NoAttr K (He.ga K "Flash") "play"
  na_Flash_hand : NoAttr K (He.ga K "Flash") "hand"
  mk_Flash : Mk K (He.ga K "Flash") (He.ma K (He.ga K "Flash") "__init__")
  cl_FlashSearch : Cls K (He.ga K "FlashSearch")
  na_FlashSearch_board : NoAttr K (He.ga K "FlashSearch") "board"
  na_FlashSearch_lamp : NoAttr K (He.ga K "FlashSearch") "lamp"
  na_FlashSearch_limit : NoAttr K (He.ga K "FlashSearch") "limit"
  na_FlashSearch_cases : NoAttr K (He.ga K "FlashSearch") "cases"
  na_FlashSearch_sources : NoAttr K (He.ga K "FlashSearch") "sources"
  me_note : Meth K (He.ga K "FlashSearch") "note" (He.ma K (He.ga K "FlashSearch") "note")
  me_find_all : Meth K (He.ga K "FlashSearch") "find_all" (He.ma K (He.ga K "FlashSearch") "find_all")
  me_flash : Meth K (He.ga K "FlashSearch") "flash" (He.ma K (He.ga K "FlashSearch") "flash")
  me_flash_to : Meth K (He.ga K "FlashSearch") "flash_to" (He.ma K (He.ga K "FlashSearch") "flash_to")
  mk_FlashSearch : Mk K (He.ga K "FlashSearch") (He.ma K (He.ga K "FlashSearch") "__init__")
  pr_plus : PropOf K (He.ga K "Board") "plus" (He.ma K (He.ga K "Board") "plus") (recA K "plus" "property")
  pr_minus : PropOf K (He.ga K "Board") "minus" (He.ma K (He.ga K "Board") "minus") (recA K "minus" "property")
  pr_movers : PropOf K (He.ga K "Board") "movers" (He.ma K (He.ga K "Board") "movers") (recA K "movers" "property")
  cr : ClX.CRead K (He.ga K "Board") (.type "type")
  sm : SMet K (He.ga K "Board") (.type "type") "is_name" (He.ma K (He.ga K "Board") "is_name") (recA K "is_name" "staticmethod")
  cv_MOST_NODES : ∃ u, ClX.CVal K (He.ga K "Board") (.type "type") "MOST_NODES" (.int 16) u
  cv_MOST_SWITCHES : ∃ u, ClX.CVal K (He.ga K "Board") (.type "type") "MOST_SWITCHES" (.int 6) u
  cv_MOST_RELAYS : ∃ u, ClX.CVal K (He.ga K "Board") (.type "type") "MOST_RELAYS" (.int 8) u
  cv_MOST_LAMPS : ∃ u, ClX.CVal K (He.ga K "Board") (.type "type") "MOST_LAMPS" (.int 8) u
  cv_MOST_CONTACTS : ∃ u, ClX.CVal K (He.ga K "Board") (.type "type") "MOST_CONTACTS" (.int 40) u
  whens : ∀ H, SqT K H (He.ga K "WHENS") [.str "make", .str "break"]
  ways : ∀ H, SqT K H (He.ga K "WAYS") [.str "both", .str "forward"]
  f_closes : ∃ fd, FunD K "closes" "closes" (defArgs s_closes) (defBody s_closes) (defScope s_closes) [] [] (He.ga K "closes") fd
  f_closed_contacts : ∃ fd, FunD K "closed_contacts" "closed_contacts" (defArgs s_closed_contacts) (defBody s_closed_contacts) (defScope s_closed_contacts) [] [] (He.ga K "closed_contacts") fd
  f_paths : ∃ fd, FunD K "paths" "paths" (defArgs s_paths) (defBody s_paths) (defScope s_paths) [] [] (He.ga K "paths") fd
  f_reached : ∃ fd, FunD K "reached" "reached" (defArgs s_reached) (defBody s_reached) (defScope s_reached) [] [] (He.ga K "reached") fd
  f_fed : ∃ fd, FunD K "fed" "fed" (defArgs s_fed) (defBody s_fed) (defScope s_fed) [] [] (He.ga K "fed") fd
  f_feeds : ∃ fd, FunD K "feeds" "feeds" (defArgs s_feeds) (defBody s_feeds) (defScope s_feeds) [] [] (He.ga K "feeds") fd
  f_is_short : ∃ fd, FunD K "is_short" "is_short" (defArgs s_is_short) (defBody s_is_short) (defScope s_is_short) [] [] (He.ga K "is_short") fd
  f_live_names : ∃ fd, FunD K "live_names" "live_names" (defArgs s_live_names) (defBody s_live_names) (defScope s_live_names) [] [] (He.ga K "live_names") fd
  f_live_relays : ∃ fd, FunD K "live_relays" "live_relays" (defArgs s_live_relays) (defBody s_live_relays) (defScope s_live_relays) [] [] (He.ga K "live_relays") fd
  f_live_lamps : ∃ fd, FunD K "live_lamps" "live_lamps" (defArgs s_live_lamps) (defBody s_live_lamps) (defScope s_live_lamps) [] [] (He.ga K "live_lamps") fd
  f_first_state : ∃ fd, FunD K "first_state" "first_state" (defArgs s_first_state) (defBody s_first_state) (defScope s_first_state) [] [] (He.ga K "first_state") fd
  f_due : ∃ fd, FunD K "due" "due" (defArgs s_due) (defBody s_due) (defScope s_due) [] [] (He.ga K "due") fd
  f_is_rest : ∃ fd, FunD K "is_rest" "is_rest" (defArgs s_is_rest) (defBody s_is_rest) (defScope s_is_rest) [] [] (He.ga K "is_rest") fd
  f_step : ∃ fd, FunD K "step" "step" (defArgs s_step) (defBody s_step) (defScope s_step) [] [] (He.ga K "step") fd
  f_moves : ∃ fd, FunD K "moves" "moves" (defArgs s_moves) (defBody s_moves) (defScope s_moves) [] [("hurry", .int 0)] (He.ga K "moves") fd
  f_check_lamps : ∃ fd, FunD K "check_lamps" "check_lamps" (defArgs s_check_lamps) (defBody s_check_lamps) (defScope s_check_lamps) [] [] (He.ga K "check_lamps") fd
  f_is_lit : ∃ fd, FunD K "is_lit" "is_lit" (defArgs s_is_lit) (defBody s_is_lit) (defScope s_is_lit) [] [] (He.ga K "is_lit") fd
  f_phase_behind : ∃ fd, FunD K "phase_behind" "phase_behind" (defArgs s_phase_behind) (defBody s_phase_behind) (defScope s_phase_behind) [] [] (He.ga K "phase_behind") fd
  f_first_flash : ∃ fd, FunD K "first_flash" "first_flash" (defArgs s_first_flash) (defBody s_first_flash) (defScope s_first_flash) [] [("limit", .int 3000)] (He.ga K "first_flash") fd
  f_flashes : ∃ fd, FunD K "flashes" "flashes" (defArgs s_flashes) (defBody s_flashes) (defScope s_flashes) [] [("limit", .int 3000)] (He.ga K "flashes") fd
  f_are_names : ∃ fd, FunD K "are_names" "are_names" (defArgs s_are_names) (defBody s_are_names) (defScope s_are_names) [] [] (He.ga K "are_names") fd
  f_is_between : ∃ fd, FunD K "is_between" "is_between" (defArgs s_is_between) (defBody s_is_between) (defScope s_is_between) [] [] (He.ga K "is_between") fd
  f_are_loads : ∃ fd, FunD K "are_loads" "are_loads" (defArgs s_are_loads) (defBody s_are_loads) (defScope s_are_loads) [] [] (He.ga K "are_loads") fd
  f_is_contact : ∃ fd, FunD K "is_contact" "is_contact" (defArgs s_is_contact) (defBody s_is_contact) (defScope s_is_contact) [] [] (He.ga K "is_contact") fd
  f_law_row : ∃ fd, FunD K "_law_row" "_law_row" (defArgs s_law_row) (defBody s_law_row) (defScope s_law_row) [] [] (He.ga K "_law_row") fd
  f_law_numbers : ∃ fd, FunD K "_law_numbers" "_law_numbers" (defArgs s_law_numbers) (defBody s_law_numbers) (defScope s_law_numbers) [] [] (He.ga K "_law_numbers") fd
  f_law_names : ∃ fd, FunD K "_law_names" "_law_names" (defArgs s_law_names) (defBody s_law_names) (defScope s_law_names) [] [] (He.ga K "_law_names") fd
  f_law_loads : ∃ fd, FunD K "_law_loads" "_law_loads" (defArgs s_law_loads) (defBody s_law_loads) (defScope s_law_loads) [] [] (He.ga K "_law_loads") fd
  f_law_contact : ∃ fd, FunD K "_law_contact" "_law_contact" (defArgs s_law_contact) (defBody s_law_contact) (defScope s_law_contact) [] [] (He.ga K "_law_contact") fd
  f_law_made : ∃ fd, FunD K "_law_made" "_law_made" (defArgs s_law_made) (defBody s_law_made) (defScope s_law_made) [] [] (He.ga K "_law_made") fd
  f_law_movers : ∃ fd, FunD K "_law_movers" "_law_movers" (defArgs s_law_movers) (defBody s_law_movers) (defScope s_law_movers) [] [] (He.ga K "_law_movers") fd
  f_law_closed : ∃ fd, FunD K "_law_closed" "_law_closed" (defArgs s_law_closed) (defBody s_law_closed) (defScope s_law_closed) [] [] (He.ga K "_law_closed") fd
  f_law_pairs : ∃ fd, FunD K "_law_pairs" "_law_pairs" (defArgs s_law_pairs) (defBody s_law_pairs) (defScope s_law_pairs) [] [] (He.ga K "_law_pairs") fd
  f_law_reach : ∃ fd, FunD K "_law_reach" "_law_reach" (defArgs s_law_reach) (defBody s_law_reach) (defScope s_law_reach) [] [] (He.ga K "_law_reach") fd
  f_law_reaches : ∃ fd, FunD K "_law_reaches" "_law_reaches" (defArgs s_law_reaches) (defBody s_law_reaches) (defScope s_law_reaches) [] [] (He.ga K "_law_reaches") fd
  f_law_live : ∃ fd, FunD K "_law_live" "_law_live" (defArgs s_law_live) (defBody s_law_live) (defScope s_law_live) [] [] (He.ga K "_law_live") fd
  f_law_due : ∃ fd, FunD K "_law_due" "_law_due" (defArgs s_law_due) (defBody s_law_due) (defScope s_law_due) [] [] (He.ga K "_law_due") fd
  f_law_step : ∃ fd, FunD K "_law_step" "_law_step" (defArgs s_law_step) (defBody s_law_step) (defScope s_law_step) [] [] (He.ga K "_law_step") fd
  f_law_first : ∃ fd, FunD K "_law_first" "_law_first" (defArgs s_law_first) (defBody s_law_first) (defScope s_law_first) [] [] (He.ga K "_law_first") fd
  f_law_moves : ∃ fd, FunD K "_law_moves" "_law_moves" (defArgs s_law_moves) (defBody s_law_moves) (defScope s_law_moves) [] [] (He.ga K "_law_moves") fd
  f_law_play : ∃ fd, FunD K "_law_play" "_law_play" (defArgs s_law_play) (defBody s_law_play) (defScope s_law_play) [] [] (He.ga K "_law_play") fd
  f_law_small : ∃ fd, FunD K "_law_small" "_law_small" (defArgs s_law_small) (defBody s_law_small) (defScope s_law_small) [] [] (He.ga K "_law_small") fd
  f_law_states : ∃ fd, FunD K "_law_states" "_law_states" (defArgs s_law_states) (defBody s_law_states) (defScope s_law_states) [] [] (He.ga K "_law_states") fd
  f_law_ends : ∃ fd, FunD K "_law_ends" "_law_ends" (defArgs s_law_ends) (defBody s_law_ends) (defScope s_law_ends) [] [] (He.ga K "_law_ends") fd
  f_law : ∃ fd, FunD K "law" "law" (defArgs s_law) (defBody s_law) (defScope s_law) [] [] (He.ga K "law") fd
  f_Board_is_name : ∃ fd, FunD K "is_name" "Board.is_name" (defArgs s_Board_is_name) (defBody s_Board_is_name) (defScope s_Board_is_name) [] [] (recA K "is_name" "staticmethod") fd
  f_Board_plus : ∃ fd, FunD K "plus" "Board.plus" (defArgs s_Board_plus) (defBody s_Board_plus) (defScope s_Board_plus) [] [] (recA K "plus" "property") fd
  f_Board_minus : ∃ fd, FunD K "minus" "Board.minus" (defArgs s_Board_minus) (defBody s_Board_minus) (defScope s_Board_minus) [] [] (recA K "minus" "property") fd
  f_Board_movers : ∃ fd, FunD K "movers" "Board.movers" (defArgs s_Board_movers) (defBody s_Board_movers) (defScope s_Board_movers) [] [] (recA K "movers" "property") fd
  f_Board_mover_number : ∃ fd, FunD K "mover_number" "Board.mover_number" (defArgs s_Board_mover_number) (defBody s_Board_mover_number) (defScope s_Board_mover_number) [] [] (He.ma K (He.ga K "Board") "mover_number") fd
  f_Flashinit : ∃ fd, FunD K "__init__" "Flash.__init__" (defArgs s_Flashinit) (defBody s_Flashinit) (defScope s_Flashinit) [] [] (He.ma K (He.ga K "Flash") "__init__") fd
  f_FlashSearchinit : ∃ fd, FunD K "__init__" "FlashSearch.__init__" (defArgs s_FlashSearchinit) (defBody s_FlashSearchinit) (defScope s_FlashSearchinit) [] [] (He.ma K (He.ga K "FlashSearch") "__init__") fd
  f_FlashSearch_note : ∃ fd, FunD K "note" "FlashSearch.note" (defArgs s_FlashSearch_note) (defBody s_FlashSearch_note) (defScope s_FlashSearch_note) [] [] (He.ma K (He.ga K "FlashSearch") "note") fd
  f_FlashSearch_find_all : ∃ fd, FunD K "find_all" "FlashSearch.find_all" (defArgs s_FlashSearch_find_all) (defBody s_FlashSearch_find_all) (defScope s_FlashSearch_find_all) [] [] (He.ma K (He.ga K "FlashSearch") "find_all") fd
  f_FlashSearch_flash : ∃ fd, FunD K "flash" "FlashSearch.flash" (defArgs s_FlashSearch_flash) (defBody s_FlashSearch_flash) (defScope s_FlashSearch_flash) [] [] (He.ma K (He.ga K "FlashSearch") "flash") fd
  f_FlashSearch_flash_to : ∃ fd, FunD K "flash_to" "FlashSearch.flash_to" (defArgs s_FlashSearch_flash_to) (defBody s_FlashSearch_flash_to) (defScope s_FlashSearch_flash_to) [] [] (He.ma K (He.ga K "FlashSearch") "flash_to") fd
  f_Boardinit : ∃ fd, FunD K "__init__" "Board.__init__" (defArgs s_Boardinit) (defBody s_Boardinit) (defScope s_Boardinit) [] [] (He.ma K (He.ga K "Board") "__init__") fd

/-! ### the facts as Bools -/
def faK : List He.Fa := [.glo "closes",
  .glo "closed_contacts",
  .glo "paths",
  .glo "reached",
  .glo "fed",
  .glo "feeds",
  .glo "is_short",
  .glo "live_names",
  .glo "live_relays",
  .glo "live_lamps",
  .glo "first_state",
  .glo "due",
  .glo "is_rest",
  .glo "step",
  .glo "moves",
  .glo "check_lamps",
  .glo "is_lit",
  .glo "phase_behind",
  .glo "first_flash",
  .glo "flashes",
  .glo "are_names",
  .glo "is_between",
  .glo "are_loads",
  .glo "is_contact",
  .glo "_law_row",
  .glo "_law_numbers",
  .glo "_law_names",
  .glo "_law_loads",
  .glo "_law_contact",
  .glo "_law_made",
  .glo "_law_movers",
  .glo "_law_closed",
  .glo "_law_pairs",
  .glo "_law_reach",
  .glo "_law_reaches",
  .glo "_law_live",
  .glo "_law_due",
  .glo "_law_step",
  .glo "_law_first",
  .glo "_law_moves",
  .glo "_law_play",
  .glo "_law_small",
  .glo "_law_states",
  .glo "_law_ends",
  .glo "law",
  .glo "Board",
  .glo "Flash",
  .glo "FlashSearch",
  .free "len",
  .free "int",
  .free "abs",
  .free "max",
  .free "list",
  .free "tuple",
  .free "all",
  .free "range",
  .free "enumerate",
  .free "isinstance",
  .int "WAITING" 0,
  .int "SAME" 1,
  .int "OTHER" 2,
  .int "FLASHED" 3,
  .int "LIMIT" 3000,
  .int "MOST_NAME_CHARS" 12,
  .str "NAME_CHARS" "abcdefghijklmnopqrstuvwxyz0123456789",
  .glo "WHENS",
  .glo "WAYS",
  .cls "Board",
  .noat "Board" "nodes",
  .noat "Board" "switches",
  .noat "Board" "relays",
  .noat "Board" "lamps",
  .noat "Board" "contacts",
  .meth "Board" "mover_number",
  .mkr "Board",
  .cls "Flash",
  .noat "Flash" "lamp",
  .noat "Flash" "play",
  .noat "Flash" "hand",
  .mkr "Flash",
  .cls "FlashSearch",
  .noat "FlashSearch" "board",
  .noat "FlashSearch" "lamp",
  .noat "FlashSearch" "limit",
  .noat "FlashSearch" "cases",
  .noat "FlashSearch" "sources",
  .meth "FlashSearch" "note",
  .meth "FlashSearch" "find_all",
  .meth "FlashSearch" "flash",
  .meth "FlashSearch" "flash_to",
  .mkr "FlashSearch"]
def valB (K : PySem.W.Frag) (f : Str) (i : Int) : Bool := match PySem.W.findCls K (.ref (He.ga K "Board")) (.type "type") f with
  | some (.val (.int j _)) => decide (i = j)
  | _ => false
theorem valB_ok {K : PySem.W.Frag} {f : Str} {i : Int} (h : valB K f i = true) : ∃ u, ClX.CVal K (He.ga K "Board") (.type "type") f (.int i) u := by
  unfold valB at h
  cases e : PySem.W.findCls K (.ref (He.ga K "Board")) (.type "type") f with
  | none => rw [e] at h; cases h
  | some c =>
    rw [e] at h
    cases c with
    | val v =>
      cases v with
      | int j t =>
        have : i = j := of_decide_eq_true h
        subst this
        exact ⟨_, e, t, rfl⟩
      | _ => cases h
    | _ => cases h
def smB (K : PySem.W.Frag) : Bool := match PySem.W.findCls K (.ref (He.ga K "Board")) (.type "type") "is_name" with
  | some (.get (.builtin b) (.ref p) .none (.ref c)) => decide (b = "staticmethod.__get__") && (decide (p = He.ma K (He.ga K "Board") "is_name") && decide (c = He.ga K "Board"))
  | _ => false
theorem smB_ok {K : PySem.W.Frag} (h : smB K = true) : PySem.W.findCls K (.ref (He.ga K "Board")) (.type "type") "is_name" = some (.get (.builtin "staticmethod.__get__") (.ref (He.ma K (He.ga K "Board") "is_name")) .none (.ref (He.ga K "Board"))) := by
  unfold smB at h
  split at h
  · rename_i b p c e
    obtain ⟨h1, h2⟩ := He.ba h
    obtain ⟨h3, h4⟩ := He.ba h2
    rw [e, of_decide_eq_true h1, of_decide_eq_true h3, of_decide_eq_true h4]
  · cases h
theorem intU {K : PySem.W.Frag} {h : Heap} {mg : Str → Option Value} (X : K.In h) (G : h.Ns mainGlobals mg) {x : Str} {i : Int} (c : (He.Fa.int x i).ok K = true) : ∃ u, mg x = some u ∧ RelV (.int i) u :=
  let ⟨t, e⟩ := He.int_ok X G c; ⟨_, e, t, rfl⟩
theorem strU {K : PySem.W.Frag} {h : Heap} {mg : Str → Option Value} (X : K.In h) (G : h.Ns mainGlobals mg) {x z : Str} (c : (He.Fa.str x z).ok K = true) : ∃ u, mg x = some u ∧ RelV (.str z) u :=
  let ⟨t, e⟩ := He.str_ok X G c; ⟨_, e, t, rfl⟩
theorem refU {K : PySem.W.Frag} {h : Heap} {mg : Str → Option Value} (X : K.In h) (G : h.Ns mainGlobals mg) {x : Str} (c : (He.Fa.glo x).ok K = true) : ∃ u, mg x = some u ∧ RelV (.ref (He.ga K x)) u := ⟨_, He.glo_ok X G c, rfl⟩
def exL (K : PySem.W.Frag) : List Bool := [He.eqO (PySem.W.findIn K (.ref (He.ga K "Board")) "plus") (some (some (.ref (He.ma K (He.ga K "Board") "plus")))),
  He.eqO (PySem.W.specialIn K (.ref (He.ma K (He.ga K "Board") "plus")) "__get__") (some (some (.builtin "property.__get__"))),
  decide (PySem.W.takesIn K (.ref (He.ma K (He.ga K "Board") "plus")) = some true),
  ((PySem.W.recIn K (He.ma K (He.ga K "Board") "plus") "property").isSome && !(recA K "plus" "property" == 0)),
  He.eqO (PySem.W.findIn K (.ref (He.ga K "Board")) "minus") (some (some (.ref (He.ma K (He.ga K "Board") "minus")))),
  He.eqO (PySem.W.specialIn K (.ref (He.ma K (He.ga K "Board") "minus")) "__get__") (some (some (.builtin "property.__get__"))),
  decide (PySem.W.takesIn K (.ref (He.ma K (He.ga K "Board") "minus")) = some true),
  ((PySem.W.recIn K (He.ma K (He.ga K "Board") "minus") "property").isSome && !(recA K "minus" "property" == 0)),
  He.eqO (PySem.W.findIn K (.ref (He.ga K "Board")) "movers") (some (some (.ref (He.ma K (He.ga K "Board") "movers")))),
  He.eqO (PySem.W.specialIn K (.ref (He.ma K (He.ga K "Board") "movers")) "__get__") (some (some (.builtin "property.__get__"))),
  decide (PySem.W.takesIn K (.ref (He.ma K (He.ga K "Board") "movers")) = some true),
  ((PySem.W.recIn K (He.ma K (He.ga K "Board") "movers") "property").isSome && !(recA K "movers" "property" == 0)),
  PySem.W.readsIn K (He.ga K "Board") (.type "type"),
  He.eqO (PySem.W.specialIn K (.ref (He.ga K "Board")) "__getattribute__") (some (some (.builtin "type.__getattribute__"))),
  smB K, ((PySem.W.recIn K (He.ma K (He.ga K "Board") "is_name") "staticmethod").isSome && !(recA K "is_name" "staticmethod" == 0)), PySem.W.keepIn K (.ref (recA K "is_name" "staticmethod")),
  valB K "MOST_NODES" 16, valB K "MOST_SWITCHES" 6, valB K "MOST_RELAYS" 8, valB K "MOST_LAMPS" 8, valB K "MOST_CONTACTS" 40,
  He.tupB K "WHENS" [.str "make", .str "break"], He.tupB K "WAYS" [.str "both", .str "forward"]]
def fnK : List DefE := [⟨fun K => He.ga K "closes", "closes", "closes", defArgs s_closes, defBody s_closes, defScope s_closes, []⟩,
  ⟨fun K => He.ga K "closed_contacts", "closed_contacts", "closed_contacts", defArgs s_closed_contacts, defBody s_closed_contacts, defScope s_closed_contacts, []⟩,
  ⟨fun K => He.ga K "paths", "paths", "paths", defArgs s_paths, defBody s_paths, defScope s_paths, []⟩,
  ⟨fun K => He.ga K "reached", "reached", "reached", defArgs s_reached, defBody s_reached, defScope s_reached, []⟩,
  ⟨fun K => He.ga K "fed", "fed", "fed", defArgs s_fed, defBody s_fed, defScope s_fed, []⟩,
  ⟨fun K => He.ga K "feeds", "feeds", "feeds", defArgs s_feeds, defBody s_feeds, defScope s_feeds, []⟩,
  ⟨fun K => He.ga K "is_short", "is_short", "is_short", defArgs s_is_short, defBody s_is_short, defScope s_is_short, []⟩,
  ⟨fun K => He.ga K "live_names", "live_names", "live_names", defArgs s_live_names, defBody s_live_names, defScope s_live_names, []⟩,
  ⟨fun K => He.ga K "live_relays", "live_relays", "live_relays", defArgs s_live_relays, defBody s_live_relays, defScope s_live_relays, []⟩,
  ⟨fun K => He.ga K "live_lamps", "live_lamps", "live_lamps", defArgs s_live_lamps, defBody s_live_lamps, defScope s_live_lamps, []⟩,
  ⟨fun K => He.ga K "first_state", "first_state", "first_state", defArgs s_first_state, defBody s_first_state, defScope s_first_state, []⟩,
  ⟨fun K => He.ga K "due", "due", "due", defArgs s_due, defBody s_due, defScope s_due, []⟩,
  ⟨fun K => He.ga K "is_rest", "is_rest", "is_rest", defArgs s_is_rest, defBody s_is_rest, defScope s_is_rest, []⟩,
  ⟨fun K => He.ga K "step", "step", "step", defArgs s_step, defBody s_step, defScope s_step, []⟩,
  ⟨fun K => He.ga K "moves", "moves", "moves", defArgs s_moves, defBody s_moves, defScope s_moves, [("hurry", .int 0)]⟩,
  ⟨fun K => He.ga K "check_lamps", "check_lamps", "check_lamps", defArgs s_check_lamps, defBody s_check_lamps, defScope s_check_lamps, []⟩,
  ⟨fun K => He.ga K "is_lit", "is_lit", "is_lit", defArgs s_is_lit, defBody s_is_lit, defScope s_is_lit, []⟩,
  ⟨fun K => He.ga K "phase_behind", "phase_behind", "phase_behind", defArgs s_phase_behind, defBody s_phase_behind, defScope s_phase_behind, []⟩,
  ⟨fun K => He.ga K "first_flash", "first_flash", "first_flash", defArgs s_first_flash, defBody s_first_flash, defScope s_first_flash, [("limit", .int 3000)]⟩,
  ⟨fun K => He.ga K "flashes", "flashes", "flashes", defArgs s_flashes, defBody s_flashes, defScope s_flashes, [("limit", .int 3000)]⟩,
  ⟨fun K => He.ga K "are_names", "are_names", "are_names", defArgs s_are_names, defBody s_are_names, defScope s_are_names, []⟩,
  ⟨fun K => He.ga K "is_between", "is_between", "is_between", defArgs s_is_between, defBody s_is_between, defScope s_is_between, []⟩,
  ⟨fun K => He.ga K "are_loads", "are_loads", "are_loads", defArgs s_are_loads, defBody s_are_loads, defScope s_are_loads, []⟩,
  ⟨fun K => He.ga K "is_contact", "is_contact", "is_contact", defArgs s_is_contact, defBody s_is_contact, defScope s_is_contact, []⟩,
  ⟨fun K => He.ga K "_law_row", "_law_row", "_law_row", defArgs s_law_row, defBody s_law_row, defScope s_law_row, []⟩,
  ⟨fun K => He.ga K "_law_numbers", "_law_numbers", "_law_numbers", defArgs s_law_numbers, defBody s_law_numbers, defScope s_law_numbers, []⟩,
  ⟨fun K => He.ga K "_law_names", "_law_names", "_law_names", defArgs s_law_names, defBody s_law_names, defScope s_law_names, []⟩,
  ⟨fun K => He.ga K "_law_loads", "_law_loads", "_law_loads", defArgs s_law_loads, defBody s_law_loads, defScope s_law_loads, []⟩,
  ⟨fun K => He.ga K "_law_contact", "_law_contact", "_law_contact", defArgs s_law_contact, defBody s_law_contact, defScope s_law_contact, []⟩,
  ⟨fun K => He.ga K "_law_made", "_law_made", "_law_made", defArgs s_law_made, defBody s_law_made, defScope s_law_made, []⟩,
  ⟨fun K => He.ga K "_law_movers", "_law_movers", "_law_movers", defArgs s_law_movers, defBody s_law_movers, defScope s_law_movers, []⟩,
  ⟨fun K => He.ga K "_law_closed", "_law_closed", "_law_closed", defArgs s_law_closed, defBody s_law_closed, defScope s_law_closed, []⟩,
  ⟨fun K => He.ga K "_law_pairs", "_law_pairs", "_law_pairs", defArgs s_law_pairs, defBody s_law_pairs, defScope s_law_pairs, []⟩,
  ⟨fun K => He.ga K "_law_reach", "_law_reach", "_law_reach", defArgs s_law_reach, defBody s_law_reach, defScope s_law_reach, []⟩,
  ⟨fun K => He.ga K "_law_reaches", "_law_reaches", "_law_reaches", defArgs s_law_reaches, defBody s_law_reaches, defScope s_law_reaches, []⟩,
  ⟨fun K => He.ga K "_law_live", "_law_live", "_law_live", defArgs s_law_live, defBody s_law_live, defScope s_law_live, []⟩,
  ⟨fun K => He.ga K "_law_due", "_law_due", "_law_due", defArgs s_law_due, defBody s_law_due, defScope s_law_due, []⟩,
  ⟨fun K => He.ga K "_law_step", "_law_step", "_law_step", defArgs s_law_step, defBody s_law_step, defScope s_law_step, []⟩,
  ⟨fun K => He.ga K "_law_first", "_law_first", "_law_first", defArgs s_law_first, defBody s_law_first, defScope s_law_first, []⟩,
  ⟨fun K => He.ga K "_law_moves", "_law_moves", "_law_moves", defArgs s_law_moves, defBody s_law_moves, defScope s_law_moves, []⟩,
  ⟨fun K => He.ga K "_law_play", "_law_play", "_law_play", defArgs s_law_play, defBody s_law_play, defScope s_law_play, []⟩,
  ⟨fun K => He.ga K "_law_small", "_law_small", "_law_small", defArgs s_law_small, defBody s_law_small, defScope s_law_small, []⟩,
  ⟨fun K => He.ga K "_law_states", "_law_states", "_law_states", defArgs s_law_states, defBody s_law_states, defScope s_law_states, []⟩,
  ⟨fun K => He.ga K "_law_ends", "_law_ends", "_law_ends", defArgs s_law_ends, defBody s_law_ends, defScope s_law_ends, []⟩,
  ⟨fun K => He.ga K "law", "law", "law", defArgs s_law, defBody s_law, defScope s_law, []⟩,
  ⟨fun K => recA K "is_name" "staticmethod", "is_name", "Board.is_name", defArgs s_Board_is_name, defBody s_Board_is_name, defScope s_Board_is_name, []⟩,
  ⟨fun K => recA K "plus" "property", "plus", "Board.plus", defArgs s_Board_plus, defBody s_Board_plus, defScope s_Board_plus, []⟩,
  ⟨fun K => recA K "minus" "property", "minus", "Board.minus", defArgs s_Board_minus, defBody s_Board_minus, defScope s_Board_minus, []⟩,
  ⟨fun K => recA K "movers" "property", "movers", "Board.movers", defArgs s_Board_movers, defBody s_Board_movers, defScope s_Board_movers, []⟩,
  ⟨fun K => He.ma K (He.ga K "Board") "mover_number", "mover_number", "Board.mover_number", defArgs s_Board_mover_number, defBody s_Board_mover_number, defScope s_Board_mover_number, []⟩,
  ⟨fun K => He.ma K (He.ga K "Flash") "__init__", "__init__", "Flash.__init__", defArgs s_Flashinit, defBody s_Flashinit, defScope s_Flashinit, []⟩,
  ⟨fun K => He.ma K (He.ga K "FlashSearch") "__init__", "__init__", "FlashSearch.__init__", defArgs s_FlashSearchinit, defBody s_FlashSearchinit, defScope s_FlashSearchinit, []⟩,
  ⟨fun K => He.ma K (He.ga K "FlashSearch") "note", "note", "FlashSearch.note", defArgs s_FlashSearch_note, defBody s_FlashSearch_note, defScope s_FlashSearch_note, []⟩,
  ⟨fun K => He.ma K (He.ga K "FlashSearch") "find_all", "find_all", "FlashSearch.find_all", defArgs s_FlashSearch_find_all, defBody s_FlashSearch_find_all, defScope s_FlashSearch_find_all, []⟩,
  ⟨fun K => He.ma K (He.ga K "FlashSearch") "flash", "flash", "FlashSearch.flash", defArgs s_FlashSearch_flash, defBody s_FlashSearch_flash, defScope s_FlashSearch_flash, []⟩,
  ⟨fun K => He.ma K (He.ga K "FlashSearch") "flash_to", "flash_to", "FlashSearch.flash_to", defArgs s_FlashSearch_flash_to, defBody s_FlashSearch_flash_to, defScope s_FlashSearch_flash_to, []⟩,
  ⟨fun K => He.ma K (He.ga K "Board") "__init__", "__init__", "Board.__init__", defArgs s_Boardinit, defBody s_Boardinit, defScope s_Boardinit, []⟩]
abbrev AlK : Type := Bool × List He.FnW
def obsK (K : PySem.W.Frag) : AlK := ((faK.all fun f => f.ok K) && (((exL K).all fun b => b) && fnK.all fun d => d.ok K), fnK.map fun d => fnE K (d.at_ K))
def valK : AlK := (true, fnK.map DefE.val)
def SaysK (K : PySem.W.Frag) : Prop := obsK K = valK
/-- what the module's names (and the statics) reach -/
def asK (g : Addr → Option Obj) : Nat → List Addr
  | 0 => [mainGlobals, cStatics]
  | n + 1 => He.growD g (asK g n)
def obsKG (g : Addr → Option Obj) : AlK := obsK (He.frG g (asK g 5))
def hookK : PySem.W.Hook where
  α := AlK
  obs := fun s => obsKG s.heap.get?
  val := fun _ => valK
  says := fun _ h => ∃ K : PySem.W.Frag, K.In h ∧ SaysK K
  of := fun _ _ e => ⟨_, He.frG_in, e⟩
  keeps := fun _ _ _ ⟨K, hK, c⟩ k => ⟨K, PySem.W.Frag.In.keeps hK k, c⟩
theorem obsKG_eq {g : Addr → Option Obj} {s : Shared} (h : ∀ a, g a = s.heap.get? a) : obsKG g = hookK.obs s := by
  have e : g = s.heap.get? := funext h
  rw [e] <;> rfl
theorem SaysK.fact {K : PySem.W.Frag} (c : SaysK K) (i : Nat) {f : He.Fa} (h : faK[i]? = some f := by rfl) : f.ok K = true :=
  List.all_eq_true.mp (He.ba (congrArg (fun z : AlK => z.1) c)).1 f (List.mem_of_getElem? h)
theorem SaysK.more {K : PySem.W.Frag} (c : SaysK K) (i : Nat) {b : Bool} (h : (exL K)[i]? = some b) : b = true :=
  List.all_eq_true.mp (He.ba (He.ba (congrArg (fun z : AlK => z.1) c)).2).1 b (List.mem_of_getElem? h)
theorem SaysK.def_ {K : PySem.W.Frag} (c : SaysK K) (i : Nat) {d : DefE} (h : fnK[i]? = some d := by rfl) : ∃ fd, FunD K d.name d.qual d.params d.body d.scope [] d.kwd (d.at_ K) fd := by
  have c2 := (He.ba (He.ba (congrArg (fun z : AlK => z.1) c)).2).2
  have e : fnK.map (fun d => fnE K (d.at_ K)) = fnK.map DefE.val := congrArg (fun z : AlK => z.2) c
  have e2 : (fnK.map fun d => fnE K (d.at_ K))[i]? = (fnK.map DefE.val)[i]? := by rw [e]
  rw [List.getElem?_map, List.getElem?_map, h] at e2
  exact DefE.funD (Option.some.inj e2) (List.all_eq_true.mp c2 d (List.mem_of_getElem? h))
theorem prop_ok {K : PySem.W.Frag} {m : Str} (h1 : He.eqO (PySem.W.findIn K (.ref (He.ga K "Board")) m) (some (some (.ref (He.ma K (He.ga K "Board") m)))) = true)
    (h2 : He.eqO (PySem.W.specialIn K (.ref (He.ma K (He.ga K "Board") m)) "__get__") (some (some (.builtin "property.__get__"))) = true) (h3 : decide (PySem.W.takesIn K (.ref (He.ma K (He.ga K "Board") m)) = some true) = true)
    (h4 : ((PySem.W.recIn K (He.ma K (He.ga K "Board") m) "property").isSome && !(recA K m "property" == 0)) = true) : PropOf K (He.ga K "Board") m (He.ma K (He.ga K "Board") m) (recA K m "property") := by
  obtain ⟨a, b⟩ := He.ba h4
  exact ⟨He.eqO_ok h1, He.eqO_ok h2, of_decide_eq_true h3, recA_ok a (by intro z; rw [z] at b; cases b)⟩

theorem tx_of {K : PySem.W.Frag} {h : Heap} {mg : Str → Option Value} (X : K.In h) (G : h.Ns mainGlobals mg) (c : SaysK K) : TX K mg where
  g_closes := He.glo_ok X G (c.fact 0)
  g_closed_contacts := He.glo_ok X G (c.fact 1)
  g_paths := He.glo_ok X G (c.fact 2)
  g_reached := He.glo_ok X G (c.fact 3)
  g_fed := He.glo_ok X G (c.fact 4)
  g_feeds := He.glo_ok X G (c.fact 5)
  g_is_short := He.glo_ok X G (c.fact 6)
  g_live_names := He.glo_ok X G (c.fact 7)
  g_live_relays := He.glo_ok X G (c.fact 8)
  g_live_lamps := He.glo_ok X G (c.fact 9)
  g_first_state := He.glo_ok X G (c.fact 10)
  g_due := He.glo_ok X G (c.fact 11)
  g_is_rest := He.glo_ok X G (c.fact 12)
  g_step := He.glo_ok X G (c.fact 13)
  g_moves := He.glo_ok X G (c.fact 14)
  g_check_lamps := He.glo_ok X G (c.fact 15)
  g_is_lit := He.glo_ok X G (c.fact 16)
  g_phase_behind := He.glo_ok X G (c.fact 17)
  g_first_flash := He.glo_ok X G (c.fact 18)
  g_flashes := He.glo_ok X G (c.fact 19)
  g_are_names := He.glo_ok X G (c.fact 20)
  g_is_between := He.glo_ok X G (c.fact 21)
  g_are_loads := He.glo_ok X G (c.fact 22)
  g_is_contact := He.glo_ok X G (c.fact 23)
  g_law_row := He.glo_ok X G (c.fact 24)
  g_law_numbers := He.glo_ok X G (c.fact 25)
  g_law_names := He.glo_ok X G (c.fact 26)
  g_law_loads := He.glo_ok X G (c.fact 27)
  g_law_contact := He.glo_ok X G (c.fact 28)
  g_law_made := He.glo_ok X G (c.fact 29)
  g_law_movers := He.glo_ok X G (c.fact 30)
  g_law_closed := He.glo_ok X G (c.fact 31)
  g_law_pairs := He.glo_ok X G (c.fact 32)
  g_law_reach := He.glo_ok X G (c.fact 33)
  g_law_reaches := He.glo_ok X G (c.fact 34)
  g_law_live := He.glo_ok X G (c.fact 35)
  g_law_due := He.glo_ok X G (c.fact 36)
  g_law_step := He.glo_ok X G (c.fact 37)
  g_law_first := He.glo_ok X G (c.fact 38)
  g_law_moves := He.glo_ok X G (c.fact 39)
  g_law_play := He.glo_ok X G (c.fact 40)
  g_law_small := He.glo_ok X G (c.fact 41)
  g_law_states := He.glo_ok X G (c.fact 42)
  g_law_ends := He.glo_ok X G (c.fact 43)
  g_law := He.glo_ok X G (c.fact 44)
  g_Board := He.glo_ok X G (c.fact 45)
  g_Flash := He.glo_ok X G (c.fact 46)
  g_FlashSearch := He.glo_ok X G (c.fact 47)
  z_len := He.free_ok X G (c.fact 48)
  z_int := He.free_ok X G (c.fact 49)
  z_abs := He.free_ok X G (c.fact 50)
  z_max := He.free_ok X G (c.fact 51)
  z_list := He.free_ok X G (c.fact 52)
  z_tuple := He.free_ok X G (c.fact 53)
  z_all := He.free_ok X G (c.fact 54)
  z_range := He.free_ok X G (c.fact 55)
  z_enumerate := He.free_ok X G (c.fact 56)
  z_isinstance := He.free_ok X G (c.fact 57)
  k_WAITING := intU X G (c.fact 58)
  k_SAME := intU X G (c.fact 59)
  k_OTHER := intU X G (c.fact 60)
  k_FLASHED := intU X G (c.fact 61)
  k_LIMIT := intU X G (c.fact 62)
  k_MOST_NAME_CHARS := intU X G (c.fact 63)
  k_NAME_CHARS := strU X G (c.fact 64)
  k_WHENS := refU X G (c.fact 65)
  k_WAYS := refU X G (c.fact 66)
  cl_Board := He.cls_ok (c.fact 67)
  na_Board_nodes := He.noat_ok (c.fact 68)
  na_Board_switches := He.noat_ok (c.fact 69)
  na_Board_relays := He.noat_ok (c.fact 70)
  na_Board_lamps := He.noat_ok (c.fact 71)
  na_Board_contacts := He.noat_ok (c.fact 72)
  me_mover_number := He.meth_ok (c.fact 73)
  mk_Board := He.mkr_ok (c.fact 74)
  cl_Flash := He.cls_ok (c.fact 75)
  na_Flash_lamp := He.noat_ok (c.fact 76)
  na_Flash_play := He.noat_ok (c.fact 77)
  na_Flash_hand := He.noat_ok (c.fact 78)
  mk_Flash := He.mkr_ok (c.fact 79)
  cl_FlashSearch := He.cls_ok (c.fact 80)
  na_FlashSearch_board := He.noat_ok (c.fact 81)
  na_FlashSearch_lamp := He.noat_ok (c.fact 82)
  na_FlashSearch_limit := He.noat_ok (c.fact 83)
  na_FlashSearch_cases := He.noat_ok (c.fact 84)
  na_FlashSearch_sources := He.noat_ok (c.fact 85)
  me_note := He.meth_ok (c.fact 86)
  me_find_all := He.meth_ok (c.fact 87)
  me_flash := He.meth_ok (c.fact 88)
  me_flash_to := He.meth_ok (c.fact 89)
  mk_FlashSearch := He.mkr_ok (c.fact 90)
  pr_plus := prop_ok (c.more 0 rfl) (c.more 1 rfl) (c.more 2 rfl) (c.more 3 rfl)
  pr_minus := prop_ok (c.more 4 rfl) (c.more 5 rfl) (c.more 6 rfl) (c.more 7 rfl)
  pr_movers := prop_ok (c.more 8 rfl) (c.more 9 rfl) (c.more 10 rfl) (c.more 11 rfl)
  cr := ⟨c.more 12 rfl, He.eqO_ok (c.more 13 rfl)⟩
  sm := ⟨smB_ok (c.more 14 rfl), (by have h4 := c.more 15 rfl; obtain ⟨a, b⟩ := He.ba h4; exact recA_ok a (by intro z; rw [z] at b; cases b)), c.more 16 rfl⟩
  cv_MOST_NODES := valB_ok (c.more 17 rfl)
  cv_MOST_SWITCHES := valB_ok (c.more 18 rfl)
  cv_MOST_RELAYS := valB_ok (c.more 19 rfl)
  cv_MOST_LAMPS := valB_ok (c.more 20 rfl)
  cv_MOST_CONTACTS := valB_ok (c.more 21 rfl)
  whens := fun H => He.tupB_ok (c.more 22 rfl) H
  ways := fun H => He.tupB_ok (c.more 23 rfl) H
  f_closes := c.def_ 0
  f_closed_contacts := c.def_ 1
  f_paths := c.def_ 2
  f_reached := c.def_ 3
  f_fed := c.def_ 4
  f_feeds := c.def_ 5
  f_is_short := c.def_ 6
  f_live_names := c.def_ 7
  f_live_relays := c.def_ 8
  f_live_lamps := c.def_ 9
  f_first_state := c.def_ 10
  f_due := c.def_ 11
  f_is_rest := c.def_ 12
  f_step := c.def_ 13
  f_moves := c.def_ 14
  f_check_lamps := c.def_ 15
  f_is_lit := c.def_ 16
  f_phase_behind := c.def_ 17
  f_first_flash := c.def_ 18
  f_flashes := c.def_ 19
  f_are_names := c.def_ 20
  f_is_between := c.def_ 21
  f_are_loads := c.def_ 22
  f_is_contact := c.def_ 23
  f_law_row := c.def_ 24
  f_law_numbers := c.def_ 25
  f_law_names := c.def_ 26
  f_law_loads := c.def_ 27
  f_law_contact := c.def_ 28
  f_law_made := c.def_ 29
  f_law_movers := c.def_ 30
  f_law_closed := c.def_ 31
  f_law_pairs := c.def_ 32
  f_law_reach := c.def_ 33
  f_law_reaches := c.def_ 34
  f_law_live := c.def_ 35
  f_law_due := c.def_ 36
  f_law_step := c.def_ 37
  f_law_first := c.def_ 38
  f_law_moves := c.def_ 39
  f_law_play := c.def_ 40
  f_law_small := c.def_ 41
  f_law_states := c.def_ 42
  f_law_ends := c.def_ 43
  f_law := c.def_ 44
  f_Board_is_name := c.def_ 45
  f_Board_plus := c.def_ 46
  f_Board_minus := c.def_ 47
  f_Board_movers := c.def_ 48
  f_Board_mover_number := c.def_ 49
  f_Flashinit := c.def_ 50
  f_FlashSearchinit := c.def_ 51
  f_FlashSearch_note := c.def_ 52
  f_FlashSearch_find_all := c.def_ 53
  f_FlashSearch_flash := c.def_ 54
  f_FlashSearch_flash_to := c.def_ 55
  f_Boardinit := c.def_ 56
end K58
end
/-! HD -/
section
set_option maxRecDepth 100000
set_option maxHeartbeats 0
namespace K58
open PySem PySem.Spec PyProof.Rows L2
abbrev Rw : PySem.W.OpenRow := PySem.W.OpenLaw.row PySem.Challenge.rw_leverhouse_k58_whole_flashes_are_seen
def loose0 : List Str := ["_wall", "__name__", "LeverhouseError", "InvalidBoard", "UnknownName", "TooMany", "closes", "closed_contacts", "paths", "reached", "fed", "feeds"]
def loose1 : List Str := ["is_short", "live_names", "live_relays", "live_lamps", "first_state", "due", "is_rest", "step", "LIMIT", "moves", "WAITING", "SAME"]
def loose2 : List Str := ["OTHER", "FLASHED", "Flash", "check_lamps", "is_lit", "phase_behind", "FlashSearch", "first_flash", "flashes", "NAME_CHARS", "MOST_NAME_CHARS", "WHENS"]
def loose3 : List Str := ["WAYS", "are_names", "is_between", "are_loads", "is_contact", "Board", "_law_row", "_law_numbers", "_law_names", "_law_loads", "_law_contact", "_law_made"]
def loose4 : List Str := ["_law_movers", "_law_closed", "_law_pairs", "_law_reach", "_law_reaches", "_law_live", "_law_due", "_law_step", "_law_first", "_law_moves", "_law_play", "_law_small"]
def loose5 : List Str := ["_law_states", "_law_ends"]
def looseN : List Str := loose0 ++ loose1 ++ loose2 ++ loose3 ++ loose4 ++ loose5
def obK (s : PySem.W.SharedT) : AlK := obsKG (HandSHeadRun.getT s)
theorem obK_eq (s : PySem.W.SharedT) : obK s = hookK.obs s.abs := obsKG_eq (HandSHeadRun.getT_eq s)
theorem run (w : World) : HandSHeadRun.RunEq Rw (PySem.W.view Rw.prog [68]) hookK obK 6000 looseN w := by
  intro os
  kernel_rfl
end K58
end
/-! WL -/
section
set_option maxRecDepth 100000
set_option maxHeartbeats 2000000
/-! Defs by their promises: properties, static methods, keywords. -/
namespace K58
open PySem PySem.Spec PyProof.Rows L2
section
variable {P : Program} {w : World} {K : PySem.W.Frag} {mg : Str → Option Value} {base : Heap}
/-- a property of Board -/
structure Prp (P : Program) (w : World) (K : PySem.W.Frag) (mg : Str → Option Value) (base : Heap) (k : Nat) (f : Str) (sp : Sp) : Prop where
  ex : ∃ (p g : Addr) (fd : FuncData) (ps : List Str), Cls K (He.ga K "Board") ∧ PropOf K (He.ga K "Board") f p g ∧ FnOk P w K mg base CX0 k g fd ps sp ∧ Binds K fd ps []
/-- a static method of Board -/
structure Smt (P : Program) (w : World) (K : PySem.W.Frag) (mg : Str → Option Value) (base : Heap) (k : Nat) (m : Str) (sp : Sp) : Prop where
  ex : ∃ (p g : Addr) (fd : FuncData) (ps : List Str), ClX.CRead K (He.ga K "Board") (.type "type") ∧ SMet K (He.ga K "Board") (.type "type") m p g ∧ FnOk P w K mg base CX0 k g fd ps sp ∧ Binds K fd ps []
/-- a def called with keywords: n positional values, keywords ks -/
structure CalK (P : Program) (w : World) (K : PySem.W.Frag) (mg : Str → Option Value) (base : Heap) (k : Nat) (x : Str) (n : Nat) (ks : List Str) (sp : Sp) (gV : List V → List V → List V) : Prop where
  ex : ∃ (f : Addr) (fd : FuncData) (ps : List Str) (g : List Value → List Value → List Value), FnOk P w K mg base CX0 k f fd ps sp ∧ mg x = some (.ref f) ∧ PySem.W.keepIn K (.ref f) = true ∧ KBn K fd ps n ks g gV
/-- a class made with keywords alone -/
structure MakK (P : Program) (w : World) (K : PySem.W.Frag) (mg : Str → Option Value) (base : Heap) (k : Nat) (x : Str) (C : Addr) (ks : List Str) (sp : Sp) (gV : List V → List V → List V) : Prop where
  ex : ∃ (f : Addr) (fd : FuncData) (ps : List Str) (g : List Value → List Value → List Value), Mk K C f ∧ FnOk P w K mg base CX0 k f fd ps sp ∧ mg x = some (.ref C) ∧ KBn K fd ps 1 ks g gV
end
section
variable {X : Cx} {k j : Nat} {C : Addr} {x f m : Str} {sp : Sp} {p pos apos : Pos} {e o : Expr} {es : List Expr} {kws : List Keyword} {ta : TE} {t tk : TA} {n : Nat} {ks : List Str} {gV : List V → List V → List V}
theorem pe_pr (c : Prp X.prog X.w X.K X.mg X.base k f sp) (hr : Room j X.A) (hk : k + 1 ≤ j) (he : PE X e ta) (hab : attributeBase e f X.env (eval e X.env) = eval e X.env := by rfl) {K : PySem.W.Frag} (hK : X.K = K := by rfl) : PE X (.Attribute e f pos) (tProp (He.ga K "Board") sp [] E0 ta) := by
  subst hK
  obtain ⟨q, g, fd, ps, h1, h2, h3, h4⟩ := c.ex
  exact pe_prop he h1 h2 h3 (hr.mono hk) h4 .nil pass0 hab
theorem pe_sm {pl : Sem Bool} (c : Smt X.prog X.w X.K X.mg X.base k m sp) (hr : Room j X.A) (hk : k ≤ j) (he : PE X o ta) (ha : PA X (e :: es) t)
    (hst : starEach (e :: es) X.env = (false, eval e X.env) :: starEach es X.env := by rfl) (hpl : (backTo pos (starEach es X.env)).any (·.1) = false := by rfl)
    (ht : eval (.Call (.Attribute o m apos) (e :: es) [] pos) X.env = (do
      let ov ← eval o X.env
      standAt apos.atName
      let (f, first) ← holding [ov] (getMethod ov m pl)
      callWith pos f first (backTo pos (starEach (e :: es) X.env)) (backToKw pos (keywordEach [] X.env))) := by rfl) {K : PySem.W.Frag} (hK : X.K = K := by rfl) :
    PE X (.Call (.Attribute o m apos) (e :: es) [] pos) (tSMeth (He.ga K "Board") sp [] E0 ta t) := by
  subst hK
  obtain ⟨q, g, fd, ps, h1, h2, h3, h4⟩ := c.ex
  exact pe_smeth (pl := pl) he h1 h2 h3 (hr.mono hk) h4 .nil pass0 ha hst hpl ht
theorem pe_cK (c : CalK X.prog X.w X.K X.mg X.base k x n ks sp gV) (hr : Room j X.A) (hk : k ≤ j) (hg : Gl X x) (ha : PA X (e :: es) t) (hkw : PK X kws tk) (hall : (backToKw pos (keywordEach kws X.env)).all (·.1.isSome) = true := by rfl)
    (hks : (backToKw pos (keywordEach kws X.env)).filterMap (·.1) = ks := by rfl) (hdb : (x == ("__debug__" : Str)) = false := by decide) (he : starEach (e :: es) X.env = (false, eval e X.env) :: starEach es X.env := by rfl)
    (hpl : ((backTo pos (starEach (e :: es) X.env)).any (·.1) || (backToKw pos (keywordEach kws X.env)).any (·.1.isNone)) = false := by rfl) :
    PE X (.Call (.Name x p) (e :: es) kws pos) (tCallN n ks.length sp gV E0 t tk) := by
  obtain ⟨q, fd, ps, g, h1, h2, h3, h4⟩ := c.ex
  exact pe_callN h1 (hr.mono hk) hg h2 h3 h4 pass0 ha hkw hall hks hdb he hpl
theorem pe_mkK0 (c : MakK X.prog X.w X.K X.mg X.base k x C ks sp gV) (hr : Room j X.A) (hk : k + 1 ≤ j) (hg : Gl X x) (hkw : PK X kws tk) (hall : (backToKw pos (keywordEach kws X.env)).all (·.1.isSome) = true := by rfl)
    (hks : (backToKw pos (keywordEach kws X.env)).filterMap (·.1) = ks := by rfl) (hdb : (x == ("__debug__" : Str)) = false := by decide)
    (hpl : ((backTo pos (starEach [] X.env)).any (·.1) || (backToKw pos (keywordEach kws X.env)).any (·.1.isNone)) = false := by rfl) :
    PE X (.Call (.Name x p) [] kws pos) (tMakeK C 0 ks.length sp gV E0 tNil tk) := by
  obtain ⟨q, fd, ps, g, h1, h2, h3, h4⟩ := c.ex
  exact pe_makeK0 h1 h2 (hr.mono hk) hg h3 h4 pass0 hkw hall hks hdb hpl
end
/-! ### the rules with K said -/
section
variable {X : Cx} {K : PySem.W.Frag}
theorem ixT (h : X.K = K := by rfl) : IxR X (rIxT K) := h ▸ ix_tup
theorem ixL (h : X.K = K := by rfl) : IxR X (rIxL K) := h ▸ ix_list
theorem ixQ (h : X.K = K := by rfl) : IxR X (rIx K) := h ▸ ix_seq
theorem opIn (h : X.K = K := by rfl) : OpR X (compareOp .In) (rIn K false) := h ▸ op_in_seq
theorem opNi (h : X.K = K := by rfl) : OpR X (compareOp .NotIn) (rIn K true) := h ▸ op_notIn_seq
def rLenK (K : PySem.W.Frag) : List V → Hp → VK → Prop := fun xs H Q => ∃ p ys, xs = [V.ref p] ∧ (SqL K H p ys ∨ SqT K H p ys) ∧ Q (.int ys.length) H
theorem cLen (h : X.K = K := by rfl) : CallR X (.builtin "len") (rLenK K) := h ▸ call_len_seq
theorem mtIx (h : X.K = K := by rfl) : MtR X "list.index" (rIndex K) := h ▸ mt_index
def rListK (K : PySem.W.Frag) : List V → Hp → VK → Prop := fun xs H Q => ∃ p ys, xs = [V.ref p] ∧ (SqL K H p ys ∨ SqT K H p ys) ∧ ∀ l, H l = none → Q (.ref l) (upd H l (.lst ys))
theorem cList (h : X.K = K := by rfl) : CallR X (.type "list") (rListK K) := h ▸ call_list_of
theorem opCatT (h : X.K = K := by rfl) : OpR X (binaryOp .Add) (rCatA K) := h ▸ op_catA
theorem slL (h : X.K = K := by rfl) : SlR X (rSlL K) := h ▸ sl_list
theorem slT (h : X.K = K := by rfl) : SlR X (rSlA K) := h ▸ sl_tupA
theorem opNeD (hu : X.A.units + 64 < cLine) (h : X.K = K := by rfl) : OpR X (compareOp .NotEq) (rNeD K) := h ▸ op_neD hu
theorem opNiD (hu : X.A.units + 65 < cLine) (h : X.K = K := by rfl) : OpR X (compareOp .NotIn) (rNotInD K) := h ▸ op_notInD hu
theorem peFld {e : Expr} {f : Str} {pos : Pos} {ta : TE} (he : PE X e ta) (hb : attributeBase e f X.env (eval e X.env) = eval e X.env := by rfl) (h : X.K = K := by rfl) : PE X (.Attribute e f pos) (tFld K ta f) := h ▸ pe_fld he hb
theorem piList {tg l : Expr} {tl : TE} (hl : PE X l tl) (h : X.K = K := by rfl) : PI X tg l (iList K tl) := h ▸ pi_list hl
theorem piTup {tg l : Expr} {tl : TE} (hl : PE X l tl) (h : X.K = K := by rfl) : PI X tg l (iTup K tl) := h ▸ pi_tup hl
theorem piEnum {e : Expr} {ta : TA} {p pos tpos : Pos} {elts : List Expr} {kk : Nat} (hg : Gl X "enumerate") (hm : X.mg "enumerate" = none) (ha : PA X [e] ta) (hs : starEach [e] X.env = [(false, eval e X.env)] := by rfl) (h : X.K = K := by rfl) :
    PI X (.Tuple elts kk tpos) (.Call (.Name "enumerate" p) [e] [] pos) (iEnum K ta) := h ▸ pi_enum hg hm ha hs
theorem piEnumT {e : Expr} {ta : TA} {p pos tpos : Pos} {elts : List Expr} {kk : Nat} (hg : Gl X "enumerate") (hm : X.mg "enumerate" = none) (ha : PA X [e] ta) (hs : starEach [e] X.env = [(false, eval e X.env)] := by rfl) (h : X.K = K := by rfl) :
    PI X (.Tuple elts kk tpos) (.Call (.Name "enumerate" p) [e] [] pos) (iEnumT K ta) := h ▸ pi_enumT hg hm ha hs
theorem pgTup {es : List Expr} {k : Nat} {t : TGs} {n : Nat} {pos : Pos} (hc : X.calm = true) (h : PGs X es t) (hn : (assignEach es X.env).length = n := by rfl) (hst : (assignEach es X.env).findIdx? (·.1) = none := by rfl) (hK : X.K = K := by rfl) :
    PG X (.Tuple es k pos) (gTup K n t) := hK ▸ pg_tup hc h hn hst
theorem pgUnl {es : List Expr} {k : Nat} {t : TGs} {n : Nat} {pos : Pos} (hc : X.calm = true) (h : PGs X es t) (hn : (assignEach es X.env).length = n := by rfl) (hst : (assignEach es X.env).findIdx? (·.1) = none := by rfl) (hK : X.K = K := by rfl) :
    PG X (.Tuple es k pos) (gUnl K n t) := hK ▸ pg_unl hc h hn hst
theorem peRev {e : Expr} {te : TE} {k : Nat} {p1 p2 p3 pos : Pos} (he : PE X e te) (h : X.K = K := by rfl) : PE X (.Subscript e (.Slice none none (some (.UnaryOp .USub (.Constant (.int 1) k p1) p2)) p3) pos) (tRevL K te) := h ▸ pe_revL he
theorem peNotT {a : Expr} {pos : Pos} {ta : TE} (ha : PE X a ta) (h : X.K = K := by rfl) : PE X (.UnaryOp .Not a pos) (tNotT K ta) := h ▸ pe_notT ha
theorem peTupleOf {a : Expr} {p pos : Pos} {ta : TE} (hg : Gl X "tuple") (hm : X.mg "tuple" = none) (ha : PE X a ta) (na : starEach [a] X.env = (false, eval a X.env) :: starEach [] X.env := by rfl) (h : X.K = K := by rfl) :
    PE X (.Call (.Name "tuple" p) [a] [] pos) (tThen ta (kTup K)) := h ▸ pe_tupleOf hg hm ha na
theorem peBm {T id : String} {name : Str} {o e : Expr} {es : List Expr} {apos cpos : Pos} {r : V → List V → Hp → VK → Prop} {to : TE} {t : TA} (pa : PlainAttrs T) (slot : Slot T name id) (hty : typeOf (.builtin id) = pure (.type "method_descriptor")) (hm : MtR X id r)
    (ho : PE X o to) (ha : PA X (e :: es) t) (hbase : attributeBase o name X.env (eval o X.env) = eval o X.env := by rfl)
    (hfew : ((backTo cpos (starEach (e :: es) X.env)).all (fun x => !x.1) && (backToKw cpos (keywordEach [] X.env)).all (fun x => x.1.isSome)
      && decide ((e :: es).length + ([] : List Keyword).length + (if ([] : List Keyword).isEmpty then 0 else 1) < 30)) = true := by rfl)
    (hline : (apos.endLine == cpos.line) = true := by rfl) (hs : starEach (e :: es) X.env = (false, eval e X.env) :: starEach es X.env := by rfl) (hplain : (backTo cpos (starEach es X.env)).any (·.1) = false := by rfl) (h : X.K = K := by rfl) :
    PE X (.Call (.Attribute o name apos) (e :: es) [] cpos) (tBM K T r to t) := h ▸ pe_bm pa slot hty hm ho ha hbase hfew hline hs hplain
theorem peJoin {o e : Expr} {to te : TE} {apos pos : Pos} (ho : PE X o to) (he : PE X e te) (hs : starEach [e] X.env = [(false, eval e X.env)] := by rfl) (hbase : attributeBase o "join" X.env (eval o X.env) = eval o X.env := by rfl) (hline : (apos.endLine == pos.line) = true := by rfl) (h : X.K = K := by rfl) :
    PE X (.Call (.Attribute o "join" apos) [e] [] pos) (tM1 (fun x xs H Q => ∃ a p, ∃ ys : List Str, x = .str a ∧ xs = [.ref p] ∧ (SqL K H p (ys.map V.str) ∨ SqT K H p (ys.map V.str)) ∧
      (ys.map (·.length)).sum + ys.length * a.length ≤ 16777216 ∧ Q (.str (Txt.join a ys)) H) to te) := h ▸ pe_join ho he hs hbase hline
theorem peCval {e : Expr} {f : Str} {pos : Pos} {ta : TE} (he : PE X e ta) (hb : attributeBase e f X.env (eval e X.env) = eval e X.env := by rfl) (h : X.K = K := by rfl) : PE X (.Attribute e f pos) (ClX.tCVal K ta f) := h ▸ ClX.pe_cval he hb
theorem psFld {o value : Expr} {f : Str} {pos pos' : Pos} {ta tv : TE} (ha : PE X o ta) (hv : PE X value tv) (hs : swapsWith value (some (.Attribute o f pos')) pos.line X.env = pure false) (h : X.K = K := by rfl) :
    PS X (.Assign [.Attribute o f pos'] value pos) (sFld K ta tv f) := h ▸ ps_fld ha hv hs
theorem cIsi (h : X.K = K := by rfl) : CallR X (.builtin "isinstance") (rIsi K) := h ▸ call_isi
theorem crAll (hc : X.calm = true) (h : X.K = K := by rfl) : CallR X (.builtin "all") (rAll K) := h ▸ cr_all hc
theorem sw_trueD {kx vx : Expr} {gs : List Comprehension} {scope : Scope} {pos py : Pos} {y : Str} {l : Nat} {env : Env} (hk : env.scope.kind = .function) (hy : env.scope.names.lookup y = some .local) (hl : (py.line == pos.line) = true)
    (ha : (scope.names.any fun (n, k) => n == y && (k == .local || k == .cell)) = false) : swapsWith (.DictComp kx vx gs scope pos) (some (.Name y py)) l env = pure true := by
  have ky : env.kindOf y = some .local := hy
  have hb : env.blockKind = .function := by unfold Env.blockKind; rw [hk]; rfl
  unfold swapsWith
  simp only [hb, ky, ha, Expr.pos, hl]
  rfl
/-- name = {..} on one line, the name a local -/
theorem ps_setDc {i : Nat} {y : Str} {py : Pos} {kx vx tg iter : Expr} {ifs : List Expr} {scope : Scope} {own : List (Str × Nat)} {pos spos : Pos} {wi : TI} {g : TG} {tt : TT} {tk te : TE} (hc : X.calm = true) (hN : X.N.Nodup) (hy : X.N[i]? = some y) (hyl : X.env.scope.names.lookup y = some .local)
    (hsw : swapsWith (.DictComp kx vx [⟨tg, iter, ifs, 0⟩] scope pos) (some (.Name y py)) spos.line X.env = pure true) (hi : PI X tg iter wi) (ok : BlkOk X.N X.env.scope scope own)
    (hg : ∀ (s : Shared) (H : Hp) (C : Addr) (cl : List (Str × Addr)) (fp : List Addr), PG (X.blk s H scope (compEnvC scope cl C X.env) fp) tg g) (ht : ∀ (s : Shared) (H : Hp) (C : Addr) (cl : List (Str × Addr)) (fp : List Addr), PTs (X.blk s H scope (compEnvC scope cl C X.env) fp) ifs tt)
    (hk : ∀ (s : Shared) (H : Hp) (C : Addr) (cl : List (Str × Addr)) (fp : List Addr), PE (X.blk s H scope (compEnvC scope cl C X.env) fp) kx tk)
    (he : ∀ (s : Shared) (H : Hp) (C : Addr) (cl : List (Str × Addr)) (fp : List Addr), PE (X.blk s H scope (compEnvC scope cl C X.env) fp) vx te) (hs : ∀ x, foldedSetIterable iter X.env x = pure x := by intro _; rfl) :
    PS X (.Assign [.Name y py] (.DictComp kx vx [⟨tg, iter, ifs, 0⟩] scope pos) spos) (tAsg (tDc wi g tt tk te (own.map (·.2))) (gName i)) := by
  refine ⟨fun pins s σ H D I h => ?_⟩
  rw [exec_Assign_Name_used _ _ _ _ hsw]
  refine wpAny_bind (wpAny_standAt (wpAny_bind ?_))
  show wpAny _ X.A (do let _ ← comprehension (.DictComp kx vx [⟨tg, iter, ifs, 0⟩] scope pos) scope X.env (firstIterPos [⟨tg, iter, ifs, 0⟩] pos) newDict false (eval iter X.env) (some (assign (.Name y py) X.env))) _ _ s
  have h : tDc wi g tt tk te (own.map (·.2)) σ H (fun x H1 => gName i x σ H1 D.nx) := h
  refine wpAny_bind (thn (dc_core (Qf := fun _ s' => SP X pins D .next s') hc hN I hi ok hg ht hk he hs h fun L C s' m H' I' q hn f => ?_) fun _ s' hq => wpAny_pure (wpAny_pure hq))
  show wpAny _ _ (assign (.Name y py) X.env (.ref L)) _ _ _
  refine wpAny_assign_Name (store_ok2 (v := V.ref L) I' hN hy (.inl hyl) rfl (fun s2 I2 ⟨a, sb, ha⟩ => ?_) (.inr hyl))
  obtain ⟨f0, f1, f2, f3, f4, f5⟩ := f
  have haC : C ≠ a := by
    rcases ha with z | z
    · rw [z]; exact f1
    · exact fun e => f4 y a z e.symm
  refine ⟨m, hn.sameBut sb haC, fun h3 sb3 => ?_⟩
  exact ⟨_, H', I2.turned (t' := s2.toks) (fun b o hb e => (sb3.2 b hb).trans e) f0 f1 f3 f4 f5, q⟩
end
/-! ### a def's promise from its body -/
section
variable {P : Program} {w : World} {K : PySem.W.Frag} {mg : Str → Option Value} {base : Heap} {x qual : Str} {st : Stmt} {N ps : List Str} {k : Nat} {R : List Ar → Ar → Prop} {f : Addr} {fd : FuncData} {kws : List (Str × V)}
/-- the body as a term t of rules, its statements' judgement: the def keeps its promise -/
theorem fs_ok (F : FunD K x qual (defArgs st) (defBody st) (defScope st) [] kws f fd) (S : FnScope N ps (defScope st)) (n : Nat) (hlen : ∀ as y, R as y → as.length = ps.length) (hN : ps.length + n = N.length) (hm : ∀ as y, R as y → as.all Ar.nm = true)
    (hb : ∀ (cdv : Value) (A : Around) (outer : List Env) (s : Shared) (H : Hp) (E : XK), Room k (A.deeper (envOfC qual (defScope st) s.heap.objs.size f cdv)) →
      ∃ t, PSs (cxOf CX0 P w K mg base N qual (defScope st) f cdv A outer s H E).nox (defBody st) t ∧ ∀ as y, R as y → Sd K t (as.map some ++ List.replicate n none) (fun _ => y = .d .none) (fun z => z = y)) :
    FnOk P w K mg base CX0 (k + 1) f fd ps (FS K R) := by
  refine F.ok S (fun vs H Q E h => fs_len h hlen) (fun cdv A outer s H vs Q E hr h => ?_)
  obtain ⟨t, h1, h2⟩ := hb cdv A outer s H E hr
  exact ⟨t, h1.nox, fs_body n h (fun as y r => by rw [hlen as y r]; exact hN) hm h2⟩
theorem cal_of (F : FunD K x qual (defArgs st) (defBody st) (defScope st) [] [] f fd) (hm : mg x = some (.ref f)) (b : Binds K fd ps []) (h : FnOk P w K mg base CX0 k f fd ps (FS K R)) : C8.Cal P w K mg base k x (FS K R) [] := ⟨f, fd, ps, [], h, hm, F.kp, b, .nil⟩
end
end K58
end
/-! DU -/
section
set_option autoImplicit false
set_option maxRecDepth 100000
set_option maxHeartbeats 1000000
/-! More rules of judgement. -/
namespace K58
open PySem PySem.Spec L2
theorem opRepT {X : Cx} {K : PySem.W.Frag} (h : X.K = K := by rfl) : OpR X (binaryOp .Mult) (rRepA K) := h ▸ op_repA
theorem map_get {α β : Type} {f : α → β} {l : List α} {i : Nat} {d : β} (h : (l.map f)[i]? = some d) : ∃ x, l[i]? = some x ∧ d = f x := by
  rw [List.getElem?_map] at h
  obtain ⟨x, h1, h2⟩ := Option.map_eq_some_iff.mp h
  exact ⟨x, h1, h2.symm⟩
theorem map_mem {α β : Type} {f : α → β} {l : List α} {d : β} (h : d ∈ l.map f) : ∃ x, x ∈ l ∧ d = f x := by
  obtain ⟨x, h1, h2⟩ := List.mem_map.mp h
  exact ⟨x, h1, h2.symm⟩
theorem enum_get' {ds : List PyData} {i : Nat} {d : PyData} (h : (enumD ds)[i]? = some d) : ∃ e, ds[i]? = some e ∧ d = .tuple [.int (i : Nat), e] := by
  have hi : i < ds.length := by
    have := (List.getElem?_eq_some_iff.mp h).1
    rw [enumD_len] at this; exact this
  have e : ds[i]? = some ds[i] := by simp [hi]
  rw [enumD_get e] at h
  cases h
  exact ⟨_, e, rfl⟩
theorem range_get' {n i : Nat} {d : PyData} (h : (rangeD n)[i]? = some d) : i < n ∧ d = .int (i : Nat) := by
  have hi : i < n := by
    have := (List.getElem?_eq_some_iff.mp h).1
    rw [rangeD_len] at this; exact this
  rw [rangeD_get hi] at h
  cases h
  exact ⟨hi, rfl⟩
section
variable {K : PySem.W.Frag} {te ta tb : TE} {tr : TA} {tt : TT} {t u : TS} {g : TG} {xs : Xs} {x y z : Ar} {N M : Xs → Prop} {R : Ar → Prop}
/-! statements in a row -/
theorem sd_let {i : Nat} (h : Ed K te xs x) (hm : x.nm = true) (h2 : Sd K u (xs.set i (some x)) N R) : Sd K (tSeq (tAsg te (gName i)) u) xs N R :=
  sd_seq (M := fun ys => ys = xs.set i (some x)) (sd_asg h hm rfl) fun ys e => e ▸ h2
theorem sd_letN {i : Nat} {ds : List PyData} (h : En K te xs ds) (h2 : Sd K u (xs.set i (some (.m ds))) N R) : Sd K (tSeq (tAsg te (gName i)) u) xs N R :=
  sd_seq (M := fun ys => ys = xs.set i (some (.m ds))) (sd_new h rfl) fun ys e => e ▸ h2
theorem sd_letG {d : PyData} {js : List Nat} {ys : Xs} (h : Ed K te xs (.d d)) (hg : Gd K g xs d js ys) (h2 : Sd K u ys N R) : Sd K (tSeq (tAsg te g) u) xs N R :=
  sd_seq (M := fun zs => zs = ys) (sd_asgG h hg rfl) fun ys e => e ▸ h2
theorem sd_then (h : Sd K t xs (fun zs => zs = xs) R) (h2 : Sd K u xs N R) : Sd K (tSeq t u) xs N R :=
  sd_seq h fun ys e => e ▸ h2
theorem sd_app1 {i : Nat} {ds : List PyData} {d : PyData} (hi : xs[i]? = some (some (.m ds))) (h : Ed K te xs (.d d)) (hl : ds.length < 1000000) (h2 : Sd K u (xs.set i (some (.m (ds ++ [d])))) N R) : Sd K (tSeq (tDrop (tBM K "list" rAppend (tVar i) (tCons te tNil))) u) xs N R :=
  sd_seq (M := fun zs => zs = xs.set i (some (.m (ds ++ [d])))) (sd_app hi h hl rfl) fun ys e => e ▸ h2
theorem sd_setL1 {i j : Nat} {ds : List PyData} {d : PyData} (hi : xs[i]? = some (some (.m ds))) (h : Ed K te xs (.d d)) (hj : Ed K tb xs (.d (.int (j : Nat)))) (hl : j < ds.length) (h2 : Sd K u (xs.set i (some (.m (ds.set j d)))) N R) :
    Sd K (tSeq (tAsg te (gSub (tVar i) tb rSetL)) u) xs N R :=
  sd_seq (M := fun zs => zs = xs.set i (some (.m (ds.set j d)))) (sd_setL hi h hj hl rfl) fun ys e => e ▸ h2
/-- if with a return, then more -/
theorem sd_ifr {b : Bool} (h : Et K tt xs b) (h1 : b = true → Sd K t xs (fun _ => False) R) (h2 : b = false → Sd K u xs N R) : Sd K (tSeq (tIfS tt t tNext) u) xs N R :=
  sd_seq (M := fun ys => b = false ∧ ys = xs) (sd_if h (fun e => sd_nx (fun _ z => z.elim) (h1 e)) fun e => sd_next ⟨e, rfl⟩) fun ys ⟨e1, e2⟩ => e2 ▸ h2 e1
/-- if that raises: never -/
theorem sd_ifn (h : Et K tt xs false) (h2 : Sd K u xs N R) : Sd K (tSeq (tIfS tt t tNext) u) xs N R := sd_ifr h (fun e => nomatch e) fun _ => h2
theorem sd_aug {i : Nat} {f : Int → Int → Int} {a b : Int} (hi : xs[i]? = some (some (.d (.int a)))) (h : Ed K te xs (.d (.int b))) (hn : N (xs.set i (some (.d (.int (f a b)))))) : Sd K (tAug i te (ipI f)) xs N R := fun G Hb F H σ D hf s nx rt => by
  obtain ⟨v, h1, h2⟩ := s.sl.at_ i _ hi
  rw [da_int h2] at h1
  refine ⟨_, h1, h (G ++ F) H σ s.wf.alive s.sl _ fun w H1 e1 r1 => ⟨a, b, rfl, da_int r1, ?_⟩⟩
  exact nx F H1 _ _ hn (hf.set (nm_ne (x := .d (.int (f a b))) rfl)) ((s.same e1).set i (x := .d (.int (f a b))) (Da.int _) rfl)
/-! * of a tuple -/
theorem das_rep {N : List Addr} {H : Hp} {vs : List V} {ds : List PyData} (h : Das K (hid N H) vs ds) : ∀ k : Nat, Das K (hid N H) (List.replicate k vs).flatten (List.replicate k ds).flatten
  | 0 => .nil
  | k + 1 => by rw [List.replicate_succ, List.replicate_succ, List.flatten_cons, List.flatten_cons]; exact h.append (das_rep h k)
theorem rv_rep {ds : List PyData} {k : Nat} (hk : k ≤ 1000) (h0 : ds ≠ [] ∧ ds.length ≤ 1000) : Rv K (rRepA K) (.d (.tuple ds)) (.d (.int (k : Nat))) (.d (.tuple (List.replicate k ds).flatten)) := fun N H v w al r1 r2 Q q => by
  cases r1 with
  | @tup a vs _ a1 a2 =>
  rw [da_int r2]
  refine ⟨a, (k : Nat), vs, rfl, rfl, seqT_same hid_le a1, fun e => h0.1 (by have := a2.len; rw [e] at this; exact List.eq_nil_of_length_eq_zero this.symm), by omega, by omega, by rw [a2.len]; exact h0.2, fun e => ?_, fun _ p hp => ?_⟩
  · have ek : k = 1 := by omega
    subst ek
    refine q _ H (Same.refl H) ?_
    show Da K (hid N H) _ _
    rw [show (List.replicate 1 ds).flatten = ds by simp]
    exact Da.tup a1 a2
  · refine q _ _ (same_new hp) (Da.tup (SqT.of (hid_new al hp)) ((?_ : Das K (hid N H) _ _).mono (hid_mono (same_new hp))))
    exact das_rep a2 k
/-! not of a list -/
theorem isEmpty_das {N : List Addr} {H : Hp} {vs : List V} {ds : List PyData} (h : Das K (hid N H) vs ds) : vs.isEmpty = ds.isEmpty := by cases h <;> rfl
theorem ed_notT {ds : List PyData} (h : Ed K te xs (.d (.list ds))) : Ed K (tNotT K te) xs (.d (.bool ds.isEmpty)) := fun N H σ al sl Q q =>
  h N H σ al sl _ fun v H1 e1 r1 => by
    cases r1 with
    | @lst a vs _ a1 a2 =>
    refine ⟨!vs.isEmpty, .inl ⟨vs, SqL.of (hid_le _ _ a1), rfl⟩, ?_⟩
    rw [Bool.not_not, isEmpty_das a2]
    exact q _ H1 e1 (Da.bl _)
theorem ed_neg {i : Int} (h : Ed K te xs (.d (.int i))) : Ed K (tUn (rU fun i => .int (-i)) te) xs (.d (.int (-i))) := ed_un h fun N H v al r Q q => by
  rw [da_int r]
  exact ⟨i, rfl, q _ H (Same.refl H) (Da.int _)⟩
/-! xs[i] of a list or a tuple -/
inductive SeqD : PyData → List PyData → Prop
  | l (ds : List PyData) : SeqD (.list ds) ds
  | t (ds : List PyData) : SeqD (.tuple ds) ds
theorem rv_ixQ {s d : PyData} {ds : List PyData} {i : Int} (hq : SeqD s ds) (e : atI ds i = some d) : Rv K (rIx K) (.d s) (.d (.int i)) (.d d) := fun N H v w al h1 h2 Q q => by
  cases hq with
  | l => exact .inl (rv_ixL e N H v w al h1 h2 Q q)
  | t => exact .inr (.inl (rv_ixT e N H v w al h1 h2 Q q))
/-! signs in a text -/
theorem rv_inS {c : Nat} {s : Str} : Rv K rInS (.d (.str ⟨#[c]⟩)) (.d (.str s)) (.d (.bool (decide (c ∈ s.cps.toList)))) := fun N H v w al h1 h2 Q q =>
  (⟨c, s, da_str h1, da_str h2, q _ H (Same.refl H) (Da.bl _)⟩ : ∃ (c : Nat) (z : Str), v = .str ⟨#[c]⟩ ∧ w = .str z ∧ Q (.bl (decide (c ∈ z.cps.toList))) H)
theorem ed_all {bs : List Bool} {ta : TA} (h : Ea K ta xs [.d (.list (dBits bs))]) : Ed K (tCB (rAll K) ta) xs (.d (.bool (bs.all id))) := ed_cb h fun N H vs al r Q q => by
  cases r with
  | cons r rr =>
    cases rr
    cases r with
    | @lst a ws _ a1 a2 =>
    have e : ws = bs.map V.bl := by
      rw [das_sc a2 (by rw [List.all_eq_true]; intro d hd; obtain ⟨b, _, rfl⟩ := List.mem_map.mp hd; rfl)]
      unfold dBits; rw [List.map_map]; rfl
    subst e
    exact ⟨a, bs, rfl, SqL.of (hid_le _ _ a1), q _ H (Same.refl H) (Da.bl _)⟩
theorem ed_join {s : Str} {ss : List Str} (h : Ed K ta xs (.d (.str s))) (h2 : Ed K tb xs (.d (.list (dStrs ss)))) (hl : (ss.map (·.length)).sum + ss.length * s.length ≤ 16777216) : Ed K (tM1 (fun x xs H Q => ∃ a p, ∃ ys : List Str, x = .str a ∧ xs = [.ref p] ∧ (SqL K H p (ys.map V.str) ∨ SqT K H p (ys.map V.str)) ∧
      (ys.map (·.length)).sum + ys.length * a.length ≤ 16777216 ∧ Q (.str (Txt.join a ys)) H) ta tb) xs (.d (.str (Txt.join s ss))) := fun N H σ al sl Q q =>
  h N H σ al sl _ fun v H1 e1 r1 => ⟨⟨s, da_str r1⟩, h2 N H1 σ (al.mono e1) (sl.mono e1) _ fun w H2 e2 r2 => by
    cases r2 with
    | @lst a ws _ a1 a2 =>
    have e := das_strs a2
    subst e
    exact ⟨s, a, ss, da_str (r1.mono e2), rfl, .inl (SqL.of (hid_le _ _ a1)), hl, q _ H2 (e1.trans e2) (Da.str _)⟩⟩
theorem ed_cval {C : Addr} {mc : Value} {f : Str} {v : V} (hc : ClX.CRead K C mc) (hv : ∃ u, ClX.CVal K C mc f v u) (h : Ed K te xs (.v (.ref C))) (hs : isSc v = true) : Ed K (ClX.tCVal K te f) xs (.d (toD v)) := fun N H σ al sl Q q =>
  h N H σ al sl _ fun x H1 e1 r1 => by
    obtain ⟨u, hu⟩ := hv
    exact ⟨C, mc, v, u, r1, hc, hu, q v H1 e1 (da_sc hs)⟩
/-! a dict built at once -/
def dcF (ky : PyData → Key) (vl : PyData → V) (ds : List PyData) : List (Key × V) := ds.foldl (fun kvs d => putK kvs (ky d) (vl d)) []
theorem dcF_snoc (ky : PyData → Key) (vl : PyData → V) (ds : List PyData) (d : PyData) : dcF ky vl (ds ++ [d]) = putK (dcF ky vl ds) (ky d) (vl d) := by
  unfold dcF; rw [List.foldl_append]; rfl
theorem dcF_len (ky : PyData → Key) (vl : PyData → V) (ds : List PyData) : (dcF ky vl ds).length ≤ ds.length := by
  refine snoc_ind (fun ds => (dcF ky vl ds).length ≤ ds.length) (by simp [dcF]) (fun ds d ih => ?_) ds
  rw [dcF_snoc, List.length_append, List.length_singleton]
  exact Nat.le_trans (length_putK _ _ _) (by omega)
theorem ed_dc {wi : TI} {tk tv : TE} {vs js : List Nat} {ds : List PyData} {ys : PyData → Xs} {ky : PyData → Key} {vl : PyData → V} (hi : Id K wi xs ds) (hg : ∀ d ∈ ds, Gd K g (wipeX xs vs) d js (ys d)) (hjs : ∀ i ∈ js, i ∈ vs)
    (hk : ∀ d ∈ ds, Ed K tk (ys d) (.d (toD (kV (ky d))))) (hv : ∀ d ∈ ds, Ed K tv (ys d) (.d (toD (vl d)))) (hs : ∀ d ∈ ds, isSc (vl d) = true) (hl : ds.length ≤ 100000) : Ed K (tDc wi g tYes tk tv vs) xs (.k (dcF ky vl ds)) := fun N H σ al sl Q q =>
  hi N H σ al sl _ fun J H1 e1 W => fun D hD => by
    have al1 := al.mono e1
    have sl1 := sl.mono e1
    have hw : ∀ {H' : Hp}, Same H1 H' → Same (hid N H1) (hid (D :: N) H') := fun e a o h => by
      obtain ⟨z1, z2⟩ := hid_get h
      have ne : a ≠ D := ne_of_none z2 hD
      rw [hid_out (by simp [ne, z1])]
      exact e a o z2
    refine ⟨fun i m H' => m = ds.length - i ∧ i ≤ ds.length ∧ Same H1 H' ∧ H' D = some (.dK (dcF ky vl (ds.take i))), ⟨_, rfl, Nat.zero_le _, same_new hD, upd_same⟩, fun i m H' hW => ?_⟩
    obtain ⟨hm, hile, eH, hws⟩ := hW
    have alD : Alive (D :: N) H' := fun a ha => by
      rcases List.mem_cons.mp ha with rfl | ha
      · exact ⟨_, hws⟩
      · exact al1.mono eH a ha
    obtain ⟨w1, w2, w3⟩ := W.to (D :: N) H' alD (hw eH) i
    by_cases hlt : i < ds.length
    · refine .inr ⟨w1 hlt, fun H2 => i + 1 ≤ ds.length ∧ Same H1 H2 ∧ H2 D = some (.dK (dcF ky vl (ds.take (i + 1)))), fun H2 ⟨a1, a2, a3⟩ => ⟨ds.length - (i + 1), by omega, rfl, a1, a2, a3⟩, fun x H2 hy => ?_⟩
      obtain ⟨e2, d, hd, hx⟩ := w3 hlt x H2 hy
      have hdm : d ∈ ds := List.mem_of_getElem? hd
      have slD : Sl K (D :: N) H2 (L2.wipe σ vs) (wipeX xs vs) := (sl1.mono' (fun a ha => List.mem_cons_of_mem _ ha) (fun a ha o h => (eH.trans e2) a o h) (hw (eH.trans e2))).wipe vs
      have alD2 := alD.mono e2
      refine (hg d hdm).run (D :: N) H2 _ x slD hx _ fun σ2 sl2 ew => ⟨?_, ?_⟩
      · rw [← wipe_idem σ vs]
        exact wipe_eq ew.1 fun i hi => ew.2 i fun q => hi (hjs i q)
      · unfold tYes
        dsimp only
        rw [if_pos rfl]
        refine hk d hdm (D :: N) H2 σ2 alD2 sl2 _ fun y H4 e4 hy4 => ?_
        refine hv d hdm (D :: N) H4 σ2 (alD2.mono e4) (sl2.mono e4) _ fun z H5 e5 hz5 => ?_
        have eH5 : Same H' H5 := (e2.trans e4).trans e5
        have h5 := eH5 _ _ hws
        have ez : z = vl d := by
          have hsd := hs d hdm
          cases hq : vl d with
          | non => rw [hq] at hz5; exact da_of hz5 rfl
          | bl b => rw [hq] at hz5; exact da_of hz5 rfl
          | int b => rw [hq] at hz5; exact da_of hz5 rfl
          | str b => rw [hq] at hz5; exact da_of hz5 rfl
          | _ => rw [hq] at hsd; cases hsd
        have ey : y = kV (ky d) := by
          cases hq : ky d with
          | inl n => rw [hq] at hy4; exact da_of hy4 rfl
          | inr n => rw [hq] at hy4; exact da_of hy4 rfl
        refine ⟨_, ky d, ey, h5, ?_, hlt, fun a o h => ?_, ?_⟩
        · have := dcF_len ky vl (ds.take i)
          rw [List.length_take] at this
          exact sz_lt (by omega)
        · have ne : a ≠ D := ne_of_none h hD
          rw [upd_ne ne]
          exact (eH.trans eH5) a o h
        · rw [upd_same, take_snoc hd, dcF_snoc, ez]
    · have ei : i = ds.length := by omega
      refine .inl ⟨w2 ei, ?_⟩
      rw [ei, List.take_length] at hws
      refine q _ H' (e1.trans eH) ⟨D, rfl, ?_⟩
      rw [hid_out (al.nin (free_of e1 hD))]
      exact hws
/-! comprehensions, of encoded values -/
theorem en_lcE {α β : Type} {l : List α} {enc : α → PyData} {out : β → PyData} {p : α → Bool} {w : α → β} {wi : TI} {tt : TT} {vs js : List Nat} {ys : α → Xs} (hi : Id K wi xs (l.map enc)) (hg : ∀ a ∈ l, Gd K g (wipeX xs vs) (enc a) js (ys a)) (hjs : ∀ i ∈ js, i ∈ vs)
    (ht : ∀ a ∈ l, Et K tt (ys a) (p a)) (he : ∀ a ∈ l, p a = true → Ed K te (ys a) (.d (out (w a)))) (hl' : l.length ≤ 100000) : En K (tLc wi g tt te vs) xs (((l.filter p).map w).map out) := fun N H σ al sl Q q =>
  hi N H σ al sl _ fun J H1 e1 W => fun D hD => by
    have hL : (l.map enc).length = l.length := List.length_map ..
    have hl : (l.map enc).length ≤ 100000 := by rw [hL]; exact hl'
    have al1 := al.mono e1
    have sl1 := sl.mono e1
    let acc : Nat → List PyData := fun i => (((l.take i).filter p).map w).map out
    have hw : ∀ {H' : Hp}, Same H1 H' → Same (hid N H1) (hid (D :: N) H') := fun e a o h => by
      obtain ⟨z1, z2⟩ := hid_get h
      have ne : a ≠ D := ne_of_none z2 hD
      rw [hid_out (by simp [ne, z1])]
      exact e a o z2
    refine ⟨fun i m H' => m = (l.map enc).length - i ∧ i ≤ (l.map enc).length ∧ Same H1 H' ∧ ∃ ws, H' D = some (.lst ws) ∧ Das K (hid (D :: N) H') ws (acc i), ⟨_, rfl, Nat.zero_le _, same_new hD, [], upd_same, by simpa [acc] using Das.nil⟩, fun i m H' hW => ?_⟩
    obtain ⟨hm, hile, eH, ws, hws, hdas⟩ := hW
    have alD : Alive (D :: N) H' := fun a ha => by
      rcases List.mem_cons.mp ha with rfl | ha
      · exact ⟨_, hws⟩
      · exact al1.mono eH a ha
    obtain ⟨w1, w2, w3⟩ := W.to (D :: N) H' alD (hw eH) i
    by_cases hlt : i < (l.map enc).length
    · refine .inr ⟨w1 hlt, fun H2 => i + 1 ≤ (l.map enc).length ∧ Same H1 H2 ∧ ∃ ws, H2 D = some (.lst ws) ∧ Das K (hid (D :: N) H2) ws (acc (i + 1)), fun H2 ⟨a1, a2, a3⟩ => ⟨(l.map enc).length - (i + 1), by omega, rfl, a1, a2, a3⟩, fun x H2 hy => ?_⟩
      obtain ⟨e2, d', hd', hx⟩ := w3 hlt x H2 hy
      obtain ⟨d, hd, ed⟩ := map_get hd'
      subst ed
      have hdm : d ∈ l := List.mem_of_getElem? hd
      have slD : Sl K (D :: N) H2 (L2.wipe σ vs) (wipeX xs vs) := (sl1.mono' (fun a ha => List.mem_cons_of_mem _ ha) (fun a ha o h => (eH.trans e2) a o h) (hw (eH.trans e2))).wipe vs
      have alD2 := alD.mono e2
      refine (hg d hdm).run (D :: N) H2 _ x slD hx _ fun σ2 sl2 ew => ⟨?_, ht d hdm (D :: N) H2 σ2 alD2 sl2 _ fun H3 e3 => ?_⟩
      · rw [← wipe_idem σ vs]
        exact wipe_eq ew.1 fun i hi => ew.2 i fun q => hi (hjs i q)
      · by_cases hf : p d = true
        · rw [if_pos hf]
          refine he d hdm hf (D :: N) H3 σ2 (alD2.mono e3) (sl2.mono e3) _ fun y H4 e4 hy4 => ?_
          have eH4 : Same H' H4 := (e2.trans e3).trans e4
          have h4 : H4 D = some (.lst ws) := eH4 _ _ hws
          have hl4 : ws.length ≤ (l.map enc).length := by
            rw [hdas.len]
            show ((((l.take i).filter p).map w).map out).length ≤ _
            rw [List.length_map, List.length_map, hL]
            exact Nat.le_trans (List.length_filter_le _ _) (by rw [List.length_take]; omega)
          refine ⟨ws, h4, sz_lt (by omega), hlt, fun a o h => ?_, ws ++ [y], upd_same, ?_⟩
          · have ne : a ≠ D := ne_of_none h hD
            rw [upd_ne ne]
            exact (eH.trans eH4) a o h
          · rw [hid_upd List.mem_cons_self]
            have e5 : acc (i + 1) = acc i ++ [out (w d)] := by
              show (((l.take (i + 1)).filter p).map w).map out = _
              rw [take_snoc hd, List.filter_append, List.map_append, List.map_append, List.filter_cons, if_pos hf]
              rfl
            rw [e5]
            exact (hdas.mono (hid_mono eH4)).append (.cons hy4 .nil)
        · have hf' : p d = false := by cases q : p d <;> simp_all
          rw [if_neg hf]
          refine ⟨hlt, eH.trans (e2.trans e3), ws, (e2.trans e3) _ _ hws, ?_⟩
          have e5 : acc (i + 1) = acc i := by
            show (((l.take (i + 1)).filter p).map w).map out = _
            rw [take_snoc hd, List.filter_append, List.map_append, List.filter_cons, if_neg hf, List.filter_nil, List.map_nil, List.append_nil]
          rw [e5]
          exact hdas.mono (hid_mono (e2.trans e3))
    · have ei : i = (l.map enc).length := by omega
      refine .inl ⟨w2 ei, ?_⟩
      have e5 : acc i = ((l.filter p).map w).map out := by
        show (((l.take i).filter p).map w).map out = _
        rw [ei, hL, List.take_length]
      rw [e5] at hdas
      exact q D ws H' (free_of e1 hD) (e1.trans eH) hws hdas
theorem filt_true {α : Type} (l : List α) : l.filter (fun _ => true) = l := by induction l with
  | nil => rfl
  | cons a l ih => rw [List.filter_cons, if_pos rfl, ih]
theorem en_lcY {α β : Type} {l : List α} {enc : α → PyData} {out : β → PyData} {w : α → β} {wi : TI} {vs js : List Nat} {ys : α → Xs} (hi : Id K wi xs (l.map enc)) (hg : ∀ a ∈ l, Gd K g (wipeX xs vs) (enc a) js (ys a)) (hjs : ∀ i ∈ js, i ∈ vs)
    (he : ∀ a ∈ l, Ed K te (ys a) (.d (out (w a)))) (hl : l.length ≤ 100000) : En K (tLc wi g tYes te vs) xs ((l.map w).map out) := by
  have h := en_lcE (p := fun _ => true) hi hg hjs (fun _ _ => et_yes) (fun a ha _ => he a ha) hl
  rw [filt_true] at h
  exact h
end
end K58
end
/-! W1 -/
section
set_option maxRecDepth 100000
set_option maxHeartbeats 2000000
namespace K58
open PySem PySem.Spec PyProof.Rows L2
section
variable {P : Program} {w : World} {K : PySem.W.Frag} {mg : Str → Option Value} {base : Heap}
/-! fields of a board -/
theorem ne_bs (a b : Str) (h : decide (a = b) = false) : (a == b) = false := by
  cases q : (a == b) with
  | false => rfl
  | true => rw [eq_of_beq q, decide_eq_true rfl] at h; cases h
theorem bf_nodes {v1 v2 v3 v4 v5 : V} : (bFs v1 v2 v3 v4 v5).lookup ("nodes" : Str) = some v1 := rfl
theorem bf_switches {v1 v2 v3 v4 v5 : V} : (bFs v1 v2 v3 v4 v5).lookup ("switches" : Str) = some v2 := rfl
theorem bf_relays {v1 v2 v3 v4 v5 : V} : (bFs v1 v2 v3 v4 v5).lookup ("relays" : Str) = some v3 := rfl
theorem bf_lamps {v1 v2 v3 v4 v5 : V} : (bFs v1 v2 v3 v4 v5).lookup ("lamps" : Str) = some v4 := rfl
theorem bf_contacts {v1 v2 v3 v4 v5 : V} : (bFs v1 v2 v3 v4 v5).lookup ("contacts" : Str) = some v5 := rfl
theorem ed_nodes {te : TE} {xs : Xs} {B : BR} (T : TX K mg) (h : Ed K te xs (.b B)) : Ed K (tFld K te "nodes") xs (.d (.tuple (dStrs B.nodes))) := ed_fld T.cl_Board T.na_Board_nodes h fun _ _ v1 v2 v3 v4 v5 h1 h2 h3 h4 h5 => ⟨v1, bf_nodes, h1⟩
theorem ed_switches {te : TE} {xs : Xs} {B : BR} (T : TX K mg) (h : Ed K te xs (.b B)) : Ed K (tFld K te "switches") xs (.d (.tuple (dStrs B.sw))) := ed_fld T.cl_Board T.na_Board_switches h fun _ _ v1 v2 v3 v4 v5 h1 h2 h3 h4 h5 => ⟨v2, bf_switches, h2⟩
theorem ed_relays {te : TE} {xs : Xs} {B : BR} (T : TX K mg) (h : Ed K te xs (.b B)) : Ed K (tFld K te "relays") xs (.d (.tuple (dLoads B.rel))) := ed_fld T.cl_Board T.na_Board_relays h fun _ _ v1 v2 v3 v4 v5 h1 h2 h3 h4 h5 => ⟨v3, bf_relays, h3⟩
theorem ed_lamps {te : TE} {xs : Xs} {B : BR} (T : TX K mg) (h : Ed K te xs (.b B)) : Ed K (tFld K te "lamps") xs (.d (.tuple (dLoads B.lamps))) := ed_fld T.cl_Board T.na_Board_lamps h fun _ _ v1 v2 v3 v4 v5 h1 h2 h3 h4 h5 => ⟨v4, bf_lamps, h4⟩
theorem ed_contacts {te : TE} {xs : Xs} {B : BR} (T : TX K mg) (h : Ed K te xs (.b B)) : Ed K (tFld K te "contacts") xs (.d (.tuple (dCons B.con))) := ed_fld T.cl_Board T.na_Board_contacts h fun _ _ v1 v2 v3 v4 v5 h1 h2 h3 h4 h5 => ⟨v5, bf_contacts, h5⟩
theorem atI0 {α : Type} {x : α} {xs : List α} : atI (x :: xs) 0 = some x := by simp [atI, ixN]
theorem at_nat {α : Type} {xs : List α} {i : Nat} {x : α} (h : xs[i]? = some x) : atI xs (i : Int) = some x := by
  have hi := (List.getElem?_eq_some_iff.mp h).1
  unfold atI
  rw [ixN_nat hi]
  exact h

theorem at0 {α : Type} {xs : List α} {x : α} (h : xs[0]? = some x) : atI xs 0 = some x := at_nat (i := 0) h
theorem at1 {α : Type} {xs : List α} {x : α} (h : xs[1]? = some x) : atI xs 1 = some x := at_nat (i := 1) h
theorem at2 {α : Type} {xs : List α} {x : α} (h : xs[2]? = some x) : atI xs 2 = some x := at_nat (i := 2) h
theorem at3 {α : Type} {xs : List α} {x : α} (h : xs[3]? = some x) : atI xs 3 = some x := at_nat (i := 3) h
theorem at4 {α : Type} {xs : List α} {x : α} (h : xs[4]? = some x) : atI xs 4 = some x := at_nat (i := 4) h

/-! ### closes -/
def dMov (c : Con Str) : PyData := match c.mover with | none => .none | some m => .str m
theorem isNone_mov (c : Con Str) : isNoneD (dMov c) = c.mover.isNone := by unfold dMov; cases c.mover <;> rfl
def clB (c : Con Str) (on : Bool) : Bool := match c.mover with | none => true | some _ => on == c.make
inductive R_closes : List Ar → Ar → Prop
  | mk (c : Con Str) (on : Bool) : R_closes [.d (dCon c), .d (.bool on)] (.d (.bool (clB c on)))
theorem make_str (b : Bool) : decide ((if b = true then ("make" : Str) else "break") = "make") = b := by cases b <;> decide +kernel
theorem both_str (b : Bool) : decide ((if b = true then ("both" : Str) else "forward") = "both") = b := by cases b <;> decide +kernel
theorem c_closes (T : TX K mg) : C8.Cal P w K mg base 1 "closes" (FS K R_closes) [] := by
  obtain ⟨fd, F⟩ := T.f_closes
  exact cal_of F T.g_closes (F.bindsN fun _ _ _ _ _ _ us hl => match us, hl with | [_, _], _ => rfl) (fs_ok F scope_closes 0 (fun _ _ r => by cases r; rfl) rfl (fun _ _ r => by cases r; first | rfl | simp_all [Ar.nm]) fun cdv A outer s H E hr => by
    have hu := hu_of hr
    have hu9 : (A.deeper (envOfC "closes" (defScope s_closes) s.heap.objs.size (He.ga K "closes") cdv)).units + 9 < cLine := by have := hr.un; omega
    have hu64 : (A.deeper (envOfC "closes" (defScope s_closes) s.heap.objs.size (He.ga K "closes") cdv)).units + 64 < cLine := by have := hr.un; omega
    have hu65 : (A.deeper (envOfC "closes" (defScope s_closes) s.heap.objs.size (He.ga K "closes") cdv)).units + 65 < cLine := by have := hr.un; omega
    refine ⟨_, (pss_cons (ps_if (pt_cmpR op_isN (pe_ix (ixT (K := K)) (pv 0) pe_int (fun _ _ => rfl)) pe_non (nomark _))
          (pss_one (ps_ret pe_bl))
          pss_nil)
        (pss_one (ps_ret (pe_cmpR op_eq (pv 1) (pe_cmpR op_eq (pe_ix (ixT (K := K)) (pv 0) pe_int (fun _ _ => rfl)) pe_str (nomark _)) (nomark _))))), fun as y r => ?_⟩
    cases r with
    | mk c on =>
    show Sd K _ [some _, some _] _ _
    refine sd_seq (M := fun ys => c.mover.isNone = false ∧ ys = [some (.d (dCon c)), some (.d (.bool on))]) (sd_if (b := c.mover.isNone) ?_ (fun h => ?_) (fun h => ?_)) ?_
    · refine et_is (et_test (ed_op (ed_op (ed_var rfl) (ed_c rfl) (rv_ixT (d := dMov c) rfl)) (ed_c rfl) rv_isN)) (isNone_mov c)
    · refine sd_ret (ed_c rfl) rfl ?_
      unfold clB
      cases q : c.mover with
      | none => rfl
      | some m => rw [q] at h; cases h
    · exact sd_next ⟨h, rfl⟩
    · rintro ys ⟨h, rfl⟩
      refine sd_ret (ed_op (ed_var rfl) (ed_op (ed_op (ed_var rfl) (ed_c rfl) (rv_ixT rfl)) (ed_c rfl) rv_eqS) rv_eqB) rfl ?_
      unfold clB
      cases q : c.mover with
      | none => rw [q] at h; cases h
      | some m =>
        have e := make_str c.make
        simp only [e])

/-! ### is_between -/
inductive R_is_between : List Ar → Ar → Prop
  | mk (a b : Str) (ss : List Str) (y : Ar) (hy : y.nm = true) (hs : Seq1 y (dStrs ss)) (ha : a ∈ ss) (hb : b ∈ ss) (hab : a ≠ b) : R_is_between [.d (.str a), .d (.str b), y] (.d (.bool true))
theorem c_is_between (T : TX K mg) : C8.Cal P w K mg base 1 "is_between" (FS K R_is_between) [] := by
  obtain ⟨fd, F⟩ := T.f_is_between
  exact cal_of F T.g_is_between (F.bindsN fun _ _ _ _ _ _ us hl => match us, hl with | [_, _, _], _ => rfl) (fs_ok F scope_is_between 0 (fun _ _ r => by cases r; rfl) rfl (fun _ _ r => by cases r; first | rfl | simp_all [Ar.nm]) fun cdv A outer s H E hr => by
    have hu := hu_of hr
    have hu9 : (A.deeper (envOfC "is_between" (defScope s_is_between) s.heap.objs.size (He.ga K "is_between") cdv)).units + 9 < cLine := by have := hr.un; omega
    have hu64 : (A.deeper (envOfC "is_between" (defScope s_is_between) s.heap.objs.size (He.ga K "is_between") cdv)).units + 64 < cLine := by have := hr.un; omega
    have hu65 : (A.deeper (envOfC "is_between" (defScope s_is_between) s.heap.objs.size (He.ga K "is_between") cdv)).units + 65 < cLine := by have := hr.un; omega
    refine ⟨_, (pss_one (ps_ret (pe_and (pe_cmpR (opIn (K := K)) (pv 0) (pv 2) rfl) (pe_and (pe_cmpR (opIn (K := K)) (pv 1) (pv 2) rfl) (pe_one (pe_cmpR op_ne (pv 0) (pv 1) (nomark _))))))), fun as y r => ?_⟩
    cases r with
    | mk a b ss y hy hs ha hb hab =>
    show Sd K _ [some _, some _, some _] _ _
    refine sd_ret (ed_is (ed_andV (ed_op (ed_var rfl) (ed_var rfl) (rv_isIn hs)) fun _ => ed_andV (ed_op (ed_var rfl) (ed_var rfl) (rv_isIn hs)) fun _ => ed_op (ed_var rfl) (ed_var rfl) rv_neS) ?_) rfl rfl
    rw [decide_eq_true ha, decide_eq_true hb, decide_eq_false hab]
    rfl)

/-! ### Board.plus, minus, movers, mover_number -/
inductive R_Board_plus : List Ar → Ar → Prop
  | mk (B : BR) : R_Board_plus [.b B] (.d (.str B.plus))
theorem p_plus (T : TX K mg) : Prp P w K mg base 1 "plus" (FS K R_Board_plus) := by
  obtain ⟨fd, F⟩ := T.f_Board_plus
  exact ⟨_, _, fd, ["self"], T.cl_Board, T.pr_plus, (fs_ok F scope_Board_plus 0 (fun _ _ r => by cases r; rfl) rfl (fun _ _ r => by cases r; first | rfl | simp_all [Ar.nm]) fun cdv A outer s H E hr => by
    have hu := hu_of hr
    have hu9 : (A.deeper (envOfC "Board.plus" (defScope s_Board_plus) s.heap.objs.size (recA K "plus" "property") cdv)).units + 9 < cLine := by have := hr.un; omega
    have hu64 : (A.deeper (envOfC "Board.plus" (defScope s_Board_plus) s.heap.objs.size (recA K "plus" "property") cdv)).units + 64 < cLine := by have := hr.un; omega
    have hu65 : (A.deeper (envOfC "Board.plus" (defScope s_Board_plus) s.heap.objs.size (recA K "plus" "property") cdv)).units + 65 < cLine := by have := hr.un; omega
    refine ⟨_, (pss_one (ps_ret (pe_ix (ixT (K := K)) (peFld (K := K) (pv 0)) pe_int (fun _ _ => rfl)))), fun as y r => ?_⟩
    cases r with
    | mk B =>
    show Sd K _ [some _] _ _
    exact sd_ret (ed_op (ed_nodes T (ed_var rfl)) (ed_c rfl) (rv_ixT (at0 rfl))) rfl rfl), (F.bindsN fun _ _ _ _ _ _ us hl => match us, hl with | [_], _ => rfl)⟩
inductive R_Board_minus : List Ar → Ar → Prop
  | mk (B : BR) : R_Board_minus [.b B] (.d (.str B.minus))
theorem p_minus (T : TX K mg) : Prp P w K mg base 1 "minus" (FS K R_Board_minus) := by
  obtain ⟨fd, F⟩ := T.f_Board_minus
  exact ⟨_, _, fd, ["self"], T.cl_Board, T.pr_minus, (fs_ok F scope_Board_minus 0 (fun _ _ r => by cases r; rfl) rfl (fun _ _ r => by cases r; first | rfl | simp_all [Ar.nm]) fun cdv A outer s H E hr => by
    have hu := hu_of hr
    have hu9 : (A.deeper (envOfC "Board.minus" (defScope s_Board_minus) s.heap.objs.size (recA K "minus" "property") cdv)).units + 9 < cLine := by have := hr.un; omega
    have hu64 : (A.deeper (envOfC "Board.minus" (defScope s_Board_minus) s.heap.objs.size (recA K "minus" "property") cdv)).units + 64 < cLine := by have := hr.un; omega
    have hu65 : (A.deeper (envOfC "Board.minus" (defScope s_Board_minus) s.heap.objs.size (recA K "minus" "property") cdv)).units + 65 < cLine := by have := hr.un; omega
    refine ⟨_, (pss_one (ps_ret (pe_ix (ixT (K := K)) (peFld (K := K) (pv 0)) pe_int (fun _ _ => rfl)))), fun as y r => ?_⟩
    cases r with
    | mk B =>
    show Sd K _ [some _] _ _
    exact sd_ret (ed_op (ed_nodes T (ed_var rfl)) (ed_c rfl) (rv_ixT (at1 rfl))) rfl rfl), (F.bindsN fun _ _ _ _ _ _ us hl => match us, hl with | [_], _ => rfl)⟩
/-- boards that the law makes -/
structure WB (B : BR) : Prop where
  nd : B.movers.Nodup
  cm : ∀ c ∈ B.con, ∀ m, c.mover = some m → m ∈ B.movers
  cn : ∀ c ∈ B.con, c.one ∈ B.nodes ∧ c.other ∈ B.nodes
  rn : ∀ l ∈ B.rel, l.2.1 ∈ B.nodes ∧ l.2.2 ∈ B.nodes
  ln : ∀ l ∈ B.lamps, l.2.1 ∈ B.nodes ∧ l.2.2 ∈ B.nodes
  zn : B.nodes.length ≤ 4
  zs : B.sw.length ≤ 2
  zr : B.rel.length ≤ 2
  zl : B.lamps.length ≤ 2
  zc : B.con.length ≤ 7
theorem filter_yes {α : Type} (l : List α) : l.filter (fun _ => true) = l := by induction l with
  | nil => rfl
  | cons a l ih => rw [List.filter_cons, if_pos rfl, ih]
theorem loads_names (ls : List (Str × Str × Str)) (v : PyData → PyData) (h : ∀ l, v (dLoad l) = .str l.1) : ((dLoads ls).filter fun _ => true).map v = dStrs (ls.map (·.1)) := by
  rw [filter_yes]
  unfold dLoads dStrs
  rw [List.map_map, List.map_map]
  exact List.map_congr_left fun l _ => h l
def fstD : PyData → PyData
  | .tuple (d :: _) => d
  | d => d
theorem mem_dLoads {ls : List (Str × Str × Str)} {d : PyData} (h : d ∈ dLoads ls) : ∃ l ∈ ls, d = dLoad l := by
  obtain ⟨l, h1, h2⟩ := List.mem_map.mp h
  exact ⟨l, h1, h2.symm⟩
inductive R_Board_movers : List Ar → Ar → Prop
  | mk (B : BR) (h : WB B) : R_Board_movers [.b B] (.d (.tuple (dStrs B.movers)))
theorem p_movers (T : TX K mg) : Prp P w K mg base 1 "movers" (FS K R_Board_movers) := by
  obtain ⟨fd, F⟩ := T.f_Board_movers
  exact ⟨_, _, fd, ["self"], T.cl_Board, T.pr_movers, (fs_ok F scope_Board_movers 1 (fun _ _ r => by cases r; rfl) rfl (fun _ _ r => by cases r; first | rfl | simp_all [Ar.nm]) fun cdv A outer s H E hr => by
    have hu := hu_of hr
    have hu9 : (A.deeper (envOfC "Board.movers" (defScope s_Board_movers) s.heap.objs.size (recA K "movers" "property") cdv)).units + 9 < cLine := by have := hr.un; omega
    have hu64 : (A.deeper (envOfC "Board.movers" (defScope s_Board_movers) s.heap.objs.size (recA K "movers" "property") cdv)).units + 64 < cLine := by have := hr.un; omega
    have hu65 : (A.deeper (envOfC "Board.movers" (defScope s_Board_movers) s.heap.objs.size (recA K "movers" "property") cdv)).units + 65 < cLine := by have := hr.un; omega
    refine ⟨_, (pss_one (ps_ret (pe_op (opCatT (K := K)) (peFld (K := K) (pv 0)) (peTupleOf (K := K) (by rfl) T.z_tuple (pe_lc (own := [("relay", 1)]) (g := gName 1) (tt := tYes) rfl scope_Board_movers.nd (piTup (K := K) (peFld (K := K) (pv 0))) (blkOk_by (own := [("relay", 1)]) (N := nm_Board_movers) (sc := defScope s_Board_movers) (by decide +kernel)) (fun _ _ _ _ _ => (pg_name (i := 1) scope_Board_movers.nd rfl (Or.inl rfl))) (fun _ _ _ _ _ => pts_nil) (fun _ _ _ _ _ => (pe_ix (ixT (K := K)) (pv 1) pe_int (fun _ _ => rfl)))))))), fun as y r => ?_⟩
    cases r with
    | mk B h =>
    show Sd K _ [some _, none] _ _
    refine sd_ret (ed_op (ed_switches T (ed_var rfl)) (ed_then (En.ed (en_lc (ys := fun d => [some (.b B), some (.d d)]) (f := fun _ => true) (v := fstD) (id_tup (ed_relays T (ed_var rfl))) (fun d _ => gd_name) (fun i hi => hi) (fun d _ => et_yes) (fun d hd _ => ?_) ?_)) (ru_tuple (.l _))) (rv_catT ?_)) rfl ?_
    · obtain ⟨l, _, rfl⟩ := mem_dLoads hd
      exact ed_op (ed_var rfl) (ed_c rfl) (rv_ixT rfl)
    · unfold dLoads; rw [List.length_map]; have := h.zr; omega
    · rw [loads_names _ _ fun l => rfl]
      unfold dStrs; rw [List.length_map, List.length_map, List.length_map]
      have := h.zr; have := h.zs; omega
    · rw [loads_names _ _ fun l => rfl]
      show Ar.d (.tuple (B.sw.map PyData.str ++ (B.rel.map (·.1)).map PyData.str)) = .d (.tuple ((B.sw ++ B.rel.map (·.1)).map PyData.str))
      rw [List.map_append]), (F.bindsN fun _ _ _ _ _ _ us hl => match us, hl with | [_], _ => rfl)⟩
end
end K58
end
/-! W2 -/
section
set_option maxRecDepth 100000
set_option maxHeartbeats 2000000
namespace K58
open PySem PySem.Spec PyProof.Rows L2
section
variable {P : Program} {w : World} {K : PySem.W.Frag} {mg : Str → Option Value} {base : Heap}
/-! ### Board.mover_number -/
inductive R_Board_mover_number : List Ar → Ar → Prop
  | mk (B : BR) (h : WB B) (n : Str) (hn : n ∈ B.movers) : R_Board_mover_number [.b B, .d (.str n)] (.d (.int (B.idx n : Nat)))
theorem m_mover_number (T : TX K mg) : C8.Met P w K mg base 3 (He.ga K "Board") "mover_number" (FS K R_Board_mover_number) [] := by
  obtain ⟨fd, F⟩ := T.f_Board_mover_number
  have p_movers := @p_movers P w K mg base T
  exact ⟨_, fd, ["self", "name"], [], T.cl_Board, T.me_mover_number, (fs_ok F scope_Board_mover_number 2 (fun _ _ r => by cases r; rfl) rfl (fun _ _ r => by cases r; first | rfl | simp_all [Ar.nm]) fun cdv A outer s H E hr => by
    have hu := hu_of hr
    have hu9 : (A.deeper (envOfC "Board.mover_number" (defScope s_Board_mover_number) s.heap.objs.size (He.ma K (He.ga K "Board") "mover_number") cdv)).units + 9 < cLine := by have := hr.un; omega
    have hu64 : (A.deeper (envOfC "Board.mover_number" (defScope s_Board_mover_number) s.heap.objs.size (He.ma K (He.ga K "Board") "mover_number") cdv)).units + 64 < cLine := by have := hr.un; omega
    have hu65 : (A.deeper (envOfC "Board.mover_number" (defScope s_Board_mover_number) s.heap.objs.size (He.ma K (He.ga K "Board") "mover_number") cdv)).units + 65 < cLine := by have := hr.un; omega
    refine ⟨_, (pss_cons (ps_for PassesOwn.never rfl (piEnumT (K := K) (by rfl) T.z_enumerate (pa_cons (pe_pr (K := K) p_movers hr (by decide) (pv 0)) pa_nil)) (pgTup (K := K) (n := 2) (by rfl) (pgs_cons (pg_name (i := 2) scope_Board_mover_number.nd rfl (Or.inl rfl)) (pgs_cons (pg_name (i := 3) scope_Board_mover_number.nd rfl (Or.inl rfl)) pgs_nil)))
          (pss_one (ps_if (pt_cmpR op_eq (pv 3) (pv 1) (nomark _))
          (pss_one (ps_ret (pv 2)))
          pss_nil)))
        (pss_one ps_never)), fun as y r => ?_⟩
    cases r with
    | mk B h n hn =>
    show Sd K _ [some _, some _, none, none] _ _
    have hp := pos_idx hn
    refine sd_seq (M := fun _ => False) (sd_for (fun i ys => i ≤ B.idx n ∧ ∃ a b, ys = [some (.b B), some (.d (.str n)), a, b]) (id_enumT (ed_prop (ed_var rfl) (by constructor <;> assumption))) ⟨Nat.zero_le _, _, _, rfl⟩ (fun i d ys hd hP => ?_) (fun ys hP => ?_)) (fun _ h => h.elim)
    · obtain ⟨hi, a, b, rfl⟩ := hP
      obtain ⟨e, he, rfl⟩ := enum_get' hd
      obtain ⟨m, hm, rfl⟩ := map_get he
      refine ⟨_, _, (gd_tup (gds_cons gd_name (gds_cons gd_name gds_nil)) rfl), sd_if (b := decide (m = n)) (et_test (ed_op (ed_var rfl) (ed_var rfl) rv_eqS)) (fun e => ?_) (fun e => sd_next ⟨?_, _, _, rfl⟩)⟩
      · have em := of_decide_eq_true e
        subst em
        have h2 := idx_le B.movers i m hm
        have ei : i = B.idx m := by unfold Brd.idx at hi ⊢; omega
        exact sd_ret (ed_var rfl) rfl (by rw [ei])
      · have nm := of_decide_eq_false e
        have : i ≠ B.idx n := fun q => nm (by
          unfold Brd.idx at q
          rw [← q, hm] at hp
          exact Option.some.inj hp)
        omega
    · have h2 := (List.getElem?_eq_some_iff.mp hp).1
      have h3 := hP.1
      rw [enumD_len] at h3
      unfold dStrs at h3
      rw [List.length_map] at h3
      unfold Brd.idx at h3
      omega), (F.bindsN fun _ _ _ _ _ _ us hl => match us, hl with | [_, _], _ => rfl), .nil⟩
/-! ### closed_contacts -/
def dNats (ns : List Nat) : List PyData := ns.map fun n => PyData.int (n : Nat)
def nmK : PyData → Key
  | .tuple [_, .str s] => .inr s
  | _ => .inl 0
def nmV : PyData → V
  | .tuple [.int i, _] => .int i
  | _ => .non
theorem idx_of {α : Type} [DecidableEq α] : ∀ {l : List α} {i : Nat} {x : α}, l.Nodup → l[i]? = some x → l.idxOf x = i
  | [], i, x, _, h => by simp at h
  | a :: l, 0, x, _, h => by simp at h; subst h; simp
  | a :: l, i + 1, x, nd, h => by
    have h1 := List.nodup_cons.mp nd
    have h2 : l[i]? = some x := by simpa using h
    have ne : a ≠ x := fun e => h1.1 (e ▸ List.mem_of_getElem? h2)
    rw [List.idxOf_cons, beq_eq_false_iff_ne.mpr ne, cond_false, idx_of h1.2 h2]
theorem nm_look {ms : List Str} (nd : ms.Nodup) (m : Str) : ∀ k, k ≤ ms.length → valV (dcF nmK nmV ((enumD (dStrs ms)).take k)) (Sum.inr m : Key) = if m ∈ ms.take k then some (.int (ms.idxOf m : Nat)) else none
  | 0, _ => by simp [dcF, valV_nil]
  | k + 1, h => by
    have hk : k < ms.length := h
    have e1 : ms[k]? = some ms[k] := by simp [hk]
    have e2 : (dStrs ms)[k]? = some (.str ms[k]) := by unfold dStrs; rw [List.getElem?_map, e1]; rfl
    have e3 := enumD_get e2
    rw [take_snoc e3, dcF_snoc, take_snoc e1]
    show valV (putK _ (Sum.inr ms[k] : Key) (.int (k : Nat))) (Sum.inr m : Key) = _
    rw [valV_put, nm_look nd m k (by omega)]
    by_cases q : m = ms[k]
    · rw [if_pos (by rw [q]), if_pos (by rw [q]; exact List.mem_append_right _ (List.mem_singleton.mpr rfl)), show ms.idxOf m = k by rw [q]; exact idx_of nd e1]
    · rw [if_neg fun z => q (Sum.inr.inj z)]
      by_cases z : m ∈ ms.take k
      · rw [if_pos z, if_pos (List.mem_append_left _ z)]
      · rw [if_neg z, if_neg fun y => (List.mem_append.mp y).elim z fun y => q (List.mem_singleton.mp y)]
theorem nm_at {ms : List Str} (nd : ms.Nodup) {m : Str} (hm : m ∈ ms) : valV (dcF nmK nmV (enumD (dStrs ms))) (Sum.inr m : Key) = some (.int (ms.idxOf m : Nat)) := by
  have h := nm_look nd m ms.length (Nat.le_refl _)
  rw [List.take_length, if_pos hm, List.take_of_length_le (by rw [enumD_len]; unfold dStrs; rw [List.length_map]; exact Nat.le_refl _)] at h
  exact h
theorem bits_get {bs : List Bool} {i : Nat} (h : i < bs.length) : (dBits bs)[i]? = some (.bool (bs.getD i false)) := by
  unfold dBits
  rw [List.getElem?_map, List.getD_eq_getElem?_getD]
  simp [h]
theorem idx_lt {B : BR} {m : Str} (h : m ∈ B.movers) : B.idx m < B.movers.length := List.idxOf_lt_length_iff.mpr h
theorem closed_eq (B : BR) (on : List Bool) (c : Con Str) : B.closed on c = (c.mover.isNone || clB c (on.getD (B.idx (c.mover.getD "")) false)) := by
  unfold Brd.closed clB
  cases c.mover <;> rfl
inductive R_closed_contacts : List Ar → Ar → Prop
  | mk (B : BR) (h : WB B) (st : BState) (hl : st.1.length = B.movers.length) : R_closed_contacts [.b B, .d (dState st)] (.d (.list (dNats (ixs (B.closed st.1) B.con B.con.length))))
theorem c_closed_contacts (T : TX K mg) : C8.Cal P w K mg base 3 "closed_contacts" (FS K R_closed_contacts) [] := by
  obtain ⟨fd, F⟩ := T.f_closed_contacts
  have c_closes := @c_closes P w K mg base T
  have p_movers := @p_movers P w K mg base T
  exact cal_of F T.g_closed_contacts (F.bindsN fun _ _ _ _ _ _ us hl => match us, hl with | [_, _], _ => rfl) (fs_ok F scope_closed_contacts 5 (fun _ _ r => by cases r; rfl) rfl (fun _ _ r => by cases r; first | rfl | simp_all [Ar.nm]) fun cdv A outer s H E hr => by
    have hu := hu_of hr
    have hu9 : (A.deeper (envOfC "closed_contacts" (defScope s_closed_contacts) s.heap.objs.size (He.ga K "closed_contacts") cdv)).units + 9 < cLine := by have := hr.un; omega
    have hu64 : (A.deeper (envOfC "closed_contacts" (defScope s_closed_contacts) s.heap.objs.size (He.ga K "closed_contacts") cdv)).units + 64 < cLine := by have := hr.un; omega
    have hu65 : (A.deeper (envOfC "closed_contacts" (defScope s_closed_contacts) s.heap.objs.size (He.ga K "closed_contacts") cdv)).units + 65 < cLine := by have := hr.un; omega
    refine ⟨_, (pss_cons (ps_setDc (i := 2) (own := [("number", 4), ("name", 6)]) (tt := tYes) rfl scope_closed_contacts.nd rfl rfl (sw_trueD rfl rfl rfl (by decide +kernel)) (piEnumT (K := K) (by rfl) T.z_enumerate (pa_cons (pe_pr (K := K) p_movers hr (by decide) (pv 0)) pa_nil)) (blkOk_by (own := [("number", 4), ("name", 6)]) (N := nm_closed_contacts) (sc := defScope s_closed_contacts) (by decide +kernel)) (fun _ _ _ _ _ => (pgTup (K := K) (n := 2) (by rfl) (pgs_cons (pg_name (i := 4) scope_closed_contacts.nd rfl (Or.inl rfl)) (pgs_cons (pg_name (i := 6) scope_closed_contacts.nd rfl (Or.inl rfl)) pgs_nil)))) (fun _ _ _ _ _ => pts_nil) (fun _ _ _ _ _ => (pv 6)) (fun _ _ _ _ _ => (pv 4)))
        (pss_cons (ps_set (i := 3) scope_closed_contacts.nd rfl (Or.inl rfl) (pe_lst pa_nil))
        (pss_cons (ps_for PassesOwn.never rfl (piEnumT (K := K) (by rfl) T.z_enumerate (pa_cons (peFld (K := K) (pv 0)) pa_nil)) (pgTup (K := K) (n := 2) (by rfl) (pgs_cons (pg_name (i := 4) scope_closed_contacts.nd rfl (Or.inl rfl)) (pgs_cons (pg_name (i := 5) scope_closed_contacts.nd rfl (Or.inl rfl)) pgs_nil)))
          (pss_one (ps_if (PW.pt (pw_or (pt_cmpR op_isN (pe_ix (ixT (K := K)) (pv 5) pe_int (fun _ _ => rfl)) pe_non (nomark _)) (pw_or1 (pt_val (C8.pe_c c_closes hr (by decide) rfl (pa_cons (pv 5) (pa_cons (pe_ix (ixT (K := K)) (pe_ix (ixT (K := K)) (pv 1) pe_int (fun _ _ => rfl)) (pe_dget hu (pv 2) (pe_ix (ixT (K := K)) (pv 5) pe_int (fun _ _ => rfl)) (fun _ _ => rfl)) (fun _ _ => rfl)) pa_nil)))))))
          (pss_one (ps_expr (peBm (K := K) PySem.F.plainAttrs_list PySem.F.slot_list_append PySem.F.type_list_append mt_append (pv 3) (pa_cons (pv 4) pa_nil))))
          pss_nil)))
        (pss_one (ps_ret (pv 3)))))), fun as y r => ?_⟩
    cases r with
    | mk B h st hl =>
    show Sd K _ [some _, some _, none, none, none, none, none] _ _
    have zm : B.movers.length ≤ 4 := by unfold Brd.movers; rw [List.length_append, List.length_map]; have := h.zs; have := h.zr; omega
    refine sd_let (ed_dc (js := [4, 6]) (ky := nmK) (vl := nmV) (ys := fun d => [some (.b B), some (.d (dState st)), none, none, some (.d (toD (nmV d))), none, some (.d (toD (kV (nmK d))))]) (id_enumT (ed_prop (ed_var rfl) (by constructor <;> assumption))) (fun d hd => ?_) (fun i hi => hi) (fun d hd => ed_var rfl) (fun d hd => ed_var rfl) (fun d hd => ?_) ?_) rfl ?_
    · obtain ⟨i, hi⟩ := List.mem_iff_getElem?.mp hd
      obtain ⟨e, he, rfl⟩ := enum_get' hi
      obtain ⟨m, hm, rfl⟩ := map_get he
      exact (gd_tup (gds_cons gd_name (gds_cons gd_name gds_nil)) rfl)
    · obtain ⟨i, hi⟩ := List.mem_iff_getElem?.mp hd
      obtain ⟨e, he, rfl⟩ := enum_get' hi
      rfl
    · rw [enumD_len]; unfold dStrs; rw [List.length_map]; omega
    refine sd_letN ((en_lst (ds := []) ea_nil (Nat.le_of_ble_eq_true rfl))) ?_
    refine sd_seq (M := fun ys => ∃ a b c, ys = [some (.b B), some (.d (dState st)), some (.k (dcF nmK nmV (enumD (dStrs B.movers)))), some (.m (dNats (ixs (B.closed st.1) B.con B.con.length))), a, b, c])
      (sd_for (fun i ys => ∃ a b c, ys = [some (.b B), some (.d (dState st)), some (.k (dcF nmK nmV (enumD (dStrs B.movers)))), some (.m (dNats (ixs (B.closed st.1) B.con i))), a, b, c]) (id_enumT (ed_contacts T (ed_var rfl))) ⟨_, _, _, rfl⟩ (fun i d ys hd hP => ?_) (fun ys hP => ?_)) (fun ys hP => ?_)
    · obtain ⟨a, b, o, rfl⟩ := hP
      obtain ⟨e, he, rfl⟩ := enum_get' hd
      obtain ⟨c, hc, rfl⟩ := map_get he
      have hcm := h.cm c (List.mem_of_getElem? hc)
      have hi := (List.getElem?_eq_some_iff.mp hc).1
      have e5 : dNats (ixs (B.closed st.1) B.con (i + 1)) = dNats (ixs (B.closed st.1) B.con i) ++ (if B.closed st.1 c = true then [.int (i : Nat)] else []) := by
        rw [ixs_succ]
        unfold dNats
        rw [List.map_append, show gotP (B.closed st.1) B.con i = B.closed st.1 c by unfold gotP; rw [hc]]
        congr 1
        split <;> rfl
      have len := ixs_len (B.closed st.1) B.con i
      have zc := h.zc
      refine ⟨_, _, (gd_tup (gds_cons gd_name (gds_cons gd_name gds_nil)) rfl), sd_if (b := B.closed st.1 c) (et_is (et_or (b := clB c (st.1.getD (B.idx (c.mover.getD "")) false)) (et_test (ed_op (ed_op (ed_var rfl) (ed_c rfl) (rv_ixT (at2 rfl))) (ed_c rfl) rv_isN)) fun hf => ?_) (by rw [closed_eq, ← isNone_mov]; rfl)) (fun e => sd_app rfl (ed_var rfl) ?_ ?_) (fun e => sd_next ?_)⟩
      · cases q : c.mover with
        | none =>
          have hf : isNoneD (dMov c) = false := hf
          rw [isNone_mov, q] at hf
          cases hf
        | some m =>
          have hm := hcm m q
          show Et K _ _ (clB c (st.1.getD (B.idx m) false))
          refine et_B (ed_call (as := [.d (dCon c), .d (.bool (st.1.getD (B.idx m) false))]) (ea_cons (ed_var rfl) (ea_cons (ed_op (ed_op (ed_var rfl) (ed_c rfl) (rv_ixT (at0 rfl))) (ed_dget (k := .inr m) rfl (nm_at h.nd hm) rfl (ed_var rfl) (ed_is (ed_op (ed_var rfl) (ed_c rfl) (rv_ixT (at2 rfl))) (by show Ar.d (dMov c) = _; unfold dMov; rw [q]; rfl))) (rv_ixT (at_nat (bits_get (by rw [hl]; exact idx_lt hm))))) ea_nil)) (.mk _ _))
      · show (dNats _).length < _
        unfold dNats; rw [List.length_map]; omega
      · rw [e5, e, if_pos rfl]; exact ⟨_, _, _, rfl⟩
      · rw [e5, e, if_neg (by decide), List.append_nil]; exact ⟨_, _, _, rfl⟩
    · have e : (enumD (dCons B.con)).length = B.con.length := by rw [enumD_len]; unfold dCons; rw [List.length_map]
      rw [e] at hP
      exact hP
    · obtain ⟨a, b, c, rfl⟩ := hP
      exact sd_retM rfl rfl)
end
end K58
end
/-! W3 -/
section
set_option maxRecDepth 100000
set_option maxHeartbeats 2000000
namespace K58
open PySem PySem.Spec PyProof.Rows L2
section
variable {P : Program} {w : World} {K : PySem.W.Frag} {mg : Str → Option Value} {base : Heap}
def dPr (p : Str × Str) : PyData := .tuple [.str p.1, .str p.2]
def dPrs (ps : List (Str × Str)) : List PyData := ps.map dPr
theorem dPrs_len (ps : List (Str × Str)) : (dPrs ps).length = ps.length := List.length_map ..
theorem dStrs_len (ps : List Str) : (dStrs ps).length = ps.length := List.length_map ..
theorem dStrs_snoc (l : List Str) (x : Str) : dStrs (l ++ [x]) = dStrs l ++ [.str x] := by unfold dStrs; rw [List.map_append]; rfl
/-! ### paths -/
def ofIx (con : List (Con Str)) (l : List Nat) : List (Str × Str) := (l.filterMap fun i => con[i]?).flatMap prs
theorem ofIx_snoc {con : List (Con Str)} {l : List Nat} {i : Nat} {c : Con Str} (h : con[i]? = some c) : ofIx con (l ++ [i]) = ofIx con l ++ prs c := by
  unfold ofIx
  rw [List.filterMap_append, List.flatMap_append]
  congr 1
  simp [h]
theorem ofIx_len (con : List (Con Str)) (l : List Nat) : (ofIx con l).length ≤ 2 * l.length := by
  unfold ofIx
  have h1 := flat_len prs 2 prs_len (l.filterMap fun i => con[i]?)
  have h2 := List.length_filterMap_le (fun i => con[i]?) l
  have := Nat.mul_le_mul_left 2 h2
  omega
inductive R_paths : List Ar → Ar → Prop
  | mk (B : BR) (h : WB B) (st : BState) (hl : st.1.length = B.movers.length) : R_paths [.b B, .d (dState st)] (.d (.list (dPrs (B.pairs st.1))))
theorem c_paths (T : TX K mg) : C8.Cal P w K mg base 4 "paths" (FS K R_paths) [] := by
  obtain ⟨fd, F⟩ := T.f_paths
  have c_closed_contacts := @c_closed_contacts P w K mg base T
  exact cal_of F T.g_paths (F.bindsN fun _ _ _ _ _ _ us hl => match us, hl with | [_, _], _ => rfl) (fs_ok F scope_paths 6 (fun _ _ r => by cases r; rfl) rfl (fun _ _ r => by cases r; first | rfl | simp_all [Ar.nm]) fun cdv A outer s H E hr => by
    have hu := hu_of hr
    have hu9 : (A.deeper (envOfC "paths" (defScope s_paths) s.heap.objs.size (He.ga K "paths") cdv)).units + 9 < cLine := by have := hr.un; omega
    have hu64 : (A.deeper (envOfC "paths" (defScope s_paths) s.heap.objs.size (He.ga K "paths") cdv)).units + 64 < cLine := by have := hr.un; omega
    have hu65 : (A.deeper (envOfC "paths" (defScope s_paths) s.heap.objs.size (He.ga K "paths") cdv)).units + 65 < cLine := by have := hr.un; omega
    refine ⟨_, (pss_cons (ps_set (i := 2) scope_paths.nd rfl (Or.inl rfl) (pe_lst pa_nil))
        (pss_cons (ps_for PassesOwn.never rfl (piList (K := K) (C8.pe_c c_closed_contacts hr (by decide) rfl (pa_cons (pv 0) (pa_cons (pv 1) pa_nil)))) (pg_name (i := 3) scope_paths.nd rfl (Or.inl rfl))
          (pss_cons (ps_asg (pe_ix (ixT (K := K)) (peFld (K := K) (pv 0)) (pv 3) (fun _ _ => rfl)) (pgTup (K := K) (n := 5) (by rfl) (pgs_cons (pg_name (i := 4) scope_paths.nd rfl (Or.inl rfl)) (pgs_cons (pg_name (i := 5) scope_paths.nd rfl (Or.inl rfl)) (pgs_cons (pg_name (i := 6) scope_paths.nd rfl (Or.inl rfl)) (pgs_cons (pg_name (i := 6) scope_paths.nd rfl (Or.inl rfl)) (pgs_cons (pg_name (i := 7) scope_paths.nd rfl (Or.inl rfl)) pgs_nil)))))))
        (pss_cons (ps_expr (peBm (K := K) PySem.F.plainAttrs_list PySem.F.slot_list_append PySem.F.type_list_append mt_append (pv 2) (pa_cons (pe_tup (pa_cons (pv 4) (pa_cons (pv 5) pa_nil))) pa_nil)))
        (pss_one (ps_if (pt_cmpR op_eq (pv 7) pe_str (nomark _))
          (pss_one (ps_expr (peBm (K := K) PySem.F.plainAttrs_list PySem.F.slot_list_append PySem.F.type_list_append mt_append (pv 2) (pa_cons (pe_tup (pa_cons (pv 5) (pa_cons (pv 4) pa_nil))) pa_nil))))
          pss_nil)))))
        (pss_one (ps_ret (pv 2))))), fun as y r => ?_⟩
    cases r with
    | mk B h st hl =>
    show Sd K _ [some _, some _, none, none, none, none, none, none] _ _
    refine sd_letN (en_lst (ds := []) ea_nil (Nat.le_of_ble_eq_true rfl)) ?_
    let L := ixs (B.closed st.1) B.con B.con.length
    have hL : ofIx B.con L = B.pairs st.1 := by
      unfold ofIx Brd.pairs
      rw [ixs_get _ _ _ (Nat.le_refl _), List.take_length]
    refine sd_seq (M := fun ys => ∃ a b c d e, ys = [some (.b B), some (.d (dState st)), some (.m (dPrs (ofIx B.con L))), a, b, c, d, e])
      (sd_for (fun i ys => ∃ a b c d e, ys = [some (.b B), some (.d (dState st)), some (.m (dPrs (ofIx B.con (L.take i)))), a, b, c, d, e]) (id_list (ed_call (ea_cons (ed_var rfl) (ea_cons (ed_var rfl) ea_nil)) (by constructor <;> assumption))) ⟨_, _, _, _, _, rfl⟩ (fun i d ys hd hP => ?_) (fun ys hP => ?_)) (fun ys hP => ?_)
    · obtain ⟨a, b, o, o2, o3, rfl⟩ := hP
      obtain ⟨k, hk, rfl⟩ := map_get hd
      have hkl : k < B.con.length := ixs_lt (List.mem_of_getElem? hk)
      have hc : B.con[k]? = some B.con[k] := by simp [hkl]
      have hcd : (dCons B.con)[k]? = some (dCon B.con[k]) := by unfold dCons; rw [List.getElem?_map, hc]; rfl
      have e5 : dPrs (ofIx B.con (L.take (i + 1))) = dPrs (ofIx B.con (L.take i)) ++ dPrs (prs B.con[k]) := by
        rw [take_snoc hk, ofIx_snoc hc]
        unfold dPrs
        rw [List.map_append]
      have len1 := ofIx_len B.con (L.take i)
      have len2 := ixs_len (B.closed st.1) B.con B.con.length
      have zc := h.zc
      have len3 : (dPrs (ofIx B.con (L.take i))).length ≤ 14 := by
        rw [dPrs_len]
        rw [List.length_take] at len1
        have : L.length ≤ B.con.length := len2
        omega
      refine ⟨_, _, gd_name, sd_letG (ed_op (ed_contacts T (ed_var rfl)) (ed_var rfl) (rv_ixT (at_nat hcd))) (gd_tup (gds_cons gd_name (gds_cons gd_name (gds_cons gd_name (gds_cons gd_name (gds_cons gd_name gds_nil))))) rfl) ?_⟩
      refine sd_app1 rfl (ed_tup (ds := [_, _]) (ea_cons (ed_var rfl) (ea_cons (ed_var rfl) ea_nil)) (Nat.le_of_ble_eq_true rfl)) (by omega) ?_
      have em := both_str B.con[k].both
      refine sd_if (b := B.con[k].both) (et_is (et_test (ed_op (ed_var rfl) (ed_c rfl) rv_eqS)) em) (fun e => sd_app rfl (ed_tup (ds := [_, _]) (ea_cons (ed_var rfl) (ea_cons (ed_var rfl) ea_nil)) (Nat.le_of_ble_eq_true rfl)) (by rw [List.length_append]; show _ + 1 < _; omega) ?_) (fun e => sd_next ?_)
      · rw [e5]
        unfold prs
        rw [e, List.append_assoc]
        exact ⟨_, _, _, _, _, rfl⟩
      · rw [e5]
        unfold prs
        rw [e]
        exact ⟨_, _, _, _, _, rfl⟩
    · have e : (dNats L).length = L.length := List.length_map ..
      rw [show (dNats (ixs (B.closed st.1) B.con B.con.length)).length = L.length from e, List.take_length] at hP
      exact hP
    · obtain ⟨a, b, c, d, e, rfl⟩ := hP
      exact sd_retM rfl (by rw [hL]))
/-! ### reached -/
inductive R_reached : List Ar → Ar → Prop
  | mk (ps : List (Str × Str)) (s : Str) (hl : ps.length ≤ 1000) : R_reached [.d (.list (dPrs ps)), .d (.str s)] (.d (.list (dStrs (reachL ps s))))
theorem c_reached (T : TX K mg) : C8.Cal P w K mg base 1 "reached" (FS K R_reached) [] := by
  obtain ⟨fd, F⟩ := T.f_reached
  exact cal_of F T.g_reached (F.bindsN fun _ _ _ _ _ _ us hl => match us, hl with | [_, _], _ => rfl) (fs_ok F scope_reached 4 (fun _ _ r => by cases r; rfl) rfl (fun _ _ r => by cases r; first | rfl | simp_all [Ar.nm]) fun cdv A outer s H E hr => by
    have hu := hu_of hr
    have hu9 : (A.deeper (envOfC "reached" (defScope s_reached) s.heap.objs.size (He.ga K "reached") cdv)).units + 9 < cLine := by have := hr.un; omega
    have hu64 : (A.deeper (envOfC "reached" (defScope s_reached) s.heap.objs.size (He.ga K "reached") cdv)).units + 64 < cLine := by have := hr.un; omega
    have hu65 : (A.deeper (envOfC "reached" (defScope s_reached) s.heap.objs.size (He.ga K "reached") cdv)).units + 65 < cLine := by have := hr.un; omega
    refine ⟨_, (pss_cons (ps_set (i := 2) scope_reached.nd rfl (Or.inl rfl) (pe_lst (pa_cons (pv 1) pa_nil)))
        (pss_cons (ps_set (i := 3) scope_reached.nd rfl (Or.inl rfl) pe_int)
        (pss_cons (ps_while PassesOwn.never (pt_cmpR op_lt (pv 3) (pe_callB (cLen (K := K)) (by rfl) T.z_len PySem.boot_len (pa_cons (pv 2) pa_nil)) (nomark _))
          (pss_cons (ps_for PassesOwn.never rfl (piList (K := K) (pv 0)) (pgTup (K := K) (n := 2) (by rfl) (pgs_cons (pg_name (i := 4) scope_reached.nd rfl (Or.inl rfl)) (pgs_cons (pg_name (i := 5) scope_reached.nd rfl (Or.inl rfl)) pgs_nil)))
          (pss_one (ps_if (PW.pt (pw_and (pt_cmpR op_eq (pv 4) (pe_ix (ixL (K := K)) (pv 2) (pv 3) (fun _ _ => rfl)) (nomark _)) (pw_and1 (pt_cmpR (opNi (K := K)) (pv 5) (pv 2) rfl))))
          (pss_one (ps_expr (peBm (K := K) PySem.F.plainAttrs_list PySem.F.slot_list_append PySem.F.type_list_append mt_append (pv 2) (pa_cons (pv 5) pa_nil))))
          pss_nil)))
        (pss_one (ps_aug (i := 3) scope_reached.nd rfl (Or.inl rfl) pe_int ip_add))))
        (pss_one (ps_ret (pv 2)))))), fun as y r => ?_⟩
    cases r with
    | mk ps s hl =>
    show Sd K _ [some _, some _, none, none, none, none] _ _
    refine sd_letN (en_lst (ds := [_]) (ea_cons (ed_var rfl) ea_nil) (Nat.le_of_ble_eq_true rfl)) ?_
    refine sd_let (ed_c rfl) rfl ?_
    refine sd_seq (M := fun ys => ∃ p a b, ys = [some (.d (.list (dPrs ps))), some (.d (.str s)), some (.m (dStrs (reachL ps s))), p, a, b])
      (sd_while (fun m ys => ∃ (pl : Nat) (fs : List Str) (a b : Option Ar), RI ps s pl fs ∧ pl + m = ps.length + 1 ∧ wl ps m pl fs = reachL ps s ∧ ys = [some (.d (.list (dPrs ps))), some (.d (.str s)), some (.m (dStrs fs)), some (.d (.int (pl : Nat))), a, b]) (ps.length + 1)
        ⟨0, [s], _, _, RI.start ps s, by omega, rfl, rfl⟩ (fun m ys hP => ?_)) (fun ys hP => ?_)
    · obtain ⟨pl, fs, a, b, hR, hm, hw, rfl⟩ := hP
      refine ⟨decide (pl < fs.length), et_is (et_test (ed_op (ed_var rfl) (ed_cb (ea_cons (ed_var rfl) ea_nil) (rc_len (by constructor))) (rv_i0 rfl))) ?_, fun e => ?_, fun e => ?_⟩
      · rw [dStrs_len]; exact decide_eq_decide.mpr (by omega)
      · have hp := of_decide_eq_true e
        have hc : fs[pl]? = some fs[pl] := by simp [hp]
        have hb := hR.bound
        cases m with
        | zero => omega
        | succ m =>
        rw [wl_step hc] at hw
        refine sd_seq (M := fun ys => ∃ a b, ys = [some (.d (.list (dPrs ps))), some (.d (.str s)), some (.m (dStrs (addT fs[pl] fs ps))), some (.d (.int (pl : Nat))), a, b])
          (sd_for (fun i ys => ∃ a b, ys = [some (.d (.list (dPrs ps))), some (.d (.str s)), some (.m (dStrs (addT fs[pl] fs (ps.take i)))), some (.d (.int (pl : Nat))), a, b]) (id_list (ed_var rfl)) ⟨_, _, rfl⟩ (fun i d ys hd hP => ?_) (fun ys hP => ?_)) (fun ys hP => ?_)
        · obtain ⟨a, b, rfl⟩ := hP
          obtain ⟨p, hp2, rfl⟩ := map_get hd
          have hg : (dStrs (addT fs[pl] fs (ps.take i)))[pl]? = some (.str fs[pl]) := by
            unfold dStrs
            rw [List.getElem?_map, addT_get _ _ _ hc]; rfl
          have ln : (addT fs[pl] fs (ps.take i)).length ≤ 5000 := by
            have h1 := nodup_le (addT_nodup fs[pl] (ps.take i) fs hR.nd) (m := s :: ps.map (·.2)) fun n hn => by
              rcases (addT_mem _ n _ _).mp hn with q | q
              · exact hR.sub n q
              · exact List.mem_cons_of_mem _ (List.mem_map.mpr ⟨_, List.mem_of_mem_take q, rfl⟩)
            rw [List.length_cons, List.length_map] at h1
            omega
          refine ⟨_, _, (gd_tup (gds_cons gd_name (gds_cons gd_name gds_nil)) rfl), sd_if (b := decide (p.1 = fs[pl]) && !decide (p.2 ∈ addT fs[pl] fs (ps.take i))) (et_and (et_test (ed_op (ed_var rfl) (ed_op (ed_var rfl) (ed_var rfl) (rv_ixM (at_nat hg))) rv_eqS)) fun _ => (et_test (ed_op (ed_var rfl) (ed_var rfl) (rv_notIn (by constructor))))) (fun e => sd_app rfl (ed_var rfl) (by rw [dStrs_len]; omega) ?_) (fun e => sd_next ?_)⟩
          · rw [take_snoc hp2, addT_snoc]
            simp only [Bool.and_eq_true, decide_eq_true_eq, Bool.not_eq_true', decide_eq_false_iff_not] at e
            rw [if_pos e]
            rw [dStrs_snoc]
            exact ⟨_, _, rfl⟩
          · rw [take_snoc hp2, addT_snoc]
            rw [if_neg fun q => by
              rw [decide_eq_true q.1, decide_eq_false q.2] at e
              cases e]
            exact ⟨_, _, rfl⟩
        · rw [dPrs_len, List.take_length] at hP
          exact hP
        · obtain ⟨a, b, rfl⟩ := hP
          refine sd_aug rfl (ed_c rfl) ⟨m, Nat.lt_succ_self _, pl + 1, addT fs[pl] fs ps, _, _, hR.next hc, by omega, hw, rfl⟩
      · have hp := of_decide_eq_false e
        rw [wl_end (by omega)] at hw
        rw [hw]
        exact ⟨_, _, _, rfl⟩
    · obtain ⟨p, a, b, rfl⟩ := hP
      exact sd_retM rfl rfl)
/-! ### fed, feeds, is_short -/
theorem pairs_short {B : BR} (h : WB B) (on : List Bool) : (B.pairs on).length ≤ 14 := by
  have := pairs_len B on
  have := h.zc
  omega
inductive R_fed : List Ar → Ar → Prop
  | mk (B : BR) (h : WB B) (st : BState) (hl : st.1.length = B.movers.length) : R_fed [.b B, .d (dState st)] (.d (.list (dStrs (B.nodes.filter (B.fed st.1)))))
theorem c_fed (T : TX K mg) : C8.Cal P w K mg base 5 "fed" (FS K R_fed) [] := by
  obtain ⟨fd, F⟩ := T.f_fed
  have c_reached := @c_reached P w K mg base T
  have c_paths := @c_paths P w K mg base T
  have p_plus := @p_plus P w K mg base T
  exact cal_of F T.g_fed (F.bindsN fun _ _ _ _ _ _ us hl => match us, hl with | [_, _], _ => rfl) (fs_ok F scope_fed 2 (fun _ _ r => by cases r; rfl) rfl (fun _ _ r => by cases r; first | rfl | simp_all [Ar.nm]) fun cdv A outer s H E hr => by
    have hu := hu_of hr
    have hu9 : (A.deeper (envOfC "fed" (defScope s_fed) s.heap.objs.size (He.ga K "fed") cdv)).units + 9 < cLine := by have := hr.un; omega
    have hu64 : (A.deeper (envOfC "fed" (defScope s_fed) s.heap.objs.size (He.ga K "fed") cdv)).units + 64 < cLine := by have := hr.un; omega
    have hu65 : (A.deeper (envOfC "fed" (defScope s_fed) s.heap.objs.size (He.ga K "fed") cdv)).units + 65 < cLine := by have := hr.un; omega
    refine ⟨_, (pss_cons (ps_set (i := 2) scope_fed.nd rfl (Or.inr rfl) (C8.pe_c c_reached hr (by decide) rfl (pa_cons (C8.pe_c c_paths hr (by decide) rfl (pa_cons (pv 0) (pa_cons (pv 1) pa_nil))) (pa_cons (pe_pr (K := K) p_plus hr (by decide) (pv 0)) pa_nil))))
        (pss_one (ps_ret (pe_lc (own := [("node", 3)]) (g := gName 3) rfl scope_fed.nd (piTup (K := K) (peFld (K := K) (pv 0))) (blkOk_by (own := [("node", 3)]) (N := nm_fed) (sc := defScope s_fed) (by decide +kernel)) (fun _ _ _ _ _ => (pg_name (i := 3) scope_fed.nd rfl (Or.inl rfl))) (fun _ _ _ _ _ => (pts_one (pt_cmpR (opIn (K := K)) (pv 3) (pv 2) rfl))) (fun _ _ _ _ _ => (pv 3)))))), fun as y r => ?_⟩
    cases r with
    | mk B h st hl =>
    show Sd K _ [some _, some _, none, none] _ _
    have zp := pairs_short h st.1
    refine sd_let (ed_call (ea_cons (ed_call (ea_cons (ed_var rfl) (ea_cons (ed_var rfl) ea_nil)) (by constructor <;> assumption)) (ea_cons (ed_prop (ed_var rfl) (by constructor <;> assumption)) ea_nil)) (.mk _ _ (by omega))) rfl ?_
    refine sd_ret (ed_is (En.ed (en_lcE (l := B.nodes) (enc := .str) (out := .str) (p := B.fed st.1) (w := id) (id_tup (ed_nodes T (ed_var rfl))) (fun a _ => gd_name) (fun i hi => hi) (fun a _ => et_is (et_test (ed_op (ed_var rfl) (ed_var rfl) (rv_isIn (by constructor)))) (dec_reachL _ _ _)) (fun a _ _ => ed_var rfl) ?_)) (by rw [List.map_id]; rfl)) rfl rfl
    have := h.zn; omega)
inductive R_feeds : List Ar → Ar → Prop
  | mk (B : BR) (h : WB B) (st : BState) (hl : st.1.length = B.movers.length) : R_feeds [.b B, .d (dState st)] (.d (.list (dStrs (B.nodes.filter (B.feeds st.1)))))
theorem c_feeds (T : TX K mg) : C8.Cal P w K mg base 5 "feeds" (FS K R_feeds) [] := by
  obtain ⟨fd, F⟩ := T.f_feeds
  have c_paths := @c_paths P w K mg base T
  have c_reached := @c_reached P w K mg base T
  have p_minus := @p_minus P w K mg base T
  exact cal_of F T.g_feeds (F.bindsN fun _ _ _ _ _ _ us hl => match us, hl with | [_, _], _ => rfl) (fs_ok F scope_feeds 5 (fun _ _ r => by cases r; rfl) rfl (fun _ _ r => by cases r; first | rfl | simp_all [Ar.nm]) fun cdv A outer s H E hr => by
    have hu := hu_of hr
    have hu9 : (A.deeper (envOfC "feeds" (defScope s_feeds) s.heap.objs.size (He.ga K "feeds") cdv)).units + 9 < cLine := by have := hr.un; omega
    have hu64 : (A.deeper (envOfC "feeds" (defScope s_feeds) s.heap.objs.size (He.ga K "feeds") cdv)).units + 64 < cLine := by have := hr.un; omega
    have hu65 : (A.deeper (envOfC "feeds" (defScope s_feeds) s.heap.objs.size (He.ga K "feeds") cdv)).units + 65 < cLine := by have := hr.un; omega
    refine ⟨_, (pss_cons (ps_setLc (i := 2) (own := [("source", 4), ("target", 5)]) (tt := tYes) rfl scope_feeds.nd rfl rfl (sw_true rfl rfl rfl (by decide +kernel)) (piList (K := K) (C8.pe_c c_paths hr (by decide) rfl (pa_cons (pv 0) (pa_cons (pv 1) pa_nil)))) (blkOk_by (own := [("source", 4), ("target", 5)]) (N := nm_feeds) (sc := defScope s_feeds) (by decide +kernel)) (fun _ _ _ _ _ => (pgTup (K := K) (n := 2) (by rfl) (pgs_cons (pg_name (i := 4) scope_feeds.nd rfl (Or.inl rfl)) (pgs_cons (pg_name (i := 5) scope_feeds.nd rfl (Or.inl rfl)) pgs_nil)))) (fun _ _ _ _ _ => pts_nil) (fun _ _ _ _ _ => (pe_tup (pa_cons (pv 5) (pa_cons (pv 4) pa_nil)))))
        (pss_cons (ps_set (i := 3) scope_feeds.nd rfl (Or.inr rfl) (C8.pe_c c_reached hr (by decide) rfl (pa_cons (pv 2) (pa_cons (pe_pr (K := K) p_minus hr (by decide) (pv 0)) pa_nil))))
        (pss_one (ps_ret (pe_lc (own := [("node", 6)]) (g := gName 6) rfl scope_feeds.nd (piTup (K := K) (peFld (K := K) (pv 0))) (blkOk_by (own := [("node", 6)]) (N := nm_feeds) (sc := defScope s_feeds) (by decide +kernel)) (fun _ _ _ _ _ => (pg_name (i := 6) scope_feeds.nd rfl (Or.inl rfl))) (fun _ _ _ _ _ => (pts_one (pt_cmpR (opIn (K := K)) (pv 6) (pv 3) rfl))) (fun _ _ _ _ _ => (pv 6))))))), fun as y r => ?_⟩
    cases r with
    | mk B h st hl =>
    show Sd K _ [some _, some _, none, none, none, none, none] _ _
    have zp := pairs_short h st.1
    refine sd_let (En.ed (en_lcY (l := B.pairs st.1) (enc := dPr) (out := dPr) (w := swp) (id_list (ed_call (ea_cons (ed_var rfl) (ea_cons (ed_var rfl) ea_nil)) (by constructor <;> assumption))) (fun a _ => (gd_tup (gds_cons gd_name (gds_cons gd_name gds_nil)) rfl)) (fun i hi => hi) (fun a _ => (ed_tup (ds := [_, _]) (ea_cons (ed_var rfl) (ea_cons (ed_var rfl) ea_nil)) (Nat.le_of_ble_eq_true rfl))) (by omega))) rfl ?_
    refine sd_let (ed_call (as := [.d (.list (dPrs ((B.pairs st.1).map swp))), .d (.str B.minus)]) (ea_cons (ed_var rfl) (ea_cons (ed_prop (ed_var rfl) (by constructor <;> assumption)) ea_nil)) (.mk _ _ (by rw [List.length_map]; omega))) rfl ?_
    refine sd_ret (ed_is (En.ed (en_lcE (l := B.nodes) (enc := .str) (out := .str) (p := B.feeds st.1) (w := id) (id_tup (ed_nodes T (ed_var rfl))) (fun a _ => gd_name) (fun i hi => hi) (fun a _ => et_is (et_test (ed_op (ed_var rfl) (ed_var rfl) (rv_isIn (by constructor)))) (dec_reachL _ _ _)) (fun a _ _ => ed_var rfl) ?_)) (by rw [List.map_id]; rfl)) rfl rfl
    have := h.zn; omega)
theorem mem_fed {B : BR} {f : Str → Bool} {n : Str} (h : n ∈ B.nodes) : decide (n ∈ B.nodes.filter f) = f n := by
  cases q : f n with
  | true => exact decide_eq_true (List.mem_filter.mpr ⟨h, q⟩)
  | false => exact decide_eq_false fun z => by rw [(List.mem_filter.mp z).2] at q; cases q
theorem minus_mem (B : BR) : B.minus ∈ B.nodes := by unfold Brd.nodes; simp
inductive R_is_short : List Ar → Ar → Prop
  | mk (B : BR) (h : WB B) (st : BState) (hl : st.1.length = B.movers.length) : R_is_short [.b B, .d (dState st)] (.d (.bool (B.short st.1)))
theorem c_is_short (T : TX K mg) : C8.Cal P w K mg base 6 "is_short" (FS K R_is_short) [] := by
  obtain ⟨fd, F⟩ := T.f_is_short
  have c_fed := @c_fed P w K mg base T
  have p_minus := @p_minus P w K mg base T
  exact cal_of F T.g_is_short (F.bindsN fun _ _ _ _ _ _ us hl => match us, hl with | [_, _], _ => rfl) (fs_ok F scope_is_short 0 (fun _ _ r => by cases r; rfl) rfl (fun _ _ r => by cases r; first | rfl | simp_all [Ar.nm]) fun cdv A outer s H E hr => by
    have hu := hu_of hr
    have hu9 : (A.deeper (envOfC "is_short" (defScope s_is_short) s.heap.objs.size (He.ga K "is_short") cdv)).units + 9 < cLine := by have := hr.un; omega
    have hu64 : (A.deeper (envOfC "is_short" (defScope s_is_short) s.heap.objs.size (He.ga K "is_short") cdv)).units + 64 < cLine := by have := hr.un; omega
    have hu65 : (A.deeper (envOfC "is_short" (defScope s_is_short) s.heap.objs.size (He.ga K "is_short") cdv)).units + 65 < cLine := by have := hr.un; omega
    refine ⟨_, (pss_one (ps_ret (pe_cmpR (opIn (K := K)) (pe_pr (K := K) p_minus hr (by decide) (pv 0)) (C8.pe_c c_fed hr (by decide) rfl (pa_cons (pv 0) (pa_cons (pv 1) pa_nil))) rfl))), fun as y r => ?_⟩
    cases r with
    | mk B h st hl =>
    show Sd K _ [some _, some _] _ _
    exact sd_ret (ed_is (ed_op (ed_prop (ed_var rfl) (by constructor <;> assumption)) (ed_call (ea_cons (ed_var rfl) (ea_cons (ed_var rfl) ea_nil)) (by constructor <;> assumption)) (rv_isIn (by constructor))) (by rw [mem_fed (minus_mem B)]; rfl)) rfl rfl)
/-! ### what is live -/
def Loads (B : BR) (ls : List (Str × Str × Str)) : Prop := ls.length ≤ 2 ∧ ∀ l ∈ ls, l.2.1 ∈ B.nodes ∧ l.2.2 ∈ B.nodes
inductive R_live_names : List Ar → Ar → Prop
  | mk (B : BR) (h : WB B) (st : BState) (hl : st.1.length = B.movers.length) (ls : List (Str × Str × Str)) (hs : Loads B ls) : R_live_names [.b B, .d (dState st), .d (.tuple (dLoads ls))] (.d (.list (dStrs (B.live st ls))))
theorem c_live_names (T : TX K mg) : C8.Cal P w K mg base 6 "live_names" (FS K R_live_names) [] := by
  obtain ⟨fd, F⟩ := T.f_live_names
  have c_fed := @c_fed P w K mg base T
  have c_feeds := @c_feeds P w K mg base T
  exact cal_of F T.g_live_names (F.bindsN fun _ _ _ _ _ _ us hl => match us, hl with | [_, _, _], _ => rfl) (fs_ok F scope_live_names 6 (fun _ _ r => by cases r; rfl) rfl (fun _ _ r => by cases r; first | rfl | simp_all [Ar.nm]) fun cdv A outer s H E hr => by
    have hu := hu_of hr
    have hu9 : (A.deeper (envOfC "live_names" (defScope s_live_names) s.heap.objs.size (He.ga K "live_names") cdv)).units + 9 < cLine := by have := hr.un; omega
    have hu64 : (A.deeper (envOfC "live_names" (defScope s_live_names) s.heap.objs.size (He.ga K "live_names") cdv)).units + 64 < cLine := by have := hr.un; omega
    have hu65 : (A.deeper (envOfC "live_names" (defScope s_live_names) s.heap.objs.size (He.ga K "live_names") cdv)).units + 65 < cLine := by have := hr.un; omega
    refine ⟨_, (pss_cons (ps_if (pt_val (pe_ix (ixT (K := K)) (pv 1) pe_int (fun _ _ => rfl)))
          (pss_one (ps_ret (pe_lst pa_nil)))
          pss_nil)
        (pss_cons (ps_set (i := 3) scope_live_names.nd rfl (Or.inl rfl) (C8.pe_c c_fed hr (by decide) rfl (pa_cons (pv 0) (pa_cons (pv 1) pa_nil))))
        (pss_cons (ps_set (i := 4) scope_live_names.nd rfl (Or.inl rfl) (C8.pe_c c_feeds hr (by decide) rfl (pa_cons (pv 0) (pa_cons (pv 1) pa_nil))))
        (pss_cons (ps_set (i := 5) scope_live_names.nd rfl (Or.inl rfl) (pe_lst pa_nil))
        (pss_cons (ps_for PassesOwn.never rfl (piTup (K := K) (pv 2)) (pgTup (K := K) (n := 3) (by rfl) (pgs_cons (pg_name (i := 6) scope_live_names.nd rfl (Or.inl rfl)) (pgs_cons (pg_name (i := 7) scope_live_names.nd rfl (Or.inl rfl)) (pgs_cons (pg_name (i := 8) scope_live_names.nd rfl (Or.inl rfl)) pgs_nil))))
          (pss_one (ps_if (PW.pt (pw_or (PW.pt (pw_and (pt_cmpR (opIn (K := K)) (pv 7) (pv 3) rfl) (pw_and1 (pt_cmpR (opIn (K := K)) (pv 8) (pv 4) rfl)))) (pw_or1 (PW.pt (pw_and (pt_cmpR (opIn (K := K)) (pv 8) (pv 3) rfl) (pw_and1 (pt_cmpR (opIn (K := K)) (pv 7) (pv 4) rfl)))))))
          (pss_one (ps_expr (peBm (K := K) PySem.F.plainAttrs_list PySem.F.slot_list_append PySem.F.type_list_append mt_append (pv 5) (pa_cons (pv 6) pa_nil))))
          pss_nil)))
        (pss_one (ps_ret (pv 5)))))))), fun as y r => ?_⟩
    cases r with
    | mk B h st hl ls hs =>
    show Sd K _ [some _, some _, some _, none, none, none, none, none, none] _ _
    have hs' := hs
    obtain ⟨hs1, hs2⟩ := hs
    refine sd_ifr (b := st.2) (et_B (ed_op (ed_var rfl) (ed_c rfl) (rv_ixT (at1 rfl)))) (fun e => sd_ret (En.ed (en_lst (ds := []) ea_nil (Nat.le_of_ble_eq_true rfl))) rfl ?_) (fun e => ?_)
    · unfold Brd.live; rw [if_pos e]; rfl
    refine sd_let (ed_call (ea_cons (ed_var rfl) (ea_cons (ed_var rfl) ea_nil)) (by constructor <;> assumption)) rfl ?_
    refine sd_let (ed_call (ea_cons (ed_var rfl) (ea_cons (ed_var rfl) ea_nil)) (by constructor <;> assumption)) rfl ?_
    refine sd_letN (en_lst (ds := []) ea_nil (Nat.le_of_ble_eq_true rfl)) ?_
    have el : B.live st ls = (ls.filter (B.liveL st.1)).map (·.1) := by unfold Brd.live; rw [if_neg (by rw [e]; decide)]
    refine sd_seq (M := fun ys => ∃ p q a b c, ys = [some (.b B), some (.d (dState st)), some (.d (.tuple (dLoads ls))), p, q, some (.m (dStrs (B.live st ls))), a, b, c])
      (sd_for (fun i ys => ∃ a b c, ys = [some (.b B), some (.d (dState st)), some (.d (.tuple (dLoads ls))), some (.d (.list (dStrs (B.nodes.filter (B.fed st.1))))), some (.d (.list (dStrs (B.nodes.filter (B.feeds st.1))))), some (.m (dStrs (((ls.take i).filter (B.liveL st.1)).map (·.1)))), a, b, c])
        (id_tup (ed_var rfl)) ⟨_, _, _, rfl⟩ (fun i d ys hd hP => ?_) (fun ys hP => ?_)) (fun ys hP => ?_)
    · obtain ⟨a, b, c, rfl⟩ := hP
      obtain ⟨l, hl2, rfl⟩ := map_get hd
      obtain ⟨m1, m2⟩ := hs2 l (List.mem_of_getElem? hl2)
      have e5 : dStrs (((ls.take (i + 1)).filter (B.liveL st.1)).map (·.1)) = dStrs (((ls.take i).filter (B.liveL st.1)).map (·.1)) ++ (if B.liveL st.1 l = true then [.str l.1] else []) := by
        rw [filter_take_snoc _ hl2]
        unfold dStrs
        rw [List.map_append, List.map_append]
        congr 1
        split <;> rfl
      have ln : (dStrs (((ls.take i).filter (B.liveL st.1)).map (·.1))).length ≤ 2 := by
        rw [dStrs_len, List.length_map]
        have := List.length_filter_le (B.liveL st.1) (ls.take i)
        rw [List.length_take] at this
        omega
      refine ⟨_, _, (gd_tup (gds_cons gd_name (gds_cons gd_name (gds_cons gd_name gds_nil))) rfl), sd_if (b := B.liveL st.1 l) (et_is (et_or (et_and (et_test (ed_op (ed_var rfl) (ed_var rfl) (rv_isIn (by constructor)))) fun _ => (et_test (ed_op (ed_var rfl) (ed_var rfl) (rv_isIn (by constructor))))) fun _ => (et_and (et_test (ed_op (ed_var rfl) (ed_var rfl) (rv_isIn (by constructor)))) fun _ => (et_test (ed_op (ed_var rfl) (ed_var rfl) (rv_isIn (by constructor)))))) ?_) (fun e => sd_app rfl (ed_var rfl) (by omega) ?_) (fun e => sd_next ?_)⟩
      · rw [mem_fed m1, mem_fed m2, mem_fed m1, mem_fed m2]; rfl
      · rw [e5, e]; exact ⟨_, _, _, rfl⟩
      · rw [e5, e, if_neg (by decide), List.append_nil]; exact ⟨_, _, _, rfl⟩
    · obtain ⟨a, b, c, rfl⟩ := hP
      have e : (dLoads ls).length = ls.length := List.length_map ..
      rw [e, List.take_length, el]
      exact ⟨_, _, _, _, _, rfl⟩
    · obtain ⟨p, q, a, b, c, rfl⟩ := hP
      exact sd_retM rfl rfl)
theorem WB.rl {B : BR} (h : WB B) : Loads B B.rel := ⟨h.zr, h.rn⟩
theorem WB.ll {B : BR} (h : WB B) : Loads B B.lamps := ⟨h.zl, h.ln⟩
inductive R_live_relays : List Ar → Ar → Prop
  | mk (B : BR) (h : WB B) (st : BState) (hl : st.1.length = B.movers.length) : R_live_relays [.b B, .d (dState st)] (.d (.list (dStrs (B.live st B.rel))))
theorem c_live_relays (T : TX K mg) : C8.Cal P w K mg base 7 "live_relays" (FS K R_live_relays) [] := by
  obtain ⟨fd, F⟩ := T.f_live_relays
  have c_live_names := @c_live_names P w K mg base T
  exact cal_of F T.g_live_relays (F.bindsN fun _ _ _ _ _ _ us hl => match us, hl with | [_, _], _ => rfl) (fs_ok F scope_live_relays 0 (fun _ _ r => by cases r; rfl) rfl (fun _ _ r => by cases r; first | rfl | simp_all [Ar.nm]) fun cdv A outer s H E hr => by
    have hu := hu_of hr
    have hu9 : (A.deeper (envOfC "live_relays" (defScope s_live_relays) s.heap.objs.size (He.ga K "live_relays") cdv)).units + 9 < cLine := by have := hr.un; omega
    have hu64 : (A.deeper (envOfC "live_relays" (defScope s_live_relays) s.heap.objs.size (He.ga K "live_relays") cdv)).units + 64 < cLine := by have := hr.un; omega
    have hu65 : (A.deeper (envOfC "live_relays" (defScope s_live_relays) s.heap.objs.size (He.ga K "live_relays") cdv)).units + 65 < cLine := by have := hr.un; omega
    refine ⟨_, (pss_one (ps_ret (C8.pe_c c_live_names hr (by decide) rfl (pa_cons (pv 0) (pa_cons (pv 1) (pa_cons (peFld (K := K) (pv 0)) pa_nil)))))), fun as y r => ?_⟩
    cases r with
    | mk B h st hl =>
    show Sd K _ [some _, some _] _ _
    exact sd_ret (ed_call (ea_cons (ed_var rfl) (ea_cons (ed_var rfl) (ea_cons (ed_relays T (ed_var rfl)) ea_nil))) (.mk _ h _ hl _ h.rl)) rfl rfl)
inductive R_live_lamps : List Ar → Ar → Prop
  | mk (B : BR) (h : WB B) (st : BState) (hl : st.1.length = B.movers.length) : R_live_lamps [.b B, .d (dState st)] (.d (.list (dStrs (B.live st B.lamps))))
theorem c_live_lamps (T : TX K mg) : C8.Cal P w K mg base 7 "live_lamps" (FS K R_live_lamps) [] := by
  obtain ⟨fd, F⟩ := T.f_live_lamps
  have c_live_names := @c_live_names P w K mg base T
  exact cal_of F T.g_live_lamps (F.bindsN fun _ _ _ _ _ _ us hl => match us, hl with | [_, _], _ => rfl) (fs_ok F scope_live_lamps 0 (fun _ _ r => by cases r; rfl) rfl (fun _ _ r => by cases r; first | rfl | simp_all [Ar.nm]) fun cdv A outer s H E hr => by
    have hu := hu_of hr
    have hu9 : (A.deeper (envOfC "live_lamps" (defScope s_live_lamps) s.heap.objs.size (He.ga K "live_lamps") cdv)).units + 9 < cLine := by have := hr.un; omega
    have hu64 : (A.deeper (envOfC "live_lamps" (defScope s_live_lamps) s.heap.objs.size (He.ga K "live_lamps") cdv)).units + 64 < cLine := by have := hr.un; omega
    have hu65 : (A.deeper (envOfC "live_lamps" (defScope s_live_lamps) s.heap.objs.size (He.ga K "live_lamps") cdv)).units + 65 < cLine := by have := hr.un; omega
    refine ⟨_, (pss_one (ps_ret (C8.pe_c c_live_names hr (by decide) rfl (pa_cons (pv 0) (pa_cons (pv 1) (pa_cons (peFld (K := K) (pv 0)) pa_nil)))))), fun as y r => ?_⟩
    cases r with
    | mk B h st hl =>
    show Sd K _ [some _, some _] _ _
    exact sd_ret (ed_call (ea_cons (ed_var rfl) (ea_cons (ed_var rfl) (ea_cons (ed_lamps T (ed_var rfl)) ea_nil))) (.mk _ h _ hl _ h.ll)) rfl rfl)
end
end K58
end
/-! W4 -/
section
set_option maxRecDepth 100000
set_option maxHeartbeats 2000000
namespace K58
open PySem PySem.Spec PyProof.Rows L2
theorem cutD_take {ds : List PyData} {k : Nat} (h : k ≤ ds.length) : cutD ds none (some (k : Int)) = ds.take k := by
  unfold cutD
  rw [HT.sIx_none, HT.sIx_nat, List.drop_zero, Nat.sub_zero, Nat.min_eq_left h]
theorem cutD_drop {ds : List PyData} {k : Nat} (h : k ≤ ds.length) : cutD ds (some (k : Int)) none = ds.drop k := by
  unfold cutD
  rw [HT.sIx_none, HT.sIx_nat, Nat.min_eq_left h, List.take_of_length_le (by rw [List.length_drop]; omega)]
theorem dBits_len (bs : List Bool) : (dBits bs).length = bs.length := List.length_map ..
theorem dLoads_len (ls : List (Str × Str × Str)) : (dLoads ls).length = ls.length := List.length_map ..
theorem dMoves_len (ls : List (Bool × Str)) : (dMoves ls).length = ls.length := List.length_map ..
theorem live_len (B : BR) (st : BState) (ls : List (Str × Str × Str)) : (B.live st ls).length ≤ ls.length := by
  unfold Brd.live
  split
  · exact Nat.zero_le _
  · rw [List.length_map]; exact List.length_filter_le _ _
theorem due_len (B : BR) (st : BState) : (B.due st).length ≤ B.rel.length := by
  unfold Brd.due
  rw [List.length_map]; exact List.length_filter_le _ _
theorem rel_mem {B : BR} {r : Str × Str × Str} (h : r ∈ B.rel) : r.1 ∈ B.movers := List.mem_append_right _ (List.mem_map.mpr ⟨r, h, rfl⟩)
theorem due_sub {B : BR} {st : BState} {n : Str} (h : n ∈ B.due st) : n ∈ B.movers := by
  unfold Brd.due at h
  obtain ⟨r, h1, h2⟩ := List.mem_map.mp h
  rw [← h2]
  exact rel_mem (List.mem_filter.mp h1).1
theorem moves_sub {B : BR} {st : BState} {m : Bool × Str} (h : m ∈ B.moves st) : m.2 ∈ B.movers := by
  unfold Brd.moves at h
  rcases List.mem_append.mp h with h | h
  · split at h
    · obtain ⟨n, h1, rfl⟩ := List.mem_map.mp h
      exact List.mem_append_left _ h1
    · exact nomatch h
  · obtain ⟨n, h1, rfl⟩ := List.mem_map.mp h
    exact due_sub h1
theorem WB.zm {B : BR} (h : WB B) : B.movers.length ≤ 4 := by
  have := h.zs
  have := h.zr
  unfold Brd.movers; rw [List.length_append, List.length_map]; omega
theorem moves_len {B : BR} (h : WB B) (st : BState) : (B.moves st).length ≤ 4 := by
  have := h.zs
  have := h.zr
  have := due_len B st
  unfold Brd.moves
  rw [List.length_append, List.length_map]
  split
  · rw [List.length_map]; omega
  · simp only [List.length_nil]; omega
theorem FunD.kb {K : PySem.W.Frag} {x qual : Str} {params : Arguments} {body : List Stmt} {scope : Scope} {kws : List (Str × V)} {f : Addr} {fd : FuncData} {ps : List Str} (F : FunD K x qual params body scope [] kws f fd) (n : Nat) (ks : List Str)
    {g : List Value → List Value → List Value} {gV : List V → List V → List V}
    (h : ∀ (kV doc pm : Value) (an : Option Addr) (cdv ct : Value) (us ws : List Value), us.length = n → ws.length = ks.length → bindArgs (PySem.W.fnOf x qual params body scope .none kV doc pm an cdv ct) ⟨us, ks.zip ws⟩ = pure (ps.zip (g us ws)))
    (hr : ∀ {vs : List V} {us : List Value} {zs : List V} {ws : List Value}, Vals vs us → Vals zs ws → Vals (gV vs zs) (g us ws)) : KBn K fd ps n ks g gV := by
  obtain ⟨oc, od, dV, kV, doc, pm, an, cdv, ct, osl, rfl, lk, hcd, hD, hK⟩ := F.ex
  rcases hD with ⟨_, rfl⟩ | ⟨e, _⟩
  · exact ⟨fun s us ws _ hu hw => .of_eq (h kV doc pm an cdv ct us ws hu hw), hr⟩
  · exact absurd rfl e
theorem vals_app {vs zs : List V} {us ws : List Value} (h1 : Vals vs us) (h2 : Vals zs ws) : Vals (vs ++ zs) (us ++ ws) := h1.append h2
section
variable {P : Program} {w : World} {K : PySem.W.Frag} {mg : Str → Option Value} {base : Heap}
/-! ### first_state -/
inductive R_first_state : List Ar → Ar → Prop
  | mk (B : BR) (h : WB B) : R_first_state [.b B] (.d (dState B.first))
theorem c_first_state (T : TX K mg) : C8.Cal P w K mg base 7 "first_state" (FS K R_first_state) [] := by
  obtain ⟨fd, F⟩ := T.f_first_state
  have c_is_short := @c_is_short P w K mg base T
  have p_movers := @p_movers P w K mg base T
  exact cal_of F T.g_first_state (F.bindsN fun _ _ _ _ _ _ us hl => match us, hl with | [_], _ => rfl) (fs_ok F scope_first_state 1 (fun _ _ r => by cases r; rfl) rfl (fun _ _ r => by cases r; first | rfl | simp_all [Ar.nm]) fun cdv A outer s H E hr => by
    have hu := hu_of hr
    have hu9 : (A.deeper (envOfC "first_state" (defScope s_first_state) s.heap.objs.size (He.ga K "first_state") cdv)).units + 9 < cLine := by have := hr.un; omega
    have hu64 : (A.deeper (envOfC "first_state" (defScope s_first_state) s.heap.objs.size (He.ga K "first_state") cdv)).units + 64 < cLine := by have := hr.un; omega
    have hu65 : (A.deeper (envOfC "first_state" (defScope s_first_state) s.heap.objs.size (He.ga K "first_state") cdv)).units + 65 < cLine := by have := hr.un; omega
    refine ⟨_, (pss_cons (ps_set (i := 1) scope_first_state.nd rfl (Or.inl rfl) (pe_op (opRepT (K := K)) (pe_tup (pa_cons pe_bl pa_nil)) (pe_callB (cLen (K := K)) (by rfl) T.z_len PySem.boot_len (pa_cons (pe_pr (K := K) p_movers hr (by decide) (pv 0)) pa_nil))))
        (pss_one (ps_ret (pe_tup (pa_cons (pv 1) (pa_cons (C8.pe_c c_is_short hr (by decide) rfl (pa_cons (pv 0) (pa_cons (pe_tup (pa_cons (pv 1) (pa_cons pe_bl pa_nil))) pa_nil))) pa_nil)))))), fun as y r => ?_⟩
    cases r with
    | mk B h =>
    show Sd K _ [some _, none] _ _
    have zm := h.zm
    have e1 : (List.replicate B.movers.length [PyData.bool false]).flatten = dBits (List.replicate B.movers.length false) := by
      unfold dBits
      rw [List.map_replicate]
      generalize B.movers.length = n
      induction n with
      | zero => rfl
      | succ n ih => rw [List.replicate_succ, List.flatten_cons, List.replicate_succ, ih]; rfl
    refine sd_let (x := .d (.tuple (dBits (List.replicate B.movers.length false)))) (ed_is (ed_op (ed_tup (ds := [_]) (ea_cons (ed_c rfl) ea_nil) (Nat.le_of_ble_eq_true rfl)) (ed_cb (ea_cons (ed_prop (ed_var rfl) (by constructor <;> assumption)) ea_nil) (rc_len (by constructor))) (rv_rep (by rw [dStrs_len]; omega) ⟨by simp, by simp⟩)) (by rw [dStrs_len]; exact congrArg (fun x => Ar.d (.tuple x)) e1)) rfl ?_
    refine sd_ret (ed_tup (ds := [_, .bool (B.short (List.replicate B.movers.length false))]) (ea_cons (ed_var rfl) (ea_cons (ed_call (as := [.b B, .d (dState (List.replicate B.movers.length false, false))]) (ea_cons (ed_var rfl) (ea_cons (ed_tup (ds := [_, _]) (ea_cons (ed_var rfl) (ea_cons (ed_c rfl) ea_nil)) (Nat.le_of_ble_eq_true rfl)) ea_nil)) (.mk B h _ (List.length_replicate ..))) ea_nil)) (Nat.le_of_ble_eq_true rfl)) rfl rfl)
/-! ### due, is_rest -/
inductive R_due : List Ar → Ar → Prop
  | mk (B : BR) (h : WB B) (st : BState) (hl : st.1.length = B.movers.length) : R_due [.b B, .d (dState st)] (.d (.list (dStrs (B.due st))))
theorem c_due (T : TX K mg) : C8.Cal P w K mg base 8 "due" (FS K R_due) [] := by
  obtain ⟨fd, F⟩ := T.f_due
  have c_live_relays := @c_live_relays P w K mg base T
  have m_mover_number := @m_mover_number P w K mg base T
  exact cal_of F T.g_due (F.bindsN fun _ _ _ _ _ _ us hl => match us, hl with | [_, _], _ => rfl) (fs_ok F scope_due 4 (fun _ _ r => by cases r; rfl) rfl (fun _ _ r => by cases r; first | rfl | simp_all [Ar.nm]) fun cdv A outer s H E hr => by
    have hu := hu_of hr
    have hu9 : (A.deeper (envOfC "due" (defScope s_due) s.heap.objs.size (He.ga K "due") cdv)).units + 9 < cLine := by have := hr.un; omega
    have hu64 : (A.deeper (envOfC "due" (defScope s_due) s.heap.objs.size (He.ga K "due") cdv)).units + 64 < cLine := by have := hr.un; omega
    have hu65 : (A.deeper (envOfC "due" (defScope s_due) s.heap.objs.size (He.ga K "due") cdv)).units + 65 < cLine := by have := hr.un; omega
    refine ⟨_, (pss_cons (ps_set (i := 2) scope_due.nd rfl (Or.inl rfl) (C8.pe_c c_live_relays hr (by decide) rfl (pa_cons (pv 0) (pa_cons (pv 1) pa_nil))))
        (pss_cons (ps_set (i := 3) scope_due.nd rfl (Or.inl rfl) (pe_lst pa_nil))
        (pss_cons (ps_for PassesOwn.never rfl (piTup (K := K) (peFld (K := K) (pv 0))) (pg_name (i := 4) scope_due.nd rfl (Or.inl rfl))
          (pss_cons (ps_set (i := 5) scope_due.nd rfl (Or.inl rfl) (pe_ix (ixT (K := K)) (pe_ix (ixT (K := K)) (pv 1) pe_int (fun _ _ => rfl)) (C8.pe_mt m_mover_number hr (by decide) (pv 0) (pa_cons (pe_ix (ixT (K := K)) (pv 4) pe_int (fun _ _ => rfl)) pa_nil)) (fun _ _ => rfl)))
        (pss_one (ps_if (pt_cmpR op_ne (pv 5) (pe_cmpR (opIn (K := K)) (pe_ix (ixT (K := K)) (pv 4) pe_int (fun _ _ => rfl)) (pv 2) rfl) (nomark _))
          (pss_one (ps_expr (peBm (K := K) PySem.F.plainAttrs_list PySem.F.slot_list_append PySem.F.type_list_append mt_append (pv 3) (pa_cons (pe_ix (ixT (K := K)) (pv 4) pe_int (fun _ _ => rfl)) pa_nil))))
          pss_nil))))
        (pss_one (ps_ret (pv 3)))))), fun as y r => ?_⟩
    cases r with
    | mk B h st hl =>
    show Sd K _ [some _, some _, none, none, none, none] _ _
    have zr := h.zr
    refine sd_let (ed_call (ea_cons (ed_var rfl) (ea_cons (ed_var rfl) ea_nil)) (by constructor <;> assumption)) rfl ?_
    refine sd_letN (en_lst (ds := []) ea_nil (Nat.le_of_ble_eq_true rfl)) ?_
    let f : Str × Str × Str → Bool := fun r => st.1.getD (B.idx r.1) false != decide (r.1 ∈ B.live st B.rel)
    refine sd_seq (M := fun ys => ∃ p a b, ys = [some (.b B), some (.d (dState st)), p, some (.m (dStrs (B.due st))), a, b])
      (sd_for (fun i ys => ∃ a b, ys = [some (.b B), some (.d (dState st)), some (.d (.list (dStrs (B.live st B.rel)))), some (.m (dStrs (((B.rel.take i).filter f).map (·.1)))), a, b]) (id_tup (ed_relays T (ed_var rfl))) ⟨_, _, rfl⟩ (fun i d ys hd hP => ?_) (fun ys hP => ?_)) (fun ys hP => ?_)
    · obtain ⟨a, b, rfl⟩ := hP
      obtain ⟨r, hr2, rfl⟩ := map_get hd
      have hm := rel_mem (List.mem_of_getElem? hr2)
      have e5 : dStrs (((B.rel.take (i + 1)).filter f).map (·.1)) = dStrs (((B.rel.take i).filter f).map (·.1)) ++ (if f r = true then [.str r.1] else []) := by
        rw [filter_take_snoc _ hr2]
        unfold dStrs
        rw [List.map_append, List.map_append]
        congr 1
        split <;> rfl
      have ln : (dStrs (((B.rel.take i).filter f).map (·.1))).length ≤ 2 := by
        rw [dStrs_len, List.length_map]
        have := List.length_filter_le f (B.rel.take i)
        rw [List.length_take] at this
        omega
      have hg := bits_get (bs := st.1) (i := B.idx r.1) (by rw [hl]; exact idx_lt hm)
      refine ⟨_, _, gd_name, sd_let (ed_op (ed_op (ed_var rfl) (ed_c rfl) (rv_ixT (at0 rfl))) (ed_meth (ed_var rfl) (fun _ _ _ _ _ => rfl) (ea_cons (ed_op (ed_var rfl) (ed_c rfl) (rv_ixT (at0 rfl))) ea_nil) (.mk B h _ hm)) (rv_ixT (at_nat hg))) rfl ?_⟩
      refine sd_if (b := f r) (et_test (ed_op (ed_var rfl) (ed_op (ed_op (ed_var rfl) (ed_c rfl) (rv_ixT (at0 rfl))) (ed_var rfl) (rv_isIn (by constructor))) rv_neB)) (fun e => sd_app rfl (ed_op (ed_var rfl) (ed_c rfl) (rv_ixT (at0 rfl))) (by omega) ?_) (fun e => sd_next ?_)
      · rw [e5, e]; exact ⟨_, _, rfl⟩
      · rw [e5, e, if_neg (by decide), List.append_nil]; exact ⟨_, _, rfl⟩
    · obtain ⟨a, b, rfl⟩ := hP
      rw [dLoads_len, List.take_length]
      exact ⟨_, _, _, rfl⟩
    · obtain ⟨p, a, b, rfl⟩ := hP
      exact sd_retM rfl rfl)
inductive R_is_rest : List Ar → Ar → Prop
  | mk (B : BR) (h : WB B) (st : BState) (hl : st.1.length = B.movers.length) : R_is_rest [.b B, .d (dState st)] (.d (.bool (B.rest st)))
theorem c_is_rest (T : TX K mg) : C8.Cal P w K mg base 9 "is_rest" (FS K R_is_rest) [] := by
  obtain ⟨fd, F⟩ := T.f_is_rest
  have c_due := @c_due P w K mg base T
  exact cal_of F T.g_is_rest (F.bindsN fun _ _ _ _ _ _ us hl => match us, hl with | [_, _], _ => rfl) (fs_ok F scope_is_rest 0 (fun _ _ r => by cases r; rfl) rfl (fun _ _ r => by cases r; first | rfl | simp_all [Ar.nm]) fun cdv A outer s H E hr => by
    have hu := hu_of hr
    have hu9 : (A.deeper (envOfC "is_rest" (defScope s_is_rest) s.heap.objs.size (He.ga K "is_rest") cdv)).units + 9 < cLine := by have := hr.un; omega
    have hu64 : (A.deeper (envOfC "is_rest" (defScope s_is_rest) s.heap.objs.size (He.ga K "is_rest") cdv)).units + 64 < cLine := by have := hr.un; omega
    have hu65 : (A.deeper (envOfC "is_rest" (defScope s_is_rest) s.heap.objs.size (He.ga K "is_rest") cdv)).units + 65 < cLine := by have := hr.un; omega
    refine ⟨_, (pss_one (ps_ret (peNotT (K := K) (C8.pe_c c_due hr (by decide) rfl (pa_cons (pv 0) (pa_cons (pv 1) pa_nil)))))), fun as y r => ?_⟩
    cases r with
    | mk B h st hl =>
    show Sd K _ [some _, some _] _ _
    refine sd_ret (ed_is (ed_notT (ed_call (ea_cons (ed_var rfl) (ea_cons (ed_var rfl) ea_nil)) (by constructor <;> assumption))) (y := .d (.bool (B.rest st))) ?_) rfl rfl
    unfold Brd.rest dStrs
    cases B.due st <;> rfl)
/-! ### step -/
theorem flip_cut {bs : List Bool} {k : Nat} (h : k < bs.length) : ((dBits bs).take k ++ [PyData.bool (!bs.getD k false)]) ++ (dBits bs).drop (k + 1) = dBits (flipAt bs k) := by
  unfold flipAt
  rw [List.set_eq_take_append_cons_drop, if_pos h]
  unfold dBits
  rw [List.map_append, List.map_cons, List.map_take, List.map_drop, List.append_assoc]
  rfl
inductive R_step : List Ar → Ar → Prop
  | mk (B : BR) (h : WB B) (st : BState) (hl : st.1.length = B.movers.length) (m : Bool × Str) (hm : m.2 ∈ B.movers) : R_step [.b B, .d (dState st), .d (dMove m)] (.d (dState (B.step st m.2)))
theorem c_step (T : TX K mg) : C8.Cal P w K mg base 7 "step" (FS K R_step) [] := by
  obtain ⟨fd, F⟩ := T.f_step
  have c_is_short := @c_is_short P w K mg base T
  have m_mover_number := @m_mover_number P w K mg base T
  exact cal_of F T.g_step (F.bindsN fun _ _ _ _ _ _ us hl => match us, hl with | [_, _, _], _ => rfl) (fs_ok F scope_step 2 (fun _ _ r => by cases r; rfl) rfl (fun _ _ r => by cases r; first | rfl | simp_all [Ar.nm]) fun cdv A outer s H E hr => by
    have hu := hu_of hr
    have hu9 : (A.deeper (envOfC "step" (defScope s_step) s.heap.objs.size (He.ga K "step") cdv)).units + 9 < cLine := by have := hr.un; omega
    have hu64 : (A.deeper (envOfC "step" (defScope s_step) s.heap.objs.size (He.ga K "step") cdv)).units + 64 < cLine := by have := hr.un; omega
    have hu65 : (A.deeper (envOfC "step" (defScope s_step) s.heap.objs.size (He.ga K "step") cdv)).units + 65 < cLine := by have := hr.un; omega
    refine ⟨_, (pss_cons (ps_set (i := 3) scope_step.nd rfl (Or.inl rfl) (C8.pe_mt m_mover_number hr (by decide) (pv 0) (pa_cons (pe_ix (ixT (K := K)) (pv 2) pe_int (fun _ _ => rfl)) pa_nil)))
        (pss_cons (ps_set (i := 4) scope_step.nd rfl (Or.inl rfl) (pe_op (opCatT (K := K)) (pe_op (opCatT (K := K)) (pe_slice (slT (K := K)) (pe_ix (ixT (K := K)) (pv 1) pe_int (fun _ _ => rfl)) po_none (po_some (pv 3))) (pe_tup (pa_cons (pe_not (pe_ix (ixT (K := K)) (pe_ix (ixT (K := K)) (pv 1) pe_int (fun _ _ => rfl)) (pv 3) (fun _ _ => rfl))) pa_nil))) (pe_slice (slT (K := K)) (pe_ix (ixT (K := K)) (pv 1) pe_int (fun _ _ => rfl)) (po_some (pe_op op_add (pv 3) pe_int)) po_none)))
        (pss_one (ps_ret (pe_tup (pa_cons (pv 4) (pa_cons (pe_or (pe_ix (ixT (K := K)) (pv 1) pe_int (fun _ _ => rfl)) (pe_one (C8.pe_c c_is_short hr (by decide) rfl (pa_cons (pv 0) (pa_cons (pe_tup (pa_cons (pv 4) (pa_cons (pe_ix (ixT (K := K)) (pv 1) pe_int (fun _ _ => rfl)) pa_nil))) pa_nil))))) pa_nil))))))), fun as y r => ?_⟩
    cases r with
    | mk B h st hl m hm =>
    show Sd K _ [some _, some _, some _, none, none] _ _
    have hi : B.idx m.2 < st.1.length := by rw [hl]; exact idx_lt hm
    have zm := h.zm
    have hg := bits_get (bs := st.1) hi
    have hb := dBits_len st.1
    refine sd_let (ed_meth (ed_var rfl) (fun _ _ _ _ _ => rfl) (ea_cons (ed_op (ed_var rfl) (ed_c rfl) (rv_ixT (at1 rfl))) ea_nil) (by constructor <;> assumption)) rfl ?_
    refine sd_let (x := .d (.tuple (dBits (flipAt st.1 (B.idx m.2))))) (ed_is (ed_op (ed_op (ed_d (ed_slT (ed_op (ed_var rfl) (ed_c rfl) (rv_ixT (at0 rfl))) eo_none (eo_some (ed_var rfl))) (congrArg PyData.tuple (cutD_take (by omega)))) (ed_tup (ds := [_]) (ea_cons (ed_notV (ed_op (ed_op (ed_var rfl) (ed_c rfl) (rv_ixT (at0 rfl))) (ed_var rfl) (rv_ixT (at_nat hg)))) ea_nil) (Nat.le_of_ble_eq_true rfl)) (rv_catT ?_))
      (ed_d (ed_slT (ed_op (ed_var rfl) (ed_c rfl) (rv_ixT (at0 rfl))) (eo_some (i := ((B.idx m.2 + 1 : Nat) : Int)) (ed_d (ed_op (ed_var rfl) (ed_c rfl) (rv_i0 rfl)) (by rfl))) eo_none) (congrArg PyData.tuple (cutD_drop (by omega)))) (rv_catT ?_)) (congrArg (fun x => Ar.d (.tuple x)) (flip_cut hi))) rfl ?_
    · rw [List.length_take]; show _ + 1 ≤ _; omega
    · rw [List.length_append, List.length_take, List.length_drop]; show _ + 1 + _ ≤ _; omega
    have hs : B.step st m.2 = (flipAt st.1 (B.idx m.2), st.2 || B.short (flipAt st.1 (B.idx m.2))) := rfl
    rw [hs]
    refine sd_ret (ed_tup (ds := [_, _]) (ea_cons (ed_var rfl) (ea_cons (ed_orV (ed_op (ed_var rfl) (ed_c rfl) (rv_ixT (at1 rfl))) fun _ => ed_call (as := [.b B, .d (dState (flipAt st.1 (B.idx m.2), st.2))]) (ea_cons (ed_var rfl) (ea_cons (ed_tup (ds := [_, _]) (ea_cons (ed_var rfl) (ea_cons (ed_op (ed_var rfl) (ed_c rfl) (rv_ixT (at1 rfl))) ea_nil)) (Nat.le_of_ble_eq_true rfl)) ea_nil)) (.mk B h _ ((flipAt_len _ _).trans hl))) ea_nil)) (Nat.le_of_ble_eq_true rfl)) rfl rfl)
/-! ### moves -/
theorem dMoves_app (a b : List (Bool × Str)) : dMoves a ++ dMoves b = dMoves (a ++ b) := by unfold dMoves; rw [List.map_append]
inductive R_moves : List Ar → Ar → Prop
  | mk (B : BR) (h : WB B) (st : BState) (hl : st.1.length = B.movers.length) : R_moves [.b B, .d (dState st), .d (.int 0)] (.d (.list (dMoves (B.moves st))))
theorem c_moves (T : TX K mg) : C8.Cal P w K mg base 9 "moves" (FS K R_moves) [.int 0] := by
  obtain ⟨fd, F⟩ := T.f_moves
  have c_due := @c_due P w K mg base T
  obtain ⟨ds, hv, hb⟩ := F.binds0 (ps := ["board", "state", "hurry"]) 2 (by simp) rfl (fun D doc pm an cdv ct us ks hu hk => match us, ks, hu, hk with | [_, _], [_], _, _ => ⟨_, _, _, _, _, _, rfl, rfl, rfl⟩)
  exact ⟨_, fd, ["board", "state", "hurry"], ds, (fs_ok F scope_moves 3 (fun _ _ r => by cases r; rfl) rfl (fun _ _ r => by cases r; first | rfl | simp_all [Ar.nm]) fun cdv A outer s H E hr => by
    have hu := hu_of hr
    have hu9 : (A.deeper (envOfC "moves" (defScope s_moves) s.heap.objs.size (He.ga K "moves") cdv)).units + 9 < cLine := by have := hr.un; omega
    have hu64 : (A.deeper (envOfC "moves" (defScope s_moves) s.heap.objs.size (He.ga K "moves") cdv)).units + 64 < cLine := by have := hr.un; omega
    have hu65 : (A.deeper (envOfC "moves" (defScope s_moves) s.heap.objs.size (He.ga K "moves") cdv)).units + 65 < cLine := by have := hr.un; omega
    refine ⟨_, (pss_cons (ps_set (i := 3) scope_moves.nd rfl (Or.inl rfl) (C8.pe_c c_due hr (by decide) rfl (pa_cons (pv 0) (pa_cons (pv 1) pa_nil))))
        (pss_cons (ps_set (i := 4) scope_moves.nd rfl (Or.inl rfl) (pe_lst pa_nil))
        (pss_cons (ps_if (pt_cmpR op_le (pe_callB (cLen (K := K)) (by rfl) T.z_len PySem.boot_len (pa_cons (pv 3) pa_nil)) (pv 2) (nomark _))
          (pss_one (ps_setLc (i := 4) (own := [("name", 5)]) (g := gName 5) (tt := tYes) rfl scope_moves.nd rfl rfl (sw_true rfl rfl rfl (by decide +kernel)) (piTup (K := K) (peFld (K := K) (pv 0))) (blkOk_by (own := [("name", 5)]) (N := nm_moves) (sc := defScope s_moves) (by decide +kernel)) (fun _ _ _ _ _ => (pg_name (i := 5) scope_moves.nd rfl (Or.inl rfl))) (fun _ _ _ _ _ => pts_nil) (fun _ _ _ _ _ => (pe_tup (pa_cons pe_str (pa_cons (pv 5) pa_nil))))))
          pss_nil)
        (pss_one (ps_ret (pe_op op_cat (pv 4) (pe_lc (own := [("name", 5)]) (g := gName 5) (tt := tYes) rfl scope_moves.nd (piList (K := K) (pv 3)) (blkOk_by (own := [("name", 5)]) (N := nm_moves) (sc := defScope s_moves) (by decide +kernel)) (fun _ _ _ _ _ => (pg_name (i := 5) scope_moves.nd rfl (Or.inl rfl))) (fun _ _ _ _ _ => pts_nil) (fun _ _ _ _ _ => (pe_tup (pa_cons pe_str (pa_cons (pv 5) pa_nil))))))))))), fun as y r => ?_⟩
    cases r with
    | mk B h st hl =>
    show Sd K _ [some _, some _, some _, none, none, none] _ _
    have zs := h.zs
    have zr := h.zr
    have zd := due_len B st
    refine sd_let (ed_call (ea_cons (ed_var rfl) (ea_cons (ed_var rfl) ea_nil)) (by constructor <;> assumption)) rfl ?_
    refine sd_letN (en_lst (ds := []) ea_nil (Nat.le_of_ble_eq_true rfl)) ?_
    refine sd_seq (M := fun ys => ∃ a, ys = [some (.b B), some (.d (dState st)), some (.d (.int 0)), some (.d (.list (dStrs (B.due st)))), some (.m (dMoves (if (B.due st).length ≤ 0 then B.sw.map fun n => (true, n) else []))), a])
      (sd_if (b := decide ((B.due st).length ≤ 0)) (et_is (et_test (ed_op (ed_cb (ea_cons (ed_var rfl) ea_nil) (rc_len (by constructor))) (ed_var rfl) (rv_i0 rfl))) ?_) (fun e => ?_) (fun e => sd_next ?_)) (fun ys hP => ?_)
    · rw [dStrs_len]; exact decide_eq_decide.mpr (by omega)
    · rw [if_pos (of_decide_eq_true e)]
      exact sd_new (en_lcY (l := B.sw) (enc := .str) (out := dMove) (w := fun n => (true, n)) (id_tup (ed_switches T (ed_var rfl))) (fun a _ => gd_name) (fun i hi => hi) (fun a _ => (ed_tup (ds := [_, _]) (ea_cons (ed_c rfl) (ea_cons (ed_var rfl) ea_nil)) (Nat.le_of_ble_eq_true rfl))) (by omega)) ⟨_, rfl⟩
    · rw [if_neg (of_decide_eq_false e)]
      exact ⟨_, rfl⟩
    · obtain ⟨a, rfl⟩ := hP
      refine sd_ret (ed_is (En.ed (en_op (ed_var rfl) (En.ed (en_lcY (l := B.due st) (enc := .str) (out := dMove) (w := fun n => (false, n)) (id_list (ed_var rfl)) (fun a _ => gd_name) (fun i hi => hi) (fun a _ => (ed_tup (ds := [_, _]) (ea_cons (ed_c rfl) (ea_cons (ed_var rfl) ea_nil)) (Nat.le_of_ble_eq_true rfl))) (by omega))) (rn_cat (by constructor) (by constructor) ?_))) ?_) rfl rfl
      · rw [dMoves_len, List.length_map, List.length_map]
        have : (if (B.due st).length ≤ 0 then B.sw.map fun n => ((true, n) : Bool × Str) else []).length ≤ 2 := by
          split
          · rw [List.length_map]; omega
          · exact Nat.zero_le _
        omega
      · show Ar.d (.list (dMoves _ ++ dMoves _)) = _
        rw [dMoves_app]; rfl), T.g_moves, F.kp, hb, hv⟩
/-! ### check_lamps, is_lit -/
inductive R_check_lamps : List Ar → Ar → Prop
  | mk (B : BR) (h : WB B) (ns : List Str) (hn : ∀ n ∈ ns, n ∈ B.lamps.map (·.1)) : R_check_lamps [.b B, .d (.list (dStrs ns))] (.d .none)
theorem c_check_lamps (T : TX K mg) : C8.Cal P w K mg base 1 "check_lamps" (FS K R_check_lamps) [] := by
  obtain ⟨fd, F⟩ := T.f_check_lamps
  exact cal_of F T.g_check_lamps (F.bindsN fun _ _ _ _ _ _ us hl => match us, hl with | [_, _], _ => rfl) (fs_ok F scope_check_lamps 3 (fun _ _ r => by cases r; rfl) rfl (fun _ _ r => by cases r; first | rfl | simp_all [Ar.nm]) fun cdv A outer s H E hr => by
    have hu := hu_of hr
    have hu9 : (A.deeper (envOfC "check_lamps" (defScope s_check_lamps) s.heap.objs.size (He.ga K "check_lamps") cdv)).units + 9 < cLine := by have := hr.un; omega
    have hu64 : (A.deeper (envOfC "check_lamps" (defScope s_check_lamps) s.heap.objs.size (He.ga K "check_lamps") cdv)).units + 64 < cLine := by have := hr.un; omega
    have hu65 : (A.deeper (envOfC "check_lamps" (defScope s_check_lamps) s.heap.objs.size (He.ga K "check_lamps") cdv)).units + 65 < cLine := by have := hr.un; omega
    refine ⟨_, (pss_cons (ps_setLc (i := 2) (own := [("lamp", 4)]) (g := gName 4) (tt := tYes) rfl scope_check_lamps.nd rfl rfl (sw_true rfl rfl rfl (by decide +kernel)) (piTup (K := K) (peFld (K := K) (pv 0))) (blkOk_by (own := [("lamp", 4)]) (N := nm_check_lamps) (sc := defScope s_check_lamps) (by decide +kernel)) (fun _ _ _ _ _ => (pg_name (i := 4) scope_check_lamps.nd rfl (Or.inl rfl))) (fun _ _ _ _ _ => pts_nil) (fun _ _ _ _ _ => (pe_ix (ixT (K := K)) (pv 4) pe_int (fun _ _ => rfl))))
        (pss_one (ps_for PassesOwn.never rfl (piList (K := K) (pv 1)) (pg_name (i := 3) scope_check_lamps.nd rfl (Or.inl rfl))
          (pss_one (ps_if (pt_cmpR (opNi (K := K)) (pv 3) (pv 2) rfl)
          (pss_one ps_never)
          pss_nil))))), fun as y r => ?_⟩
    cases r with
    | mk B h ns hn =>
    show Sd K _ [some _, some _, none, none, none] _ _
    have zl := h.zl
    refine sd_let (En.ed (en_lcY (l := B.lamps) (enc := dLoad) (out := .str) (w := fun l => l.1) (id_tup (ed_lamps T (ed_var rfl))) (fun a _ => gd_name) (fun i hi => hi) (fun a _ => (ed_op (ed_var rfl) (ed_c rfl) (rv_ixT (at0 rfl)))) (by omega))) rfl ?_
    refine sd_for (fun i ys => ∃ a b, ys = [some (.b B), some (.d (.list (dStrs ns))), some (.d (.list (dStrs (B.lamps.map (·.1))))), a, b]) (id_list (ed_var rfl)) ⟨_, _, rfl⟩ (fun i d ys hd hP => ?_) (fun ys hP => rfl)
    obtain ⟨a, b, rfl⟩ := hP
    obtain ⟨n, hn2, rfl⟩ := map_get hd
    refine ⟨_, _, gd_name, sd_if (b := false) (et_is (et_test (ed_op (ed_var rfl) (ed_var rfl) (rv_notIn (by constructor)))) ?_) (fun e => nomatch e) (fun e => sd_next ⟨_, _, rfl⟩)⟩
    rw [decide_eq_true (hn n (List.mem_of_getElem? hn2))]; rfl)
inductive R_is_lit : List Ar → Ar → Prop
  | mk (B : BR) (h : WB B) (st : BState) (hl : st.1.length = B.movers.length) (lamp : Str) : R_is_lit [.b B, .d (dState st), .d (.str lamp)] (.d (.bool (B.lit lamp st)))
theorem c_is_lit (T : TX K mg) : C8.Cal P w K mg base 8 "is_lit" (FS K R_is_lit) [] := by
  obtain ⟨fd, F⟩ := T.f_is_lit
  have c_live_lamps := @c_live_lamps P w K mg base T
  exact cal_of F T.g_is_lit (F.bindsN fun _ _ _ _ _ _ us hl => match us, hl with | [_, _, _], _ => rfl) (fs_ok F scope_is_lit 0 (fun _ _ r => by cases r; rfl) rfl (fun _ _ r => by cases r; first | rfl | simp_all [Ar.nm]) fun cdv A outer s H E hr => by
    have hu := hu_of hr
    have hu9 : (A.deeper (envOfC "is_lit" (defScope s_is_lit) s.heap.objs.size (He.ga K "is_lit") cdv)).units + 9 < cLine := by have := hr.un; omega
    have hu64 : (A.deeper (envOfC "is_lit" (defScope s_is_lit) s.heap.objs.size (He.ga K "is_lit") cdv)).units + 64 < cLine := by have := hr.un; omega
    have hu65 : (A.deeper (envOfC "is_lit" (defScope s_is_lit) s.heap.objs.size (He.ga K "is_lit") cdv)).units + 65 < cLine := by have := hr.un; omega
    refine ⟨_, (pss_one (ps_ret (pe_cmpR (opIn (K := K)) (pv 2) (C8.pe_c c_live_lamps hr (by decide) rfl (pa_cons (pv 0) (pa_cons (pv 1) pa_nil))) rfl))), fun as y r => ?_⟩
    cases r with
    | mk B h st hl lamp =>
    show Sd K _ [some _, some _, some _] _ _
    exact sd_ret (ed_op (ed_var rfl) (ed_call (ea_cons (ed_var rfl) (ea_cons (ed_var rfl) ea_nil)) (by constructor <;> assumption)) (rv_isIn (by constructor))) rfl rfl)
/-! ### phase_behind -/
theorem hand_str (b : Bool) : decide ((if b = true then ("hand" : Str) else "relay") = "hand") = b := by cases b <;> decide +kernel
inductive R_phase_behind : List Ar → Ar → Prop
  | mk (B : BR) (h : WB B) (lamp : Str) (st : BState) (hl : st.1.length = B.movers.length) (ph : Phase) (m : Bool × Str) (su : BState) (hu : su.1.length = B.movers.length) :
      R_phase_behind [.b B, .d (.str lamp), .d (dState st), .d (dPhase ph), .d (dMove m), .d (dState su)] (.d (dPhase (B.phase lamp st ph m su)))
theorem c_phase_behind (T : TX K mg) : C8.Cal P w K mg base 10 "phase_behind" (FS K R_phase_behind) [] := by
  obtain ⟨fd, F⟩ := T.f_phase_behind
  have c_is_lit := @c_is_lit P w K mg base T
  have c_is_rest := @c_is_rest P w K mg base T
  exact cal_of F T.g_phase_behind (F.bindsN fun _ _ _ _ _ _ us hl => match us, hl with | [_, _, _, _, _, _], _ => rfl) (fs_ok F scope_phase_behind 3 (fun _ _ r => by cases r; rfl) rfl (fun _ _ r => by cases r; first | rfl | simp_all [Ar.nm]) fun cdv A outer s H E hr => by
    have hu := hu_of hr
    have hu9 : (A.deeper (envOfC "phase_behind" (defScope s_phase_behind) s.heap.objs.size (He.ga K "phase_behind") cdv)).units + 9 < cLine := by have := hr.un; omega
    have hu64 : (A.deeper (envOfC "phase_behind" (defScope s_phase_behind) s.heap.objs.size (He.ga K "phase_behind") cdv)).units + 64 < cLine := by have := hr.un; omega
    have hu65 : (A.deeper (envOfC "phase_behind" (defScope s_phase_behind) s.heap.objs.size (He.ga K "phase_behind") cdv)).units + 65 < cLine := by have := hr.un; omega
    refine ⟨_, (pss_cons (ps_set (i := 6) scope_phase_behind.nd rfl (Or.inl rfl) (C8.pe_c c_is_lit hr (by decide) rfl (pa_cons (pv 0) (pa_cons (pv 5) (pa_cons (pv 1) pa_nil)))))
        (pss_cons (ps_asg (pv 3) (pgTup (K := K) (n := 2) (by rfl) (pgs_cons (pg_name (i := 7) scope_phase_behind.nd rfl (Or.inl rfl)) (pgs_cons (pg_name (i := 8) scope_phase_behind.nd rfl (Or.inl rfl)) pgs_nil))))
        (pss_cons (ps_if (pt_cmpR op_eq (pe_ix (ixT (K := K)) (pv 4) pe_int (fun _ _ => rfl)) pe_str (nomark _))
          (pss_cons (ps_set (i := 7) scope_phase_behind.nd rfl (Or.inl rfl) (C8.pe_gc rfl T.k_SAME))
        (pss_one (ps_set (i := 8) scope_phase_behind.nd rfl (Or.inl rfl) (C8.pe_c c_is_lit hr (by decide) rfl (pa_cons (pv 0) (pa_cons (pv 2) (pa_cons (pv 1) pa_nil)))))))
          (pss_one (ps_if (pt_cmpR op_eq (pv 7) (C8.pe_gc rfl T.k_WAITING) (nomark _))
          (pss_one (ps_ret (pv 3)))
          (pss_one (ps_if (PW.pt (pw_and (pt_cmpR op_eq (pv 7) (C8.pe_gc rfl T.k_OTHER) (nomark _)) (pw_and (pt_cmpR op_eq (pv 6) (pv 8) (nomark _)) (pw_and1 (pt_val (C8.pe_c c_is_rest hr (by decide) rfl (pa_cons (pv 0) (pa_cons (pv 5) pa_nil))))))))
          (pss_one (ps_ret (pe_tup (pa_cons (C8.pe_gc rfl T.k_FLASHED) (pa_cons (pv 8) pa_nil)))))
          pss_nil)))))
        (pss_cons (ps_if (pt_val (C8.pe_c c_is_rest hr (by decide) rfl (pa_cons (pv 0) (pa_cons (pv 5) pa_nil))))
          (pss_one (ps_ret (pe_tup (pa_cons (C8.pe_gc rfl T.k_WAITING) (pa_cons pe_bl pa_nil)))))
          pss_nil)
        (pss_cons (ps_if (pt_cmpR op_ne (pv 6) (pv 8) (nomark _))
          (pss_one (ps_set (i := 7) scope_phase_behind.nd rfl (Or.inl rfl) (C8.pe_gc rfl T.k_OTHER)))
          pss_nil)
        (pss_one (ps_ret (pe_tup (pa_cons (pv 7) (pa_cons (pv 8) pa_nil)))))))))), fun as y r => ?_⟩
    cases r with
    | mk B h lamp st hl ph m su hsu =>
    show Sd K _ [some _, some _, some _, some _, some _, some _, none, none, none] _ _
    refine sd_let (ed_call (ea_cons (ed_var rfl) (ea_cons (ed_var rfl) (ea_cons (ed_var rfl) ea_nil))) (by constructor <;> assumption)) rfl ?_
    refine sd_letG (ed_var rfl) (gd_tup (gds_cons gd_name (gds_cons gd_name gds_nil)) rfl) ?_
    refine sd_seq (M := fun ys => ¬ (m.1 = false ∧ ph.1 = 0) ∧ ¬ (m.1 = false ∧ ph.1 = 2 ∧ B.lit lamp su = ph.2 ∧ B.rest su = true) ∧ ys = [some (.b B), some (.d (.str lamp)), some (.d (dState st)), some (.d (dPhase ph)), some (.d (dMove m)), some (.d (dState su)), some (.d (.bool (B.lit lamp su))), some (.d (.int (if m.1 = true then 1 else ph.1))), some (.d (.bool (if m.1 = true then B.lit lamp st else ph.2)))])
      (sd_if (b := m.1) (et_is (et_test (ed_op (ed_op (ed_var rfl) (ed_c rfl) (rv_ixT (at0 rfl))) (ed_c rfl) rv_eqS)) (hand_str m.1)) (fun e => ?_) (fun e => sd_if (b := decide (ph.1 = 0)) (et_test (ed_op (ed_var rfl) (ed_c rfl) rv_eqI)) (fun e0 => ?_) (fun e0 => sd_if (b := decide (ph.1 = 2) && (B.lit lamp su == ph.2 && B.rest su)) (et_and (et_test (ed_op (ed_var rfl) (ed_c rfl) rv_eqI)) fun _ => (et_and (et_test (ed_op (ed_var rfl) (ed_var rfl) rv_eqB)) fun _ => (et_B (ed_call (ea_cons (ed_var rfl) (ea_cons (ed_var rfl) ea_nil)) (by constructor <;> assumption))))) (fun e1 => ?_) (fun e1 => sd_next ?_)))) (fun ys hP => ?_)
    · refine sd_let (ed_c rfl) rfl (sd_asg (ed_call (ea_cons (ed_var rfl) (ea_cons (ed_var rfl) (ea_cons (ed_var rfl) ea_nil))) (by constructor <;> assumption)) rfl ⟨?_, ?_, ?_⟩)
      · rintro ⟨q, _⟩; rw [e] at q; cases q
      · rintro ⟨q, _⟩; rw [e] at q; cases q
      · rw [if_pos e, if_pos e]; rfl
    · refine sd_ret (ed_var rfl) rfl ?_
      unfold Brd.phase
      rw [if_neg (by rw [e]; decide), if_pos (of_decide_eq_true e0)]
    · simp only [Bool.and_eq_true, decide_eq_true_eq, beq_iff_eq] at e1
      refine sd_ret (ed_tup (ds := [_, _]) (ea_cons (ed_c rfl) (ea_cons (ed_var rfl) ea_nil)) (Nat.le_of_ble_eq_true rfl)) rfl ?_
      unfold Brd.phase
      rw [if_neg (by rw [e]; decide), if_neg (of_decide_eq_false e0), if_pos ⟨e1.1, e1.2.1, e1.2.2⟩]
      rfl
    · refine ⟨fun q => of_decide_eq_false e0 q.2, fun q => ?_, ?_⟩
      · rw [decide_eq_true q.2.1, q.2.2.1, q.2.2.2] at e1
        simp at e1
      · rw [if_neg (by rw [e]; decide), if_neg (by rw [e]; decide)]; rfl
    · obtain ⟨n0, n1, rfl⟩ := hP
      have key : B.phase lamp st ph m su = if B.rest su = true then (0, false) else if B.lit lamp su ≠ (if m.1 = true then B.lit lamp st else ph.2) then (2, if m.1 = true then B.lit lamp st else ph.2) else (if m.1 = true then 1 else ph.1, if m.1 = true then B.lit lamp st else ph.2) := by
        unfold Brd.phase
        cases hm : m.1 with
        | true => rfl
        | false =>
          rw [hm] at n0 n1
          rw [if_neg (by decide), if_neg (fun q => n0 ⟨rfl, q⟩), if_neg (fun q => n1 ⟨rfl, q⟩)]
          rfl
      rw [key]
      generalize (if m.1 = true then (1 : Int) else ph.1) = k0
      generalize (if m.1 = true then B.lit lamp st else ph.2) = s0
      refine sd_ifr (b := B.rest su) (et_B (ed_call (ea_cons (ed_var rfl) (ea_cons (ed_var rfl) ea_nil)) (by constructor <;> assumption))) (fun e => ?_) (fun e => ?_)
      · exact sd_ret (ed_tup (ds := [_, _]) (ea_cons (ed_c rfl) (ea_cons (ed_c rfl) ea_nil)) (Nat.le_of_ble_eq_true rfl)) rfl (by rw [if_pos e]; rfl)
      have er : ¬ B.rest su = true := by rw [e]; decide
      rw [if_neg er]
      refine sd_seq (M := fun ys => ys = [some (.b B), some (.d (.str lamp)), some (.d (dState st)), some (.d (dPhase ph)), some (.d (dMove m)), some (.d (dState su)), some (.d (.bool (B.lit lamp su))), some (.d (.int (if B.lit lamp su ≠ s0 then 2 else k0))), some (.d (.bool s0))])
        (sd_if (b := B.lit lamp su != s0) (et_test (ed_op (ed_var rfl) (ed_var rfl) rv_neB)) (fun e => sd_asg (ed_c rfl) rfl ?_) (fun e => sd_next ?_)) (fun ys hP => ?_)
      · rw [if_pos (by simpa using e)]; rfl
      · rw [if_neg (by simpa using e)]
      · subst hP
        refine sd_ret (ed_tup (ds := [_, _]) (ea_cons (ed_var rfl) (ea_cons (ed_var rfl) ea_nil)) (Nat.le_of_ble_eq_true rfl)) rfl ?_
        split <;> rfl)
end
end K58
end
/-! W5 -/
section
set_option maxRecDepth 100000
set_option maxHeartbeats 2000000
namespace K58
open PySem PySem.Spec PyProof.Rows L2
abbrev Srs := Ents Case (Bool × Str)
/-! ### the cases as keys -/
def nB (b : Bool) : NestedKey := .num (if b = true then 1 else 0)
def cKey (c : Case) : NestedKey := .tup [.tup [.tup (c.1.1.map nB), nB c.1.2], .tup [.num c.2.1, nB c.2.2]]
theorem nB_inj {a b : Bool} (h : nB a = nB b) : a = b := by
  unfold nB at h
  injection h with h
  cases a <;> cases b <;> first | rfl | cases h
theorem map_inj' {α β : Type} {f : α → β} (hf : ∀ a b, f a = f b → a = b) : ∀ {l m : List α}, l.map f = m.map f → l = m
  | [], [], _ => rfl
  | [], _ :: _, h => nomatch h
  | _ :: _, [], h => nomatch h
  | a :: l, b :: m, h => by
    rw [List.map_cons, List.map_cons] at h
    injection h with h1 h2
    rw [hf a b h1, map_inj' hf h2]
theorem cKey_inj {c d : Case} (h : cKey c = cKey d) : c = d := by
  obtain ⟨⟨a1, a2⟩, ⟨a3, a4⟩⟩ := c
  obtain ⟨⟨b1, b2⟩, ⟨b3, b4⟩⟩ := d
  unfold cKey at h
  simp only [NestedKey.tup.injEq, List.cons.injEq, and_true, NestedKey.num.injEq] at h
  obtain ⟨⟨h1, h2⟩, h3, h4⟩ := h
  rw [map_inj' (fun _ _ => nB_inj) h1, nB_inj h2, h3, nB_inj h4]
theorem depth_bits : ∀ bs : List Bool, NestedKey.depthAll (bs.map nB) ≤ 1
  | [] => by simp [NestedKey.depthAll]
  | b :: bs => by
    have := depth_bits bs
    rw [List.map_cons]
    simp only [NestedKey.depthAll, nB, NestedKey.depth]
    omega
theorem cKey_depth (c : Case) : (cKey c).depth ≤ 8 := by
  have := depth_bits c.1.1
  unfold cKey
  simp only [NestedKey.depthAll, NestedKey.depth, nB]
  omega
section
variable {K : PySem.W.Frag} {H H' : Hp}
theorem nv_bl {v : V} {b : Bool} (h : Da K H v (.bool b)) : NV K H v (nB b) := by rw [da_bool h]; exact .bl b
theorem nv_bits : ∀ {vs : List V} {bs : List Bool}, Das K H vs (dBits bs) → NVs K H vs (bs.map nB)
  | _, [], .nil => .nil
  | _, _ :: _, .cons h hs => .cons (nv_bl h) (nv_bits hs)
theorem nv_case {v : V} {c : Case} (h : Da K H v (dCase c)) : NV K H v (cKey c) := by
  cases h with
  | tup h1 h2 =>
  cases h2 with
  | cons a as =>
  cases as with
  | cons b bs =>
  cases bs
  refine .tup h1 (.cons ?_ (.cons ?_ .nil))
  · cases a with
    | tup a1 a2 =>
    cases a2 with
    | cons x xs =>
    cases xs with
    | cons y ys =>
    cases ys
    refine .tup a1 (.cons ?_ (.cons (nv_bl y) .nil))
    cases x with
    | tup x1 x2 => exact .tup x1 (nv_bits x2)
  · cases b with
    | tup a1 a2 =>
    cases a2 with
    | cons x xs =>
    cases xs with
    | cons y ys =>
    cases ys
    refine .tup a1 (.cons ?_ (.cons (nv_bl y) .nil))
    rw [da_int x]; exact .int _
mutual
theorem NV.mono (e : Same H H') : ∀ {v : V} {k : NestedKey}, NV K H v k → NV K H' v k
  | _, _, .bl b => .bl b
  | _, _, .int i => .int i
  | _, _, .tup h hs => .tup (seqT_same e h) (NVs.mono e hs)
theorem NVs.mono (e : Same H H') : ∀ {vs : List V} {ks : List NestedKey}, NVs K H vs ks → NVs K H' vs ks
  | _, _, .nil => .nil
  | _, _, .cons x xs => .cons (NV.mono e x) (NVs.mono e xs)
end
end
def dSrc : Option (Case × (Bool × Str)) → PyData
  | none => .none
  | some s => .tuple [dCase s.1, dMove s.2]
abbrev EsF (K : PySem.W.Frag) (H : Hp) (x : NestedKey × Addr × V) (e : Case × Option (Case × (Bool × Str))) : Prop := x.1 = cKey e.1 ∧ NV K H (.ref x.2.1) x.1 ∧ Da K H x.2.2 (dSrc e.2)
abbrev Es (K : PySem.W.Frag) (H : Hp) : NEnts → Srs → Prop := Paired (EsF K H)
theorem Es.mono {K : PySem.W.Frag} {H H' : Hp} (e : Same H H') {xs : NEnts} {cs : Srs} (h : Es K H xs cs) : Es K H' xs cs := Paired.mapP h fun _ _ ⟨h1, h2, h3⟩ => ⟨h1, h2.mono e, h3.mono e⟩
theorem Es.key {K : PySem.W.Frag} {H : Hp} {xs : NEnts} {cs : Srs} (h : Es K H xs cs) : ∀ x ∈ xs, NV K H (.ref x.2.1) x.1 ∧ x.1.depth ≤ 8 := by
  induction h with
  | nil => intro x hx; exact nomatch hx
  | cons h hs ih =>
    intro x hx
    rcases List.mem_cons.mp hx with rfl | hx
    · exact ⟨h.2.1, by rw [h.1]; exact cKey_depth _⟩
    · exact ih x hx
theorem Es.none {K : PySem.W.Frag} {H : Hp} {xs : NEnts} {cs : Srs} {c : Case} (h : Es K H xs cs) (hc : c ∉ keys cs) : nLook xs (cKey c) = none := by
  induction h with
  | nil => rfl
  | @cons x e xs es h hs ih =>
    have h1 : c ≠ e.1 ∧ c ∉ keys es := by
      unfold keys at hc ⊢
      rw [List.map_cons, List.mem_cons, not_or] at hc
      exact hc
    have ne : ¬ x.1 = cKey c := fun q => h1.1 (cKey_inj (by rw [← q, h.1]))
    have ih' := ih h1.2
    unfold nLook at ih' ⊢
    rw [List.find?_cons, show decide (x.1 = cKey c) = false from decide_eq_false ne]
    exact ih'
theorem Es.look {K : PySem.W.Frag} {H : Hp} {xs : NEnts} {cs : Srs} {c : Case} {s : Option (Case × (Bool × Str))} (h : Es K H xs cs) (nd : (keys cs).Nodup) (hc : (c, s) ∈ cs) : ∃ v, nLook xs (cKey c) = some v ∧ Da K H v (dSrc s) := by
  induction h with
  | nil => exact nomatch hc
  | @cons x e xs es h hs ih =>
    unfold keys at nd
    rw [List.map_cons, List.nodup_cons] at nd
    rcases List.mem_cons.mp hc with rfl | hc
    · refine ⟨x.2.2, ?_, h.2.2⟩
      unfold nLook
      rw [List.find?_cons, show decide (x.1 = cKey c) = true from decide_eq_true h.1]
      rfl
    · have ne : ¬ x.1 = cKey c := fun q => nd.1 (by
        have : e.1 = c := cKey_inj (by rw [← q, h.1])
        rw [this]
        exact List.mem_map.mpr ⟨_, hc, rfl⟩)
      obtain ⟨v, h1, h2⟩ := ih nd.2 hc
      refine ⟨v, ?_, h2⟩
      unfold nLook at h1 ⊢
      rw [List.find?_cons, show decide (x.1 = cKey c) = false from decide_eq_false ne]
      exact h1
theorem Es.len {K : PySem.W.Frag} {H : Hp} {xs : NEnts} {cs : Srs} (h : Es K H xs cs) : xs.length = cs.length := Paired.length h
/-! ### the search as an object -/
abbrev sFs (b : Addr) (lamp : Str) (l q : Addr) : List (Str × V) := [("board", .ref b), ("lamp", .str lamp), ("limit", .int 3000), ("cases", .ref l), ("sources", .ref q)]
structure SeAt (P : Program) (w : World) (K : PySem.W.Frag) (p l q : Addr) (B : BR) (lamp : Str) (cs : Srs) (N : List Addr) (H : Hp) : Prop where
  o : ∃ dx b, H p = some (.ins (He.ga K "FlashSearch") dx (sFs b lamp l q)) ∧ BoardAt K (hid N H) b B
  l : ∃ vs, H l = some (.lst vs) ∧ Das K (hid N H) vs ((keys cs).map dCase)
  q : ∃ xs, H q = some (NDO P w q xs) ∧ Es K (hid N H) xs cs
section
variable {P : Program} {w : World} {K : PySem.W.Frag} {mg : Str → Option Value} {base : Heap} {p l q : Addr} {B : BR} {lamp : Str} {cs : Srs} {N : List Addr} {H H' : Hp}
theorem SeAt.same (e : Same H H') (h : SeAt P w K p l q B lamp cs N H) : SeAt P w K p l q B lamp cs N H' := by
  obtain ⟨⟨dx, b, o1, o2⟩, ⟨vs, l1, l2⟩, ⟨xs, q1, q2⟩⟩ := h
  exact ⟨⟨dx, b, e _ _ o1, o2.mono (hid_mono e)⟩, ⟨vs, e _ _ l1, l2.mono (hid_mono e)⟩, ⟨xs, e _ _ q1, q2.mono (hid_mono e)⟩⟩
/-- the three objects are one's own -/
structure Ow (p l q : Addr) (N : List Addr) : Prop where
  mp : p ∈ N
  ml : l ∈ N
  mq : q ∈ N
  pl : p ≠ l
  pq : p ≠ q
  lq : l ≠ q
theorem r_fld {σ : L2.St} {Q : VK} {a C dx : Addr} {fs : List (Str × V)} {f : Str} {v : V} {i : Nat} (hv : σ[i]? = some (some (.ref a))) (ho : H a = some (.ins C dx fs)) (hc : Cls K C) (hn : NoAttr K C f) (hl : fs.lookup f = some v) (h : Q v H) : tFld K (tVar i) f σ H Q :=
  ⟨.ref a, hv, a, C, dx, fs, v, rfl, ho, hc, hn, hl, h⟩
theorem sl_board {b : Addr} {l q : Addr} : (sFs b lamp l q).lookup ("board" : Str) = some (.ref b) := rfl
theorem sl_lamp {b : Addr} {l q : Addr} : (sFs b lamp l q).lookup ("lamp" : Str) = some (.str lamp) := rfl
theorem sl_limit {b : Addr} {l q : Addr} : (sFs b lamp l q).lookup ("limit" : Str) = some (.int 3000) := rfl
theorem sl_cases {b : Addr} {l q : Addr} : (sFs b lamp l q).lookup ("cases" : Str) = some (.ref l) := rfl
theorem sl_sources {b : Addr} {l q : Addr} : (sFs b lamp l q).lookup ("sources" : Str) = some (.ref q) := rfl
/-! ### note -/
def NoteSp (P : Program) (w : World) (K : PySem.W.Frag) : Sp := fun vs H Q _ => ∃ (p l q : Addr) (B : BR) (lamp : Str) (cs : Srs) (N : List Addr) (c : Case) (s : Option (Case × (Bool × Str))) (vc v : V),
  vs = [.ref p, vc, v] ∧ Alive N H ∧ Ow p l q N ∧ SeAt P w K p l q B lamp cs N H ∧ Da K (hid N H) vc (dCase c) ∧ Da K (hid N H) v (dSrc s) ∧ (keys cs).Nodup ∧ cs.length < 3000 ∧
  ∀ H1, Alive N H1 → SeAt P w K p l q B lamp (note cs c s) N H1 → hid N H1 = hid N H → Same (hid [p, l, q] H) (hid [p, l, q] H1) → Q .non H1
theorem raw_ok {x qual : Str} {st : Stmt} {Nm ps : List Str} {k : Nat} {sp : Sp} {f : Addr} {fd : FuncData} {kws : List (Str × V)} (F : FunD K x qual (defArgs st) (defBody st) (defScope st) [] kws f fd) (S : FnScope Nm ps (defScope st)) (len : ∀ vs H Q E, sp vs H Q E → vs.length = ps.length)
    (hb : ∀ (cdv : Value) (A : Around) (outer : List Env) (s : Shared) (H : Hp) (E : XK), Room k (A.deeper (envOfC qual (defScope st) s.heap.objs.size f cdv)) →
      ∃ t, PSs (cxOf CX0 P w K mg base Nm qual (defScope st) f cdv A outer s H E).nox (defBody st) t ∧ ∀ vs H Q E, sp vs H Q E → t { nx := fun _ H' => Q .non H', rt := Q } (L2.start Nm vs) H) :
    FnOk P w K mg base CX0 (k + 1) f fd ps sp := by
  refine F.ok S len (fun cdv A outer s H vs Q E hr h => ?_)
  obtain ⟨t, h1, h2⟩ := hb cdv A outer s H E hr
  exact ⟨t, h1.nox, h2 vs H Q E h⟩
theorem upd_get {H : Hp} {a b : Addr} {o o' : HO} (h : upd H a o b = some o') (ne : b ≠ a) : H b = some o' := by rwa [upd_ne ne] at h
theorem m_note (T : TX K mg) : C8.Met P w K mg base 1 (He.ga K "FlashSearch") "note" (NoteSp P w K) [] := by
  obtain ⟨fd, F⟩ := T.f_FlashSearch_note
  refine ⟨_, fd, ["self", "case", "source"], [], T.cl_FlashSearch, T.me_note, raw_ok F scope_FlashSearch_note (fun vs H Q E ⟨_, _, _, _, _, _, _, _, _, _, _, e, _⟩ => by rw [e]; rfl) (fun cdv A outer s H E hr => ?_), F.bindsN fun _ _ _ _ _ _ us hl => match us, hl with | [_, _, _], _ => rfl, .nil⟩
  have hu9 : (A.deeper (envOfC "FlashSearch.note" (defScope s_FlashSearch_note) s.heap.objs.size (He.ma K (He.ga K "FlashSearch") "note") cdv)).units + 9 < cLine := by have := hr.un; omega
  refine ⟨_, (pss_one (ps_if (pt_cmp (pc_nnotin hu9 (pv 1) (peFld (K := K) (pv 0))))
      (pss_cons (ps_if (pt_cmpR op_eq (pe_callB (cLen (K := K)) (by rfl) T.z_len PySem.boot_len (pa_cons (peFld (K := K) (pv 0)) pa_nil)) (peFld (K := K) (pv 0)) (nomark _))
      (pss_one ps_never)
      pss_nil)
    (pss_cons (ps_nput hu9 (peFld (K := K) (pv 0)) (pv 1) (pv 2) rfl)
    (pss_one (ps_expr (peBm (K := K) PySem.F.plainAttrs_list PySem.F.slot_list_append PySem.F.type_list_append mt_append (peFld (K := K) (pv 0)) (pa_cons (pv 1) pa_nil))))))
      pss_nil)), fun vs H Q E ⟨p, l, q, B, lamp, cs, N, c, sc, vc, v, e, al, ow, se, dc, dv, nd, hl, hQ⟩ => ?_⟩
  subst e
  obtain ⟨⟨dx, b, o1, o2⟩, ⟨ws, l1, l2⟩, ⟨xs, q1, q2⟩⟩ := id se
  have es := q2.mono (hid_le (N := N))
  have nv := nv_case (dc.mono (hid_le (N := N)))
  obtain ⟨cr, rfl⟩ : ∃ a, vc = .ref a := by cases dc; exact ⟨_, rfl⟩
  have nda : NDAt P w K H q xs := ⟨q1, es.key⟩
  refine ⟨_, rfl, r_fld (i := 0) rfl o1 T.cl_FlashSearch T.na_FlashSearch_sources sl_sources ⟨q, cr, cKey c, xs, rfl, rfl, nda, nv, cKey_depth c, _, rfl, ?_⟩⟩
  by_cases hc : c ∈ keys cs
  · obtain ⟨i, t, hi⟩ := keys_get.mp hc
    obtain ⟨v', z1, _⟩ := es.look nd (List.mem_of_getElem? hi)
    rw [z1]
    show (if false = true then _ else _ : Prop)
    rw [if_neg (by decide)]
    refine hQ H al ?_ rfl (Same.refl _)
    rw [show note cs c sc = cs by unfold note; rw [if_pos hc]]
    exact se
  · rw [es.none hc]
    show (if true = true then _ else _ : Prop)
    rw [if_pos rfl]
    have lw : ws.length = cs.length := by
      rw [l2.len, List.length_map]; unfold keys; rw [List.length_map]
    -- the limit
    refine r_fld (i := 0) rfl o1 T.cl_FlashSearch T.na_FlashSearch_cases sl_cases ?_
    refine ⟨l, ws, rfl, .inl (SqL.of l1), r_fld (i := 0) rfl o1 T.cl_FlashSearch T.na_FlashSearch_limit sl_limit ⟨rfl, _, rfl, ?_⟩⟩
    rw [dec_int, decide_eq_false (by omega)]
    show (if false = true then _ else _ : Prop)
    rw [if_neg (by decide)]
    -- sources
    refine ⟨_, rfl, r_fld (i := 0) rfl o1 T.cl_FlashSearch T.na_FlashSearch_sources sl_sources ⟨_, rfl, q, cr, cKey c, xs, rfl, rfl, nda, nv, cKey_depth c, es.none hc, ?_, ?_⟩⟩
    · rw [es.len]; exact sz_lt (by omega)
    -- cases
    have h1 : upd H q (NDO P w q (xs ++ [(cKey c, cr, v)])) p = some (.ins (He.ga K "FlashSearch") dx (sFs b lamp l q)) := by rw [upd_ne ow.pq]; exact o1
    have h2 : upd H q (NDO P w q (xs ++ [(cKey c, cr, v)])) l = some (.lst ws) := by rw [upd_ne ow.lq]; exact l1
    dsimp only
    unfold tDrop tBM
    refine r_fld (i := 0) rfl h1 T.cl_FlashSearch T.na_FlashSearch_cases sl_cases ⟨.inl ⟨rfl, ws, SqL.of h2⟩, _, rfl, l, ws, .ref cr, rfl, rfl, h2, ?_, ?_⟩
    · rw [lw]; exact sz_lt (by omega)
    have eh : hid N (upd (upd H q (NDO P w q (xs ++ [(cKey c, cr, v)]))) l (.lst (ws ++ [.ref cr]))) = hid N H := by rw [hid_upd ow.ml, hid_upd ow.mq]
    have en : note cs c sc = cs ++ [(c, sc)] := by unfold note; rw [if_neg hc]
    refine hQ (upd (upd H q (NDO P w q (xs ++ [(cKey c, cr, v)]))) l (.lst (ws ++ [.ref cr]))) (fun a ha => ?_) ?_ eh (by rw [hid_upd (by simp), hid_upd (by simp)]; exact Same.refl _)
    · by_cases e1 : a = l
      · subst e1; exact ⟨_, upd_same⟩
      · rw [upd_ne e1]
        by_cases e2 : a = q
        · subst e2; exact ⟨_, upd_same⟩
        · rw [upd_ne e2]; exact al a ha
    · rw [en]
      refine ⟨⟨dx, b, by rw [upd_ne ow.pl]; exact h1, by rw [eh]; exact o2⟩, ⟨_, upd_same, ?_⟩, ⟨xs ++ [(cKey c, cr, v)], by rw [upd_ne fun z => ow.lq z.symm]; exact upd_same, ?_⟩⟩
      · rw [eh]
        have : (keys (cs ++ [(c, sc)])).map dCase = (keys cs).map dCase ++ [dCase c] := by unfold keys; simp
        rw [this]
        exact l2.append (.cons dc .nil)
      · rw [eh]
        exact Paired.snoc q2 ⟨rfl, nv_case dc, dv⟩
/-! ### making a search -/
def SInitSp (P : Program) (w : World) (K : PySem.W.Frag) : Sp := fun vs H Q _ => ∃ (p b dx : Addr) (lamp : Str), vs = [.ref p, .ref b, .str lamp, .int 3000] ∧ H p = some (.ins (He.ga K "FlashSearch") dx []) ∧
  ∀ H1 l q, H l = none → H q = none → l ≠ q → (∀ a o, a ≠ p → H a = some o → H1 a = some o) → H1 p = some (.ins (He.ga K "FlashSearch") dx (sFs b lamp l q)) → H1 l = some (.lst []) → H1 q = some (NDO P w q []) → Q .non H1
theorem mk_FlashSearch (T : TX K mg) : C8.Mak P w K mg base 1 "FlashSearch" (He.ga K "FlashSearch") (SInitSp P w K) [] := by
  obtain ⟨fd, F⟩ := T.f_FlashSearchinit
  refine ⟨_, fd, ["self", "board", "lamp", "limit"], [], T.mk_FlashSearch, raw_ok F scope_FlashSearchinit (fun vs H Q E ⟨_, _, _, _, e, _⟩ => by rw [e]; rfl) (fun cdv A outer s H E hr => ?_), T.g_FlashSearch, F.bindsN fun _ _ _ _ _ _ us hl => match us, hl with | [_, _, _, _], _ => rfl, .nil⟩
  refine ⟨_, (pss_cons (psFld (K := K) (pv 0) (pv 1) rfl)
    (pss_cons (psFld (K := K) (pv 0) (pv 2) rfl)
    (pss_cons (psFld (K := K) (pv 0) (pv 3) rfl)
    (pss_cons (psFld (K := K) (pv 0) (pe_lst pa_nil) rfl)
    (pss_one (psFld (K := K) (pv 0) pe_nnew rfl)))))), fun vs H Q E ⟨p, b, dx, lamp, e, o, hQ⟩ => ?_⟩
  subst e
  refine ⟨_, rfl, _, rfl, p, _, dx, [], rfl, o, T.cl_FlashSearch, T.na_FlashSearch_board, (Nat.le_of_ble_eq_true rfl), ?_⟩
  refine ⟨_, rfl, _, rfl, p, _, dx, _, rfl, upd_same, T.cl_FlashSearch, T.na_FlashSearch_lamp, (Nat.le_of_ble_eq_true rfl), ?_⟩
  refine ⟨_, rfl, _, rfl, p, _, dx, _, rfl, upd_same, T.cl_FlashSearch, T.na_FlashSearch_limit, (Nat.le_of_ble_eq_true rfl), ?_⟩
  refine ⟨Nat.zero_le _, fun l hl => ?_⟩
  have hlp : l ≠ p := fun z => by subst z; rw [upd_same] at hl; cases hl
  refine ⟨_, rfl, p, _, dx, _, rfl, (by rw [upd_ne fun z => hlp z.symm]; exact upd_same), T.cl_FlashSearch, T.na_FlashSearch_cases, (Nat.le_of_ble_eq_true rfl), ?_⟩
  refine fun q hq => ?_
  have hqp : q ≠ p := fun z => by subst z; rw [upd_same] at hq; cases hq
  rw [upd_ne hqp] at hq
  have hql : q ≠ l := fun z => by subst z; rw [upd_same] at hq; cases hq
  rw [upd_ne hql, upd_ne hqp, upd_ne hqp, upd_ne hqp] at hq
  rw [upd_ne hlp, upd_ne hlp, upd_ne hlp] at hl
  refine ⟨_, rfl, p, _, dx, _, rfl, (by rw [upd_ne fun z => hqp z.symm]; exact upd_same), T.cl_FlashSearch, T.na_FlashSearch_sources, (Nat.le_of_ble_eq_true rfl), ?_⟩
  refine hQ _ l q hl hq (fun z => hql z.symm) (fun a o' ha ho => ?_) upd_same ?_ ?_
  · have hal : a ≠ l := ne_of_none ho hl
    have haq : a ≠ q := ne_of_none ho hq
    rw [upd_ne ha, upd_ne haq, upd_ne ha, upd_ne hal, upd_ne ha, upd_ne ha, upd_ne ha]; exact ho
  · rw [upd_ne hlp, upd_ne fun z => hql z.symm, upd_ne hlp]; exact upd_same
  · rw [upd_ne hqp]; exact upd_same
end
end K58
end
/-! W6 -/
section
set_option maxRecDepth 100000
set_option maxHeartbeats 2000000
namespace K58
open PySem PySem.Spec PyProof.Rows L2
/-! ### what the search makes -/
noncomputable def srch (B : BR) (lamp : Str) : Nat → Srs → Nat → Srs
  | 0, cs, _ => cs
  | f + 1, cs, at_ => match cs[at_]? with
    | none => cs
    | some e => srch B lamp f (notes e.1 cs (B.succ lamp e.1)) (at_ + 1)
noncomputable def searchC (B : BR) (lamp : Str) : Srs := srch B lamp 300 [(B.case0, none)] 0
structure SI (B : BR) (lamp : Str) (cs : Srs) (at_ m : Nat) : Prop where
  bi : ∃ d, BI (B.succ lamp) B.case0 cs at_ d
  ok : ∀ c ∈ keys cs, CaseOk B.movers.length c
  am : at_ + m = 300
  le : at_ ≤ cs.length
  eq : srch B lamp m cs at_ = searchC B lamp
theorem SI.nd {B : BR} {lamp : Str} {cs : Srs} {at_ m : Nat} (h : SI B lamp cs at_ m) : (keys cs).Nodup := h.bi.elim fun _ q => q.nd
theorem len_of {n : Nat} {cs : Srs} (hn : n ≤ 4) (nd : (keys cs).Nodup) (ok : ∀ c ∈ keys cs, CaseOk n c) : cs.length ≤ 256 := by
  have h1 := cases_le nd ok
  have h2 : 2 ^ n ≤ 2 ^ 4 := Nat.pow_le_pow_right (by decide) hn
  omega
theorem SI.start (B : BR) (lamp : Str) : SI B lamp [(B.case0, none)] 0 300 where
  bi := ⟨_, BI.start _ _⟩
  ok := fun c hc => by
    rw [show keys [((B.case0, none) : Case × Option (Case × (Bool × Str)))] = [B.case0] from rfl, List.mem_singleton] at hc
    subst hc; exact B.case0_ok
  am := rfl
  le := Nat.zero_le _
  eq := rfl
theorem notes_len {c : Case} : ∀ (es : List ((Bool × Str) × Case)) (cs : Srs), cs.length ≤ (notes c cs es).length
  | [], _ => Nat.le_refl _
  | e :: es, cs => Nat.le_trans (note_len cs e.2 (some (c, e.1))) (notes_len es _)
theorem notes_get {c : Case} {i : Nat} {x : Case × Option (Case × (Bool × Str))} : ∀ (es : List ((Bool × Str) × Case)) (cs : Srs), cs[i]? = some x → (notes c cs es)[i]? = some x
  | [], _, h => h
  | e :: es, cs, h => notes_get es _ (note_get h)
theorem SI.turn {B : BR} {lamp : Str} {cs : Srs} {at_ m : Nat} (h : SI B lamp cs at_ (m + 1)) {c : Case} {s : Option (Case × (Bool × Str))} (hs : cs[at_]? = some (c, s)) : SI B lamp (notes c cs (B.succ lamp c)) (at_ + 1) m where
  bi := h.bi.elim fun d q => q.turn hs
  ok := (notes_inv (B.succ lamp c) cs h.nd h.ok fun e he => B.succ_ok lamp (h.ok c (keys_get.mpr ⟨_, _, hs⟩)) he).2
  am := by have := h.am; omega
  le := by
    have h1 := (List.getElem?_eq_some_iff.mp hs).1
    have := notes_len (c := c) (B.succ lamp c) cs
    omega
  eq := by
    have e := h.eq
    rw [show srch B lamp (m + 1) cs at_ = (match cs[at_]? with | none => cs | some e => srch B lamp m (notes e.1 cs (B.succ lamp e.1)) (at_ + 1)) from rfl, hs] at e
    exact e
theorem srch_end {B : BR} {lamp : Str} {m : Nat} {cs : Srs} {at_ : Nat} (h : cs.length ≤ at_) : srch B lamp m cs at_ = cs := by
  cases m with
  | zero => rfl
  | succ m =>
    rw [show srch B lamp (m + 1) cs at_ = (match cs[at_]? with | none => cs | some e => srch B lamp m (notes e.1 cs (B.succ lamp e.1)) (at_ + 1)) from rfl, List.getElem?_eq_none_iff.mpr h]
theorem SI.end_ {B : BR} {lamp : Str} {cs : Srs} {at_ m : Nat} (h : SI B lamp cs at_ m) (e : cs.length ≤ at_) : cs = searchC B lamp ∧ ∃ d, BI (B.succ lamp) B.case0 cs cs.length d := by
  have h1 := h.eq
  rw [srch_end e] at h1
  have h2 := h.le
  have h3 : at_ = cs.length := by omega
  exact ⟨h1, h3 ▸ h.bi⟩
/-- by the plain search alone -/
theorem SI.all {B : BR} {lamp : Str} (hn : B.movers.length ≤ 4) : ∀ (m : Nat) (cs : Srs) (at_ : Nat), SI B lamp cs at_ m → (∃ d, BI (B.succ lamp) B.case0 (searchC B lamp) (searchC B lamp).length d) ∧ ∀ c ∈ keys (searchC B lamp), CaseOk B.movers.length c
  | m, cs, at_, h => by
    by_cases e : cs.length ≤ at_
    · obtain ⟨h1, h2⟩ := h.end_ e
      rw [← h1]
      exact ⟨h2, h.ok⟩
    · have hl := len_of hn h.nd h.ok
      have := h.am
      cases m with
      | zero => omega
      | succ m =>
        have hs : cs[at_]? = some (cs[at_]'(by omega)) := by simp
        exact SI.all hn m _ _ (h.turn (c := (cs[at_]'(by omega)).1) (s := (cs[at_]'(by omega)).2) hs)
theorem searchC_ok {B : BR} {lamp : Str} (hn : B.movers.length ≤ 4) : (∃ d, BI (B.succ lamp) B.case0 (searchC B lamp) (searchC B lamp).length d) ∧ ∀ c ∈ keys (searchC B lamp), CaseOk B.movers.length c := SI.all hn _ _ _ (SI.start B lamp)
section
variable {P : Program} {w : World} {K : PySem.W.Frag} {mg : Str → Option Value} {base : Heap} {p l q : Addr} {B : BR} {lamp : Str} {cs : Srs} {N : List Addr} {H H' : Hp}
/-! ### expressions that look at the search -/
abbrev SP2 := List Addr → Hp → Prop
def Eh (K : PySem.W.Frag) (S : SP2) (te : TE) (xs : Xs) (x : Ar) : Prop := ∀ (N : List Addr) (H : Hp) (σ : L2.St), Alive N H → S N H → Sl K N H σ xs → ∀ Q : VK, (∀ v H1, Same H H1 → ArR K N H1 v x → Q v H1) → te σ H Q
def Eha (K : PySem.W.Frag) (S : SP2) (ta : TA) (xs : Xs) (as : List Ar) : Prop := ∀ (N : List Addr) (H : Hp) (σ : L2.St), Alive N H → S N H → Sl K N H σ xs → ∀ Q : List V → Hp → Prop, (∀ vs H1, Same H H1 → ArRs K N H1 vs as → Q vs H1) → ta σ H Q
def Mon (S : SP2) : Prop := ∀ N H H', Same H H' → S N H → S N H'
theorem eh_ed {S : SP2} {te : TE} {xs : Xs} {x : Ar} (h : Ed K te xs x) : Eh K S te xs x := fun N H σ al _ sl Q q => h N H σ al sl Q q
theorem eha_nil {S : SP2} {xs : Xs} : Eha K S tNil xs [] := fun N H σ al _ sl Q q => q [] H (Same.refl H) .nil
theorem eha_cons {S : SP2} {te : TE} {tr : TA} {xs : Xs} {x : Ar} {as : List Ar} (hS : Mon S) (h : Eh K S te xs x) (hr : Eha K S tr xs as) : Eha K S (tCons te tr) xs (x :: as) := fun N H σ al s sl Q q =>
  h N H σ al s sl _ fun v H1 e1 h1 => hr N H1 σ (al.mono e1) (hS _ _ _ e1 s) (sl.mono e1) _ fun vs H2 e2 h2 => q _ H2 (e1.trans e2) (.cons (h1.mono e2) h2)
theorem eh_call {S : SP2} {R : List Ar → Ar → Prop} {E : XK} {ta : TA} {xs : Xs} {as : List Ar} {z : Ar} (h : Eha K S ta xs as) (r : R as z) : Eh K S (tCall (FS K R) [] E ta) xs z := fun N H σ al s sl Q q =>
  h N H σ al s sl _ fun vs H1 e1 h1 => ⟨N, as, z, al.mono e1, by rw [List.append_nil]; exact h1, r, fun v H2 e2 h2 => q v H2 (e1.trans e2) h2⟩
theorem eh_callI {S : SP2} {R : List Ar → Ar → Prop} {E : XK} {ta : TA} {xs : Xs} {as : List Ar} {z : Ar} {i : Int} (h : Eha K S ta xs as) (r : R (as ++ [.d (.int i)]) z) : Eh K S (tCall (FS K R) [.int i] E ta) xs z := fun N H σ al s sl Q q =>
  h N H σ al s sl _ fun vs H1 e1 h1 => ⟨N, _, z, al.mono e1, arrs_append h1 (bs := [.d (.int i)]) (.cons (show ArR K N H1 (.int i) (.d (.int i)) from Da.int i) .nil), r, fun v H2 e2 h2 => q v H2 (e1.trans e2) h2⟩
theorem eh_tup {S : SP2} {ta : TA} {xs : Xs} {ds : List PyData} (h : Eha K S ta xs (ds.map Ar.d)) (hl : ds.length ≤ 1000000) : Eh K S (tTup ta) xs (.d (.tuple ds)) := fun N H σ al s sl Q q =>
  h N H σ al s sl _ fun vs H1 e1 h1 => by
    have hd := das_of_arrs h1
    refine ⟨by rw [hd.len]; exact sz_of hl, fun p hp => q _ _ (e1.trans (same_new hp)) ?_⟩
    exact Da.tup (SqT.of (hid_new (al.mono e1) hp)) (hd.mono (hid_mono (same_new hp)))
def Eht (K : PySem.W.Frag) (S : SP2) (tt : TT) (xs : Xs) (b : Bool) : Prop := ∀ (N : List Addr) (H : Hp) (σ : L2.St), Alive N H → S N H → Sl K N H σ xs → ∀ Q : Bool → Hp → Prop, (∀ H1, Same H H1 → Q b H1) → tt σ H Q
theorem eht_test {S : SP2} {te : TE} {xs : Xs} {b : Bool} (h : Eh K S te xs (.d (.bool b))) : Eht K S (tTest te) xs b := fun N H σ al s sl Q q => h N H σ al s sl _ fun v H1 e1 h1 => ⟨b, da_bool h1, q H1 e1⟩
theorem eh_op {S : SP2} {r : R2} {ta tb : TE} {xs : Xs} {x y z : Ar} (hS : Mon S) (ha : Eh K S ta xs x) (hb : Eh K S tb xs y) (hr : Rv K r x y z) : Eh K S (tOp r ta tb) xs z := fun N H σ al s sl Q q =>
  ha N H σ al s sl _ fun v H1 e1 h1 => hb N H1 σ (al.mono e1) (hS _ _ _ e1 s) (sl.mono e1) _ fun w H2 e2 h2 => hr N H2 v w ((al.mono e1).mono e2) (h1.mono e2) h2 Q fun u H3 e3 h3 => q u H3 ((e1.trans e2).trans e3) h3
theorem eh_is {S : SP2} {te : TE} {xs : Xs} {x y : Ar} (h : Eh K S te xs x) (e : x = y) : Eh K S te xs y := e ▸ h
/-- the search at p -/
abbrev SeS (P : Program) (w : World) (K : PySem.W.Frag) (p l q : Addr) (B : BR) (lamp : Str) (cs : Srs) : SP2 := fun N H => SeAt P w K p l q B lamp cs N H
theorem mon_se : Mon (SeS P w K p l q B lamp cs) := fun _ _ _ e h => h.same e
theorem eh_board {xs : Xs} (T : TX K mg) (h0 : xs[0]? = some (some (.v (.ref p)))) : Eh K (SeS P w K p l q B lamp cs) (tFld K (tVar 0) "board") xs (.b B) := fun N H σ al s sl Q q2 => by
  obtain ⟨v, h1, h2⟩ := sl.at_ 0 _ h0
  obtain rfl : v = .ref p := h2
  obtain ⟨dx, b, o1, o2⟩ := s.o
  exact r_fld h1 o1 T.cl_FlashSearch T.na_FlashSearch_board sl_board (q2 _ H (Same.refl H) ⟨b, rfl, o2⟩)
theorem eh_lamp {xs : Xs} (T : TX K mg) (h0 : xs[0]? = some (some (.v (.ref p)))) : Eh K (SeS P w K p l q B lamp cs) (tFld K (tVar 0) "lamp") xs (.d (.str lamp)) := fun N H σ al s sl Q q2 => by
  obtain ⟨v, h1, h2⟩ := sl.at_ 0 _ h0
  obtain rfl : v = .ref p := h2
  obtain ⟨dx, b, o1, o2⟩ := s.o
  exact r_fld h1 o1 T.cl_FlashSearch T.na_FlashSearch_lamp sl_lamp (q2 _ H (Same.refl H) (Da.str _))
theorem keys_len (cs : Srs) : (keys cs).length = cs.length := List.length_map ..
theorem eh_len {xs : Xs} (T : TX K mg) (h0 : xs[0]? = some (some (.v (.ref p)))) : Eh K (SeS P w K p l q B lamp cs) (tCB (rLenK K) (tCons (tFld K (tVar 0) "cases") tNil)) xs (.d (.int (cs.length : Nat))) := fun N H σ al s sl Q q2 => by
  obtain ⟨v, h1, h2⟩ := sl.at_ 0 _ h0
  obtain rfl : v = .ref p := h2
  obtain ⟨dx, b, o1, o2⟩ := s.o
  obtain ⟨ws, l1, l2⟩ := s.l
  refine r_fld h1 o1 T.cl_FlashSearch T.na_FlashSearch_cases sl_cases ⟨l, ws, rfl, .inl (SqL.of l1), ?_⟩
  rw [l2.len, List.length_map, keys_len]
  exact q2 _ H (Same.refl H) (Da.int _)
theorem eh_at {xs : Xs} {te : TE} {i : Nat} {c : Case} {s : Option (Case × (Bool × Str))} (T : TX K mg) (h0 : xs[0]? = some (some (.v (.ref p)))) (hi : Ed K te xs (.d (.int (i : Nat)))) (hc : cs[i]? = some (c, s)) :
    Eh K (SeS P w K p l q B lamp cs) (tOp (rIxL K) (tFld K (tVar 0) "cases") te) xs (.d (dCase c)) := fun N H σ al s sl Q q2 => by
  obtain ⟨v, h1, h2⟩ := sl.at_ 0 _ h0
  obtain rfl : v = .ref p := h2
  obtain ⟨dx, b, o1, o2⟩ := s.o
  obtain ⟨ws, l1, l2⟩ := s.l
  refine r_fld h1 o1 T.cl_FlashSearch T.na_FlashSearch_cases sl_cases (hi N H σ al sl _ fun v H1 e1 r1 => ?_)
  have hk : ((keys cs).map dCase)[i]? = some (dCase c) := by
    unfold keys
    rw [List.getElem?_map, List.getElem?_map, hc]; rfl
  obtain ⟨u, h4, h5⟩ := atI_da (l2.mono (hid_mono e1)) (at_nat hk)
  exact ⟨l, ws, (i : Nat), u, rfl, da_int r1, SqL.of (e1 _ _ l1), h4, q2 u H1 e1 h5⟩
theorem Sl.of_eq {σ : L2.St} {xs : Xs} (e : hid N H' = hid N H) (hn : ∀ (i : Nat) (ds : List PyData), xs[i]? ≠ some (some (Ar.m ds))) (h : Sl K N H σ xs) : Sl K N H' σ xs := ⟨h.len, fun i x hx => by
  obtain ⟨v, h1, h2⟩ := h.at_ i x hx
  refine ⟨v, h1, ?_⟩
  cases x with
  | m ds => exact absurd hx (hn i ds)
  | d x => show Da K (hid N H') v x; rw [e]; exact h2
  | b B => obtain ⟨a, e1, e2⟩ := h2; exact ⟨a, e1, by rw [e]; exact e2⟩
  | k kvs => obtain ⟨a, e1, e2⟩ := h2; exact ⟨a, e1, by rw [e]; exact e2⟩
  | v x => exact h2
  | s vs => obtain ⟨a, e1, e2⟩ := h2; exact ⟨a, e1, by rw [e]; exact e2⟩
  | r S => obtain ⟨H0, e1, e2⟩ := h2; exact ⟨H0, e1, by rw [e]; exact e2⟩⟩
theorem Sl.forget {σ : L2.St} {xs ys : Xs} (hl : ys.length = xs.length) (hy : ∀ (i : Nat) (x : Ar), ys[i]? = some (some x) → xs[i]? = some (some x)) (h : Sl K N H σ xs) : Sl K N H σ ys := ⟨h.len.trans hl.symm, fun i x hx => h.at_ i x (hy i x hx)⟩
theorem hid_more (ow : Ow p l q N) (e : Same (hid [p, l, q] H) (hid [p, l, q] H')) : Same (hid N H) (hid N H') := fun a o h => by
  obtain ⟨h1, h2⟩ := hid_get h
  have h3 : a ∉ [p, l, q] := fun z => h1 (by
    rcases List.mem_cons.mp z with rfl | z
    · exact ow.mp
    rcases List.mem_cons.mp z with rfl | z
    · exact ow.ml
    rw [List.mem_singleton] at z; subst z; exact ow.mq)
  rw [hid_out h1]
  exact hid_le _ _ (e a o (by rw [hid_out h3]; exact h2))
theorem run_note {xs : Xs} {ta : TA} {E : XK} {D : Ends} {σ : L2.St} {c : Case} {s : Option (Case × (Bool × Str))} (al : Alive N H) (ow : Ow p l q N) (se : SeAt P w K p l q B lamp cs N H) (sl : Sl K N H σ xs) (h0 : xs[0]? = some (some (.v (.ref p))))
    (ha : Eha K (SeS P w K p l q B lamp cs) ta xs [.d (dCase c), .d (dSrc s)]) (nd : (keys cs).Nodup) (hl : cs.length < 3000) (hn : ∀ (i : Nat) (ds : List PyData), xs[i]? ≠ some (some (Ar.m ds)))
    (k : ∀ H1, Alive N H1 → SeAt P w K p l q B lamp (note cs c s) N H1 → Same (hid [p, l, q] H) (hid [p, l, q] H1) → Sl K N H1 σ xs → D.nx σ H1) : tDrop (tMeth (He.ga K "FlashSearch") "note" (NoteSp P w K) [] E (tVar 0) ta) D σ H := by
  obtain ⟨v, h1, h2⟩ := sl.at_ 0 _ h0
  obtain rfl : v = .ref p := h2
  obtain ⟨dx, b, o1, o2⟩ := id se.o
  refine ⟨.ref p, h1, p, dx, _, rfl, o1, rfl, ha N H σ al se sl _ fun vs H1 e1 r1 => ?_⟩
  cases r1 with
  | cons ra rr =>
  cases rr with
  | cons rb rr =>
  cases rr
  refine ⟨p, l, q, B, lamp, cs, N, c, s, _, _, rfl, al.mono e1, ow, se.same e1, ra, rb, nd, hl, fun H2 al2 se2 eh e3 => k H2 al2 se2 ((hid_mono e1).trans e3) ((sl.mono e1).of_eq eh hn)⟩
theorem st_seq {t u : TS} {D : Ends} {σ : L2.St} (h : t { D with nx := u D } σ H) : tSeq t u D σ H := h
theorem st_asg {te : TE} {g : TG} {D : Ends} {σ : L2.St} (h : te σ H fun x H1 => g x σ H1 D.nx) : tAsg te g D σ H := h
theorem st_if {c : TT} {t u : TS} {D : Ends} {σ : L2.St} (h : c σ H fun b H1 => if b = true then t D σ H1 else u D σ H1) : tIfS c t u D σ H := h
/-! ### find_all -/
def FindSp (P : Program) (w : World) (K : PySem.W.Frag) : Sp := fun vs H Q _ => ∃ (p l q : Addr) (B : BR) (lamp : Str) (N : List Addr),
  vs = [.ref p] ∧ Alive N H ∧ Ow p l q N ∧ SeAt P w K p l q B lamp [] N H ∧ WB B ∧
  ∀ H1, Alive N H1 → SeAt P w K p l q B lamp (searchC B lamp) N H1 → Same (hid [p, l, q] H) (hid [p, l, q] H1) → Q .non H1
theorem m_find_all (T : TX K mg) : C8.Met P w K mg base 11 (He.ga K "FlashSearch") "find_all" (FindSp P w K) [] := by
  obtain ⟨fd, F⟩ := T.f_FlashSearch_find_all
  have c_first_state := @c_first_state P w K mg base T
  have c_moves := @c_moves P w K mg base T
  have c_step := @c_step P w K mg base T
  have c_phase_behind := @c_phase_behind P w K mg base T
  have m_note := @m_note P w K mg base T
  refine ⟨_, fd, ["self"], [], T.cl_FlashSearch, T.me_find_all, raw_ok F scope_FlashSearch_find_all (fun vs H Q E ⟨_, _, _, _, _, _, e, _⟩ => by rw [e]; rfl) (fun cdv A outer s H E hr => ?_), F.bindsN fun _ _ _ _ _ _ us hl => match us, hl with | [_], _ => rfl, .nil⟩
  refine ⟨_, (pss_cons (ps_expr (C8.pe_mt m_note hr (by decide) (pv 0) (pa_cons (pe_tup (pa_cons (C8.pe_c c_first_state hr (by decide) rfl (pa_cons (peFld (K := K) (pv 0)) pa_nil)) (pa_cons (pe_tup (pa_cons (C8.pe_gc rfl T.k_WAITING) (pa_cons pe_bl pa_nil))) pa_nil))) (pa_cons pe_non pa_nil))))
    (pss_cons (ps_set (i := 1) scope_FlashSearch_find_all.nd rfl (Or.inl rfl) pe_int)
    (pss_one (ps_while PassesOwn.never (pt_cmpR op_lt (pv 1) (pe_callB (cLen (K := K)) (by rfl) T.z_len PySem.boot_len (pa_cons (peFld (K := K) (pv 0)) pa_nil)) (nomark _))
      (pss_cons (ps_asg (pe_ix (ixL (K := K)) (peFld (K := K) (pv 0)) (pv 1) (fun _ _ => rfl)) (pgTup (K := K) (n := 2) (by rfl) (pgs_cons (pg_name (i := 2) scope_FlashSearch_find_all.nd rfl (Or.inl rfl)) (pgs_cons (pg_name (i := 3) scope_FlashSearch_find_all.nd rfl (Or.inl rfl)) pgs_nil))))
    (pss_cons (ps_if (pt_cmpR op_ne (pe_ix (ixT (K := K)) (pv 3) pe_int (fun _ _ => rfl)) (C8.pe_gc rfl T.k_FLASHED) (nomark _))
      (pss_one (ps_for PassesOwn.never rfl (piList (K := K) (C8.pe_c c_moves hr (by decide) rfl (pa_cons (peFld (K := K) (pv 0)) (pa_cons (pv 2) pa_nil)))) (pg_name (i := 4) scope_FlashSearch_find_all.nd rfl (Or.inl rfl))
      (pss_cons (ps_set (i := 5) scope_FlashSearch_find_all.nd rfl (Or.inl rfl) (C8.pe_c c_step hr (by decide) rfl (pa_cons (peFld (K := K) (pv 0)) (pa_cons (pv 2) (pa_cons (pv 4) pa_nil)))))
    (pss_cons (ps_set (i := 6) scope_FlashSearch_find_all.nd rfl (Or.inl rfl) (C8.pe_c c_phase_behind hr (by decide) rfl (pa_cons (peFld (K := K) (pv 0)) (pa_cons (peFld (K := K) (pv 0)) (pa_cons (pv 2) (pa_cons (pv 3) (pa_cons (pv 4) (pa_cons (pv 5) pa_nil))))))))
    (pss_one (ps_expr (C8.pe_mt m_note hr (by decide) (pv 0) (pa_cons (pe_tup (pa_cons (pv 5) (pa_cons (pv 6) pa_nil))) (pa_cons (pe_tup (pa_cons (pe_ix (ixL (K := K)) (peFld (K := K) (pv 0)) (pv 1) (fun _ _ => rfl)) (pa_cons (pv 4) pa_nil))) pa_nil)))))))))
      pss_nil)
    (pss_one (ps_aug (i := 1) scope_FlashSearch_find_all.nd rfl (Or.inl rfl) pe_int ip_add)))))))), fun vs H Q E ⟨p, l, q, B, lamp, N, e, al, ow, se, hB, hQ⟩ => ?_⟩
  subst e
  have hn := hB.zm
  have hnm : ∀ {a b c d e f : Option Ar}, (∀ ds, a ≠ some (.m ds)) → (∀ ds, b ≠ some (.m ds)) → (∀ ds, c ≠ some (.m ds)) → (∀ ds, d ≠ some (.m ds)) → (∀ ds, e ≠ some (.m ds)) → (∀ ds, f ≠ some (.m ds)) →
      ∀ (i : Nat) (ds : List PyData), [some (.v (.ref p)), a, b, c, d, e, f][i]? ≠ some (some (Ar.m ds)) := by
    intro a b c d e f ha hb hc hd he hf i ds
    rcases i with _ | _ | _ | _ | _ | _ | _ | i
    · intro z; cases z
    · intro z; exact ha ds (Option.some.inj z)
    · intro z; exact hb ds (Option.some.inj z)
    · intro z; exact hc ds (Option.some.inj z)
    · intro z; exact hd ds (Option.some.inj z)
    · intro z; exact he ds (Option.some.inj z)
    · intro z; exact hf ds (Option.some.inj z)
    · intro z; simp at z
  have dn : ∀ {x : PyData} (ds : List PyData), (some (Ar.d x)) ≠ some (.m ds) := fun ds z => by cases z
  have nn : ∀ (ds : List PyData), (none : Option Ar) ≠ some (.m ds) := fun ds z => by cases z
  have sl0 : Sl K N H (L2.start nm_FlashSearch_find_all [.ref p]) [some (.v (.ref p)), none, none, none, none, none, none] := ⟨rfl, fun i x hx => by
    rcases i with _ | _ | _ | _ | _ | _ | _ | i
    · cases hx; exact ⟨_, rfl, rfl⟩
    · cases hx
    · cases hx
    · cases hx
    · cases hx
    · cases hx
    · cases hx
    · simp at hx⟩
  have mon : ∀ {cs : Srs}, Mon (SeS P w K p l q B lamp cs) := mon_se
  refine run_note (c := B.case0) (s := none) al ow se sl0 rfl (eha_cons mon (eh_is (eh_tup (ds := [_, _]) (eha_cons mon (eh_call (eha_cons mon (eh_board T rfl) eha_nil) (.mk B hB)) (eha_cons mon (eh_ed (ed_tup (ds := [_, _]) (ea_cons (ed_c rfl) (ea_cons (ed_c rfl) ea_nil)) (Nat.le_of_ble_eq_true rfl))) eha_nil)) (Nat.le_of_ble_eq_true rfl)) rfl) (eha_cons mon (eh_ed (ed_c rfl)) eha_nil)) List.nodup_nil (by decide) (hnm nn nn nn nn nn nn) (fun H1 al1 se1 e1 sl1 => ?_)
  dsimp only
  refine st_seq (st_asg ?_)
  refine (ed_c rfl : Ed K (tC (.int 0)) [some (.v (.ref p)), none, none, none, none, none, none] (.d (.int (0 : Nat)))) N H1 _ al1 sl1 _ fun v H2 e2 r2 => ?_
  refine gd_name.run N H2 _ v (sl1.mono e2) r2 _ fun σ2 sl2 _ => ?_
  refine ⟨fun m σ' H' => ∃ (cs : Srs) (at_ : Nat), SI B lamp cs at_ m ∧ Alive N H' ∧ SeAt P w K p l q B lamp cs N H' ∧ Same (hid [p, l, q] H) (hid [p, l, q] H') ∧ Sl K N H' σ' [some (.v (.ref p)), some (.d (.int (at_ : Nat))), none, none, none, none, none],
    ⟨300, [(B.case0, none)], 0, SI.start B lamp, al1.mono e2, se1.same e2, e1.trans (hid_mono e2), sl2⟩, fun m σ' H' ⟨cs, at_, si, al', se', eH, sl'⟩ => ?_⟩
  have hlen := len_of hn si.nd si.ok
  refine (eht_test (eh_op mon (eh_ed (ed_var rfl)) (eh_len T rfl) (rv_i0 rfl)) : Eht K (SeS P w K p l q B lamp cs) _ [some (.v (.ref p)), some (.d (.int (at_ : Nat))), none, none, none, none, none] (decide (((at_ : Nat) : Int) < ((cs.length : Nat) : Int)))) N H' σ' al' se' sl' _ fun H4 e34 => ?_
  have al4 := al'.mono e34
  have se4 := se'.same e34
  have sl4 := sl'.mono e34
  by_cases hat : at_ < cs.length
  · rw [decide_eq_true (show ((at_ : Nat) : Int) < ((cs.length : Nat) : Int) by omega)]
    show (if true = true then _ else _ : Prop)
    rw [if_pos rfl]
    have ham := si.am
    cases m with
    | zero => omega
    | succ m =>
    have hs : cs[at_]? = some (cs[at_].1, cs[at_].2) := by simp [hat]
    refine ⟨fun σ5 H5 => ∃ (cs' : Srs), SI B lamp cs' (at_ + 1) m ∧ Alive N H5 ∧ SeAt P w K p l q B lamp cs' N H5 ∧ Same (hid [p, l, q] H) (hid [p, l, q] H5) ∧ Sl K N H5 σ5 [some (.v (.ref p)), some (.d (.int ((at_ + 1 : Nat) : Int))), none, none, none, none, none],
      fun σ5 H5 ⟨cs', a1, a2, a3, a4, a5⟩ => ⟨m, Nat.lt_succ_self _, cs', at_ + 1, a1, a2, a3, a4, a5⟩, ?_⟩
    generalize hcc : cs[at_].1 = c at hs
    generalize cs[at_].2 = s at hs
    refine st_seq (st_asg ?_)
    refine (eh_at T rfl (ed_var rfl) hs : Eh K (SeS P w K p l q B lamp cs) _ [some (.v (.ref p)), some (.d (.int (at_ : Nat))), none, none, none, none, none] _) N H4 σ' al4 se4 sl4 _ fun v5 H5 e5 r5 => ?_
    refine (gd_tup (gds_cons gd_name (gds_cons gd_name gds_nil)) rfl : Gd K _ [some (.v (.ref p)), some (.d (.int (at_ : Nat))), none, none, none, none, none] (dCase c) [2, 3] [some (.v (.ref p)), some (.d (.int (at_ : Nat))), some (.d (dState c.1)), some (.d (dPhase c.2)), none, none, none]).run N H5 σ' v5 (sl4.mono e5) r5 _ fun σ6 sl6 _ => ?_
    have al5 := al4.mono e5
    have se5 := se4.same e5
    have eH5 : Same (hid [p, l, q] H) (hid [p, l, q] H5) := eH.trans (hid_mono (e34.trans e5))
    have hck : CaseOk B.movers.length c := si.ok c (keys_get.mpr ⟨_, _, hs⟩)
    -- at += 1
    have last : ∀ (σ7 : L2.St) (H7 : Hp) (cs' : Srs) (o2 o3 : Option Ar), SI B lamp cs' (at_ + 1) m → Alive N H7 → SeAt P w K p l q B lamp cs' N H7 → Same (hid [p, l, q] H) (hid [p, l, q] H7) → Sl K N H7 σ7 [some (.v (.ref p)), some (.d (.int (at_ : Nat))), o2, o3, none, none, none] →
        tAug 1 (tC (.int 1)) (ipI fun i j => i + j) { nx := fun σ5 H5 => ∃ (cs' : Srs), SI B lamp cs' (at_ + 1) m ∧ Alive N H5 ∧ SeAt P w K p l q B lamp cs' N H5 ∧ Same (hid [p, l, q] H) (hid [p, l, q] H5) ∧ Sl K N H5 σ5 [some (.v (.ref p)), some (.d (.int ((at_ + 1 : Nat) : Int))), none, none, none, none, none], rt := Q } σ7 H7 := by
      intro σ7 H7 cs' o2 o3 b1 b2 b3 b4 b5
      obtain ⟨v8, h8, r8⟩ := b5.at_ 1 _ rfl
      rw [da_int r8] at h8
      refine ⟨_, h8, _, _, rfl, rfl, cs', b1, b2, b3, b4, ?_⟩
      have b6 := b5.set 1 (v := .int ((at_ : Nat) + 1)) (x := .d (.int ((at_ : Nat) + 1))) (Da.int _)
      refine b6.forget (by rfl) fun i x hx => ?_
      rcases i with _ | _ | _ | _ | _ | _ | _ | i
      · exact hx
      · exact hx
      · cases hx
      · cases hx
      · cases hx
      · cases hx
      · cases hx
      · simp at hx
    dsimp only
    refine st_seq (st_if ?_)
    refine (et_test (ed_op (ed_op (ed_var rfl) (ed_c rfl) (rv_ixT (at0 rfl))) (ed_c rfl) rv_neI) : Et K _ [some (.v (.ref p)), some (.d (.int (at_ : Nat))), some (.d (dState c.1)), some (.d (dPhase c.2)), none, none, none] (!decide (c.2.1 = 3))) N H5 σ6 al5 sl6 _ fun H6 e6 => ?_
    have al6 := al5.mono e6
    have se6 := se5.same e6
    have sl66 := sl6.mono e6
    have eH6 : Same (hid [p, l, q] H) (hid [p, l, q] H6) := eH5.trans (hid_mono e6)
    have si' := si.turn hs
    by_cases h3 : c.2.1 = 3
    · rw [decide_eq_true h3]
      show (if false = true then _ else _ : Prop)
      rw [if_neg (by decide)]
      rw [show notes c cs (B.succ lamp c) = cs by unfold Brd.succ; rw [if_pos h3]; rfl] at si'
      exact last σ6 H6 cs _ _ si' al6 se6 eH6 sl66
    · rw [decide_eq_false h3]
      show (if true = true then _ else _ : Prop)
      rw [if_pos rfl]
      let f : Bool × Str → (Bool × Str) × Case := fun m => (m, (B.step c.1 m.2, B.phase lamp c.1 c.2 m (B.step c.1 m.2)))
      have hsucc : B.succ lamp c = (B.moves c.1).map f := by unfold Brd.succ; rw [if_neg h3]
      have mlen := moves_len hB c.1
      have ml : ((B.moves c.1).map dMove).length = (B.moves c.1).length := List.length_map ..
      refine eh_callI (eha_cons mon (eh_board T rfl) (eha_cons mon (eh_ed (ed_var rfl)) eha_nil)) (.mk B hB c.1 hck.1) N H6 σ6 al6 se6 sl66 _ fun v7 H7 e7 r7 => ?_
      have al7 := al6.mono e7
      have se7 := se6.same e7
      have eH7 : Same (hid [p, l, q] H) (hid [p, l, q] H7) := eH6.trans (hid_mono e7)
      obtain ⟨la, rfl, ws, hw1, hw2⟩ : ∃ a, v7 = .ref a ∧ ∃ ws, hid N H7 a = some (.lst ws) ∧ Das K (hid N H7) ws ((B.moves c.1).map dMove) := by
        cases r7 with
        | lst h1 h2 => exact ⟨_, rfl, _, h1, h2⟩
      have hwl : ws.length = (B.moves c.1).length := by rw [hw2.len, ml]
      refine ⟨la, rfl, ⟨ws, SqL.of (hid_le _ _ hw1)⟩, ?_⟩
      refine ⟨fun i m σ8 H8 => m = (B.moves c.1).length - i ∧ i ≤ (B.moves c.1).length ∧ ∃ cs', cs' = notes c cs (((B.moves c.1).take i).map f) ∧ Alive N H8 ∧ SeAt P w K p l q B lamp cs' N H8 ∧ Same (hid [p, l, q] H7) (hid [p, l, q] H8) ∧
        Sl K N H8 σ8 [some (.v (.ref p)), some (.d (.int (at_ : Nat))), some (.d (dState c.1)), some (.d (dPhase c.2)), none, none, none], ⟨_, rfl, Nat.zero_le _, cs, rfl, al7, se7, Same.refl _, sl66.mono e7⟩, fun i m2 σ8 H8 ⟨hm2, hile, cs', hcs', al8, se8, eH8, sl8⟩ => ?_⟩
      have hw8 : H8 la = some (.lst ws) := hid_le _ _ (hid_more ow eH8 _ _ hw1)
      have hd8 : Das K (hid N H8) ws ((B.moves c.1).map dMove) := hw2.mono (hid_more ow eH8)
      by_cases hi : i < (B.moves c.1).length
      · refine .inr ⟨⟨ws, ws[i]'(by omega), SqL.of hw8, by simp [hwl, hi]⟩, fun σ9 H9 => i + 1 ≤ (B.moves c.1).length ∧ ∃ cs', cs' = notes c cs (((B.moves c.1).take (i + 1)).map f) ∧ Alive N H9 ∧ SeAt P w K p l q B lamp cs' N H9 ∧ Same (hid [p, l, q] H7) (hid [p, l, q] H9) ∧
          Sl K N H9 σ9 [some (.v (.ref p)), some (.d (.int (at_ : Nat))), some (.d (dState c.1)), some (.d (dPhase c.2)), none, none, none], fun σ9 H9 ⟨a1, a2⟩ => ⟨_, by omega, rfl, a1, a2⟩, fun v9 H9 hy => ?_⟩
        obtain ⟨rfl, hy⟩ := hy
        have hx := hy ws (SqL.of hw8)
        obtain ⟨d9, hd9, hv9⟩ := hd8.getV hx
        obtain ⟨mv, hmv, rfl⟩ := map_get hd9
        have hmm : mv ∈ B.moves c.1 := List.mem_of_getElem? hmv
        have hms := moves_sub hmm
        have hfm : f mv ∈ B.succ lamp c := by rw [hsucc]; exact List.mem_map.mpr ⟨mv, hmm, rfl⟩
        have nk := notes_inv (c := c) (n := B.movers.length) (((B.moves c.1).take i).map f) cs si.nd si.ok (fun e he => B.succ_ok lamp hck (by
          obtain ⟨m', h1, rfl⟩ := List.mem_map.mp he
          rw [hsucc]; exact List.mem_map.mpr ⟨m', List.mem_of_mem_take h1, rfl⟩))
        rw [← hcs'] at nk
        have nlen := len_of hn nk.1 nk.2
        have hs' : cs'[at_]? = some (c, s) := by rw [hcs']; exact notes_get _ _ hs
        refine gd_name.run N H9 σ8 v9 sl8 hv9 _ fun σ10 sl10 _ => ?_
        refine st_seq (st_asg ?_)
        have stl : (B.step c.1 mv.2).1.length = B.movers.length := (B.step_len c.1 mv.2).trans hck.1
        refine eh_call (as := [.b B, .d (dState c.1), .d (dMove mv)]) (eha_cons mon (eh_board T rfl) (eha_cons mon (eh_ed (ed_var rfl)) (eha_cons mon (eh_ed (ed_var rfl)) eha_nil))) (.mk B hB c.1 hck.1 mv hms) N H9 σ10 al8 se8 sl10 _ fun v11 H11 e11 r11 => ?_
        have al11 := al8.mono e11
        have se11 := se8.same e11
        refine gd_name.run N H11 σ10 v11 (sl10.mono e11) r11 _ fun σ12 sl12 _ => ?_
        dsimp only
        refine st_seq (st_asg ?_)
        refine eh_call (as := [.b B, .d (.str lamp), .d (dState c.1), .d (dPhase c.2), .d (dMove mv), .d (dState (B.step c.1 mv.2))]) (eha_cons mon (eh_board T rfl) (eha_cons mon (eh_lamp T rfl) (eha_cons mon (eh_ed (ed_var rfl)) (eha_cons mon (eh_ed (ed_var rfl)) (eha_cons mon (eh_ed (ed_var rfl)) (eha_cons mon (eh_ed (ed_var rfl)) eha_nil)))))) (.mk B hB lamp c.1 hck.1 c.2 mv _ stl) N H11 σ12 al11 se11 sl12 _ fun v13 H13 e13 r13 => ?_
        have al13 := al11.mono e13
        have se13 := se11.same e13
        refine gd_name.run N H13 σ12 v13 (sl12.mono e13) r13 _ fun σ14 sl14 _ => ?_
        dsimp only
        refine run_note (c := (f mv).2) (s := some (c, mv)) al13 ow se13 sl14 rfl (eha_cons mon (eh_tup (ds := [_, _]) (eha_cons mon (eh_ed (ed_var rfl)) (eha_cons mon (eh_ed (ed_var rfl)) eha_nil)) (Nat.le_of_ble_eq_true rfl))
          (eha_cons mon (eh_tup (ds := [_, _]) (eha_cons mon (eh_at T rfl (ed_var rfl) hs') (eha_cons mon (eh_ed (ed_var rfl)) eha_nil)) (Nat.le_of_ble_eq_true rfl)) eha_nil)) nk.1 (by omega) (hnm dn dn dn dn dn dn) (fun H15 al15 se15 e15 sl15 => ?_)
        refine ⟨hi, _, ?_, al15, se15, eH8.trans (((hid_mono e11).trans (hid_mono e13)).trans e15), ?_⟩
        · rw [take_snoc hmv, List.map_append, List.map_cons, List.map_nil, notes_snoc, ← hcs']
        · refine sl15.forget (by rfl) fun i x hx => ?_
          rcases i with _ | _ | _ | _ | _ | _ | _ | i
          · exact hx
          · exact hx
          · exact hx
          · exact hx
          · cases hx
          · cases hx
          · cases hx
          · simp at hx
      · have ei : i = (B.moves c.1).length := by omega
        refine .inl ⟨⟨ws, SqL.of hw8, by omega⟩, ?_⟩
        rw [ei, List.take_length] at hcs'
        rw [hsucc] at si'
        rw [← hcs'] at si'
        exact last σ8 H8 cs' _ _ si' al8 se8 (eH7.trans eH8) sl8
  · rw [decide_eq_false (show ¬ ((at_ : Nat) : Int) < ((cs.length : Nat) : Int) by omega)]
    show (if false = true then _ else _ : Prop)
    rw [if_neg (by decide)]
    have hend := (si.end_ (by omega)).1
    rw [hend] at se4
    exact hQ H4 al4 se4 (eH.trans (hid_mono e34))
end
end K58
end
/-! W7 -/
section
set_option maxRecDepth 100000
set_option maxHeartbeats 2000000
namespace K58
open PySem PySem.Spec PyProof.Rows L2
/-! ### a Flash -/
def flaD (l : Str) (ms : List PyData) (h : Int) : PyData := .dict [(.str "lamp", .str l), (.str "play", .list ms), (.str "hand", .int h)]
section
variable {P : Program} {w : World} {K : PySem.W.Frag} {mg : Str → Option Value} {base : Heap} {p l q : Addr} {B : BR} {lamp : Str} {cs : Srs} {N : List Addr} {H H' : Hp} {xs : Xs}
def FlaSp (K : PySem.W.Frag) : Sp := fun vs H Q _ => ∃ (p r dx : Addr) (lamp : Str) (h : Int) (ws : List V), vs = [.ref p, .str lamp, .ref r, .int h] ∧ H p = some (.ins (He.ga K "Flash") dx []) ∧ (SqL K H r ws ∨ SqT K H r ws) ∧ r ≠ p ∧
  ∀ H1 l, H l = none → (∀ a o, a ≠ p → H a = some o → H1 a = some o) → H1 p = some (.ins (He.ga K "Flash") dx [("lamp", .str lamp), ("play", .ref l), ("hand", .int h)]) → H1 l = some (.lst ws) → Q .non H1
theorem sq_upd {a p : Addr} {o : HO} {ws : List V} (ne : a ≠ p) (h : SqL K H a ws ∨ SqT K H a ws) : SqL K (upd H p o) a ws ∨ SqT K (upd H p o) a ws := by
  rcases h with (h | h) | (h | h)
  · refine .inl (.inl ?_)
    rcases h with h | ⟨o', h⟩
    · exact .inl (by rw [upd_ne ne]; exact h)
    · exact .inr ⟨o', by rw [upd_ne ne]; exact h⟩
  · exact .inl (.inr h)
  · refine .inr (.inl ?_)
    rcases h with h | ⟨o', h⟩
    · exact .inl (by rw [upd_ne ne]; exact h)
    · exact .inr ⟨o', by rw [upd_ne ne]; exact h⟩
  · exact .inr (.inr h)
theorem mk_Flash (T : TX K mg) : C8.Mak P w K mg base 1 "Flash" (He.ga K "Flash") (FlaSp K) [] := by
  obtain ⟨fd, F⟩ := T.f_Flashinit
  refine ⟨_, fd, ["self", "lamp", "play", "hand"], [], T.mk_Flash, raw_ok F scope_Flashinit (fun vs H Q E ⟨_, _, _, _, _, _, e, _⟩ => by rw [e]; rfl) (fun cdv A outer s H E hr => ?_), T.g_Flash, F.bindsN fun _ _ _ _ _ _ us hl => match us, hl with | [_, _, _, _], _ => rfl, .nil⟩
  refine ⟨_, (pss_cons (psFld (K := K) (pv 0) (pv 1) rfl)
    (pss_cons (psFld (K := K) (pv 0) (pe_callTy (cList (K := K)) (by rfl) T.z_list boot_list (pa_cons (pv 2) pa_nil)) rfl)
    (pss_one (psFld (K := K) (pv 0) (pv 3) rfl)))), fun vs H Q E ⟨p, r, dx, lamp, h, ws, e, o, hs, hrp, hQ⟩ => ?_⟩
  subst e
  refine ⟨_, rfl, _, rfl, p, _, dx, [], rfl, o, T.cl_Flash, T.na_Flash_lamp, (Nat.le_of_ble_eq_true rfl), ?_⟩
  refine ⟨_, rfl, r, ws, rfl, sq_upd hrp hs, fun l hl => ?_⟩
  have hlp : l ≠ p := fun z => by subst z; rw [upd_same] at hl; cases hl
  refine ⟨_, rfl, p, _, dx, _, rfl, (by rw [upd_ne fun z => hlp z.symm]; exact upd_same), T.cl_Flash, T.na_Flash_play, (Nat.le_of_ble_eq_true rfl), ?_⟩
  refine ⟨_, rfl, _, rfl, p, _, dx, _, rfl, upd_same, T.cl_Flash, T.na_Flash_hand, (Nat.le_of_ble_eq_true rfl), ?_⟩
  rw [upd_ne hlp] at hl
  refine hQ _ l hl (fun a o' ha ho => ?_) upd_same ?_
  · have hal : a ≠ l := ne_of_none ho hl
    rw [upd_ne ha, upd_ne ha, upd_ne hal, upd_ne ha]; exact ho
  · rw [upd_ne hlp, upd_ne hlp]; exact upd_same
theorem ed_mkFlash {ta tb tc : TE} {E : XK} {y : Ar} {l : Str} {ms : List PyData} {h : Int} (T : TX K mg) (h1 : Ed K ta xs (.d (.str l))) (h2 : Ed K tb xs y) (hq : Lst1 y ms) (h3 : Ed K tc xs (.d (.int h))) :
    Ed K (tMake (He.ga K "Flash") (FlaSp K) [] E (tCons ta (tCons tb (tCons tc tNil)))) xs (.d (flaD l ms h)) := fun N H σ al sl Q q =>
  h1 N H σ al sl _ fun v1 H1 e1 r1 => h2 N H1 σ (al.mono e1) (sl.mono e1) _ fun v2 H2 e2 r2 => h3 N H2 σ ((al.mono e1).mono e2) ((sl.mono e1).mono e2) _ fun v3 H3 e3 r3 => by
    intro x dx hx hdx hne
    have r23 := r2.mono e3
    obtain ⟨r, ws, rfl, s1, s2⟩ := hq.at_ r23
    rw [da_str r1, da_int r3]
    have al3 := ((al.mono e1).mono e2).mono e3
    have hex : ∀ a o, H3 a = some o → upd (upd H3 dx (.own x)) x (.ins (He.ga K "Flash") dx []) a = some o := fun a o ho => by
      rw [upd_ne (ne_of_none ho hx), upd_ne (ne_of_none ho hdx)]; exact ho
    refine ⟨x, r, dx, l, h, ws, rfl, upd_same, .inl (SqL.of (hex _ _ s1)), ne_of_none s1 hx, fun H4 l' hl' hk hp hlst => ?_⟩
    have e34 : Same H3 H4 := fun a o ho => hk a o (ne_of_none ho hx) (hex a o ho)
    have hl3 : H3 l' = none := by
      cases hq2 : H3 l' with
      | none => rfl
      | some o => rw [hex _ _ hq2] at hl'; cases hl'
    refine ⟨rfl, q _ _ ((e1.trans e2).trans (e3.trans e34)) (Da.fla (vp := .ref l') (ms := ms) (dx := dx) ?_ (Da.lst ?_ (s2.mono (hid_mono e34))))⟩
    · rw [hid_out (al3.nin hx)]; exact hp
    · rw [hid_out (al3.nin hl3)]; exact hlst
/-! ### the search, read only -/
def SeV (P : Program) (w : World) (K : PySem.W.Frag) (B : BR) (lamp : Str) (cs : Srs) : Hp → V → Prop := fun H v => ∃ p l q, v = .ref p ∧ SeAt P w K p l q B lamp cs [] H
theorem hid_nil (H : Hp) : hid [] H = H := by funext a; exact hid_out (by simp)
theorem se_vis {Hx : Hp} (h : SeAt P w K p l q B lamp cs [] Hx) (e : Same Hx (hid N H)) : ∃ dx b vs ns, H p = some (.ins (He.ga K "FlashSearch") dx (sFs b lamp l q)) ∧ hid N H l = some (.lst vs) ∧ Das K (hid N H) vs ((keys cs).map dCase) ∧ H q = some (NDO P w q ns) ∧ Es K (hid N H) ns cs := by
  obtain ⟨⟨dx, b, o1, o2⟩, ⟨vs, l1, l2⟩, ⟨ns, q1, q2⟩⟩ := h
  rw [hid_nil] at l2 q2
  exact ⟨dx, b, vs, ns, hid_le _ _ (e _ _ o1), e _ _ l1, l2.mono e, hid_le _ _ (e _ _ q1), q2.mono e⟩
theorem ed_vlamp {i : Nat} (T : TX K mg) (h : xs[i]? = some (some (.r (SeV P w K B lamp cs)))) : Ed K (tFld K (tVar i) "lamp") xs (.d (.str lamp)) := fun N H σ al sl Q q2 => by
  obtain ⟨v, h1, Hx, ⟨p, l, q, rfl, se⟩, e⟩ := sl.at_ i _ h
  obtain ⟨dx, b, vs, ns, o1, _⟩ := se_vis se e
  exact r_fld h1 o1 T.cl_FlashSearch T.na_FlashSearch_lamp sl_lamp (q2 _ H (Same.refl H) (Da.str _))
theorem ed_vcases {i : Nat} (T : TX K mg) (h : xs[i]? = some (some (.r (SeV P w K B lamp cs)))) : Ed K (tFld K (tVar i) "cases") xs (.d (.list ((keys cs).map dCase))) := fun N H σ al sl Q q2 => by
  obtain ⟨v, h1, Hx, ⟨p, l, q, rfl, se⟩, e⟩ := sl.at_ i _ h
  obtain ⟨dx, b, vs, ns, o1, l1, l2, _⟩ := se_vis se e
  exact r_fld h1 o1 T.cl_FlashSearch T.na_FlashSearch_cases sl_cases (q2 _ H (Same.refl H) (Da.lst l1 l2))
theorem ed_vget {i : Nat} {te : TE} {c : Case} {s : Option (Case × (Bool × Str))} (T : TX K mg) (h : xs[i]? = some (some (.r (SeV P w K B lamp cs)))) (nd : (keys cs).Nodup) (hc : (c, s) ∈ cs) (hk : Ed K te xs (.d (dCase c))) :
    Ed K (tNGet P w K (tFld K (tVar i) "sources") te) xs (.d (dSrc s)) := fun N H σ al sl Q q2 => by
  obtain ⟨v, h1, Hx, ⟨p, l, q, rfl, se⟩, e⟩ := sl.at_ i _ h
  obtain ⟨dx, b, vs, ns, o1, l1, l2, q1, es⟩ := se_vis se e
  refine r_fld h1 o1 T.cl_FlashSearch T.na_FlashSearch_sources sl_sources (hk N H σ al sl _ fun y H1 e1 r1 => ?_)
  have es1 := es.mono (hid_mono e1)
  obtain ⟨u, z1, z2⟩ := es1.look nd hc
  have r1' : Da K (hid N H1) y (dCase c) := r1
  have nv := nv_case (r1'.mono (hid_le (N := N)))
  obtain ⟨cr, rfl⟩ : ∃ a, y = .ref a := by cases r1; exact ⟨_, rfl⟩
  exact ⟨q, cr, cKey c, ns, u, rfl, rfl, ⟨e1 _ _ q1, (es1.mono (hid_le (N := N))).key⟩, nv, cKey_depth c, z1, q2 u H1 e1 z2⟩
theorem ed_vmeth {i : Nat} {R : List Ar → Ar → Prop} {E : XK} {m : Str} {ta : TA} {as : List Ar} {z : Ar} (h : xs[i]? = some (some (.r (SeV P w K B lamp cs)))) (hm : ∀ b l q, (sFs b lamp l q).lookup m = none) (ha : Ea K ta xs as) (r : R (.r (SeV P w K B lamp cs) :: as) z) :
    Ed K (tMeth (He.ga K "FlashSearch") m (FS K R) [] E (tVar i) ta) xs z := fun N H σ al sl Q q2 => by
  obtain ⟨v, h1, rr⟩ := sl.at_ i _ h
  obtain ⟨Hx, ⟨p, l, q, rfl, se⟩, e⟩ := id rr
  obtain ⟨dx, b, vs, ns, o1, _⟩ := se_vis se e
  refine ⟨_, h1, p, dx, _, rfl, o1, hm _ _ _, ha N H σ al sl _ fun vs H2 e2 r2 => ?_⟩
  refine ⟨N, _, z, al.mono e2, .cons (rr.mono e2) ?_, r, fun v H3 e3 h3 => q2 v H3 (e2.trans e3) h3⟩
  rw [List.append_nil]; exact r2
/-! ### flash_to -/
inductive R_FlashSearch_flash_to (P : Program) (w : World) (K : PySem.W.Frag) : List Ar → Ar → Prop
  | mk (B : BR) (lamp : Str) (cs : Srs) (nd : (keys cs).Nodup) (c : Case) (pl : List (Bool × Str)) (hb : Back cs c pl) (hl : pl.length ≤ 1000) (hs : List Nat) (hd : Nat) (hh : hands pl = hs ++ [hd]) :
      R_FlashSearch_flash_to P w K [.r (SeV P w K B lamp cs), .d (dCase c)] (.d (flaD lamp (dMoves pl) (hd : Nat)))
theorem dMoves_cons (m : Bool × Str) (l : List (Bool × Str)) : dMoves (m :: l) = dMove m :: dMoves l := rfl
theorem dMoves_rev (l : List (Bool × Str)) : (dMoves l).reverse = dMoves l.reverse := by unfold dMoves; rw [List.map_reverse]
theorem dNats_last (l : List Nat) (x : Nat) : atI (dNats (l ++ [x])) (-1) = some (.int (x : Nat)) := by
  have hl : (dNats (l ++ [x])).length = l.length + 1 := by unfold dNats; simp
  unfold atI ixN
  rw [hl, if_neg (by decide), if_pos (by omega), show ((-1 : Int) + ((l.length + 1 : Nat) : Int)).toNat = l.length by omega]
  unfold dNats
  simp
theorem m_flash_to (T : TX K mg) : C8.Met P w K mg base 3 (He.ga K "FlashSearch") "flash_to" (FS K (R_FlashSearch_flash_to P w K)) [] := by
  obtain ⟨fd, F⟩ := T.f_FlashSearch_flash_to
  have mk_Flash := @mk_Flash P w K mg base T
  exact ⟨_, fd, ["self", "case"], [], T.cl_FlashSearch, T.me_flash_to, (fs_ok F scope_FlashSearch_flash_to 4 (fun _ _ r => by cases r; rfl) rfl (fun _ _ r => by cases r; first | rfl | simp_all [Ar.nm]) fun cdv A outer s H E hr => by
    have hu := hu_of hr
    have hu9 : (A.deeper (envOfC "FlashSearch.flash_to" (defScope s_FlashSearch_flash_to) s.heap.objs.size (He.ma K (He.ga K "FlashSearch") "flash_to") cdv)).units + 9 < cLine := by have := hr.un; omega
    have hu64 : (A.deeper (envOfC "FlashSearch.flash_to" (defScope s_FlashSearch_flash_to) s.heap.objs.size (He.ma K (He.ga K "FlashSearch") "flash_to") cdv)).units + 64 < cLine := by have := hr.un; omega
    have hu65 : (A.deeper (envOfC "FlashSearch.flash_to" (defScope s_FlashSearch_flash_to) s.heap.objs.size (He.ma K (He.ga K "FlashSearch") "flash_to") cdv)).units + 65 < cLine := by have := hr.un; omega
    refine ⟨_, (pss_cons (ps_set (i := 2) scope_FlashSearch_flash_to.nd rfl (Or.inl rfl) (pe_lst pa_nil))
        (pss_cons (ps_while PassesOwn.never (pt_cmpR op_notN (pe_nget hu9 (peFld (K := K) (pv 0)) (pv 1) (fun _ _ => rfl)) pe_non (nomark _))
          (pss_cons (ps_asg (pe_nget hu9 (peFld (K := K) (pv 0)) (pv 1) (fun _ _ => rfl)) (pgTup (K := K) (n := 2) (by rfl) (pgs_cons (pg_name (i := 1) scope_FlashSearch_flash_to.nd rfl (Or.inl rfl)) (pgs_cons (pg_name (i := 3) scope_FlashSearch_flash_to.nd rfl (Or.inl rfl)) pgs_nil))))
        (pss_one (ps_expr (peBm (K := K) PySem.F.plainAttrs_list PySem.F.slot_list_append PySem.F.type_list_append mt_append (pv 2) (pa_cons (pv 3) pa_nil))))))
        (pss_cons (ps_set (i := 2) scope_FlashSearch_flash_to.nd rfl (Or.inl rfl) (peRev (K := K) (pv 2)))
        (pss_cons (ps_setLc (i := 4) (own := [("number", 5), ("move", 3)]) rfl scope_FlashSearch_flash_to.nd rfl rfl (sw_true rfl rfl rfl (by decide +kernel)) (piEnum (K := K) (by rfl) T.z_enumerate (pa_cons (pv 2) pa_nil)) (blkOk_by (own := [("number", 5), ("move", 3)]) (N := nm_FlashSearch_flash_to) (sc := defScope s_FlashSearch_flash_to) (by decide +kernel)) (fun _ _ _ _ _ => (pgTup (K := K) (n := 2) (by rfl) (pgs_cons (pg_name (i := 5) scope_FlashSearch_flash_to.nd rfl (Or.inl rfl)) (pgs_cons (pg_name (i := 3) scope_FlashSearch_flash_to.nd rfl (Or.inl rfl)) pgs_nil)))) (fun _ _ _ _ _ => (pts_one (pt_cmpR op_eq (pe_ix (ixT (K := K)) (pv 3) pe_int (fun _ _ => rfl)) pe_str (nomark _)))) (fun _ _ _ _ _ => (pv 5)))
        (pss_one (ps_ret (C8.pe_mk mk_Flash hr (by decide) rfl (pa_cons (peFld (K := K) (pv 0)) (pa_cons (pv 2) (pa_cons (pe_ix (ixL (K := K)) (pv 4) (pe_un un_neg pe_int) (fun _ _ => rfl)) pa_nil)))))))))), fun as y r => ?_⟩
    cases r with
    | mk B lamp cs nd c pl hb hl hs hd hh =>
    show Sd K _ [some _, some _, none, none, none, none] _ _
    refine sd_letN (en_lst (ds := []) ea_nil (Nat.le_of_ble_eq_true rfl)) ?_
    refine sd_seq (M := fun ys => ∃ a b c d, ys = [some (.r (SeV P w K B lamp cs)), a, some (.m (dMoves pl.reverse)), b, c, d])
      (sd_while (fun m ys => ∃ (c' : Case) (p1 p2 : List (Bool × Str)) (a b d : Option Ar), m = p1.length ∧ pl = p1 ++ p2 ∧ Back cs c' p1 ∧ ys = [some (.r (SeV P w K B lamp cs)), some (.d (dCase c')), some (.m (dMoves p2.reverse)), a, b, d]) pl.length
        ⟨c, pl, [], _, _, _, rfl, (List.append_nil _).symm, hb, rfl⟩ (fun m ys hP => ?_)) (fun ys hP => ?_)
    · obtain ⟨c', p1, p2, a, b, d, rfl, hp, hb', rfl⟩ := hP
      obtain ⟨s, hs'⟩ : ∃ s, (c', s) ∈ cs := by cases hb' with
        | nil h => exact ⟨_, h⟩
        | snoc h _ => exact ⟨_, h⟩
      refine ⟨!isNoneD (dSrc s), et_test (ed_op (ed_vget T rfl nd hs' (ed_var rfl)) (ed_c rfl) rv_notN), fun e => ?_, fun e => ?_⟩
      · cases s with
        | none => cases e
        | some cm =>
          obtain ⟨c2, mv⟩ := cm
          obtain ⟨p', rfl, hb2⟩ := hb'.some nd hs'
          refine sd_letG (ed_vget T rfl nd hs' (ed_var rfl)) (gd_tup (gds_cons gd_name (gds_cons gd_name gds_nil)) rfl) ?_
          refine sd_app rfl (ed_var rfl) ?_ ⟨p'.length, by rw [List.length_append]; exact Nat.lt_succ_self _, c2, p', mv :: p2, some (.d (dMove mv)), b, d, rfl, by rw [hp, List.append_assoc]; rfl, hb2, ?_⟩
          · have : (dMoves p2.reverse).length ≤ pl.length := by
              rw [dMoves_len, List.length_reverse, hp, List.length_append]; omega
            omega
          · rw [List.reverse_cons]
            unfold dMoves
            rw [List.map_append]; rfl
      · cases s with
        | some cm => cases e
        | none =>
          have := hb'.none nd hs'
          subst this
          rw [List.nil_append] at hp
          subst hp
          exact ⟨_, _, _, _, rfl⟩
    · obtain ⟨a, b, c3, d, rfl⟩ := hP
      have er : (dMoves pl.reverse).reverse = dMoves pl := by rw [dMoves_rev, List.reverse_reverse]
      refine sd_let (x := .d (.list (dMoves pl))) (ed_is (En.ed (en_rev (ed_var rfl) (by constructor))) (by rw [er])) rfl ?_
      have ee : enumD (dMoves pl) = (List.range pl.length).map fun i => .tuple [.int (i : Nat), (dMoves pl).getD i .none] := by unfold enumD; rw [dMoves_len]
      have get : ∀ i, i ∈ List.range pl.length → ∃ m, pl[i]? = some m ∧ (dMoves pl).getD i .none = dMove m := fun i hi => by
        rw [List.mem_range] at hi
        refine ⟨pl[i], by simp [hi], ?_⟩
        unfold dMoves
        rw [List.getD_eq_getElem?_getD, List.getElem?_map]
        simp [hi]
      refine sd_let (x := .d (.list (dNats (hs ++ [hd])))) (ed_is (En.ed (en_lcE (l := List.range pl.length) (enc := fun i => .tuple [.int (i : Nat), (dMoves pl).getD i .none]) (out := fun n => .int (n : Nat)) (p := isHP pl) (w := id) (ee ▸ id_enum (ed_var rfl) (by constructor) rfl) (fun i _ => (gd_tup (gds_cons gd_name (gds_cons gd_name gds_nil)) rfl)) (fun i hi => hi) (fun i hi => ?_) (fun i hi _ => ed_var rfl) (by rw [List.length_range]; omega))) ?_) rfl ?_
      · obtain ⟨mv, h1, h2⟩ := get i hi
        rw [h2]
        refine et_is (et_test (ed_op (ed_op (ed_var rfl) (ed_c rfl) (rv_ixT (at0 rfl))) (ed_c rfl) rv_eqS)) ?_
        unfold isHP
        rw [h1]
        exact hand_str mv.1
      · rw [List.map_id, ← hh]; rfl
      · exact sd_ret (ed_mkFlash T (ed_vlamp T rfl) (ed_var rfl) (.l _) (ed_op (ed_var rfl) (ed_neg (ed_c rfl)) (rv_ixL (dNats_last _ _)))) rfl rfl), (F.bindsN fun _ _ _ _ _ _ us hl => match us, hl with | [_, _], _ => rfl), .nil⟩
end
end K58
end
/-! W8 -/
section
set_option maxRecDepth 100000
set_option maxHeartbeats 2000000
namespace K58
open PySem PySem.Spec PyProof.Rows L2
inductive ToldD (lamp : Str) (cs : Srs) : PyData → Prop
  | none : (∀ c ∈ keys cs, c.2.1 ≠ 3) → ToldD lamp cs .none
  | some (i : Nat) (c : Case) (s : Option (Case × (Bool × Str))) (pl : List (Bool × Str)) (hs : List Nat) (hd : Nat) : cs[i]? = some (c, s) → c.2.1 = 3 → (∀ (j : Nat) (x : Case) (t : Option (Case × (Bool × Str))), j < i → cs[j]? = some (x, t) → x.2.1 ≠ 3) → Back cs c pl → hands pl = hs ++ [hd] →
      pl.length ≤ 1000 → ToldD lamp cs (flaD lamp (dMoves pl) (hd : Nat))
section
variable {P : Program} {w : World} {K : PySem.W.Frag} {mg : Str → Option Value} {base : Heap} {B : BR} {lamp : Str} {cs : Srs} {xs : Xs}
inductive R_FlashSearch_flash (P : Program) (w : World) (K : PySem.W.Frag) : List Ar → Ar → Prop
  | mk (B : BR) (lamp : Str) (cs : Srs) (nd : (keys cs).Nodup) (x : PyData) (ht : ToldD lamp cs x) : R_FlashSearch_flash P w K [.r (SeV P w K B lamp cs)] (.d x)
theorem keys_at {i : Nat} {c : Case} (h : (keys cs)[i]? = some c) : ∃ s, cs[i]? = some (c, s) := by
  unfold keys at h
  obtain ⟨e, h1, h2⟩ := map_get h
  exact ⟨e.2, by rw [h1, h2]⟩
theorem m_flash (T : TX K mg) : C8.Met P w K mg base 4 (He.ga K "FlashSearch") "flash" (FS K (R_FlashSearch_flash P w K)) [] := by
  obtain ⟨fd, F⟩ := T.f_FlashSearch_flash
  have m_flash_to := @m_flash_to P w K mg base T
  exact ⟨_, fd, ["self"], [], T.cl_FlashSearch, T.me_flash, (fs_ok F scope_FlashSearch_flash 1 (fun _ _ r => by cases r; rfl) rfl (fun _ _ r => by cases r; first | rfl | simp_all [Ar.nm]) fun cdv A outer s H E hr => by
    have hu := hu_of hr
    have hu9 : (A.deeper (envOfC "FlashSearch.flash" (defScope s_FlashSearch_flash) s.heap.objs.size (He.ma K (He.ga K "FlashSearch") "flash") cdv)).units + 9 < cLine := by have := hr.un; omega
    have hu64 : (A.deeper (envOfC "FlashSearch.flash" (defScope s_FlashSearch_flash) s.heap.objs.size (He.ma K (He.ga K "FlashSearch") "flash") cdv)).units + 64 < cLine := by have := hr.un; omega
    have hu65 : (A.deeper (envOfC "FlashSearch.flash" (defScope s_FlashSearch_flash) s.heap.objs.size (He.ma K (He.ga K "FlashSearch") "flash") cdv)).units + 65 < cLine := by have := hr.un; omega
    refine ⟨_, (pss_cons (ps_for PassesOwn.never rfl (piList (K := K) (peFld (K := K) (pv 0))) (pg_name (i := 1) scope_FlashSearch_flash.nd rfl (Or.inl rfl))
          (pss_one (ps_if (pt_cmpR op_eq (pe_ix (ixT (K := K)) (pe_ix (ixT (K := K)) (pv 1) pe_int (fun _ _ => rfl)) pe_int (fun _ _ => rfl)) (C8.pe_gc rfl T.k_FLASHED) (nomark _))
          (pss_one (ps_ret (C8.pe_mt m_flash_to hr (by decide) (pv 0) (pa_cons (pv 1) pa_nil))))
          pss_nil)))
        (pss_one (ps_ret pe_non))), fun as y r => ?_⟩
    cases r with
    | mk B lamp cs nd x ht =>
    show Sd K _ [some _, none] _ _
    refine sd_seq (M := fun ys => (∀ c ∈ keys cs, c.2.1 ≠ 3) ∧ ∃ a, ys = [some (.r (SeV P w K B lamp cs)), a])
      (sd_for (fun i ys => (∀ (j : Nat) (c : Case), j < i → (keys cs)[j]? = some c → c.2.1 ≠ 3) ∧ ∃ a, ys = [some (.r (SeV P w K B lamp cs)), a]) (id_list (ed_vcases T rfl)) ⟨fun j c h => absurd h (Nat.not_lt_zero _), _, rfl⟩ (fun i d ys hd hP => ?_) (fun ys hP => ?_)) (fun ys hP => ?_)
    · obtain ⟨hb, a, rfl⟩ := hP
      obtain ⟨c, hc, rfl⟩ := map_get hd
      obtain ⟨s, hs⟩ := keys_at hc
      refine ⟨_, _, gd_name, sd_if (b := decide (c.2.1 = 3)) (et_test (ed_op (ed_op (ed_op (ed_var rfl) (ed_c rfl) (rv_ixT (at1 rfl))) (ed_c rfl) (rv_ixT (at0 rfl))) (ed_c rfl) rv_eqI)) (fun e => ?_) (fun e => sd_next ⟨fun j c' hj hc' => ?_, _, rfl⟩)⟩
      · have e3 := of_decide_eq_true e
        cases ht with
        | none h => exact absurd e3 (h c (List.mem_of_getElem? hc))
        | some i' c' s' pl hs2 hd2 k1 k2 k3 k4 k5 k6 =>
          have k7 : (keys cs)[i']? = some c' := by unfold keys; rw [List.getElem?_map, k1]; rfl
          have ei : i' = i := by
            rcases Nat.lt_trichotomy i' i with h | h | h
            · exact absurd k2 (hb i' c' h k7)
            · exact h
            · exact absurd e3 (k3 i c s h hs)
          subst ei
          rw [hs] at k1
          cases k1
          exact sd_ret (ed_vmeth rfl (fun _ _ _ => rfl) (ea_cons (ed_var rfl) ea_nil) (.mk B lamp cs nd c pl k4 k6 hs2 hd2 k5)) rfl rfl
      · by_cases q : j < i
        · exact hb j c' q hc'
        · have : j = i := by omega
          subst this
          rw [hc] at hc'
          cases hc'
          exact of_decide_eq_false e
    · refine ⟨fun c hc => ?_, hP.2⟩
      obtain ⟨j, hj⟩ := List.mem_iff_getElem?.mp hc
      exact hP.1 j c (by rw [List.length_map]; exact (List.getElem?_eq_some_iff.mp hj).1) hj
    · obtain ⟨hn, a, rfl⟩ := hP
      cases ht with
      | none h => exact sd_ret (ed_c rfl) rfl rfl
      | some i c s pl hs2 hd2 k1 k2 k3 k4 k5 k6 => exact absurd k2 (hn c (keys_get.mpr ⟨_, _, k1⟩))), (F.bindsN fun _ _ _ _ _ _ us hl => match us, hl with | [_], _ => rfl), .nil⟩
/-! ### first_flash -/
theorem sd_search {u : TS} {N : Xs → Prop} {R : Ar → Prop} {E E' : XK} (T : TX K mg) (h0 : xs[0]? = some (some (.b B))) (h1 : xs[1]? = some (some (.d (.str lamp)))) (h2 : xs[2]? = some (some (.d (.int 3000)))) (hB : WB B) (hx : 3 < xs.length)
    (hnm : ∀ (i : Nat) (ds : List PyData), xs[i]? ≠ some (some (Ar.m ds))) (hu : Sd K u (xs.set 3 (some (.r (SeV P w K B lamp (searchC B lamp))))) N R) :
    Sd K (tSeq (tAsg (tMake (He.ga K "FlashSearch") (SInitSp P w K) [] E (tCons (tVar 0) (tCons (tVar 1) (tCons (tVar 2) tNil)))) (gName 3)) (tSeq (tDrop (tMeth (He.ga K "FlashSearch") "find_all" (FindSp P w K) [] E' (tVar 3) tNil)) u)) xs N R := fun G Hb F H σ D hf s nx rt => by
  obtain ⟨v0, s0, b, rfl, bb⟩ := s.sl.at_ 0 _ h0
  obtain ⟨v1, s1, r1⟩ := s.sl.at_ 1 _ h1
  obtain ⟨v2, s2, r2⟩ := s.sl.at_ 2 _ h2
  rw [da_str r1] at s1
  rw [da_int r2] at s2
  have al := s.wf.alive
  refine ⟨_, s0, _, s1, _, s2, fun x dx hx0 hdx hne => ?_⟩
  have hex : ∀ a o, H a = some o → upd (upd H dx (.own x)) x (.ins (He.ga K "FlashSearch") dx []) a = some o := fun a o ho => by
    rw [upd_ne (ne_of_none ho hx0), upd_ne (ne_of_none ho hdx)]; exact ho
  refine ⟨x, b, dx, lamp, rfl, upd_same, fun H1 l q hl hq hlq hk hp hls hqs => ⟨rfl, ?_⟩⟩
  have e1 : Same H H1 := fun a o ho => hk a o (ne_of_none ho hx0) (hex a o ho)
  have fr : ∀ {y : Addr}, upd (upd H dx (.own x)) x (.ins (He.ga K "FlashSearch") dx []) y = none → H y = none := fun {y} hy => by
    cases hq2 : H y with
    | none => rfl
    | some o => rw [hex _ _ hq2] at hy; cases hy
  have hl0 := fr hl
  have hq0 := fr hq
  have hxl : x ≠ l := fun z => by subst z; rw [upd_same] at hl; cases hl
  have hxq : x ≠ q := fun z => by subst z; rw [upd_same] at hq; cases hq
  have hlen : 3 < σ.length := by rw [s.sl.len]; exact hx
  have s3 : (σ.set 3 (some (V.ref x)))[3]? = some (some (.ref x)) := by rw [List.getElem?_set, if_pos rfl, if_pos hlen]
  have hsub : Same (hid (G ++ F) H) (hid (x :: l :: q :: (G ++ F)) H1) := fun a o h => by
    obtain ⟨z1, z2⟩ := hid_get h
    have n1 : a ≠ x := ne_of_none z2 hx0
    have n2 : a ≠ l := ne_of_none z2 hl0
    have n3 : a ≠ q := ne_of_none z2 hq0
    rw [hid_out (by simp only [List.mem_cons, not_or]; exact ⟨n1, n2, n3, z1⟩)]
    exact e1 a o z2
  refine ⟨_, s3, x, dx, _, rfl, hp, rfl, x, l, q, B, lamp, x :: l :: q :: (G ++ F), rfl, fun a ha => ?_, ⟨by simp, by simp, by simp, hxl, hxq, hlq⟩, ⟨⟨dx, b, hp, bb.mono hsub⟩, ⟨[], hls, .nil⟩, ⟨[], hqs, .nil⟩⟩, hB, fun H2 al2 se2 e2 => ?_⟩
  · rcases List.mem_cons.mp ha with rfl | ha
    · exact ⟨_, hp⟩
    rcases List.mem_cons.mp ha with rfl | ha
    · exact ⟨_, hls⟩
    rcases List.mem_cons.mp ha with rfl | ha
    · exact ⟨_, hqs⟩
    exact al.mono e1 a ha
  · have e12 : Same H H2 := fun a o ho => by
      have n1 : a ≠ x := ne_of_none ho hx0
      have n2 : a ≠ l := ne_of_none ho hl0
      have n3 : a ≠ q := ne_of_none ho hq0
      exact hid_le _ _ (e2 a o (by rw [hid_out (by simp only [List.mem_cons, not_or]; exact ⟨n1, n2, n3, by simp⟩)]; exact e1 a o ho))
    have nmem : ∀ {y : Addr}, H y = none → y ∉ G ++ F := fun hy => al.nin hy
    refine hu G Hb F H2 _ D (hf.set fun ds z => by cases z) ((s.same e12).set 3 (x := .r (SeV P w K B lamp (searchC B lamp))) ?_ rfl) nx rt
    obtain ⟨⟨dx2, b2, o1, o2⟩, ⟨vs, l1, l2⟩, ⟨ns, q1, q2⟩⟩ := se2
    have sub : Same (hid (x :: l :: q :: (G ++ F)) H2) (hid (G ++ F) H2) := hid_sub fun a ha => List.mem_cons_of_mem _ (List.mem_cons_of_mem _ (List.mem_cons_of_mem _ ha))
    refine ⟨hid (G ++ F) H2, ⟨x, l, q, rfl, ⟨dx2, b2, ?_, ?_⟩, ⟨vs, ?_, ?_⟩, ⟨ns, ?_, ?_⟩⟩, Same.refl _⟩
    · rw [hid_out (nmem hx0)]; exact o1
    · rw [hid_nil]; exact o2.mono sub
    · rw [hid_out (nmem hl0)]; exact l1
    · rw [hid_nil]; exact l2.mono sub
    · rw [hid_out (nmem hq0)]; exact q1
    · rw [hid_nil]; exact q2.mono sub
inductive R_first_flash : List Ar → Ar → Prop
  | mk (B : BR) (h : WB B) (lamp : Str) (hm : lamp ∈ B.lamps.map (·.1)) (x : PyData) (ht : ToldD lamp (searchC B lamp) x) : R_first_flash [.b B, .d (.str lamp), .d (.int 3000)] (.d x)
theorem c_first_flash (T : TX K mg) : CalK P w K mg base 12 "first_flash" 2 ["limit"] (FS K R_first_flash) (fun vs zs => vs ++ zs) := by
  obtain ⟨fd, F⟩ := T.f_first_flash
  have c_check_lamps := @c_check_lamps P w K mg base T
  have m_find_all := @m_find_all P w K mg base T
  have m_flash := @m_flash P w K mg base T
  have mk_FlashSearch := @mk_FlashSearch P w K mg base T
  exact ⟨_, fd, ["board", "lamp", "limit"], fun us ws => us ++ ws, (fs_ok F scope_first_flash 1 (fun _ _ r => by cases r; rfl) rfl (fun _ _ r => by cases r; first | rfl | simp_all [Ar.nm]) fun cdv A outer s H E hr => by
    have hu := hu_of hr
    have hu9 : (A.deeper (envOfC "first_flash" (defScope s_first_flash) s.heap.objs.size (He.ga K "first_flash") cdv)).units + 9 < cLine := by have := hr.un; omega
    have hu64 : (A.deeper (envOfC "first_flash" (defScope s_first_flash) s.heap.objs.size (He.ga K "first_flash") cdv)).units + 64 < cLine := by have := hr.un; omega
    have hu65 : (A.deeper (envOfC "first_flash" (defScope s_first_flash) s.heap.objs.size (He.ga K "first_flash") cdv)).units + 65 < cLine := by have := hr.un; omega
    refine ⟨_, (pss_cons (ps_expr (C8.pe_c c_check_lamps hr (by decide) rfl (pa_cons (pv 0) (pa_cons (pe_lst (pa_cons (pv 1) pa_nil)) pa_nil))))
        (pss_cons (ps_set (i := 3) scope_first_flash.nd rfl (Or.inl rfl) (C8.pe_mk mk_FlashSearch hr (by decide) rfl (pa_cons (pv 0) (pa_cons (pv 1) (pa_cons (pv 2) pa_nil)))))
        (pss_cons (ps_expr (C8.pe_mt0 m_find_all hr (by decide) (pv 3)))
        (pss_one (ps_ret (C8.pe_mt0 m_flash hr (by decide) (pv 3))))))), fun as y r => ?_⟩
    cases r with
    | mk B h lamp hm x ht =>
    show Sd K _ [some _, some _, some _, none] _ _
    refine sd_then (sd_drop (ed_call (as := [.b B, .d (.list (dStrs [lamp]))]) (ea_cons (ed_var rfl) (ea_cons (En.ed (en_lst (ds := [_]) (ea_cons (ed_var rfl) ea_nil) (Nat.le_of_ble_eq_true rfl))) ea_nil)) (.mk B h [lamp] (fun n hn => by rw [List.mem_singleton] at hn; subst hn; exact hm))) rfl) ?_
    refine sd_search T rfl rfl rfl h (Nat.le_of_ble_eq_true rfl) (fun i ds z => ?_) ?_
    · rcases i with _ | _ | _ | _ | i
      · cases z
      · cases z
      · cases z
      · cases z
      · simp at z
    · obtain ⟨⟨d, bi⟩, _⟩ := searchC_ok (lamp := lamp) h.zm
      exact sd_ret (ed_vmeth (P := P) (w := w) (lamp := lamp) rfl (fun _ _ _ => rfl) ea_nil (.mk B lamp _ bi.nd x ht)) rfl rfl), T.g_first_flash, F.kp, K58.FunD.kb F 2 ["limit"] (fun kV doc pm an cdv ct us ws hu hw => match us, ws, hu, hw with | [_, _], [_], _, _ => rfl) (fun h1 h2 => vals_app h1 h2)⟩
/-! ### flashes -/
theorem ed_callN {R : List Ar → Ar → Prop} {E : XK} {ta tk : TA} {as bs : List Ar} {z : Ar} {n m : Nat} (h : Ea K ta xs as) (hk : Ea K tk xs bs) (hn : as.length = n) (hm : bs.length = m) (r : R (as ++ bs) z) : Ed K (tCallN n m (FS K R) (fun vs zs => vs ++ zs) E ta tk) xs z := fun N H σ al sl Q q =>
  h N H σ al sl _ fun vs H1 e1 h1 => hk N H1 σ (al.mono e1) (sl.mono e1) _ fun ws H2 e2 h2 =>
    ⟨by rw [arrs_len h1, hn], by rw [arrs_len h2, hm], N, _, z, (al.mono e1).mono e2, arrs_append (ArRs.mono e2 h1) h2, r, fun v H3 e3 h3 => q v H3 ((e1.trans e2).trans e3) h3⟩
inductive R_flashes : List Ar → Ar → Prop
  | mk (B : BR) (h : WB B) (zs : List ((Str × Str × Str) × PyData)) (hz : zs.map (·.1) = B.lamps) (ht : ∀ z ∈ zs, ToldD z.1.1 (searchC B z.1.1) z.2) : R_flashes [.b B, .d (.int 3000)] (.d (.list (zs.map (·.2))))
theorem c_flashes (T : TX K mg) : C8.Cal P w K mg base 13 "flashes" (FS K R_flashes) [.int 3000] := by
  obtain ⟨fd, F⟩ := T.f_flashes
  have c_first_flash := @c_first_flash P w K mg base T
  obtain ⟨ds, hv, hb⟩ := F.binds0 (ps := ["board", "limit"]) 1 (by simp) rfl (fun D doc pm an cdv ct us ks hu hk => match us, ks, hu, hk with | [_], [_], _, _ => ⟨_, _, _, _, _, _, rfl, rfl, rfl⟩)
  exact ⟨_, fd, ["board", "limit"], ds, (fs_ok F scope_flashes 1 (fun _ _ r => by cases r; rfl) rfl (fun _ _ r => by cases r; first | rfl | simp_all [Ar.nm]) fun cdv A outer s H E hr => by
    have hu := hu_of hr
    have hu9 : (A.deeper (envOfC "flashes" (defScope s_flashes) s.heap.objs.size (He.ga K "flashes") cdv)).units + 9 < cLine := by have := hr.un; omega
    have hu64 : (A.deeper (envOfC "flashes" (defScope s_flashes) s.heap.objs.size (He.ga K "flashes") cdv)).units + 64 < cLine := by have := hr.un; omega
    have hu65 : (A.deeper (envOfC "flashes" (defScope s_flashes) s.heap.objs.size (He.ga K "flashes") cdv)).units + 65 < cLine := by have := hr.un; omega
    refine ⟨_, (pss_one (ps_ret (pe_lc (own := [("lamp", 2)]) (g := gName 2) (tt := tYes) rfl scope_flashes.nd (piTup (K := K) (peFld (K := K) (pv 0))) (blkOk_by (own := [("lamp", 2)]) (N := nm_flashes) (sc := defScope s_flashes) (by decide +kernel)) (fun _ _ _ _ _ => (pg_name (i := 2) scope_flashes.nd rfl (Or.inl rfl))) (fun _ _ _ _ _ => pts_nil) (fun _ _ _ _ _ => (pe_cK c_first_flash hr (by decide) rfl (pa_cons (pv 0) (pa_cons (pe_ix (ixT (K := K)) (pv 2) pe_int (fun _ _ => rfl)) pa_nil)) (pk_cons (pv 1) pk_nil)))))), fun as y r => ?_⟩
    cases r with
    | mk B h zs hz ht =>
    show Sd K _ [some _, some _, none] _ _
    have el : dLoads B.lamps = zs.map fun z => dLoad z.1 := by unfold dLoads; rw [← hz, List.map_map]; rfl
    have hl : zs.length ≤ 100000 := by
      have : zs.length = B.lamps.length := by rw [← hz, List.length_map]
      have := h.zl
      omega
    refine sd_ret (ed_is (En.ed (en_lcY (l := zs) (enc := fun z => dLoad z.1) (out := fun d => d) (w := fun z => z.2) (id_tup (el ▸ (ed_lamps T (ed_var rfl)))) (fun a _ => gd_name) (fun i hi => hi) (fun z hzm => ?_) hl)) (by rw [List.map_id'])) rfl rfl
    exact ed_callN (as := [.b B, .d (.str z.1.1)]) (bs := [.d (.int 3000)]) (ea_cons (ed_var rfl) (ea_cons (ed_op (ed_var rfl) (ed_c rfl) (rv_ixT (at0 rfl))) ea_nil)) (ea_cons (ed_var rfl) ea_nil) rfl rfl (.mk B h z.1.1 (by rw [← hz, List.map_map]; exact List.mem_map.mpr ⟨z, hzm, rfl⟩) z.2 (ht z hzm))), T.g_flashes, F.kp, hb, hv⟩
end
end K58
end
/-! W9 -/
section
set_option maxRecDepth 100000
set_option maxHeartbeats 2000000
namespace K58
open PySem PySem.Spec PyProof.Rows L2
def charsT : Str := "abcdefghijklmnopqrstuvwxyz0123456789"
structure NmOk (s : Str) : Prop where
  l1 : 1 ≤ s.length
  l2 : s.length ≤ 12
  ch : ∀ c ∈ s.cps.toList, c ∈ charsT.cps.toList
section
variable {P : Program} {w : World} {K : PySem.W.Frag} {mg : Str → Option Value} {base : Heap} {xs : Xs}
inductive R_Board_is_name : List Ar → Ar → Prop
  | mk (s : Str) (h : NmOk s) : R_Board_is_name [.d (.str s)] (.d (.bool true))
theorem sm_is_name (T : TX K mg) : Smt P w K mg base 1 "is_name" (FS K R_Board_is_name) := by
  obtain ⟨fd, F⟩ := T.f_Board_is_name
  exact ⟨_, _, fd, ["text"], T.cr, T.sm, (fs_ok F scope_Board_is_name 1 (fun _ _ r => by cases r; rfl) rfl (fun _ _ r => by cases r; first | rfl | simp_all [Ar.nm]) fun cdv A outer s H E hr => by
    have hu := hu_of hr
    have hu9 : (A.deeper (envOfC "Board.is_name" (defScope s_Board_is_name) s.heap.objs.size (recA K "is_name" "staticmethod") cdv)).units + 9 < cLine := by have := hr.un; omega
    have hu64 : (A.deeper (envOfC "Board.is_name" (defScope s_Board_is_name) s.heap.objs.size (recA K "is_name" "staticmethod") cdv)).units + 64 < cLine := by have := hr.un; omega
    have hu65 : (A.deeper (envOfC "Board.is_name" (defScope s_Board_is_name) s.heap.objs.size (recA K "is_name" "staticmethod") cdv)).units + 65 < cLine := by have := hr.un; omega
    refine ⟨_, (pss_cons (ps_if (pt_not (pt_chain op_le op_le pe_int (pe_callB call_len_str (by rfl) T.z_len PySem.boot_len (pa_cons (pv 0) pa_nil)) (C8.pe_gc rfl T.k_MOST_NAME_CHARS)))
          (pss_one (ps_ret pe_bl))
          pss_nil)
        (pss_one (ps_ret (pe_callB (crAll (K := K) rfl) (by rfl) T.z_all (by decide +kernel) (pa_cons (pe_lc (own := [("char", 1)]) (g := gName 1) (tt := tYes) rfl scope_Board_is_name.nd (pi_str (pv 0)) (blkOk_by (own := [("char", 1)]) (N := nm_Board_is_name) (sc := defScope s_Board_is_name) (by decide +kernel)) (fun _ _ _ _ _ => (pg_name (i := 1) scope_Board_is_name.nd rfl (Or.inl rfl))) (fun _ _ _ _ _ => pts_nil) (fun _ _ _ _ _ => (pe_cmpR op_inS (pv 1) (C8.pe_gc rfl T.k_NAME_CHARS) rfl))) pa_nil))))), fun as y r => ?_⟩
    cases r with
    | mk s h =>
    show Sd K _ [some _, none] _ _
    have hl1 := h.l1
    have hl2 := h.l2
    refine sd_ifn (et_is (et_not (et_test (ed_chain (ed_c rfl) (ed_cb (ea_cons (ed_var rfl) ea_nil) (rc_lenS (by omega))) (ed_c rfl) (rv_i0 rfl) (rv_i0 rfl)))) ?_) ?_
    · rw [decide_eq_true (show (1 : Int) ≤ ((s.length : Nat) : Int) by omega), decide_eq_true (show ((s.length : Nat) : Int) ≤ 12 by omega)]; rfl
    · have hz : s.cps.toList.length = s.length := by rw [Array.length_toList]; rfl
      refine sd_ret (ed_is (ed_all (bs := s.cps.toList.map fun c => decide (c ∈ charsT.cps.toList)) (ea_cons (En.ed (en_lcY (l := s.cps.toList) (enc := fun c => .str ⟨#[c]⟩) (out := PyData.bool) (w := fun c => decide (c ∈ charsT.cps.toList)) (id_str (ed_var rfl)) (fun a _ => gd_name) (fun i hi => hi) (fun a _ => (ed_op (ed_var rfl) (ed_c rfl) rv_inS)) (by omega))) ea_nil)) ?_) rfl rfl
      rw [show (s.cps.toList.map fun c => decide (c ∈ charsT.cps.toList)).all id = true from List.all_eq_true.mpr fun b hb => by
        obtain ⟨c, hc, rfl⟩ := List.mem_map.mp hb
        exact decide_eq_true (h.ch c hc)]), (F.bindsN fun _ _ _ _ _ _ us hl => match us, hl with | [_], _ => rfl)⟩
inductive R_are_names : List Ar → Ar → Prop
  | mk (ss : List Str) (lo hi : Nat) (h1 : lo ≤ ss.length) (h2 : ss.length ≤ hi) (hn : ∀ s ∈ ss, NmOk s) (nd : ss.Nodup) : R_are_names [.d (.list (dStrs ss)), .d (.int (lo : Nat)), .d (.int (hi : Nat))] (.d (.bool true))
theorem c_are_names (T : TX K mg) : C8.Cal P w K mg base 2 "are_names" (FS K R_are_names) [] := by
  obtain ⟨fd, F⟩ := T.f_are_names
  have sm_is_name := @sm_is_name P w K mg base T
  exact cal_of F T.g_are_names (F.bindsN fun _ _ _ _ _ _ us hl => match us, hl with | [_, _, _], _ => rfl) (fs_ok F scope_are_names 2 (fun _ _ r => by cases r; rfl) rfl (fun _ _ r => by cases r; first | rfl | simp_all [Ar.nm]) fun cdv A outer s H E hr => by
    have hu := hu_of hr
    have hu9 : (A.deeper (envOfC "are_names" (defScope s_are_names) s.heap.objs.size (He.ga K "are_names") cdv)).units + 9 < cLine := by have := hr.un; omega
    have hu64 : (A.deeper (envOfC "are_names" (defScope s_are_names) s.heap.objs.size (He.ga K "are_names") cdv)).units + 64 < cLine := by have := hr.un; omega
    have hu65 : (A.deeper (envOfC "are_names" (defScope s_are_names) s.heap.objs.size (He.ga K "are_names") cdv)).units + 65 < cLine := by have := hr.un; omega
    refine ⟨_, (pss_cons (ps_if (pt_not (pt_chain op_le op_le (pv 1) (pe_callB (cLen (K := K)) (by rfl) T.z_len PySem.boot_len (pa_cons (pv 0) pa_nil)) (pv 2)))
          (pss_one (ps_ret pe_bl))
          pss_nil)
        (pss_cons (ps_for PassesOwn.never rfl (piEnum (K := K) (by rfl) T.z_enumerate (pa_cons (pv 0) pa_nil)) (pgTup (K := K) (n := 2) (by rfl) (pgs_cons (pg_name (i := 3) scope_are_names.nd rfl (Or.inl rfl)) (pgs_cons (pg_name (i := 4) scope_are_names.nd rfl (Or.inl rfl)) pgs_nil)))
          (pss_one (ps_if (PW.pt (pw_or (pt_not (pt_val (pe_sm (K := K) sm_is_name hr (by decide) (C8.pe_gc (v := .ref (He.ga K "Board")) (by rfl) ⟨_, T.g_Board, rfl⟩) (pa_cons (pv 4) pa_nil)))) (pw_or1 (pt_cmpR (opIn (K := K)) (pv 4) (pe_slice (slL (K := K)) (pv 0) po_none (po_some (pv 3))) rfl))))
          (pss_one (ps_ret pe_bl))
          pss_nil)))
        (pss_one (ps_ret pe_bl)))), fun as y r => ?_⟩
    cases r with
    | mk ss lo hi h1 h2 hn nd =>
    show Sd K _ [some _, some _, some _, none, none] _ _
    refine sd_ifn (et_is (et_not (et_test (ed_chain (ed_var rfl) (ed_cb (ea_cons (ed_var rfl) ea_nil) (rc_len (by constructor))) (ed_var rfl) (rv_i0 rfl) (rv_i0 rfl)))) ?_) ?_
    · rw [dStrs_len, decide_eq_true (show ((lo : Nat) : Int) ≤ ((ss.length : Nat) : Int) by omega), decide_eq_true (show ((ss.length : Nat) : Int) ≤ ((hi : Nat) : Int) by omega)]; rfl
    · refine sd_seq (M := fun _ => True) (sd_for (fun i ys => ∃ a b, ys = [some (.d (.list (dStrs ss))), some (.d (.int (lo : Nat))), some (.d (.int (hi : Nat))), a, b]) (id_enum (ed_var rfl) (by constructor) rfl) ⟨_, _, rfl⟩ (fun i d ys hd hP => ?_) (fun ys hP => trivial)) (fun ys hP => ?_)
      · obtain ⟨a, b, rfl⟩ := hP
        obtain ⟨e, he, rfl⟩ := enum_get' hd
        obtain ⟨s, hs, rfl⟩ := map_get he
        have hi2 := (List.getElem?_eq_some_iff.mp hs).1
        have hcut : cutD (dStrs ss) none (some ((i : Nat) : Int)) = dStrs (ss.take i) := by
          rw [cutD_take (by rw [dStrs_len]; omega)]
          unfold dStrs; rw [List.map_take]
        refine ⟨_, _, (gd_tup (gds_cons gd_name (gds_cons gd_name gds_nil)) rfl), sd_if (b := false) (et_is (et_or (et_not (et_B (ed_callS ed_cv (ea_cons (ed_var rfl) ea_nil) (.mk s (hn s (List.mem_of_getElem? hs)))))) fun _ => et_test (ed_op (ed_var rfl) (ed_is (En.ed (en_slL (ed_var rfl) (by constructor) eo_none (eo_some (ed_var rfl)))) (congrArg (fun x => Ar.d (.list x)) hcut)) (rv_isIn (by constructor)))) ?_) (fun e => nomatch e) (fun e => sd_next ⟨_, _, rfl⟩)⟩
        rw [decide_eq_false]
        · rfl
        · intro hm
          obtain ⟨j, hj⟩ := List.mem_iff_getElem?.mp hm
          rw [List.getElem?_take] at hj
          split at hj
          · rename_i hji
            have := (List.getElem?_inj (by omega) nd).mp (hj.trans hs.symm)
            omega
          · cases hj
      · exact sd_ret (ed_c rfl) rfl rfl)
inductive R_are_loads : List Ar → Ar → Prop
  | mk (ls : List (Str × Str × Str)) (ns : List Str) (h : ∀ l ∈ ls, l.2.1 ∈ ns ∧ l.2.2 ∈ ns ∧ l.2.1 ≠ l.2.2) : R_are_loads [.d (.list (dLoads ls)), .d (.list (dStrs ns))] (.d (.bool true))
theorem c_are_loads (T : TX K mg) : C8.Cal P w K mg base 2 "are_loads" (FS K R_are_loads) [] := by
  obtain ⟨fd, F⟩ := T.f_are_loads
  have c_is_between := @c_is_between P w K mg base T
  exact cal_of F T.g_are_loads (F.bindsN fun _ _ _ _ _ _ us hl => match us, hl with | [_, _], _ => rfl) (fs_ok F scope_are_loads 3 (fun _ _ r => by cases r; rfl) rfl (fun _ _ r => by cases r; first | rfl | simp_all [Ar.nm]) fun cdv A outer s H E hr => by
    have hu := hu_of hr
    have hu9 : (A.deeper (envOfC "are_loads" (defScope s_are_loads) s.heap.objs.size (He.ga K "are_loads") cdv)).units + 9 < cLine := by have := hr.un; omega
    have hu64 : (A.deeper (envOfC "are_loads" (defScope s_are_loads) s.heap.objs.size (He.ga K "are_loads") cdv)).units + 64 < cLine := by have := hr.un; omega
    have hu65 : (A.deeper (envOfC "are_loads" (defScope s_are_loads) s.heap.objs.size (He.ga K "are_loads") cdv)).units + 65 < cLine := by have := hr.un; omega
    refine ⟨_, (pss_cons (ps_for PassesOwn.never rfl (piList (K := K) (pv 0)) (pgTup (K := K) (n := 3) (by rfl) (pgs_cons (pg_name (i := 2) scope_are_loads.nd rfl (Or.inl rfl)) (pgs_cons (pg_name (i := 3) scope_are_loads.nd rfl (Or.inl rfl)) (pgs_cons (pg_name (i := 4) scope_are_loads.nd rfl (Or.inl rfl)) pgs_nil))))
          (pss_one (ps_if (pt_not (pt_val (C8.pe_c c_is_between hr (by decide) rfl (pa_cons (pv 3) (pa_cons (pv 4) (pa_cons (pv 1) pa_nil))))))
          (pss_one (ps_ret pe_bl))
          pss_nil)))
        (pss_one (ps_ret pe_bl))), fun as y r => ?_⟩
    cases r with
    | mk ls ns h =>
    show Sd K _ [some _, some _, none, none, none] _ _
    refine sd_seq (M := fun _ => True) (sd_for (fun i ys => ∃ a b c, ys = [some (.d (.list (dLoads ls))), some (.d (.list (dStrs ns))), a, b, c]) (id_list (ed_var rfl)) ⟨_, _, _, rfl⟩ (fun i d ys hd hP => ?_) (fun ys hP => trivial)) (fun ys hP => sd_ret (ed_c rfl) rfl rfl)
    obtain ⟨a, b, c, rfl⟩ := hP
    obtain ⟨l, hl, rfl⟩ := map_get hd
    obtain ⟨z1, z2, z3⟩ := h l (List.mem_of_getElem? hl)
    exact ⟨_, _, (gd_tup (gds_cons gd_name (gds_cons gd_name (gds_cons gd_name gds_nil))) rfl), sd_if (b := false) (et_is (et_not (et_B (ed_call (ea_cons (ed_var rfl) (ea_cons (ed_var rfl) (ea_cons (ed_var rfl) ea_nil))) (.mk _ _ ns _ rfl (.l _) z1 z2 z3)))) rfl) (fun e => nomatch e) (fun e => sd_next ⟨_, _, _, rfl⟩)⟩)
theorem ed_const {a : Addr} {ds : List PyData} (h : ∀ H, SqT K H a (ds.map ofD)) (hs : ds.all scD = true) : Ed K (tC (.ref a)) xs (.d (.tuple ds)) := fun N H σ al sl Q q => q _ H (Same.refl H) (Da.tup (h _) (das_of hs))
theorem ed_whens (T : TX K mg) : Ed K (tC (.ref (He.ga K "WHENS"))) xs (.d (.tuple (dStrs ["make", "break"]))) := ed_const T.whens rfl
theorem ed_ways (T : TX K mg) : Ed K (tC (.ref (He.ga K "WAYS"))) xs (.d (.tuple (dStrs ["both", "forward"]))) := ed_const T.ways rfl
structure COk (c : Con Str) (ns ms : List Str) : Prop where
  o1 : c.one ∈ ns
  o2 : c.other ∈ ns
  ne : c.one ≠ c.other
  wn : c.mover = none → c.make = true
  mv : ∀ m, c.mover = some m → m ∈ ms
inductive R_is_contact : List Ar → Ar → Prop
  | mk (c : Con Str) (ns ms : List Str) (h : COk c ns ms) : R_is_contact [.d (dCon c), .d (.list (dStrs ns)), .d (.list (dStrs ms))] (.d (.bool true))
theorem c_is_contact (T : TX K mg) : C8.Cal P w K mg base 2 "is_contact" (FS K R_is_contact) [] := by
  obtain ⟨fd, F⟩ := T.f_is_contact
  have c_is_between := @c_is_between P w K mg base T
  exact cal_of F T.g_is_contact (F.bindsN fun _ _ _ _ _ _ us hl => match us, hl with | [_, _, _], _ => rfl) (fs_ok F scope_is_contact 5 (fun _ _ r => by cases r; rfl) rfl (fun _ _ r => by cases r; first | rfl | simp_all [Ar.nm]) fun cdv A outer s H E hr => by
    have hu := hu_of hr
    have hu9 : (A.deeper (envOfC "is_contact" (defScope s_is_contact) s.heap.objs.size (He.ga K "is_contact") cdv)).units + 9 < cLine := by have := hr.un; omega
    have hu64 : (A.deeper (envOfC "is_contact" (defScope s_is_contact) s.heap.objs.size (He.ga K "is_contact") cdv)).units + 64 < cLine := by have := hr.un; omega
    have hu65 : (A.deeper (envOfC "is_contact" (defScope s_is_contact) s.heap.objs.size (He.ga K "is_contact") cdv)).units + 65 < cLine := by have := hr.un; omega
    refine ⟨_, (pss_cons (ps_asg (pv 0) (pgTup (K := K) (n := 5) (by rfl) (pgs_cons (pg_name (i := 3) scope_is_contact.nd rfl (Or.inl rfl)) (pgs_cons (pg_name (i := 4) scope_is_contact.nd rfl (Or.inl rfl)) (pgs_cons (pg_name (i := 5) scope_is_contact.nd rfl (Or.inl rfl)) (pgs_cons (pg_name (i := 6) scope_is_contact.nd rfl (Or.inl rfl)) (pgs_cons (pg_name (i := 7) scope_is_contact.nd rfl (Or.inl rfl)) pgs_nil)))))))
        (pss_cons (ps_if (PW.pt (pw_or (pt_not (pt_val (C8.pe_c c_is_between hr (by decide) rfl (pa_cons (pv 3) (pa_cons (pv 4) (pa_cons (pv 1) pa_nil)))))) (pw_or (pt_cmpR (opNi (K := K)) (pv 6) (C8.pe_gc rfl T.k_WHENS) rfl) (pw_or1 (pt_cmpR (opNi (K := K)) (pv 7) (C8.pe_gc rfl T.k_WAYS) rfl)))))
          (pss_one (ps_ret pe_bl))
          pss_nil)
        (pss_cons (ps_if (pt_cmpR op_isN (pv 5) pe_non (nomark _))
          (pss_one (ps_ret (pe_cmpR op_eq (pv 6) pe_str (nomark _))))
          pss_nil)
        (pss_one (ps_ret (pe_cmpR (opIn (K := K)) (pv 5) (pv 2) rfl)))))), fun as y r => ?_⟩
    cases r with
    | mk c ns ms h =>
    show Sd K _ [some _, some _, some _, none, none, none, none, none] _ _
    refine sd_letG (ed_var rfl) (gd_tup (gds_cons gd_name (gds_cons gd_name (gds_cons gd_name (gds_cons gd_name (gds_cons gd_name gds_nil))))) rfl) ?_
    have w1 : (if c.make = true then ("make" : Str) else "break") ∈ (["make", "break"] : List Str) := by split <;> simp
    have w2 : (if c.both = true then ("both" : Str) else "forward") ∈ (["both", "forward"] : List Str) := by split <;> simp
    refine sd_ifn (et_is (et_or (et_not (et_B (ed_call (ea_cons (ed_var rfl) (ea_cons (ed_var rfl) (ea_cons (ed_var rfl) ea_nil))) (.mk _ _ ns _ rfl (.l _) h.o1 h.o2 h.ne)))) fun _ => (et_or (et_test (ed_op (ed_var rfl) (ed_whens T) (rv_notIn (by constructor)))) fun _ => (et_test (ed_op (ed_var rfl) (ed_ways T) (rv_notIn (by constructor)))))) ?_) ?_
    · rw [decide_eq_true w1, decide_eq_true w2]; rfl
    · refine sd_ifr (b := c.mover.isNone) (et_is (et_test (ed_op (ed_var rfl) (ed_c rfl) rv_isN)) (isNone_mov c)) (fun e => ?_) (fun e => ?_)
      · have em : c.mover = none := by cases q : c.mover with
          | none => rfl
          | some m => rw [q] at e; cases e
        have := make_str c.make
        refine sd_ret (ed_is (ed_op (ed_var rfl) (ed_c rfl) rv_eqS) ?_) rfl rfl
        rw [this, h.wn em]
      · obtain ⟨m, em⟩ : ∃ m, c.mover = some m := by cases q : c.mover with
          | none => rw [q] at e; cases e
          | some m => exact ⟨m, rfl⟩
        refine sd_ret (ed_is (ed_op (ed_is (ed_var rfl) (y := .d (.str m)) ?_) (ed_var rfl) (rv_isIn (by constructor))) ?_) rfl rfl
        · rw [em]
        · rw [decide_eq_true (h.mv m em)])
/-! ### making a board -/
structure BOk (B : BR) : Prop where
  wb : WB B
  nmN : ∀ n ∈ B.nodes, NmOk n
  ndN : B.nodes.Nodup
  nmM : ∀ n ∈ B.movers, NmOk n
  nmL : ∀ n ∈ B.lamps.map (·.1), NmOk n
  ndL : (B.lamps.map (·.1)).Nodup
  pl : 1 ≤ B.lamps.length
  rne : ∀ l ∈ B.rel, l.2.1 ≠ l.2.2
  lne : ∀ l ∈ B.lamps, l.2.1 ≠ l.2.2
  con : ∀ c ∈ B.con, COk c B.nodes B.movers
def BInitSp (K : PySem.W.Frag) : Sp := fun vs H Q _ => ∃ (p dx : Addr) (N : List Addr) (B : BR) (v1 v2 v3 v4 v5 : V), vs = [.ref p, v1, v2, v3, v4, v5] ∧ H p = some (.ins (He.ga K "Board") dx []) ∧ Alive N H ∧ p ∈ N ∧ BOk B ∧
  Da K (hid N H) v1 (.list (dStrs B.nodes)) ∧ Da K (hid N H) v2 (.list (dLoads B.lamps)) ∧ Da K (hid N H) v3 (.list (dStrs B.sw)) ∧ Da K (hid N H) v4 (.list (dLoads B.rel)) ∧ Da K (hid N H) v5 (.list (dCons B.con)) ∧
  ∀ H1, (∀ a o, a ≠ p → H a = some o → H1 a = some o) → (∃ w1 w2 w3 w4 w5, H1 p = some (.ins (He.ga K "Board") dx (bFs w1 w2 w3 w4 w5)) ∧ Da K (hid N H1) w1 (.tuple (dStrs B.nodes)) ∧ Da K (hid N H1) w2 (.tuple (dStrs B.sw)) ∧
    Da K (hid N H1) w3 (.tuple (dLoads B.rel)) ∧ Da K (hid N H1) w4 (.tuple (dLoads B.lamps)) ∧ Da K (hid N H1) w5 (.tuple (dCons B.con))) → Q .non H1
theorem dCons_len (cs : List (Con Str)) : (dCons cs).length = cs.length := List.length_map ..
/-- .. : a field is written -/
theorem run_fld {te : TE} {σ : L2.St} {D : Ends} {d : PyData} {p C dx : Addr} {fs : List (Str × V)} {f : Str} {N : List Addr} {H : Hp} (al : Alive N H) (hp : p ∈ N) (ho : H p = some (.ins C dx fs)) (sl : Sl K N H σ xs) (h0 : xs[0]? = some (some (.v (.ref p)))) (h : Ed K te xs (.d d))
    (hc : Cls K C) (hn : NoAttr K C f) (hl : fs.length < 1000) (hnm : ∀ (i : Nat) (ds : List PyData), xs[i]? ≠ some (some (Ar.m ds)))
    (k : ∀ H1 v, Alive N H1 → H1 p = some (.ins C dx (putF f v fs)) → Da K (hid N H1) v d → Same (hid N H) (hid N H1) → (∀ a o, a ≠ p → H a = some o → H1 a = some o) → Sl K N H1 σ xs → D.nx σ H1) : sFld K (tVar 0) te f D σ H :=
  h N H σ al sl _ fun v H1 e1 r1 => by
    obtain ⟨v0, s0, r0⟩ := sl.at_ 0 _ h0
    obtain rfl : v0 = .ref p := r0
    have eh : hid N (upd H1 p (.ins C dx (putF f v fs))) = hid N H1 := hid_upd hp
    refine ⟨_, s0, p, C, dx, fs, rfl, e1 _ _ ho, hc, hn, hl, k _ v (fun a ha => ?_) upd_same ?_ ?_ (fun a o ha ho' => ?_) ((sl.mono e1).of_eq eh hnm)⟩
    · by_cases q : a = p
      · subst q; exact ⟨_, upd_same⟩
      · rw [upd_ne q]; exact al.mono e1 a ha
    · rw [eh]; exact r1
    · rw [eh]; exact hid_mono e1
    · rw [upd_ne ha]; exact e1 a o ho'
def SdQ (K : PySem.W.Frag) (G : List Addr) (Hb : Hp) (ts : TS) (xs : Xs) (D : Ends) : Prop := ∀ (F : List Addr) (H : Hp) (σ : L2.St), InF F σ xs → Sx K G Hb F H σ xs → ts D σ H
theorem sdq_seq {G : List Addr} {Hb : Hp} {t u : TS} {D : Ends} {M : Xs → Prop} (h1 : Sd K t xs M (fun _ => False)) (h2 : ∀ ys, M ys → SdQ K G Hb u ys D) : SdQ K G Hb (tSeq t u) xs D := fun F H σ hf s =>
  h1 G Hb F H σ { D with nx := u D } hf s (fun F' H1 σ' xs' e hf' s' => h2 xs' e F' H1 σ' hf' s') (fun _ _ _ _ h => h.elim)
theorem sdq_then {G : List Addr} {Hb : Hp} {t u : TS} {D : Ends} {ys : Xs} (h1 : Sd K t xs (fun zs => zs = ys) (fun _ => False)) (h2 : SdQ K G Hb u ys D) : SdQ K G Hb (tSeq t u) xs D := sdq_seq h1 fun _ e => e ▸ h2
theorem sd_ifnn {tt : TT} {t : TS} {R : Ar → Prop} (h : Et K tt xs false) : Sd K (tIfS tt t tNext) xs (fun zs => zs = xs) R := sd_if h (fun e => nomatch e) fun _ => sd_next rfl
theorem mk_Board (T : TX K mg) : MakK P w K mg base 3 "Board" (He.ga K "Board") ["nodes", "switches", "relays", "lamps", "contacts"] (BInitSp K) (fun vs zs => match zs with | [n, s, r, l, c] => vs ++ [n, l, s, r, c] | _ => []) := by
  obtain ⟨fd, F⟩ := T.f_Boardinit
  have c_are_names := @c_are_names P w K mg base T
  have c_are_loads := @c_are_loads P w K mg base T
  have c_is_contact := @c_is_contact P w K mg base T
  refine ⟨_, fd, ["self", "nodes", "lamps", "switches", "relays", "contacts"], fun us ws => match ws with | [n, s, r, l, c] => us ++ [n, l, s, r, c] | _ => [], T.mk_Board, raw_ok F scope_Boardinit (fun vs H Q E ⟨_, _, _, _, _, _, _, _, _, e, _⟩ => by rw [e]; rfl) (fun cdv A outer s H E hr => ?_), T.g_Board,
    K58.FunD.kb F 1 _ (fun kV doc pm an cdv ct us ws hu hw => match us, ws, hu, hw with | [_], [_, _, _, _, _], _, _ => rfl) (fun {vs us zs ws} h1 h2 => ?_)⟩
  · refine ⟨_, (pss_cons (ps_if (PW.pt (pw_or (pt_not (pt_val (C8.pe_c c_are_names hr (by decide) rfl (pa_cons (pv 1) (pa_cons pe_int (pa_cons (peCval (K := K) (C8.pe_gc (v := .ref (He.ga K "Board")) (by rfl) ⟨_, T.g_Board, rfl⟩)) pa_nil)))))) (pw_or1 (pt_cmpR op_gt (pe_callB (cLen (K := K)) (by rfl) T.z_len PySem.boot_len (pa_cons (pv 3) pa_nil)) (peCval (K := K) (C8.pe_gc (v := .ref (He.ga K "Board")) (by rfl) ⟨_, T.g_Board, rfl⟩)) (nomark _)))))
      (pss_one ps_never)
      pss_nil)
    (pss_cons (ps_set (i := 6) scope_Boardinit.nd rfl (Or.inl rfl) (pe_op op_cat (pe_callTy (cList (K := K)) (by rfl) T.z_list boot_list (pa_cons (pv 3) pa_nil)) (pe_lc (own := [("relay", 8)]) (g := gName 8) (tt := tYes) rfl scope_Boardinit.nd (piList (K := K) (pv 4)) (blkOk_by (own := [("relay", 8)]) (N := nm_Boardinit) (sc := defScope s_Boardinit) (by decide +kernel)) (fun _ _ _ _ _ => (pg_name (i := 8) scope_Boardinit.nd rfl (Or.inl rfl))) (fun _ _ _ _ _ => pts_nil) (fun _ _ _ _ _ => (pe_ix (ixT (K := K)) (pv 8) pe_int (fun _ _ => rfl))))))
    (pss_cons (ps_if (PW.pt (pw_or (pt_not (pt_val (C8.pe_c c_are_names hr (by decide) rfl (pa_cons (pv 6) (pa_cons pe_int (pa_cons (pe_op op_add (peCval (K := K) (C8.pe_gc (v := .ref (He.ga K "Board")) (by rfl) ⟨_, T.g_Board, rfl⟩)) (peCval (K := K) (C8.pe_gc (v := .ref (He.ga K "Board")) (by rfl) ⟨_, T.g_Board, rfl⟩))) pa_nil)))))) (pw_or1 (pt_cmpR op_gt (pe_callB (cLen (K := K)) (by rfl) T.z_len PySem.boot_len (pa_cons (pv 4) pa_nil)) (peCval (K := K) (C8.pe_gc (v := .ref (He.ga K "Board")) (by rfl) ⟨_, T.g_Board, rfl⟩)) (nomark _)))))
      (pss_one ps_never)
      pss_nil)
    (pss_cons (ps_if (pt_not (pt_val (C8.pe_c c_are_names hr (by decide) rfl (pa_cons (pe_lc (own := [("lamp", 9)]) (g := gName 9) (tt := tYes) rfl scope_Boardinit.nd (piList (K := K) (pv 2)) (blkOk_by (own := [("lamp", 9)]) (N := nm_Boardinit) (sc := defScope s_Boardinit) (by decide +kernel)) (fun _ _ _ _ _ => (pg_name (i := 9) scope_Boardinit.nd rfl (Or.inl rfl))) (fun _ _ _ _ _ => pts_nil) (fun _ _ _ _ _ => (pe_ix (ixT (K := K)) (pv 9) pe_int (fun _ _ => rfl)))) (pa_cons pe_int (pa_cons (peCval (K := K) (C8.pe_gc (v := .ref (He.ga K "Board")) (by rfl) ⟨_, T.g_Board, rfl⟩)) pa_nil))))))
      (pss_one ps_never)
      pss_nil)
    (pss_cons (ps_if (PW.pt (pw_or (pt_not (pt_val (C8.pe_c c_are_loads hr (by decide) rfl (pa_cons (pv 4) (pa_cons (pv 1) pa_nil))))) (pw_or1 (pt_not (pt_val (C8.pe_c c_are_loads hr (by decide) rfl (pa_cons (pv 2) (pa_cons (pv 1) pa_nil))))))))
      (pss_one ps_never)
      pss_nil)
    (pss_cons (ps_if (pt_cmpR op_gt (pe_callB (cLen (K := K)) (by rfl) T.z_len PySem.boot_len (pa_cons (pv 5) pa_nil)) (peCval (K := K) (C8.pe_gc (v := .ref (He.ga K "Board")) (by rfl) ⟨_, T.g_Board, rfl⟩)) (nomark _))
      (pss_one ps_never)
      pss_nil)
    (pss_cons (ps_for PassesOwn.never rfl (piList (K := K) (pv 5)) (pg_name (i := 7) scope_Boardinit.nd rfl (Or.inl rfl))
      (pss_one (ps_if (pt_not (pt_val (C8.pe_c c_is_contact hr (by decide) rfl (pa_cons (pv 7) (pa_cons (pv 1) (pa_cons (pv 6) pa_nil))))))
      (pss_one ps_never)
      pss_nil)))
    (pss_cons (psFld (K := K) (pv 0) (peTupleOf (K := K) (by rfl) T.z_tuple (pv 1)) rfl)
    (pss_cons (psFld (K := K) (pv 0) (peTupleOf (K := K) (by rfl) T.z_tuple (pv 3)) rfl)
    (pss_cons (psFld (K := K) (pv 0) (peTupleOf (K := K) (by rfl) T.z_tuple (pe_lc (own := [("relay", 8)]) (g := gName 8) (tt := tYes) rfl scope_Boardinit.nd (piList (K := K) (pv 4)) (blkOk_by (own := [("relay", 8)]) (N := nm_Boardinit) (sc := defScope s_Boardinit) (by decide +kernel)) (fun _ _ _ _ _ => (pg_name (i := 8) scope_Boardinit.nd rfl (Or.inl rfl))) (fun _ _ _ _ _ => pts_nil) (fun _ _ _ _ _ => (peTupleOf (K := K) (by rfl) T.z_tuple (pv 8))))) rfl)
    (pss_cons (psFld (K := K) (pv 0) (peTupleOf (K := K) (by rfl) T.z_tuple (pe_lc (own := [("lamp", 9)]) (g := gName 9) (tt := tYes) rfl scope_Boardinit.nd (piList (K := K) (pv 2)) (blkOk_by (own := [("lamp", 9)]) (N := nm_Boardinit) (sc := defScope s_Boardinit) (by decide +kernel)) (fun _ _ _ _ _ => (pg_name (i := 9) scope_Boardinit.nd rfl (Or.inl rfl))) (fun _ _ _ _ _ => pts_nil) (fun _ _ _ _ _ => (peTupleOf (K := K) (by rfl) T.z_tuple (pv 9))))) rfl)
    (pss_one (psFld (K := K) (pv 0) (peTupleOf (K := K) (by rfl) T.z_tuple (pe_lc (own := [("contact", 7)]) (g := gName 7) (tt := tYes) rfl scope_Boardinit.nd (piList (K := K) (pv 5)) (blkOk_by (own := [("contact", 7)]) (N := nm_Boardinit) (sc := defScope s_Boardinit) (by decide +kernel)) (fun _ _ _ _ _ => (pg_name (i := 7) scope_Boardinit.nd rfl (Or.inl rfl))) (fun _ _ _ _ _ => pts_nil) (fun _ _ _ _ _ => (peTupleOf (K := K) (by rfl) T.z_tuple (pv 7))))) rfl))))))))))))), fun vs H Q E ⟨p, dx, N, B, v1, v2, v3, v4, v5, e, o, al, hp, ok, d1, d2, d3, d4, d5, hQ⟩ => ?_⟩
    subst e
    have zb := ok.wb
    have zm := zb.zm
    have zn := zb.zn
    have zs := zb.zs
    have zr := zb.zr
    have zl := zb.zl
    have zc := zb.zc
    have zp := ok.pl
    let xs0 : Xs := [some (.v (.ref p)), some (.d (.list (dStrs B.nodes))), some (.d (.list (dLoads B.lamps))), some (.d (.list (dStrs B.sw))), some (.d (.list (dLoads B.rel))), some (.d (.list (dCons B.con))), none, none, none, none]
    let xs1 : Xs := [some (.v (.ref p)), some (.d (.list (dStrs B.nodes))), some (.d (.list (dLoads B.lamps))), some (.d (.list (dStrs B.sw))), some (.d (.list (dLoads B.rel))), some (.d (.list (dCons B.con))), some (.d (.list (dStrs B.movers))), none, none, none]
    have nm2 : ∀ (i : Nat) (ds : List PyData), xs1[i]? ≠ some (some (Ar.m ds)) := by
      intro i ds z
      rcases i with _ | _ | _ | _ | _ | _ | _ | _ | _ | _ | i <;> first | (cases z; done) | (simp [xs1] at z)
    have sl0 : Sl K (N ++ []) H (L2.start nm_Boardinit [.ref p, v1, v2, v3, v4, v5]) xs0 := by
      rw [List.append_nil]
      refine ⟨rfl, fun i x hx => ?_⟩
      rcases i with _ | _ | _ | _ | _ | _ | _ | _ | _ | _ | i
      · cases hx; exact ⟨_, rfl, rfl⟩
      · cases hx; exact ⟨_, rfl, d1⟩
      · cases hx; exact ⟨_, rfl, d2⟩
      · cases hx; exact ⟨_, rfl, d3⟩
      · cases hx; exact ⟨_, rfl, d4⟩
      · cases hx; exact ⟨_, rfl, d5⟩
      · cases hx
      · cases hx
      · cases hx
      · cases hx
      · simp [xs0] at hx
    have nm0 : ∀ (i : Nat) (ds : List PyData), xs0[i]? ≠ some (some (Ar.m ds)) := by
      intro i ds z
      rcases i with _ | _ | _ | _ | _ | _ | _ | _ | _ | _ | i <;> first | (cases z; done) | (simp [xs0] at z)
    refine (?_ : SdQ K N H _ xs0 _) [] H _ (fun i ds hi => absurd hi (nm0 i ds)) ⟨⟨al, Same.refl H, fun a ha => nomatch ha⟩, sl0, fun i j ds es hi => absurd hi (nm0 i ds)⟩
    refine sdq_then (ys := xs0) (sd_ifnn (et_is (et_or (et_not (et_B (ed_call (ea_cons (ed_var rfl) (ea_cons (ed_c rfl) (ea_cons (ed_cval T.cr T.cv_MOST_NODES ed_cv rfl) ea_nil))) (.mk B.nodes 2 16 (by unfold Brd.nodes; simp) (by omega) ok.nmN ok.ndN)))) fun _ => (et_test (ed_op (ed_cb (ea_cons (ed_var rfl) ea_nil) (rc_len (by constructor))) (ed_cval T.cr T.cv_MOST_SWITCHES ed_cv rfl) (rv_i0 rfl)))) ?_)) ?_
    · rw [dStrs_len, decide_eq_false (show ¬ (6 : Int) < ((B.sw.length : Nat) : Int) by omega)]; rfl
    refine sdq_then (ys := xs1) (sd_asg (ed_is (En.ed (en_op (x := .d (.list (dStrs B.sw))) (y := .d (.list (dStrs (B.rel.map (·.1))))) (En.ed (en_cb (ea_cons (ed_var rfl) ea_nil) (rcn_list (by constructor)))) (En.ed (en_lcY (l := B.rel) (enc := dLoad) (out := .str) (w := fun l => l.1) (id_list (ed_var rfl)) (fun a _ => gd_name) (fun i hi => hi) (fun a _ => (ed_op (ed_var rfl) (ed_c rfl) (rv_ixT (at0 rfl)))) (by omega))) (rn_cat (by constructor) (by constructor) (by rw [dStrs_len, dStrs_len, List.length_map]; omega)))) (y := .d (.list (dStrs B.movers))) ?_) rfl rfl) ?_
    · unfold Brd.movers dStrs; rw [List.map_append]
    refine sdq_then (ys := xs1) (sd_ifnn (et_is (et_or (et_not (et_B (ed_call (ea_cons (ed_var rfl) (ea_cons (ed_c rfl) (ea_cons (ed_op (ed_cval T.cr T.cv_MOST_SWITCHES ed_cv rfl) (ed_cval T.cr T.cv_MOST_RELAYS ed_cv rfl) (rv_i0 rfl)) ea_nil))) (.mk B.movers 0 14 (Nat.zero_le _) (by omega) ok.nmM zb.nd)))) fun _ => (et_test (ed_op (ed_cb (ea_cons (ed_var rfl) ea_nil) (rc_len (by constructor))) (ed_cval T.cr T.cv_MOST_RELAYS ed_cv rfl) (rv_i0 rfl)))) ?_)) ?_
    · rw [dLoads_len, decide_eq_false (show ¬ (8 : Int) < ((B.rel.length : Nat) : Int) by omega)]; rfl
    refine sdq_then (ys := xs1) (sd_ifnn (et_is (et_not (et_B (ed_call (as := [.d (.list (dStrs (B.lamps.map (·.1)))), .d (.int 1), .d (.int 8)]) (ea_cons (En.ed (en_lcY (l := B.lamps) (enc := dLoad) (out := .str) (w := fun l => l.1) (id_list (ed_var rfl)) (fun a _ => gd_name) (fun i hi => hi) (fun a _ => (ed_op (ed_var rfl) (ed_c rfl) (rv_ixT (at0 rfl)))) (by omega))) (ea_cons (ed_c rfl) (ea_cons (ed_cval T.cr T.cv_MOST_LAMPS ed_cv rfl) ea_nil))) (.mk (B.lamps.map (·.1)) 1 8 (by rw [List.length_map]; omega) (by rw [List.length_map]; omega) ok.nmL ok.ndL)))) rfl)) ?_
    refine sdq_then (ys := xs1) (sd_ifnn (et_is (et_or (et_not (et_B (ed_call (as := [.d (.list (dLoads B.rel)), .d (.list (dStrs B.nodes))]) (ea_cons (ed_var rfl) (ea_cons (ed_var rfl) ea_nil)) (.mk _ _ fun l hl => ⟨(zb.rn l hl).1, (zb.rn l hl).2, ok.rne l hl⟩)))) fun _ => et_not (et_B (ed_call (as := [.d (.list (dLoads B.lamps)), .d (.list (dStrs B.nodes))]) (ea_cons (ed_var rfl) (ea_cons (ed_var rfl) ea_nil)) (.mk _ _ fun l hl => ⟨(zb.ln l hl).1, (zb.ln l hl).2, ok.lne l hl⟩)))) rfl)) ?_
    refine sdq_then (ys := xs1) (sd_ifnn (et_is (et_test (ed_op (ed_cb (ea_cons (ed_var rfl) ea_nil) (rc_len (by constructor))) (ed_cval T.cr T.cv_MOST_CONTACTS ed_cv rfl) (rv_i0 rfl))) ?_)) ?_
    · exact decide_eq_false (by rw [dCons_len]; show ¬ (40 : Int) < ((B.con.length : Nat) : Int); omega)
    refine sdq_seq (M := fun ys => ∃ a, ys = xs1.set 7 a) (sd_for (fun i ys => ∃ a, ys = xs1.set 7 a) (id_list (ed_var rfl)) ⟨none, rfl⟩ (fun i d ys hd hP => ?_) (fun ys hP => hP)) (fun ys hP => ?_)
    · obtain ⟨a, rfl⟩ := hP
      obtain ⟨c, hc, rfl⟩ := map_get hd
      refine ⟨_, _, gd_name, sd_if (b := false) (et_is (et_not (et_B (ed_call (as := [.d (dCon c), .d (.list (dStrs B.nodes)), .d (.list (dStrs B.movers))]) (ea_cons (ed_var rfl) (ea_cons (ed_var rfl) (ea_cons (ed_var rfl) ea_nil))) (.mk c _ _ (ok.con c (List.mem_of_getElem? hc)))))) rfl) (fun e => nomatch e) (fun e => sd_next ⟨some (.d (dCon c)), rfl⟩)⟩
    obtain ⟨a, rfl⟩ := hP
    intro F' H1 σ1 hf1 s1
    have al1 := s1.wf.alive
    have sl1 : Sl K (N ++ F') H1 σ1 xs1 := s1.sl.forget (by simp [xs1]) fun i x hx => by
      by_cases q : i = 7
      · subst q; cases hx
      · rw [List.getElem?_set, if_neg fun z => q z.symm]; exact hx
    have hp1 : p ∈ N ++ F' := List.mem_append_left _ hp
    have o1 := s1.wf.ex _ _ o
    refine st_seq (run_fld (d := .tuple (dStrs B.nodes)) al1 hp1 o1 sl1 rfl (ed_then (ed_var rfl) (ru_tuple (by constructor))) T.cl_Board T.na_Board_nodes (Nat.le_of_ble_eq_true rfl) nm2 fun H2 w1 al2 o2 r1 e2 k2 sl2 => ?_)
    dsimp only
    refine st_seq (run_fld (d := .tuple (dStrs B.sw)) al2 hp1 o2 sl2 rfl (ed_then (ed_var rfl) (ru_tuple (by constructor))) T.cl_Board T.na_Board_switches (Nat.le_of_ble_eq_true rfl) nm2 fun H3 w2 al3 o3 r2 e3 k3 sl3 => ?_)
    dsimp only
    refine st_seq (run_fld (d := .tuple (dLoads B.rel)) al3 hp1 o3 sl3 rfl (ed_then (ed_is (En.ed (en_lcY (l := B.rel) (enc := dLoad) (out := dLoad) (w := id) (id_list (ed_var rfl)) (fun a _ => gd_name) (fun i hi => hi) (fun a _ => (ed_then (ed_var rfl) (ru_tuple (by constructor)))) (by omega))) (y := .d (.list (dLoads B.rel))) (by rw [List.map_id]; rfl)) (ru_tuple (by constructor))) T.cl_Board T.na_Board_relays (Nat.le_of_ble_eq_true rfl) nm2 fun H4 w3 al4 o4 r3 e4 k4 sl4 => ?_)
    dsimp only
    refine st_seq (run_fld (d := .tuple (dLoads B.lamps)) al4 hp1 o4 sl4 rfl (ed_then (ed_is (En.ed (en_lcY (l := B.lamps) (enc := dLoad) (out := dLoad) (w := id) (id_list (ed_var rfl)) (fun a _ => gd_name) (fun i hi => hi) (fun a _ => (ed_then (ed_var rfl) (ru_tuple (by constructor)))) (by omega))) (y := .d (.list (dLoads B.lamps))) (by rw [List.map_id]; rfl)) (ru_tuple (by constructor))) T.cl_Board T.na_Board_lamps (Nat.le_of_ble_eq_true rfl) nm2 fun H5 w4 al5 o5 r4 e5 k5 sl5 => ?_)
    dsimp only
    refine run_fld (d := .tuple (dCons B.con)) al5 hp1 o5 sl5 rfl (ed_then (ed_is (En.ed (en_lcY (l := B.con) (enc := dCon) (out := dCon) (w := id) (id_list (ed_var rfl)) (fun a _ => gd_name) (fun i hi => hi) (fun a _ => (ed_then (ed_var rfl) (ru_tuple (by constructor)))) (by omega))) (y := .d (.list (dCons B.con))) (by rw [List.map_id]; rfl)) (ru_tuple (by constructor))) T.cl_Board T.na_Board_contacts (Nat.le_of_ble_eq_true rfl) nm2 fun H6 w5 al6 o6 r5 e6 k6 sl6 => ?_
    have sub : Same (hid (N ++ F') H6) (hid N H6) := hid_sub fun a ha => List.mem_append_left _ ha
    exact hQ H6 (fun a o' ha ho => k6 a o' ha (k5 a o' ha (k4 a o' ha (k3 a o' ha (k2 a o' ha (s1.wf.ex a o' ho)))))) ⟨w1, w2, w3, w4, w5, o6, ((((r1.mono e3).mono e4).mono e5).mono e6).mono sub, (((r2.mono e4).mono e5).mono e6).mono sub, ((r3.mono e5).mono e6).mono sub, (r4.mono e6).mono sub, r5.mono sub⟩
  · cases h2 with
    | nil => exact .nil
    | cons a h2 => cases h2 with
      | nil => exact .nil
      | cons b h2 => cases h2 with
        | nil => exact .nil
        | cons c h2 => cases h2 with
          | nil => exact .nil
          | cons d h2 => cases h2 with
            | nil => exact .nil
            | cons e h2 => cases h2 with
              | nil => exact h1.append (.cons a (.cons d (.cons b (.cons c (.cons e .nil)))))
              | cons f h2 => exact .nil
end
end K58
end
/-! W10 -/
section
set_option maxRecDepth 100000
set_option maxHeartbeats 2000000
namespace K58
open PySem PySem.Spec PyProof.Rows L2
def dSpec (B : BR) : PyData := .list [.list (dStrs B.nodes), .list (dStrs B.sw), .list (dLoads B.rel), .list (dLoads B.lamps), .list (dCons B.con)]
def dPr2 (p : Str × Str) : PyData := .list [.str p.1, .str p.2]
def dPr2s (ps : List (Str × Str)) : List PyData := ps.map dPr2
theorem dPr2s_len (ps : List (Str × Str)) : (dPr2s ps).length = ps.length := List.length_map ..
section
variable {P : Program} {w : World} {K : PySem.W.Frag} {mg : Str → Option Value} {base : Heap} {xs : Xs}
/-! ### _law_made -/
theorem ed_mkBoard {t1 t2 t3 t4 t5 : TE} {E : XK} {B : BR} (h1 : Ed K t1 xs (.d (.list (dStrs B.nodes)))) (h2 : Ed K t2 xs (.d (.list (dStrs B.sw)))) (h3 : Ed K t3 xs (.d (.list (dLoads B.rel)))) (h4 : Ed K t4 xs (.d (.list (dLoads B.lamps)))) (h5 : Ed K t5 xs (.d (.list (dCons B.con)))) (ok : BOk B) :
    Ed K (tMakeK (He.ga K "Board") 0 5 (BInitSp K) (fun vs zs => match zs with | [n, s, r, l, c] => vs ++ [n, l, s, r, c] | _ => []) E tNil (tCons t1 (tCons t2 (tCons t3 (tCons t4 (tCons t5 tNil)))))) xs (.b B) := fun N H σ al sl Q q => by
  refine h1 N H σ al sl _ fun v1 H1 e1 r1 => ?_
  have al1 := al.mono e1
  have sl1 := sl.mono e1
  refine h2 N H1 σ al1 sl1 _ fun v2 H2 e2 r2 => ?_
  have al2 := al1.mono e2
  have sl2 := sl1.mono e2
  refine h3 N H2 σ al2 sl2 _ fun v3 H3 e3 r3 => ?_
  have al3 := al2.mono e3
  have sl3 := sl2.mono e3
  refine h4 N H3 σ al3 sl3 _ fun v4 H4 e4 r4 => ?_
  have al4 := al3.mono e4
  have sl4 := sl3.mono e4
  refine h5 N H4 σ al4 sl4 _ fun v5 H5 e5 r5 => ⟨rfl, rfl, fun x dx hx hdx hne => ?_⟩
  have al5 := al4.mono e5
  have hex : ∀ a o, H5 a = some o → upd (upd H5 dx (.own x)) x (.ins (He.ga K "Board") dx []) a = some o := fun a o ho => by
    rw [upd_ne (ne_of_none ho hx), upd_ne (ne_of_none ho hdx)]; exact ho
  have hs : Same (hid N H5) (hid (x :: N) (upd (upd H5 dx (.own x)) x (.ins (He.ga K "Board") dx []))) := fun a o h => by
    obtain ⟨z1, z2⟩ := hid_get h
    have n1 : a ≠ x := ne_of_none z2 hx
    rw [hid_out (by simp [n1, z1])]
    exact hex a o z2
  refine ⟨x, dx, x :: N, B, v1, v4, v2, v3, v5, rfl, upd_same, fun a ha => ?_, List.mem_cons_self, ok, (((((Da.mono (hid_mono e2) r1).mono (hid_mono e3)).mono (hid_mono e4)).mono (hid_mono e5)).mono hs), ((Da.mono (hid_mono e5) r4).mono hs), ((((Da.mono (hid_mono e3) r2).mono (hid_mono e4)).mono (hid_mono e5)).mono hs), (((Da.mono (hid_mono e4) r3).mono (hid_mono e5)).mono hs), (Da.mono hs r5), fun H6 k6 ⟨w1, w2, w3, w4, w5, o6, z1, z2, z3, z4, z5⟩ => ⟨rfl, ?_⟩⟩
  · rcases List.mem_cons.mp ha with rfl | ha
    · exact ⟨_, upd_same⟩
    · obtain ⟨o, ho⟩ := al5 a ha
      exact ⟨o, hex a o ho⟩
  · have e6 : Same H5 H6 := fun a o ho => k6 a o (ne_of_none ho hx) (hex a o ho)
    have sub : Same (hid (x :: N) H6) (hid N H6) := hid_sub fun a ha => List.mem_cons_of_mem _ ha
    refine q _ H6 ((((e1.trans e2).trans e3).trans e4).trans (e5.trans e6)) ⟨x, rfl, dx, w1, w2, w3, w4, w5, ?_, z1.mono sub, z2.mono sub, z3.mono sub, z4.mono sub, z5.mono sub⟩
    rw [hid_out (al5.nin hx)]; exact o6
inductive R_law_made : List Ar → Ar → Prop
  | mk (B : BR) (h : BOk B) : R_law_made [.d (dSpec B)] (.b B)
theorem c_law_made (T : TX K mg) : C8.Cal P w K mg base 5 "_law_made" (FS K R_law_made) [] := by
  obtain ⟨fd, F⟩ := T.f_law_made
  have mk_Board := @mk_Board P w K mg base T
  exact cal_of F T.g_law_made (F.bindsN fun _ _ _ _ _ _ us hl => match us, hl with | [_], _ => rfl) (fs_ok F scope_law_made 5 (fun _ _ r => by cases r; rfl) rfl (fun _ _ r => by cases r; first | rfl | simp_all [Ar.nm]) fun cdv A outer s H E hr => by
    have hu := hu_of hr
    have hu9 : (A.deeper (envOfC "_law_made" (defScope s_law_made) s.heap.objs.size (He.ga K "_law_made") cdv)).units + 9 < cLine := by have := hr.un; omega
    have hu64 : (A.deeper (envOfC "_law_made" (defScope s_law_made) s.heap.objs.size (He.ga K "_law_made") cdv)).units + 64 < cLine := by have := hr.un; omega
    have hu65 : (A.deeper (envOfC "_law_made" (defScope s_law_made) s.heap.objs.size (He.ga K "_law_made") cdv)).units + 65 < cLine := by have := hr.un; omega
    refine ⟨_, (pss_cons (ps_asg (pv 0) (pgUnl (K := K) (n := 5) rfl (pgs_cons (pg_name (i := 1) scope_law_made.nd rfl (Or.inl rfl)) (pgs_cons (pg_name (i := 2) scope_law_made.nd rfl (Or.inl rfl)) (pgs_cons (pg_name (i := 3) scope_law_made.nd rfl (Or.inl rfl)) (pgs_cons (pg_name (i := 4) scope_law_made.nd rfl (Or.inl rfl)) (pgs_cons (pg_name (i := 5) scope_law_made.nd rfl (Or.inl rfl)) pgs_nil)))))))
        (pss_one (ps_ret (pe_mkK0 mk_Board hr (by decide) rfl (pk_cons (pe_callTy (cList (K := K)) (by rfl) T.z_list boot_list (pa_cons (pv 1) pa_nil)) (pk_cons (pe_callTy (cList (K := K)) (by rfl) T.z_list boot_list (pa_cons (pv 2) pa_nil)) (pk_cons (pe_callTy (cList (K := K)) (by rfl) T.z_list boot_list (pa_cons (pv 3) pa_nil)) (pk_cons (pe_callTy (cList (K := K)) (by rfl) T.z_list boot_list (pa_cons (pv 4) pa_nil)) (pk_cons (pe_callTy (cList (K := K)) (by rfl) T.z_list boot_list (pa_cons (pv 5) pa_nil)) pk_nil))))))))), fun as y r => ?_⟩
    cases r with
    | mk B h =>
    show Sd K _ [some _, none, none, none, none, none] _ _
    refine sd_letG (ed_var rfl) (gd_unl (gds_cons gd_name (gds_cons gd_name (gds_cons gd_name (gds_cons gd_name (gds_cons gd_name gds_nil))))) rfl) ?_
    exact sd_ret (ed_mkBoard (B := B) (En.ed (en_cb (ea_cons (ed_var rfl) ea_nil) (rcn_list (by constructor)))) (En.ed (en_cb (ea_cons (ed_var rfl) ea_nil) (rcn_list (by constructor)))) (En.ed (en_cb (ea_cons (ed_var rfl) ea_nil) (rcn_list (by constructor)))) (En.ed (en_cb (ea_cons (ed_var rfl) ea_nil) (rcn_list (by constructor)))) (En.ed (en_cb (ea_cons (ed_var rfl) ea_nil) (rcn_list (by constructor)))) h) rfl rfl)
/-! ### _law_movers, _law_closed, _law_pairs -/
inductive R_law_movers : List Ar → Ar → Prop
  | mk (B : BR) (h : WB B) : R_law_movers [.d (dSpec B)] (.d (.list (dStrs B.movers)))
theorem c_law_movers (T : TX K mg) : C8.Cal P w K mg base 1 "_law_movers" (FS K R_law_movers) [] := by
  obtain ⟨fd, F⟩ := T.f_law_movers
  exact cal_of F T.g_law_movers (F.bindsN fun _ _ _ _ _ _ us hl => match us, hl with | [_], _ => rfl) (fs_ok F scope_law_movers 1 (fun _ _ r => by cases r; rfl) rfl (fun _ _ r => by cases r; first | rfl | simp_all [Ar.nm]) fun cdv A outer s H E hr => by
    have hu := hu_of hr
    have hu9 : (A.deeper (envOfC "_law_movers" (defScope s_law_movers) s.heap.objs.size (He.ga K "_law_movers") cdv)).units + 9 < cLine := by have := hr.un; omega
    have hu64 : (A.deeper (envOfC "_law_movers" (defScope s_law_movers) s.heap.objs.size (He.ga K "_law_movers") cdv)).units + 64 < cLine := by have := hr.un; omega
    have hu65 : (A.deeper (envOfC "_law_movers" (defScope s_law_movers) s.heap.objs.size (He.ga K "_law_movers") cdv)).units + 65 < cLine := by have := hr.un; omega
    refine ⟨_, (pss_one (ps_ret (pe_op op_cat (pe_ix (ixL (K := K)) (pv 0) pe_int (fun _ _ => rfl)) (pe_lc (own := [("_law_relay", 1)]) (g := gName 1) (tt := tYes) rfl scope_law_movers.nd (piList (K := K) (pe_ix (ixL (K := K)) (pv 0) pe_int (fun _ _ => rfl))) (blkOk_by (own := [("_law_relay", 1)]) (N := nm_law_movers) (sc := defScope s_law_movers) (by decide +kernel)) (fun _ _ _ _ _ => (pg_name (i := 1) scope_law_movers.nd rfl (Or.inl rfl))) (fun _ _ _ _ _ => pts_nil) (fun _ _ _ _ _ => (pe_ix (ixT (K := K)) (pv 1) pe_int (fun _ _ => rfl))))))), fun as y r => ?_⟩
    cases r with
    | mk B h =>
    show Sd K _ [some _, none] _ _
    have zr := h.zr
    have zs := h.zs
    refine sd_ret (ed_is (En.ed (en_op (x := .d (.list (dStrs B.sw))) (y := .d (.list (dStrs (B.rel.map (·.1))))) (ed_op (ed_var rfl) (ed_c rfl) (rv_ixL (at1 rfl))) (En.ed (en_lcY (l := B.rel) (enc := dLoad) (out := .str) (w := fun l => l.1) (id_list (ed_op (ed_var rfl) (ed_c rfl) (rv_ixL (at2 rfl)))) (fun a _ => gd_name) (fun i hi => hi) (fun a _ => (ed_op (ed_var rfl) (ed_c rfl) (rv_ixT (at0 rfl)))) (by omega))) (rn_cat (by constructor) (by constructor) (by rw [dStrs_len, dStrs_len, List.length_map]; omega)))) ?_) rfl rfl
    unfold Brd.movers dStrs; rw [List.map_append])
inductive R_law_closed : List Ar → Ar → Prop
  | mk (B : BR) (h : WB B) (on : List Bool) (hl : on.length = B.movers.length) (sd : PyData) (hq : SeqD sd (dBits on)) (c : Con Str) (hc : c ∈ B.con) : R_law_closed [.d (dSpec B), .d sd, .d (dCon c)] (.d (.bool (B.closed on c)))
theorem c_law_closed (T : TX K mg) : C8.Cal P w K mg base 2 "_law_closed" (FS K R_law_closed) [] := by
  obtain ⟨fd, F⟩ := T.f_law_closed
  have c_law_movers := @c_law_movers P w K mg base T
  exact cal_of F T.g_law_closed (F.bindsN fun _ _ _ _ _ _ us hl => match us, hl with | [_, _, _], _ => rfl) (fs_ok F scope_law_closed 0 (fun _ _ r => by cases r; rfl) rfl (fun _ _ r => by cases r; first | rfl | simp_all [Ar.nm]) fun cdv A outer s H E hr => by
    have hu := hu_of hr
    have hu9 : (A.deeper (envOfC "_law_closed" (defScope s_law_closed) s.heap.objs.size (He.ga K "_law_closed") cdv)).units + 9 < cLine := by have := hr.un; omega
    have hu64 : (A.deeper (envOfC "_law_closed" (defScope s_law_closed) s.heap.objs.size (He.ga K "_law_closed") cdv)).units + 64 < cLine := by have := hr.un; omega
    have hu65 : (A.deeper (envOfC "_law_closed" (defScope s_law_closed) s.heap.objs.size (He.ga K "_law_closed") cdv)).units + 65 < cLine := by have := hr.un; omega
    refine ⟨_, (pss_cons (ps_if (pt_cmpR op_isN (pe_ix (ixT (K := K)) (pv 2) pe_int (fun _ _ => rfl)) pe_non (nomark _))
          (pss_one (ps_ret pe_bl))
          pss_nil)
        (pss_one (ps_ret (pe_cmpR op_eq (pe_ix (ixQ (K := K)) (pv 1) (peBm (K := K) PySem.F.plainAttrs_list PySem.F.slot_list_index PySem.F.type_list_index (mtIx (K := K)) (C8.pe_c c_law_movers hr (by decide) rfl (pa_cons (pv 0) pa_nil)) (pa_cons (pe_ix (ixT (K := K)) (pv 2) pe_int (fun _ _ => rfl)) pa_nil)) (fun _ _ => rfl)) (pe_cmpR op_eq (pe_ix (ixT (K := K)) (pv 2) pe_int (fun _ _ => rfl)) pe_str (nomark _)) (nomark _))))), fun as y r => ?_⟩
    cases r with
    | mk B h on hl sd hq c hc =>
    show Sd K _ [some _, some _, some _] _ _
    refine sd_ifr (b := c.mover.isNone) (et_is (et_test (ed_op (ed_op (ed_var rfl) (ed_c rfl) (rv_ixT (at2 rfl))) (ed_c rfl) rv_isN)) (isNone_mov c)) (fun e => sd_ret (ed_c rfl) rfl ?_) (fun e => ?_)
    · rw [closed_eq, e]; rfl
    · obtain ⟨m, em⟩ : ∃ m, c.mover = some m := by cases q : c.mover with
        | none => rw [q] at e; cases e
        | some m => exact ⟨m, rfl⟩
      have hm := h.cm c hc m em
      have hg := bits_get (bs := on) (i := B.idx m) (by rw [hl]; exact idx_lt hm)
      have hk := make_str c.make
      refine sd_ret (ed_is (ed_op (ed_op (ed_var rfl) (ed_index hm (ed_call (ea_cons (ed_var rfl) ea_nil) (by constructor <;> assumption)) (ea_cons (ed_is (ed_op (ed_var rfl) (ed_c rfl) (rv_ixT (at2 rfl))) (y := .d (.str m)) (by rw [em])) ea_nil)) (rv_ixQ hq (at_nat hg))) (ed_op (ed_op (ed_var rfl) (ed_c rfl) (rv_ixT (at3 rfl))) (ed_c rfl) rv_eqS) rv_eqB) ?_) rfl rfl
      rw [hk]
      unfold Brd.closed
      rw [em])
theorem pairs_take {B : BR} {on : List Bool} {i : Nat} {c : Con Str} (h : B.con[i]? = some c) : ((B.con.take (i + 1)).filter (B.closed on)).flatMap prs = ((B.con.take i).filter (B.closed on)).flatMap prs ++ (if B.closed on c = true then prs c else []) := by
  rw [filter_take_snoc _ h, List.flatMap_append]
  congr 1
  split <;> simp
theorem pairs_take_len (B : BR) (on : List Bool) (i : Nat) : (((B.con.take i).filter (B.closed on)).flatMap prs).length ≤ 2 * B.con.length := by
  have h1 := flat_len prs 2 prs_len ((B.con.take i).filter (B.closed on))
  have h2 := List.length_filter_le (B.closed on) (B.con.take i)
  rw [List.length_take] at h2
  have := Nat.mul_le_mul_left 2 (Nat.le_trans h2 (Nat.min_le_right _ _))
  omega
inductive R_law_pairs : List Ar → Ar → Prop
  | mk (B : BR) (h : WB B) (on : List Bool) (hl : on.length = B.movers.length) (sd : PyData) (hq : SeqD sd (dBits on)) : R_law_pairs [.d (dSpec B), .d sd] (.d (.list (dPr2s (B.pairs on))))
theorem c_law_pairs (T : TX K mg) : C8.Cal P w K mg base 3 "_law_pairs" (FS K R_law_pairs) [] := by
  obtain ⟨fd, F⟩ := T.f_law_pairs
  have c_law_closed := @c_law_closed P w K mg base T
  exact cal_of F T.g_law_pairs (F.bindsN fun _ _ _ _ _ _ us hl => match us, hl with | [_, _], _ => rfl) (fs_ok F scope_law_pairs 2 (fun _ _ r => by cases r; rfl) rfl (fun _ _ r => by cases r; first | rfl | simp_all [Ar.nm]) fun cdv A outer s H E hr => by
    have hu := hu_of hr
    have hu9 : (A.deeper (envOfC "_law_pairs" (defScope s_law_pairs) s.heap.objs.size (He.ga K "_law_pairs") cdv)).units + 9 < cLine := by have := hr.un; omega
    have hu64 : (A.deeper (envOfC "_law_pairs" (defScope s_law_pairs) s.heap.objs.size (He.ga K "_law_pairs") cdv)).units + 64 < cLine := by have := hr.un; omega
    have hu65 : (A.deeper (envOfC "_law_pairs" (defScope s_law_pairs) s.heap.objs.size (He.ga K "_law_pairs") cdv)).units + 65 < cLine := by have := hr.un; omega
    refine ⟨_, (pss_cons (ps_set (i := 2) scope_law_pairs.nd rfl (Or.inl rfl) (pe_lst pa_nil))
        (pss_cons (ps_for PassesOwn.never rfl (piList (K := K) (pe_ix (ixL (K := K)) (pv 0) pe_int (fun _ _ => rfl))) (pg_name (i := 3) scope_law_pairs.nd rfl (Or.inl rfl))
          (pss_one (ps_if (pt_val (C8.pe_c c_law_closed hr (by decide) rfl (pa_cons (pv 0) (pa_cons (pv 1) (pa_cons (pv 3) pa_nil)))))
          (pss_cons (ps_expr (peBm (K := K) PySem.F.plainAttrs_list PySem.F.slot_list_append PySem.F.type_list_append mt_append (pv 2) (pa_cons (pe_lst (pa_cons (pe_ix (ixT (K := K)) (pv 3) pe_int (fun _ _ => rfl)) (pa_cons (pe_ix (ixT (K := K)) (pv 3) pe_int (fun _ _ => rfl)) pa_nil))) pa_nil)))
        (pss_one (ps_if (pt_cmpR op_eq (pe_ix (ixT (K := K)) (pv 3) pe_int (fun _ _ => rfl)) pe_str (nomark _))
          (pss_one (ps_expr (peBm (K := K) PySem.F.plainAttrs_list PySem.F.slot_list_append PySem.F.type_list_append mt_append (pv 2) (pa_cons (pe_lst (pa_cons (pe_ix (ixT (K := K)) (pv 3) pe_int (fun _ _ => rfl)) (pa_cons (pe_ix (ixT (K := K)) (pv 3) pe_int (fun _ _ => rfl)) pa_nil))) pa_nil))))
          pss_nil)))
          pss_nil)))
        (pss_one (ps_ret (pv 2))))), fun as y r => ?_⟩
    cases r with
    | mk B h on hl sd hq =>
    show Sd K _ [some _, some _, none, none] _ _
    have zc := h.zc
    refine sd_letN (en_lst (ds := []) ea_nil (Nat.le_of_ble_eq_true rfl)) ?_
    refine sd_seq (M := fun ys => ∃ a, ys = [some (.d (dSpec B)), some (.d sd), some (.m (dPr2s (B.pairs on))), a])
      (sd_for (fun i ys => ∃ a, ys = [some (.d (dSpec B)), some (.d sd), some (.m (dPr2s (((B.con.take i).filter (B.closed on)).flatMap prs))), a]) (id_list (ed_op (ed_var rfl) (ed_c rfl) (rv_ixL (at4 rfl)))) ⟨_, rfl⟩ (fun i d ys hd hP => ?_) (fun ys hP => ?_)) (fun ys hP => ?_)
    · obtain ⟨a, rfl⟩ := hP
      obtain ⟨c, hc, rfl⟩ := map_get hd
      have ln := pairs_take_len B on i
      refine ⟨_, _, gd_name, sd_if (b := B.closed on c) (et_B (ed_call (ea_cons (ed_var rfl) (ea_cons (ed_var rfl) (ea_cons (ed_var rfl) ea_nil))) (.mk B h on hl sd hq c (List.mem_of_getElem? hc)))) (fun e => ?_) (fun e => sd_next ?_)⟩
      · refine sd_app1 rfl (En.ed (en_lst (ds := [_, _]) (ea_cons (ed_op (ed_var rfl) (ed_c rfl) (rv_ixT (at0 rfl))) (ea_cons (ed_op (ed_var rfl) (ed_c rfl) (rv_ixT (at1 rfl))) ea_nil)) (Nat.le_of_ble_eq_true rfl))) (by rw [dPr2s_len]; omega) ?_
        have em := both_str c.both
        refine sd_if (b := c.both) (et_is (et_test (ed_op (ed_op (ed_var rfl) (ed_c rfl) (rv_ixT (at4 rfl))) (ed_c rfl) rv_eqS)) em) (fun e2 => sd_app rfl (En.ed (en_lst (ds := [_, _]) (ea_cons (ed_op (ed_var rfl) (ed_c rfl) (rv_ixT (at1 rfl))) (ea_cons (ed_op (ed_var rfl) (ed_c rfl) (rv_ixT (at0 rfl))) ea_nil)) (Nat.le_of_ble_eq_true rfl))) (by rw [List.length_append, dPr2s_len]; show _ + 1 < _; omega) ?_) (fun e2 => sd_next ?_)
        · rw [pairs_take hc, e]
          unfold prs
          rw [e2]
          refine ⟨some (.d (dCon c)), ?_⟩
          unfold dPr2s
          rw [List.map_append, List.append_assoc]; rfl
        · rw [pairs_take hc, e]
          unfold prs
          rw [e2]
          refine ⟨some (.d (dCon c)), ?_⟩
          unfold dPr2s
          rw [List.map_append]; rfl
      · rw [pairs_take hc, e, if_neg (by decide), List.append_nil]
        exact ⟨_, rfl⟩
    · rw [dCons_len, List.take_length] at hP
      exact hP
    · obtain ⟨a, rfl⟩ := hP
      exact sd_retM rfl rfl)
/-! ### _law_reach, _law_reaches -/
inductive R_law_reach : List Ar → Ar → Prop
  | mk (B : BR) (h : WB B) (ps : List (Str × Str)) (hl : ps.length ≤ 14) (s : Str) : R_law_reach [.d (dSpec B), .d (.list (dPr2s ps)), .d (.str s)] (.d (.list (dStrs (reachR ps s B.nodes.length))))
theorem rl_step {ps : List (Str × Str)} {k : Nat} {fs : List Str} : rl ps (k + 1) fs = if (moreT fs ps).isEmpty = true then fs else rl ps k (fs ++ moreT fs ps) := rfl
theorem moreT_len (fs : List Str) (ps : List (Str × Str)) : (moreT fs ps).length ≤ ps.length := by
  unfold moreT; rw [List.length_map]; exact List.length_filter_le _ _
theorem c_law_reach (T : TX K mg) : C8.Cal P w K mg base 1 "_law_reach" (FS K R_law_reach) [] := by
  obtain ⟨fd, F⟩ := T.f_law_reach
  exact cal_of F T.g_law_reach (F.bindsN fun _ _ _ _ _ _ us hl => match us, hl with | [_, _, _], _ => rfl) (fs_ok F scope_law_reach 4 (fun _ _ r => by cases r; rfl) rfl (fun _ _ r => by cases r; first | rfl | simp_all [Ar.nm]) fun cdv A outer s H E hr => by
    have hu := hu_of hr
    have hu9 : (A.deeper (envOfC "_law_reach" (defScope s_law_reach) s.heap.objs.size (He.ga K "_law_reach") cdv)).units + 9 < cLine := by have := hr.un; omega
    have hu64 : (A.deeper (envOfC "_law_reach" (defScope s_law_reach) s.heap.objs.size (He.ga K "_law_reach") cdv)).units + 64 < cLine := by have := hr.un; omega
    have hu65 : (A.deeper (envOfC "_law_reach" (defScope s_law_reach) s.heap.objs.size (He.ga K "_law_reach") cdv)).units + 65 < cLine := by have := hr.un; omega
    refine ⟨_, (pss_cons (ps_set (i := 3) scope_law_reach.nd rfl (Or.inr rfl) (pe_lst (pa_cons (pv 2) pa_nil)))
        (pss_cons (ps_for PassesOwn.never rfl (pi_range1 (by rfl) T.z_range (pa_cons (pe_callB (cLen (K := K)) (by rfl) T.z_len PySem.boot_len (pa_cons (pe_ix (ixL (K := K)) (pv 0) pe_int (fun _ _ => rfl)) pa_nil)) pa_nil)) (pg_name (i := 4) scope_law_reach.nd rfl (Or.inl rfl))
          (pss_cons (ps_setLc (i := 5) (own := [("_law_pair", 6)]) (g := gName 6) rfl scope_law_reach.nd rfl rfl (sw_true rfl rfl rfl (by decide +kernel)) (piList (K := K) (pv 1)) (blkOk_by (own := [("_law_pair", 6)]) (N := nm_law_reach) (sc := defScope s_law_reach) (by decide +kernel)) (fun _ _ _ _ _ => (pg_name (i := 6) scope_law_reach.nd rfl (Or.inl rfl))) (fun _ _ _ _ _ => (pts_one (PW.pt (pw_and (pt_cmpR (opIn (K := K)) (pe_ix (ixL (K := K)) (pv 6) pe_int (fun _ _ => rfl)) (pv 3) rfl) (pw_and1 (pt_cmpR (opNi (K := K)) (pe_ix (ixL (K := K)) (pv 6) pe_int (fun _ _ => rfl)) (pv 3) rfl)))))) (fun _ _ _ _ _ => (pe_ix (ixL (K := K)) (pv 6) pe_int (fun _ _ => rfl))))
        (pss_cons (ps_if (pt_cmpR op_eq (pe_callB (cLen (K := K)) (by rfl) T.z_len PySem.boot_len (pa_cons (pv 5) pa_nil)) pe_int (nomark _))
          (pss_one (ps_ret (pv 3)))
          pss_nil)
        (pss_one (ps_set (i := 3) scope_law_reach.nd rfl (Or.inr rfl) (pe_op op_cat (pv 3) (pv 5)))))))
        (pss_one (ps_ret (pv 3))))), fun as y r => ?_⟩
    cases r with
    | mk B h ps hl s =>
    show Sd K _ [some _, some _, some _, none, none, none, none] _ _
    have zn := h.zn
    refine sd_let (En.ed (en_lst (ds := [_]) (ea_cons (ed_var rfl) ea_nil) (Nat.le_of_ble_eq_true rfl))) rfl ?_
    refine sd_seq (M := fun ys => ∃ a b c, ys = [some (.d (dSpec B)), some (.d (.list (dPr2s ps))), some (.d (.str s)), some (.d (.list (dStrs (reachR ps s B.nodes.length)))), a, b, c])
      (sd_for (fun i ys => ∃ fs a b c, fs.length ≤ 1 + 14 * i ∧ i ≤ B.nodes.length ∧ rl ps (B.nodes.length - i) fs = reachR ps s B.nodes.length ∧ ys = [some (.d (dSpec B)), some (.d (.list (dPr2s ps))), some (.d (.str s)), some (.d (.list (dStrs fs))), a, b, c])
        (id_range (n := B.nodes.length) (by omega) (ed_is (ed_cb (ea_cons (ed_op (ed_var rfl) (ed_c rfl) (rv_ixL (at0 rfl))) ea_nil) (rc_len (by constructor))) (by rw [dStrs_len]))) ⟨[s], _, _, _, by simp, Nat.zero_le _, rfl, rfl⟩ (fun i d ys hd hP => ?_) (fun ys hP => ?_)) (fun ys hP => ?_)
    · obtain ⟨fs, a, b, c, hfl, hile, hrl, rfl⟩ := hP
      obtain ⟨hi, rfl⟩ := range_get' hd
      have hml := moreT_len fs ps
      refine ⟨_, _, gd_name, sd_let (x := .d (.list (dStrs (moreT fs ps)))) (En.ed (en_lcE (l := ps) (enc := dPr2) (out := .str) (p := fun p => decide (p.1 ∈ fs) && decide (p.2 ∉ fs)) (w := fun p => p.2) (id_list (ed_var rfl)) (fun a _ => gd_name) (fun i hi => hi) (fun p _ => et_is (et_and (et_test (ed_op (ed_op (ed_var rfl) (ed_c rfl) (rv_ixL (at0 rfl))) (ed_var rfl) (rv_isIn (by constructor)))) fun _ => (et_test (ed_op (ed_op (ed_var rfl) (ed_c rfl) (rv_ixL (at1 rfl))) (ed_var rfl) (rv_notIn (by constructor))))) (by rw [decide_not])) (fun p _ _ => (ed_op (ed_var rfl) (ed_c rfl) (rv_ixL (at1 rfl)))) (by omega))) rfl ?_⟩
      have hk : B.nodes.length - i = (B.nodes.length - (i + 1)) + 1 := by omega
      rw [hk, rl_step] at hrl
      refine sd_ifr (b := (moreT fs ps).isEmpty) (et_is (et_test (ed_op (ed_cb (ea_cons (ed_var rfl) ea_nil) (rc_len (by constructor))) (ed_c rfl) rv_eqI)) ?_) (fun e => ?_) (fun e => ?_)
      · rw [dStrs_len]
        cases moreT fs ps with
        | nil => rfl
        | cons a l => exact decide_eq_false (by simp only [List.length_cons]; omega)
      · rw [if_pos e] at hrl
        exact sd_ret (ed_var rfl) rfl (by rw [hrl])
      · rw [if_neg (by rw [e]; decide)] at hrl
        refine sd_asg (x := .d (.list (dStrs (fs ++ moreT fs ps)))) (ed_is (En.ed (en_op (ed_var rfl) (ed_var rfl) (rn_cat (by constructor) (by constructor) (by rw [dStrs_len, dStrs_len]; omega)))) (by unfold dStrs; rw [List.map_append])) rfl ⟨fs ++ moreT fs ps, _, _, _, by rw [List.length_append]; omega, hi, hrl, rfl⟩
    · obtain ⟨fs, a, b, c, hfl, hile, hrl, rfl⟩ := hP
      rw [rangeD_len, Nat.sub_self] at hrl
      have : fs = reachR ps s B.nodes.length := hrl
      rw [this]
      exact ⟨_, _, _, rfl⟩
    · obtain ⟨a, b, c, rfl⟩ := hP
      exact sd_ret (ed_var rfl) rfl rfl)
theorem plus_mem (B : BR) : B.plus ∈ B.nodes := by unfold Brd.nodes; simp
theorem pairs_in {B : BR} (h : WB B) (on : List Bool) : ∀ a b, (a, b) ∈ B.pairs on → b ∈ B.nodes := fun a b hp => (pairs_mem h.cn on (a, b) hp).2
theorem swp_in {B : BR} (h : WB B) (on : List Bool) : ∀ a b, (a, b) ∈ (B.pairs on).map swp → b ∈ B.nodes := fun a b hp => by
  obtain ⟨p, h1, h2⟩ := List.mem_map.mp hp
  have := (pairs_mem h.cn on p h1).1
  cases h2
  exact this
inductive R_law_reaches : List Ar → Ar → Prop
  | mk (B : BR) (h : WB B) (on : List Bool) (hl : on.length = B.movers.length) (sd : PyData) (hq : SeqD sd (dBits on)) : R_law_reaches [.d (dSpec B), .d sd] (.d (.bool (B.short on)))
theorem c_law_reaches (T : TX K mg) : C8.Cal P w K mg base 4 "_law_reaches" (FS K R_law_reaches) [] := by
  obtain ⟨fd, F⟩ := T.f_law_reaches
  have c_law_reach := @c_law_reach P w K mg base T
  have c_law_pairs := @c_law_pairs P w K mg base T
  exact cal_of F T.g_law_reaches (F.bindsN fun _ _ _ _ _ _ us hl => match us, hl with | [_, _], _ => rfl) (fs_ok F scope_law_reaches 0 (fun _ _ r => by cases r; rfl) rfl (fun _ _ r => by cases r; first | rfl | simp_all [Ar.nm]) fun cdv A outer s H E hr => by
    have hu := hu_of hr
    have hu9 : (A.deeper (envOfC "_law_reaches" (defScope s_law_reaches) s.heap.objs.size (He.ga K "_law_reaches") cdv)).units + 9 < cLine := by have := hr.un; omega
    have hu64 : (A.deeper (envOfC "_law_reaches" (defScope s_law_reaches) s.heap.objs.size (He.ga K "_law_reaches") cdv)).units + 64 < cLine := by have := hr.un; omega
    have hu65 : (A.deeper (envOfC "_law_reaches" (defScope s_law_reaches) s.heap.objs.size (He.ga K "_law_reaches") cdv)).units + 65 < cLine := by have := hr.un; omega
    refine ⟨_, (pss_one (ps_ret (pe_cmpR (opIn (K := K)) (pe_ix (ixL (K := K)) (pe_ix (ixL (K := K)) (pv 0) pe_int (fun _ _ => rfl)) pe_int (fun _ _ => rfl)) (C8.pe_c c_law_reach hr (by decide) rfl (pa_cons (pv 0) (pa_cons (C8.pe_c c_law_pairs hr (by decide) rfl (pa_cons (pv 0) (pa_cons (pv 1) pa_nil))) (pa_cons (pe_ix (ixL (K := K)) (pe_ix (ixL (K := K)) (pv 0) pe_int (fun _ _ => rfl)) pe_int (fun _ _ => rfl)) pa_nil)))) rfl))), fun as y r => ?_⟩
    cases r with
    | mk B h on hl sd hq =>
    show Sd K _ [some _, some _] _ _
    have zp := pairs_short h on
    exact sd_ret (ed_is (ed_op (ed_op (ed_op (ed_var rfl) (ed_c rfl) (rv_ixL (at0 rfl))) (ed_c rfl) (rv_ixL (at1 rfl))) (ed_call (ea_cons (ed_var rfl) (ea_cons (ed_call (ea_cons (ed_var rfl) (ea_cons (ed_var rfl) ea_nil)) (.mk B h on hl sd hq)) (ea_cons (ed_op (ed_op (ed_var rfl) (ed_c rfl) (rv_ixL (at0 rfl))) (ed_c rfl) (rv_ixL (at0 rfl))) ea_nil))) (.mk B h _ zp _)) (rv_isIn (by constructor))) (by rw [dec_reachR (plus_mem B) (pairs_in h on)]; rfl)) rfl rfl)
end
end K58
end
/-! W11 -/
section
set_option maxRecDepth 100000
set_option maxHeartbeats 2000000
namespace K58
open PySem PySem.Spec PyProof.Rows L2
section
variable {P : Program} {w : World} {K : PySem.W.Frag} {mg : Str → Option Value} {base : Heap} {xs : Xs}
inductive R_law_live : List Ar → Ar → Prop
  | mk (B : BR) (h : WB B) (st : BState) (hl : st.1.length = B.movers.length) (ls : List (Str × Str × Str)) (hs : Loads B ls) : R_law_live [.d (dSpec B), .d (dState st), .d (.list (dLoads ls))] (.d (.list (dStrs (B.live st ls))))
theorem c_law_live (T : TX K mg) : C8.Cal P w K mg base 4 "_law_live" (FS K R_law_live) [] := by
  obtain ⟨fd, F⟩ := T.f_law_live
  have c_law_pairs := @c_law_pairs P w K mg base T
  have c_law_reach := @c_law_reach P w K mg base T
  exact cal_of F T.g_law_live (F.bindsN fun _ _ _ _ _ _ us hl => match us, hl with | [_, _, _], _ => rfl) (fs_ok F scope_law_live 6 (fun _ _ r => by cases r; rfl) rfl (fun _ _ r => by cases r; first | rfl | simp_all [Ar.nm]) fun cdv A outer s H E hr => by
    have hu := hu_of hr
    have hu9 : (A.deeper (envOfC "_law_live" (defScope s_law_live) s.heap.objs.size (He.ga K "_law_live") cdv)).units + 9 < cLine := by have := hr.un; omega
    have hu64 : (A.deeper (envOfC "_law_live" (defScope s_law_live) s.heap.objs.size (He.ga K "_law_live") cdv)).units + 64 < cLine := by have := hr.un; omega
    have hu65 : (A.deeper (envOfC "_law_live" (defScope s_law_live) s.heap.objs.size (He.ga K "_law_live") cdv)).units + 65 < cLine := by have := hr.un; omega
    refine ⟨_, (pss_cons (ps_if (pt_val (pe_ix (ixT (K := K)) (pv 1) pe_int (fun _ _ => rfl)))
          (pss_one (ps_ret (pe_lst pa_nil)))
          pss_nil)
        (pss_cons (ps_set (i := 3) scope_law_live.nd rfl (Or.inl rfl) (C8.pe_c c_law_pairs hr (by decide) rfl (pa_cons (pv 0) (pa_cons (pe_ix (ixT (K := K)) (pv 1) pe_int (fun _ _ => rfl)) pa_nil))))
        (pss_cons (ps_set (i := 4) scope_law_live.nd rfl (Or.inl rfl) (C8.pe_c c_law_reach hr (by decide) rfl (pa_cons (pv 0) (pa_cons (pv 3) (pa_cons (pe_ix (ixL (K := K)) (pe_ix (ixL (K := K)) (pv 0) pe_int (fun _ _ => rfl)) pe_int (fun _ _ => rfl)) pa_nil)))))
        (pss_cons (ps_set (i := 5) scope_law_live.nd rfl (Or.inl rfl) (C8.pe_c c_law_reach hr (by decide) rfl (pa_cons (pv 0) (pa_cons (pe_lc (own := [("_law_pair", 8)]) (g := gName 8) (tt := tYes) rfl scope_law_live.nd (piList (K := K) (pv 3)) (blkOk_by (own := [("_law_pair", 8)]) (N := nm_law_live) (sc := defScope s_law_live) (by decide +kernel)) (fun _ _ _ _ _ => (pg_name (i := 8) scope_law_live.nd rfl (Or.inl rfl))) (fun _ _ _ _ _ => pts_nil) (fun _ _ _ _ _ => (pe_lst (pa_cons (pe_ix (ixL (K := K)) (pv 8) pe_int (fun _ _ => rfl)) (pa_cons (pe_ix (ixL (K := K)) (pv 8) pe_int (fun _ _ => rfl)) pa_nil))))) (pa_cons (pe_ix (ixL (K := K)) (pe_ix (ixL (K := K)) (pv 0) pe_int (fun _ _ => rfl)) pe_int (fun _ _ => rfl)) pa_nil)))))
        (pss_cons (ps_set (i := 6) scope_law_live.nd rfl (Or.inl rfl) (pe_lst pa_nil))
        (pss_cons (ps_for PassesOwn.never rfl (piList (K := K) (pv 2)) (pg_name (i := 7) scope_law_live.nd rfl (Or.inl rfl))
          (pss_one (ps_if (PW.pt (pw_or (PW.pt (pw_and (pt_cmpR (opIn (K := K)) (pe_ix (ixT (K := K)) (pv 7) pe_int (fun _ _ => rfl)) (pv 4) rfl) (pw_and1 (pt_cmpR (opIn (K := K)) (pe_ix (ixT (K := K)) (pv 7) pe_int (fun _ _ => rfl)) (pv 5) rfl)))) (pw_or1 (PW.pt (pw_and (pt_cmpR (opIn (K := K)) (pe_ix (ixT (K := K)) (pv 7) pe_int (fun _ _ => rfl)) (pv 4) rfl) (pw_and1 (pt_cmpR (opIn (K := K)) (pe_ix (ixT (K := K)) (pv 7) pe_int (fun _ _ => rfl)) (pv 5) rfl)))))))
          (pss_one (ps_expr (peBm (K := K) PySem.F.plainAttrs_list PySem.F.slot_list_append PySem.F.type_list_append mt_append (pv 6) (pa_cons (pe_ix (ixT (K := K)) (pv 7) pe_int (fun _ _ => rfl)) pa_nil))))
          pss_nil)))
        (pss_one (ps_ret (pv 6))))))))), fun as y r => ?_⟩
    cases r with
    | mk B h st hl ls hs =>
    show Sd K _ [some _, some _, some _, none, none, none, none, none, none] _ _
    obtain ⟨hs1, hs2⟩ := hs
    have zp := pairs_short h st.1
    refine sd_ifr (b := st.2) (et_B (ed_op (ed_var rfl) (ed_c rfl) (rv_ixT (at1 rfl)))) (fun e => sd_ret (En.ed (en_lst (ds := []) ea_nil (Nat.le_of_ble_eq_true rfl))) rfl ?_) (fun e => ?_)
    · unfold Brd.live; rw [if_pos e]; rfl
    have el : B.live st ls = (ls.filter (B.liveL st.1)).map (·.1) := by unfold Brd.live; rw [if_neg (by rw [e]; decide)]
    refine sd_let (ed_call (ea_cons (ed_var rfl) (ea_cons (ed_op (ed_var rfl) (ed_c rfl) (rv_ixT (at0 rfl))) ea_nil)) (.mk B h st.1 hl _ (.t _))) rfl ?_
    refine sd_let (ed_call (ea_cons (ed_var rfl) (ea_cons (ed_var rfl) (ea_cons (ed_op (ed_op (ed_var rfl) (ed_c rfl) (rv_ixL (at0 rfl))) (ed_c rfl) (rv_ixL (at0 rfl))) ea_nil))) (.mk B h _ zp _)) rfl ?_
    refine sd_let (ed_call (as := [.d (dSpec B), .d (.list (dPr2s ((B.pairs st.1).map swp))), .d (.str B.minus)]) (ea_cons (ed_var rfl) (ea_cons (En.ed (en_lcY (l := B.pairs st.1) (enc := dPr2) (out := dPr2) (w := swp) (id_list (ed_var rfl)) (fun a _ => gd_name) (fun i hi => hi) (fun a _ => (En.ed (en_lst (ds := [_, _]) (ea_cons (ed_op (ed_var rfl) (ed_c rfl) (rv_ixL (at1 rfl))) (ea_cons (ed_op (ed_var rfl) (ed_c rfl) (rv_ixL (at0 rfl))) ea_nil)) (Nat.le_of_ble_eq_true rfl)))) (by omega))) (ea_cons (ed_op (ed_op (ed_var rfl) (ed_c rfl) (rv_ixL (at0 rfl))) (ed_c rfl) (rv_ixL (at1 rfl))) ea_nil))) (.mk B h _ (by rw [List.length_map]; omega) _)) rfl ?_
    refine sd_letN (en_lst (ds := []) ea_nil (Nat.le_of_ble_eq_true rfl)) ?_
    have k1 : ∀ n, decide (n ∈ reachR (B.pairs st.1) B.plus B.nodes.length) = B.fed st.1 n := fun n => dec_reachR (plus_mem B) (pairs_in h st.1) n
    have k2 : ∀ n, decide (n ∈ reachR ((B.pairs st.1).map swp) B.minus B.nodes.length) = B.feeds st.1 n := fun n => dec_reachR (minus_mem B) (swp_in h st.1) n
    refine sd_seq (M := fun ys => ∃ p q r a b, ys = [some (.d (dSpec B)), some (.d (dState st)), some (.d (.list (dLoads ls))), p, q, r, some (.m (dStrs (B.live st ls))), a, b])
      (sd_for (fun i ys => ∃ p a b, ys = [some (.d (dSpec B)), some (.d (dState st)), some (.d (.list (dLoads ls))), p, some (.d (.list (dStrs (reachR (B.pairs st.1) B.plus B.nodes.length)))), some (.d (.list (dStrs (reachR ((B.pairs st.1).map swp) B.minus B.nodes.length)))), some (.m (dStrs (((ls.take i).filter (B.liveL st.1)).map (·.1)))), a, b])
        (id_list (ed_var rfl)) ⟨_, _, _, rfl⟩ (fun i d ys hd hP => ?_) (fun ys hP => ?_)) (fun ys hP => ?_)
    · obtain ⟨p, a, b, rfl⟩ := hP
      obtain ⟨l, hl2, rfl⟩ := map_get hd
      have e5 : dStrs (((ls.take (i + 1)).filter (B.liveL st.1)).map (·.1)) = dStrs (((ls.take i).filter (B.liveL st.1)).map (·.1)) ++ (if B.liveL st.1 l = true then [.str l.1] else []) := by
        rw [filter_take_snoc _ hl2]
        unfold dStrs
        rw [List.map_append, List.map_append]
        congr 1
        split <;> rfl
      have ln : (dStrs (((ls.take i).filter (B.liveL st.1)).map (·.1))).length ≤ 2 := by
        rw [dStrs_len, List.length_map]
        have := List.length_filter_le (B.liveL st.1) (ls.take i)
        rw [List.length_take] at this
        omega
      refine ⟨_, _, gd_name, sd_if (b := B.liveL st.1 l) (et_is (et_or (et_and (et_test (ed_op (ed_op (ed_var rfl) (ed_c rfl) (rv_ixT (at1 rfl))) (ed_var rfl) (rv_isIn (by constructor)))) fun _ => (et_test (ed_op (ed_op (ed_var rfl) (ed_c rfl) (rv_ixT (at2 rfl))) (ed_var rfl) (rv_isIn (by constructor))))) fun _ => (et_and (et_test (ed_op (ed_op (ed_var rfl) (ed_c rfl) (rv_ixT (at2 rfl))) (ed_var rfl) (rv_isIn (by constructor)))) fun _ => (et_test (ed_op (ed_op (ed_var rfl) (ed_c rfl) (rv_ixT (at1 rfl))) (ed_var rfl) (rv_isIn (by constructor)))))) ?_) (fun e => sd_app rfl (ed_op (ed_var rfl) (ed_c rfl) (rv_ixT (at0 rfl))) (by omega) ?_) (fun e => sd_next ?_)⟩
      · rw [k1, k2, k1, k2]; rfl
      · rw [e5, e]; exact ⟨_, _, _, rfl⟩
      · rw [e5, e, if_neg (by decide), List.append_nil]; exact ⟨_, _, _, rfl⟩
    · obtain ⟨p, a, b, rfl⟩ := hP
      rw [dLoads_len, List.take_length, el]
      exact ⟨_, _, _, _, _, rfl⟩
    · obtain ⟨p, q, r, a, b, rfl⟩ := hP
      exact sd_retM rfl rfl)
inductive R_law_due : List Ar → Ar → Prop
  | mk (B : BR) (h : WB B) (st : BState) (hl : st.1.length = B.movers.length) : R_law_due [.d (dSpec B), .d (dState st)] (.d (.list (dStrs (B.due st))))
theorem c_law_due (T : TX K mg) : C8.Cal P w K mg base 5 "_law_due" (FS K R_law_due) [] := by
  obtain ⟨fd, F⟩ := T.f_law_due
  have c_law_live := @c_law_live P w K mg base T
  have c_law_movers := @c_law_movers P w K mg base T
  exact cal_of F T.g_law_due (F.bindsN fun _ _ _ _ _ _ us hl => match us, hl with | [_, _], _ => rfl) (fs_ok F scope_law_due 3 (fun _ _ r => by cases r; rfl) rfl (fun _ _ r => by cases r; first | rfl | simp_all [Ar.nm]) fun cdv A outer s H E hr => by
    have hu := hu_of hr
    have hu9 : (A.deeper (envOfC "_law_due" (defScope s_law_due) s.heap.objs.size (He.ga K "_law_due") cdv)).units + 9 < cLine := by have := hr.un; omega
    have hu64 : (A.deeper (envOfC "_law_due" (defScope s_law_due) s.heap.objs.size (He.ga K "_law_due") cdv)).units + 64 < cLine := by have := hr.un; omega
    have hu65 : (A.deeper (envOfC "_law_due" (defScope s_law_due) s.heap.objs.size (He.ga K "_law_due") cdv)).units + 65 < cLine := by have := hr.un; omega
    refine ⟨_, (pss_cons (ps_set (i := 2) scope_law_due.nd rfl (Or.inr rfl) (C8.pe_c c_law_live hr (by decide) rfl (pa_cons (pv 0) (pa_cons (pv 1) (pa_cons (pe_ix (ixL (K := K)) (pv 0) pe_int (fun _ _ => rfl)) pa_nil)))))
        (pss_cons (ps_set (i := 3) scope_law_due.nd rfl (Or.inr rfl) (C8.pe_c c_law_movers hr (by decide) rfl (pa_cons (pv 0) pa_nil)))
        (pss_one (ps_ret (pe_lc (own := [("_law_relay", 4)]) (g := gName 4) rfl scope_law_due.nd (piList (K := K) (pe_ix (ixL (K := K)) (pv 0) pe_int (fun _ _ => rfl))) (blkOk_by (own := [("_law_relay", 4)]) (N := nm_law_due) (sc := defScope s_law_due) (by decide +kernel)) (fun _ _ _ _ _ => (pg_name (i := 4) scope_law_due.nd rfl (Or.inl rfl))) (fun _ _ _ _ _ => (pts_one (pt_cmpR op_ne (pe_ix (ixT (K := K)) (pe_ix (ixT (K := K)) (pv 1) pe_int (fun _ _ => rfl)) (peBm (K := K) PySem.F.plainAttrs_list PySem.F.slot_list_index PySem.F.type_list_index (mtIx (K := K)) (pv 3) (pa_cons (pe_ix (ixT (K := K)) (pv 4) pe_int (fun _ _ => rfl)) pa_nil)) (fun _ _ => rfl)) (pe_cmpR (opIn (K := K)) (pe_ix (ixT (K := K)) (pv 4) pe_int (fun _ _ => rfl)) (pv 2) rfl) (nomark _)))) (fun _ _ _ _ _ => (pe_ix (ixT (K := K)) (pv 4) pe_int (fun _ _ => rfl)))))))), fun as y r => ?_⟩
    cases r with
    | mk B h st hl =>
    show Sd K _ [some _, some _, none, none, none] _ _
    have zr := h.zr
    refine sd_let (ed_call (ea_cons (ed_var rfl) (ea_cons (ed_var rfl) (ea_cons (ed_op (ed_var rfl) (ed_c rfl) (rv_ixL (at2 rfl))) ea_nil))) (.mk B h st hl B.rel h.rl)) rfl ?_
    refine sd_let (ed_call (ea_cons (ed_var rfl) ea_nil) (by constructor <;> assumption)) rfl ?_
    refine sd_ret (ed_is (En.ed (en_lcE (l := B.rel) (enc := dLoad) (out := .str) (p := fun r => st.1.getD (B.idx r.1) false != decide (r.1 ∈ B.live st B.rel)) (w := fun r => r.1) (id_list (ed_op (ed_var rfl) (ed_c rfl) (rv_ixL (at2 rfl)))) (fun a _ => gd_name) (fun i hi => hi) (fun r hr => ?_) (fun r _ _ => (ed_op (ed_var rfl) (ed_c rfl) (rv_ixT (at0 rfl)))) (by omega))) rfl) rfl rfl
    have hm := rel_mem hr
    have hg := bits_get (bs := st.1) (i := B.idx r.1) (by rw [hl]; exact idx_lt hm)
    exact (et_test (ed_op (ed_op (ed_op (ed_var rfl) (ed_c rfl) (rv_ixT (at0 rfl))) (ed_index (hm) (ed_var rfl) (ea_cons (ed_op (ed_var rfl) (ed_c rfl) (rv_ixT (at0 rfl))) ea_nil)) (rv_ixT (at_nat hg))) (ed_op (ed_op (ed_var rfl) (ed_c rfl) (rv_ixT (at0 rfl))) (ed_var rfl) (rv_isIn (by constructor))) rv_neB)))
inductive R_law_step : List Ar → Ar → Prop
  | mk (B : BR) (h : WB B) (st : BState) (hl : st.1.length = B.movers.length) (n : Str) (hn : n ∈ B.movers) : R_law_step [.d (dSpec B), .d (dState st), .d (.str n)] (.d (dState (B.step st n)))
theorem c_law_step (T : TX K mg) : C8.Cal P w K mg base 5 "_law_step" (FS K R_law_step) [] := by
  obtain ⟨fd, F⟩ := T.f_law_step
  have c_law_movers := @c_law_movers P w K mg base T
  have c_law_reaches := @c_law_reaches P w K mg base T
  exact cal_of F T.g_law_step (F.bindsN fun _ _ _ _ _ _ us hl => match us, hl with | [_, _, _], _ => rfl) (fs_ok F scope_law_step 2 (fun _ _ r => by cases r; rfl) rfl (fun _ _ r => by cases r; first | rfl | simp_all [Ar.nm]) fun cdv A outer s H E hr => by
    have hu := hu_of hr
    have hu9 : (A.deeper (envOfC "_law_step" (defScope s_law_step) s.heap.objs.size (He.ga K "_law_step") cdv)).units + 9 < cLine := by have := hr.un; omega
    have hu64 : (A.deeper (envOfC "_law_step" (defScope s_law_step) s.heap.objs.size (He.ga K "_law_step") cdv)).units + 64 < cLine := by have := hr.un; omega
    have hu65 : (A.deeper (envOfC "_law_step" (defScope s_law_step) s.heap.objs.size (He.ga K "_law_step") cdv)).units + 65 < cLine := by have := hr.un; omega
    refine ⟨_, (pss_cons (ps_set (i := 3) scope_law_step.nd rfl (Or.inl rfl) (pe_callTy (cList (K := K)) (by rfl) T.z_list boot_list (pa_cons (pe_ix (ixT (K := K)) (pv 1) pe_int (fun _ _ => rfl)) pa_nil)))
        (pss_cons (ps_set (i := 4) scope_law_step.nd rfl (Or.inl rfl) (peBm (K := K) PySem.F.plainAttrs_list PySem.F.slot_list_index PySem.F.type_list_index (mtIx (K := K)) (C8.pe_c c_law_movers hr (by decide) rfl (pa_cons (pv 0) pa_nil)) (pa_cons (pv 2) pa_nil)))
        (pss_cons (ps_asg (pe_not (pe_ix (ixL (K := K)) (pv 3) (pv 4) (fun _ _ => rfl))) (pg_sub (pv 3) (pv 4) set_list))
        (pss_one (ps_ret (pe_tup (pa_cons (peTupleOf (K := K) (by rfl) T.z_tuple (pv 3)) (pa_cons (pe_or (pe_ix (ixT (K := K)) (pv 1) pe_int (fun _ _ => rfl)) (pe_one (C8.pe_c c_law_reaches hr (by decide) rfl (pa_cons (pv 0) (pa_cons (pv 3) pa_nil))))) pa_nil)))))))), fun as y r => ?_⟩
    cases r with
    | mk B h st hl n hn =>
    show Sd K _ [some _, some _, some _, none, none] _ _
    have hi : B.idx n < st.1.length := by rw [hl]; exact idx_lt hn
    have hg := bits_get (bs := st.1) hi
    refine sd_letN (en_cb (ea_cons (ed_op (ed_var rfl) (ed_c rfl) (rv_ixT (at0 rfl))) ea_nil) (rcn_list (by constructor))) ?_
    refine sd_let (ed_index (hn) (ed_call (ea_cons (ed_var rfl) ea_nil) (by constructor <;> assumption)) (ea_cons (ed_var rfl) ea_nil)) rfl ?_
    refine sd_setL1 (j := B.idx n) rfl (ed_notV (ed_op (ed_var rfl) (ed_var rfl) (rv_ixM (at_nat hg)))) (ed_var rfl) (by rw [dBits_len]; exact hi) ?_
    have ef : (dBits st.1).set (B.idx n) (.bool (!st.1.getD (B.idx n) false)) = dBits (flipAt st.1 (B.idx n)) := by
      unfold flipAt dBits
      rw [List.map_set]
    rw [ef]
    refine sd_freeze (i := 3) rfl ?_
    have hs : B.step st n = (flipAt st.1 (B.idx n), st.2 || B.short (flipAt st.1 (B.idx n))) := rfl
    rw [hs]
    exact sd_ret (ed_tup (ds := [_, _]) (ea_cons (ed_then (ed_var rfl) (ru_tuple (by constructor))) (ea_cons (ed_orV (ed_op (ed_var rfl) (ed_c rfl) (rv_ixT (at1 rfl))) fun _ => (ed_call (ea_cons (ed_var rfl) (ea_cons (ed_var rfl) ea_nil)) (.mk B h _ ((flipAt_len _ _).trans hl) _ (.l _)))) ea_nil)) (Nat.le_of_ble_eq_true rfl)) rfl rfl)
inductive R_law_first : List Ar → Ar → Prop
  | mk (B : BR) (h : WB B) : R_law_first [.d (dSpec B)] (.d (dState B.first))
theorem c_law_first (T : TX K mg) : C8.Cal P w K mg base 5 "_law_first" (FS K R_law_first) [] := by
  obtain ⟨fd, F⟩ := T.f_law_first
  have c_law_movers := @c_law_movers P w K mg base T
  have c_law_reaches := @c_law_reaches P w K mg base T
  exact cal_of F T.g_law_first (F.bindsN fun _ _ _ _ _ _ us hl => match us, hl with | [_], _ => rfl) (fs_ok F scope_law_first 2 (fun _ _ r => by cases r; rfl) rfl (fun _ _ r => by cases r; first | rfl | simp_all [Ar.nm]) fun cdv A outer s H E hr => by
    have hu := hu_of hr
    have hu9 : (A.deeper (envOfC "_law_first" (defScope s_law_first) s.heap.objs.size (He.ga K "_law_first") cdv)).units + 9 < cLine := by have := hr.un; omega
    have hu64 : (A.deeper (envOfC "_law_first" (defScope s_law_first) s.heap.objs.size (He.ga K "_law_first") cdv)).units + 64 < cLine := by have := hr.un; omega
    have hu65 : (A.deeper (envOfC "_law_first" (defScope s_law_first) s.heap.objs.size (He.ga K "_law_first") cdv)).units + 65 < cLine := by have := hr.un; omega
    refine ⟨_, (pss_cons (ps_setLc (i := 1) (own := [("_law_name", 2)]) (g := gName 2) (tt := tYes) rfl scope_law_first.nd rfl rfl (sw_true rfl rfl rfl (by decide +kernel)) (piList (K := K) (C8.pe_c c_law_movers hr (by decide) rfl (pa_cons (pv 0) pa_nil))) (blkOk_by (own := [("_law_name", 2)]) (N := nm_law_first) (sc := defScope s_law_first) (by decide +kernel)) (fun _ _ _ _ _ => (pg_name (i := 2) scope_law_first.nd rfl (Or.inl rfl))) (fun _ _ _ _ _ => pts_nil) (fun _ _ _ _ _ => pe_bl))
        (pss_one (ps_ret (pe_tup (pa_cons (peTupleOf (K := K) (by rfl) T.z_tuple (pv 1)) (pa_cons (C8.pe_c c_law_reaches hr (by decide) rfl (pa_cons (pv 0) (pa_cons (pv 1) pa_nil))) pa_nil)))))), fun as y r => ?_⟩
    cases r with
    | mk B h =>
    show Sd K _ [some _, none, none] _ _
    have zm := h.zm
    refine sd_let (x := .d (.list (dBits (List.replicate B.movers.length false)))) (ed_is (En.ed (en_lcY (l := B.movers) (enc := .str) (out := .bool) (w := fun _ => false) (id_list (ed_call (ea_cons (ed_var rfl) ea_nil) (by constructor <;> assumption))) (fun a _ => gd_name) (fun i hi => hi) (fun a _ => ed_c rfl) (by omega))) (by rw [List.map_const']; rfl)) rfl ?_
    exact sd_ret (ed_tup (ds := [_, _]) (ea_cons (ed_then (ed_var rfl) (ru_tuple (by constructor))) (ea_cons (ed_call (ea_cons (ed_var rfl) (ea_cons (ed_var rfl) ea_nil)) (.mk B h _ (List.length_replicate ..) _ (.l _))) ea_nil)) (Nat.le_of_ble_eq_true rfl)) rfl rfl)
inductive R_law_moves : List Ar → Ar → Prop
  | mk (B : BR) (h : WB B) (st : BState) (hl : st.1.length = B.movers.length) : R_law_moves [.d (dSpec B), .d (dState st), .d (.int 0)] (.d (.list (dMoves (B.moves st))))
theorem c_law_moves (T : TX K mg) : C8.Cal P w K mg base 6 "_law_moves" (FS K R_law_moves) [] := by
  obtain ⟨fd, F⟩ := T.f_law_moves
  have c_law_due := @c_law_due P w K mg base T
  exact cal_of F T.g_law_moves (F.bindsN fun _ _ _ _ _ _ us hl => match us, hl with | [_, _, _], _ => rfl) (fs_ok F scope_law_moves 3 (fun _ _ r => by cases r; rfl) rfl (fun _ _ r => by cases r; first | rfl | simp_all [Ar.nm]) fun cdv A outer s H E hr => by
    have hu := hu_of hr
    have hu9 : (A.deeper (envOfC "_law_moves" (defScope s_law_moves) s.heap.objs.size (He.ga K "_law_moves") cdv)).units + 9 < cLine := by have := hr.un; omega
    have hu64 : (A.deeper (envOfC "_law_moves" (defScope s_law_moves) s.heap.objs.size (He.ga K "_law_moves") cdv)).units + 64 < cLine := by have := hr.un; omega
    have hu65 : (A.deeper (envOfC "_law_moves" (defScope s_law_moves) s.heap.objs.size (He.ga K "_law_moves") cdv)).units + 65 < cLine := by have := hr.un; omega
    refine ⟨_, (pss_cons (ps_set (i := 3) scope_law_moves.nd rfl (Or.inl rfl) (C8.pe_c c_law_due hr (by decide) rfl (pa_cons (pv 0) (pa_cons (pv 1) pa_nil))))
        (pss_cons (ps_set (i := 4) scope_law_moves.nd rfl (Or.inl rfl) (pe_lst pa_nil))
        (pss_cons (ps_if (pt_cmpR op_le (pe_callB (cLen (K := K)) (by rfl) T.z_len PySem.boot_len (pa_cons (pv 3) pa_nil)) (pv 2) (nomark _))
          (pss_one (ps_setLc (i := 4) (own := [("_law_name", 5)]) (g := gName 5) (tt := tYes) rfl scope_law_moves.nd rfl rfl (sw_true rfl rfl rfl (by decide +kernel)) (piList (K := K) (pe_ix (ixL (K := K)) (pv 0) pe_int (fun _ _ => rfl))) (blkOk_by (own := [("_law_name", 5)]) (N := nm_law_moves) (sc := defScope s_law_moves) (by decide +kernel)) (fun _ _ _ _ _ => (pg_name (i := 5) scope_law_moves.nd rfl (Or.inl rfl))) (fun _ _ _ _ _ => pts_nil) (fun _ _ _ _ _ => (pe_tup (pa_cons pe_str (pa_cons (pv 5) pa_nil))))))
          pss_nil)
        (pss_one (ps_ret (pe_op op_cat (pv 4) (pe_lc (own := [("_law_name", 5)]) (g := gName 5) (tt := tYes) rfl scope_law_moves.nd (piList (K := K) (pv 3)) (blkOk_by (own := [("_law_name", 5)]) (N := nm_law_moves) (sc := defScope s_law_moves) (by decide +kernel)) (fun _ _ _ _ _ => (pg_name (i := 5) scope_law_moves.nd rfl (Or.inl rfl))) (fun _ _ _ _ _ => pts_nil) (fun _ _ _ _ _ => (pe_tup (pa_cons pe_str (pa_cons (pv 5) pa_nil))))))))))), fun as y r => ?_⟩
    cases r with
    | mk B h st hl =>
    show Sd K _ [some _, some _, some _, none, none, none] _ _
    have zs := h.zs
    have zr := h.zr
    have zd := due_len B st
    refine sd_let (ed_call (ea_cons (ed_var rfl) (ea_cons (ed_var rfl) ea_nil)) (by constructor <;> assumption)) rfl ?_
    refine sd_letN (en_lst (ds := []) ea_nil (Nat.le_of_ble_eq_true rfl)) ?_
    refine sd_seq (M := fun ys => ∃ a, ys = [some (.d (dSpec B)), some (.d (dState st)), some (.d (.int 0)), some (.d (.list (dStrs (B.due st)))), some (.m (dMoves (if (B.due st).length ≤ 0 then B.sw.map fun n => (true, n) else []))), a])
      (sd_if (b := decide ((B.due st).length ≤ 0)) (et_is (et_test (ed_op (ed_cb (ea_cons (ed_var rfl) ea_nil) (rc_len (by constructor))) (ed_var rfl) (rv_i0 rfl))) ?_) (fun e => ?_) (fun e => sd_next ?_)) (fun ys hP => ?_)
    · rw [dStrs_len]; exact decide_eq_decide.mpr (by omega)
    · rw [if_pos (of_decide_eq_true e)]
      exact sd_new (en_lcY (l := B.sw) (enc := .str) (out := dMove) (w := fun n => (true, n)) (id_list (ed_op (ed_var rfl) (ed_c rfl) (rv_ixL (at1 rfl)))) (fun a _ => gd_name) (fun i hi => hi) (fun a _ => (ed_tup (ds := [_, _]) (ea_cons (ed_c rfl) (ea_cons (ed_var rfl) ea_nil)) (Nat.le_of_ble_eq_true rfl))) (by omega)) ⟨_, rfl⟩
    · rw [if_neg (of_decide_eq_false e)]
      exact ⟨_, rfl⟩
    · obtain ⟨a, rfl⟩ := hP
      refine sd_ret (ed_is (En.ed (en_op (ed_var rfl) (En.ed (en_lcY (l := B.due st) (enc := .str) (out := dMove) (w := fun n => (false, n)) (id_list (ed_var rfl)) (fun a _ => gd_name) (fun i hi => hi) (fun a _ => (ed_tup (ds := [_, _]) (ea_cons (ed_c rfl) (ea_cons (ed_var rfl) ea_nil)) (Nat.le_of_ble_eq_true rfl))) (by omega))) (rn_cat (by constructor) (by constructor) ?_))) ?_) rfl rfl
      · rw [dMoves_len, List.length_map, List.length_map]
        have : (if (B.due st).length ≤ 0 then B.sw.map fun n => ((true, n) : Bool × Str) else []).length ≤ 2 := by
          split
          · rw [List.length_map]; omega
          · exact Nat.zero_le _
        omega
      · show Ar.d (.list (dMoves _ ++ dMoves _)) = _
        rw [dMoves_app]; rfl)
end
end K58
end
/-! W12 -/
section
set_option maxRecDepth 100000
set_option maxHeartbeats 2000000
namespace K58
open PySem PySem.Spec PyProof.Rows L2
/-! ### data that may be compared -/
theorem shp {d : PyData} (h1 : d.canLay0 = true) (h2 : d.depth ≤ 64) : SeqAt.shaped d = true := by
  unfold SeqAt.shaped; rw [h1, Bool.true_and]; exact decide_eq_true h2
theorem chars_ok : ∀ c ∈ charsT.cps.toList, c < 1114112 := by decide +kernel
theorem NmOk.ok {s : Str} (h : NmOk s) : PyData.strOk s = true := by
  unfold PyData.strOk
  rw [Array.all_eq_true']
  exact fun c hc => decide_eq_true (chars_ok c (h.ch c (by simpa using hc)))
theorem mv_lay {m : Bool × Str} (h : PyData.strOk m.2 = true) : (dMove m).canLay0 = true := by
  have : PyData.strOk (if m.1 = true then ("hand" : Str) else "relay") = true := by cases m.1 <;> decide +kernel
  unfold dMove
  simp only [PyData.canLay0, PyData.canLayAll0, this, h, Bool.and_true]
theorem mvs_lay : ∀ {ms : List (Bool × Str)}, (∀ m ∈ ms, PyData.strOk m.2 = true) → PyData.canLayAll0 (dMoves ms) = true
  | [], _ => rfl
  | m :: ms, h => by
    rw [dMoves_cons]
    simp only [PyData.canLayAll0, mv_lay (h m List.mem_cons_self), mvs_lay fun x hx => h x (List.mem_cons_of_mem _ hx), Bool.and_true]
theorem mvs_depth : ∀ ms : List (Bool × Str), PyData.depthAll (dMoves ms) ≤ 1
  | [] => by simp [dMoves, PyData.depthAll]
  | m :: ms => by
    have := mvs_depth ms
    rw [dMoves_cons]
    unfold dMove
    simp only [PyData.depthAll, PyData.depth] at this ⊢
    omega
theorem mvs_shp {ms : List (Bool × Str)} (h : ∀ m ∈ ms, PyData.strOk m.2 = true) : SeqAt.shaped (.list (dMoves ms)) = true := shp (by simpa [PyData.canLay0] using mvs_lay h) (by have := mvs_depth ms; simp only [PyData.depth]; omega)
theorem mv_shp {m : Bool × Str} (h : PyData.strOk m.2 = true) : SeqAt.shaped (dMove m) = true := shp (mv_lay h) (by unfold dMove; simp [PyData.depth, PyData.depthAll])
theorem eqv_same {d : PyData} (h : SeqAt.shaped d = true) : PyData.eqv d d = true := SeqAt.eqv_refl d (SeqAt.canLay_of_shaped h)
theorem moves_ok {B : BR} (h : BOk B) {st : BState} {m : Bool × Str} (hm : m ∈ B.moves st) : PyData.strOk m.2 = true := (h.nmM _ (moves_sub hm)).ok
/-! ### the law's play -/
noncomputable def lpl (B : BR) (ns : Nat → Nat) : Nat → List (Bool × Str)
  | 0 => []
  | k + 1 => match (B.moves (B.run (lpl B ns k)))[ns k % (B.moves (B.run (lpl B ns k))).length]? with
    | some m => lpl B ns k ++ [m]
    | none => lpl B ns k
theorem lpl_ok (B : BR) (ns : Nat → Nat) : ∀ k, B.Valid (lpl B ns k) ∧ (lpl B ns k).length ≤ k
  | 0 => ⟨.nil B, Nat.le_refl _⟩
  | k + 1 => by
    obtain ⟨h1, h2⟩ := lpl_ok B ns k
    unfold lpl
    split
    · rename_i m hm
      exact ⟨h1.snoc (List.mem_of_getElem? hm), by rw [List.length_append]; exact Nat.succ_le_succ h2⟩
    · exact ⟨h1, Nat.le_succ_of_le h2⟩
section
variable {P : Program} {w : World} {K : PySem.W.Frag} {mg : Str → Option Value} {base : Heap} {xs : Xs}
theorem dNats_len (l : List Nat) : (dNats l).length = l.length := List.length_map ..
theorem nats_get {l : List Nat} {i : Nat} (h : i < l.length) : (dNats l)[i]? = some (.int (l.getD i 0 : Nat)) := by
  unfold dNats
  rw [List.getElem?_map, List.getD_eq_getElem?_getD]
  simp [h]
theorem run_ln (B : BR) (p : List (Bool × Str)) : (B.run p).1.length = B.movers.length := B.run_len p
inductive R_law_play : List Ar → Ar → Prop
  | mk (B : BR) (h : WB B) (nums : List Nat) (at_ many : Nat) (hn : at_ + many ≤ nums.length) (hm : many ≤ 1000) :
      R_law_play [.d (dSpec B), .d (.list (dNats nums)), .d (.int (at_ : Nat)), .d (.int (many : Nat)), .d (.int 0)] (.d (.list (dMoves (lpl B (fun k => nums.getD (at_ + k) 0) many))))
theorem c_law_play (T : TX K mg) : C8.Cal P w K mg base 7 "_law_play" (FS K R_law_play) [] := by
  obtain ⟨fd, F⟩ := T.f_law_play
  have c_law_first := @c_law_first P w K mg base T
  have c_law_moves := @c_law_moves P w K mg base T
  have c_law_step := @c_law_step P w K mg base T
  exact cal_of F T.g_law_play (F.bindsN fun _ _ _ _ _ _ us hl => match us, hl with | [_, _, _, _, _], _ => rfl) (fs_ok F scope_law_play 5 (fun _ _ r => by cases r; rfl) rfl (fun _ _ r => by cases r; first | rfl | simp_all [Ar.nm]) fun cdv A outer s H E hr => by
    have hu := hu_of hr
    have hu9 : (A.deeper (envOfC "_law_play" (defScope s_law_play) s.heap.objs.size (He.ga K "_law_play") cdv)).units + 9 < cLine := by have := hr.un; omega
    have hu64 : (A.deeper (envOfC "_law_play" (defScope s_law_play) s.heap.objs.size (He.ga K "_law_play") cdv)).units + 64 < cLine := by have := hr.un; omega
    have hu65 : (A.deeper (envOfC "_law_play" (defScope s_law_play) s.heap.objs.size (He.ga K "_law_play") cdv)).units + 65 < cLine := by have := hr.un; omega
    refine ⟨_, (pss_cons (ps_set (i := 5) scope_law_play.nd rfl (Or.inl rfl) (C8.pe_c c_law_first hr (by decide) rfl (pa_cons (pv 0) pa_nil)))
        (pss_cons (ps_set (i := 6) scope_law_play.nd rfl (Or.inl rfl) (pe_lst pa_nil))
        (pss_cons (ps_if (pt_cmpR op_gt (pe_callB (cLen (K := K)) (by rfl) T.z_len PySem.boot_len (pa_cons (pe_ix (ixL (K := K)) (pv 0) pe_int (fun _ _ => rfl)) pa_nil)) pe_int (nomark _))
          (pss_one (ps_set (i := 3) scope_law_play.nd rfl (Or.inl rfl) (pe_op op_mod (pv 3) pe_int)))
          pss_nil)
        (pss_cons (ps_for PassesOwn.never rfl (pi_range1 (by rfl) T.z_range (pa_cons (pv 3) pa_nil)) (pg_name (i := 7) scope_law_play.nd rfl (Or.inl rfl))
          (pss_cons (ps_set (i := 8) scope_law_play.nd rfl (Or.inl rfl) (C8.pe_c c_law_moves hr (by decide) rfl (pa_cons (pv 0) (pa_cons (pv 5) (pa_cons (pv 4) pa_nil)))))
        (pss_one (ps_if (pt_cmpR op_gt (pe_callB (cLen (K := K)) (by rfl) T.z_len PySem.boot_len (pa_cons (pv 8) pa_nil)) pe_int (nomark _))
          (pss_cons (ps_set (i := 9) scope_law_play.nd rfl (Or.inl rfl) (pe_ix (ixL (K := K)) (pv 8) (pe_op op_mod (pe_callTy call_int1 (by rfl) T.z_int boot_int (pa_cons (pe_ix (ixL (K := K)) (pv 1) (pe_op op_add (pv 2) (pv 7)) (fun _ _ => rfl)) pa_nil)) (pe_callB (cLen (K := K)) (by rfl) T.z_len PySem.boot_len (pa_cons (pv 8) pa_nil))) (fun _ _ => rfl)))
        (pss_cons (ps_expr (peBm (K := K) PySem.F.plainAttrs_list PySem.F.slot_list_append PySem.F.type_list_append mt_append (pv 6) (pa_cons (pv 9) pa_nil)))
        (pss_one (ps_set (i := 5) scope_law_play.nd rfl (Or.inl rfl) (C8.pe_c c_law_step hr (by decide) rfl (pa_cons (pv 0) (pa_cons (pv 5) (pa_cons (pe_ix (ixT (K := K)) (pv 9) pe_int (fun _ _ => rfl)) pa_nil))))))))
          pss_nil))))
        (pss_one (ps_ret (pv 6))))))), fun as y r => ?_⟩
    cases r with
    | mk B h nums at_ many hn hm =>
    show Sd K _ [some _, some _, some _, some _, some _, none, none, none, none, none] _ _
    have zc := h.zc
    let ns : Nat → Nat := fun k => nums.getD (at_ + k) 0
    refine sd_let (ed_call (ea_cons (ed_var rfl) ea_nil) (by constructor <;> assumption)) rfl ?_
    refine sd_letN (en_lst (ds := []) ea_nil (Nat.le_of_ble_eq_true rfl)) ?_
    refine sd_then (sd_ifnn (et_is (et_test (ed_op (ed_cb (ea_cons (ed_op (ed_var rfl) (ed_c rfl) (rv_ixL (at4 rfl))) ea_nil) (rc_len (by constructor))) (ed_c rfl) (rv_i0 rfl))) (decide_eq_false (by rw [dCons_len]; show ¬ (10 : Int) < ((B.con.length : Nat) : Int); omega)))) ?_
    refine sd_seq (M := fun ys => ∃ st a b c, ys = [some (.d (dSpec B)), some (.d (.list (dNats nums))), some (.d (.int (at_ : Nat))), some (.d (.int (many : Nat))), some (.d (.int 0)), st, some (.m (dMoves (lpl B ns many))), a, b, c])
      (sd_for (fun i ys => ∃ a b c, ys = [some (.d (dSpec B)), some (.d (.list (dNats nums))), some (.d (.int (at_ : Nat))), some (.d (.int (many : Nat))), some (.d (.int 0)), some (.d (dState (B.run (lpl B ns i)))), some (.m (dMoves (lpl B ns i))), a, b, c])
        (id_range (n := many) (by omega) (ed_var rfl)) ⟨_, _, _, rfl⟩ (fun i d ys hd hP => ?_) (fun ys hP => ?_)) (fun ys hP => ?_)
    · obtain ⟨a, b, c, rfl⟩ := hP
      obtain ⟨hi, rfl⟩ := range_get' hd
      have hml := moves_len h (B.run (lpl B ns i))
      have hpl := (lpl_ok B ns i).2
      refine ⟨_, _, gd_name, sd_let (ed_call (ea_cons (ed_var rfl) (ea_cons (ed_var rfl) (ea_cons (ed_var rfl) ea_nil))) (.mk B h _ (run_ln B _))) rfl ?_⟩
      refine sd_if (b := decide (0 < (B.moves (B.run (lpl B ns i))).length)) (et_is (et_test (ed_op (ed_cb (ea_cons (ed_var rfl) ea_nil) (rc_len (by constructor))) (ed_c rfl) (rv_i0 rfl))) (by rw [dMoves_len]; exact decide_eq_decide.mpr (by omega))) (fun e => ?_) (fun e => sd_next ?_)
      · have hpos := of_decide_eq_true e
        have hlt : ns i % (B.moves (B.run (lpl B ns i))).length < (B.moves (B.run (lpl B ns i))).length := Nat.mod_lt _ hpos
        obtain ⟨mv, hmv⟩ : ∃ mv, (B.moves (B.run (lpl B ns i)))[ns i % (B.moves (B.run (lpl B ns i))).length]? = some mv := ⟨_, List.getElem?_eq_getElem hlt⟩
        have hmd : (dMoves (B.moves (B.run (lpl B ns i))))[ns i % (B.moves (B.run (lpl B ns i))).length]? = some (dMove mv) := by unfold dMoves; rw [List.getElem?_map, hmv]; rfl
        have hmm := moves_sub (List.mem_of_getElem? hmv)
        have e5 : lpl B ns (i + 1) = lpl B ns i ++ [mv] := by
          show (match (B.moves (B.run (lpl B ns i)))[ns i % (B.moves (B.run (lpl B ns i))).length]? with | some m => lpl B ns i ++ [m] | none => lpl B ns i) = _
          rw [hmv]
        refine sd_let (x := .d (dMove mv)) (ed_op (ed_var rfl) (ed_is (y := .d (.int ((ns i % (B.moves (B.run (lpl B ns i))).length : Nat) : Int))) (ed_op (ed_cb (ea_cons (ed_op (ed_var rfl) (ed_is (y := .d (.int ((at_ + i : Nat) : Int))) (ed_op (ed_var rfl) (ed_var rfl) (rv_i0 rfl)) rfl) (rv_ixL (at_nat (nats_get (by omega))))) ea_nil) rc_int) (ed_cb (ea_cons (ed_var rfl) ea_nil) (rc_len (by constructor))) (rv_i (by rw [dMoves_len]; omega) rfl)) (by rw [dMoves_len]; rfl)) (rv_ixL (at_nat hmd))) rfl ?_
        refine sd_app1 rfl (ed_var rfl) (by rw [dMoves_len]; omega) ?_
        refine sd_asg (ed_call (ea_cons (ed_var rfl) (ea_cons (ed_var rfl) (ea_cons (ed_op (ed_var rfl) (ed_c rfl) (rv_ixT (at1 rfl))) ea_nil))) (.mk B h _ (run_ln B _) _ hmm)) rfl ?_
        rw [e5]
        refine ⟨some (.d (.int (i : Nat))), some (.d (.list (dMoves (B.moves (B.run (lpl B ns i)))))), some (.d (dMove mv)), ?_⟩
        rw [B.run_snoc]
        unfold dMoves
        rw [List.map_append]
        rfl
      · have hz := of_decide_eq_false e
        have e5 : lpl B ns (i + 1) = lpl B ns i := by
          show (match (B.moves (B.run (lpl B ns i)))[ns i % (B.moves (B.run (lpl B ns i))).length]? with | some m => lpl B ns i ++ [m] | none => lpl B ns i) = _
          rw [List.getElem?_eq_none_iff.mpr (by omega)]
        rw [e5]
        exact ⟨_, _, _, rfl⟩
    · obtain ⟨a, b, c, rfl⟩ := hP
      rw [rangeD_len]
      exact ⟨_, _, _, _, rfl⟩
    · obtain ⟨st, a, b, c, rfl⟩ := hP
      exact sd_retM rfl rfl)
/-! ### _law_states -/
noncomputable def dSts (B : BR) (p : List (Bool × Str)) (n : Nat) : List PyData := (List.range n).map fun i => dState (B.run (p.take i))
theorem dSts_len (B : BR) (p : List (Bool × Str)) (n : Nat) : (dSts B p n).length = n := by unfold dSts; rw [List.length_map, List.length_range]
theorem dSts_succ (B : BR) (p : List (Bool × Str)) (n : Nat) : dSts B p (n + 1) = dSts B p n ++ [dState (B.run (p.take n))] := by unfold dSts; rw [List.range_succ, List.map_append]; rfl
theorem dSts_get (B : BR) (p : List (Bool × Str)) {n i : Nat} (h : i < n) : (dSts B p n)[i]? = some (dState (B.run (p.take i))) := by unfold dSts; rw [List.getElem?_map, List.getElem?_range h]; rfl
theorem atI_last {α : Type} (l : List α) (x : α) : atI (l ++ [x]) (-1) = some x := by
  unfold atI ixN
  rw [show (l ++ [x]).length = l.length + 1 by simp, if_neg (by decide), if_pos (by omega), show ((-1 : Int) + ((l.length + 1 : Nat) : Int)).toNat = l.length by omega]
  simp
inductive R_law_states : List Ar → Ar → Prop
  | mk (B : BR) (h : BOk B) (p : List (Bool × Str)) (hv : B.Valid p) (hl : p.length ≤ 1000) : R_law_states [.d (dSpec B), .d (.list (dMoves p))] (.d (.list (dSts B p (p.length + 1))))
theorem c_law_states (T : TX K mg) : C8.Cal P w K mg base 7 "_law_states" (FS K R_law_states) [] := by
  obtain ⟨fd, F⟩ := T.f_law_states
  have c_law_first := @c_law_first P w K mg base T
  have c_law_moves := @c_law_moves P w K mg base T
  have c_law_step := @c_law_step P w K mg base T
  exact cal_of F T.g_law_states (F.bindsN fun _ _ _ _ _ _ us hl => match us, hl with | [_, _], _ => rfl) (fs_ok F scope_law_states 2 (fun _ _ r => by cases r; rfl) rfl (fun _ _ r => by cases r; first | rfl | simp_all [Ar.nm]) fun cdv A outer s H E hr => by
    have hu := hu_of hr
    have hu9 : (A.deeper (envOfC "_law_states" (defScope s_law_states) s.heap.objs.size (He.ga K "_law_states") cdv)).units + 9 < cLine := by have := hr.un; omega
    have hu64 : (A.deeper (envOfC "_law_states" (defScope s_law_states) s.heap.objs.size (He.ga K "_law_states") cdv)).units + 64 < cLine := by have := hr.un; omega
    have hu65 : (A.deeper (envOfC "_law_states" (defScope s_law_states) s.heap.objs.size (He.ga K "_law_states") cdv)).units + 65 < cLine := by have := hr.un; omega
    refine ⟨_, (pss_cons (ps_set (i := 2) scope_law_states.nd rfl (Or.inl rfl) (pe_lst (pa_cons (C8.pe_c c_law_first hr (by decide) rfl (pa_cons (pv 0) pa_nil)) pa_nil)))
        (pss_cons (ps_for PassesOwn.never rfl (piList (K := K) (pv 1)) (pg_name (i := 3) scope_law_states.nd rfl (Or.inl rfl))
          (pss_cons (ps_if (pt_cmpR (opNiD (K := K) hu65) (pv 3) (C8.pe_c c_law_moves hr (by decide) rfl (pa_cons (pv 0) (pa_cons (pe_ix (ixL (K := K)) (pv 2) (pe_un un_neg pe_int) (fun _ _ => rfl)) (pa_cons pe_int pa_nil)))) rfl)
          (pss_one (ps_ret pe_non))
          pss_nil)
        (pss_one (ps_expr (peBm (K := K) PySem.F.plainAttrs_list PySem.F.slot_list_append PySem.F.type_list_append mt_append (pv 2) (pa_cons (C8.pe_c c_law_step hr (by decide) rfl (pa_cons (pv 0) (pa_cons (pe_ix (ixL (K := K)) (pv 2) (pe_un un_neg pe_int) (fun _ _ => rfl)) (pa_cons (pe_ix (ixT (K := K)) (pv 3) pe_int (fun _ _ => rfl)) pa_nil)))) pa_nil))))))
        (pss_one (ps_ret (pv 2))))), fun as y r => ?_⟩
    cases r with
    | mk B h p hv hl =>
    show Sd K _ [some _, some _, none, none] _ _
    have hw := h.wb
    refine sd_letN (en_lst (ds := [dState B.first]) (ea_cons (ed_call (ea_cons (ed_var rfl) ea_nil) (by constructor <;> assumption)) ea_nil) (Nat.le_of_ble_eq_true rfl)) ?_
    refine sd_seq (M := fun ys => ∃ a, ys = [some (.d (dSpec B)), some (.d (.list (dMoves p))), some (.m (dSts B p (p.length + 1))), a])
      (sd_for (fun i ys => i ≤ p.length ∧ ∃ a, ys = [some (.d (dSpec B)), some (.d (.list (dMoves p))), some (.m (dSts B p (i + 1))), a]) (id_list (ed_var rfl)) ⟨Nat.zero_le _, _, rfl⟩ (fun i d ys hd hP => ?_) (fun ys hP => ?_)) (fun ys hP => ?_)
    · obtain ⟨hile, a, rfl⟩ := hP
      obtain ⟨mv, hmv, rfl⟩ := map_get hd
      have hi := (List.getElem?_eq_some_iff.mp hmv).1
      have hm := hv i mv hmv
      have hlast : atI (dSts B p (i + 1)) (-1) = some (dState (B.run (p.take i))) := by rw [dSts_succ]; exact atI_last _ _
      refine ⟨_, _, gd_name, sd_ifn (et_is (et_test (ed_op (ed_var rfl) (ed_call (ea_cons (ed_var rfl) (ea_cons (ed_op (ed_var rfl) (ed_neg (ed_c rfl)) (rv_ixM (hlast))) (ea_cons (ed_c rfl) ea_nil))) (.mk B hw _ (run_ln B _))) (rv_notInD (by constructor) (by constructor) (mv_shp (moves_ok h hm)) (mvs_shp fun x hx => moves_ok h hx)))) ?_) ?_⟩
      · rw [show ((dMoves (B.moves (B.run (p.take i)))).any fun z => PyData.eqv z (dMove mv)) = true from List.any_eq_true.mpr ⟨dMove mv, List.mem_map.mpr ⟨mv, hm, rfl⟩, eqv_same (mv_shp (moves_ok h hm))⟩]
        rfl
      · refine sd_app rfl (ed_call (ea_cons (ed_var rfl) (ea_cons (ed_op (ed_var rfl) (ed_neg (ed_c rfl)) (rv_ixM (hlast))) (ea_cons (ed_op (ed_var rfl) (ed_c rfl) (rv_ixT (at1 rfl))) ea_nil))) (.mk B hw _ (run_ln B _) _ (moves_sub hm))) (by rw [dSts_len]; omega) ⟨hi, some (.d (dMove mv)), ?_⟩
        · rw [dSts_succ B p (i + 1), take_snoc hmv, B.run_snoc]; rfl
    · obtain ⟨hile, a, rfl⟩ := hP
      rw [dMoves_len]
      exact ⟨_, rfl⟩
    · obtain ⟨a, rfl⟩ := hP
      exact sd_retM rfl rfl)
end
end K58
end
/-! W13 -/
section
set_option maxRecDepth 100000
set_option maxHeartbeats 2000000
namespace K58
open PySem PySem.Spec PyProof.Rows L2
def dEnd (x : Nat × Nat) : PyData := .tuple [.int (x.1 : Nat), .int (x.2 : Nat)]
def dEnds (l : List (Nat × Nat)) : List PyData := l.map dEnd
theorem dEnds_len (l : List (Nat × Nat)) : (dEnds l).length = l.length := List.length_map ..
def dHand : Option Nat → PyData
  | none => .none
  | some h => .int (h : Nat)
section
variable {P : Program} {w : World} {K : PySem.W.Frag} {mg : Str → Option Value} {base : Heap} {xs : Xs}
theorem inV_bl (b : Bool) : ∀ bs : List Bool, inV (.bl b) (bs.map V.bl) = bs.any fun x => x == b
  | [] => by simp [inV]
  | a :: bs => by
    have ih := inV_bl b bs
    unfold inV at ih ⊢
    rw [List.map_cons, List.any_cons, List.any_cons, ih]
    cases a <;> cases b <;> rfl
theorem rv_isInB {b : Bool} {bs : List Bool} {y : Ar} (hq : Seq1 y (dBits bs)) : Rv K (rIn K false) (.d (.bool b)) y (.d (.bool (bs.any fun x => x == b))) := fun N H v w al h1 h2 Q q => by
  obtain ⟨p, vs, rfl, hs, hd⟩ := hq.at_ h2
  have e : vs = bs.map V.bl := by
    rw [das_sc hd (by rw [List.all_eq_true]; intro d hd; obtain ⟨b, _, rfl⟩ := List.mem_map.mp hd; rfl)]
    unfold dBits; rw [List.map_map]; rfl
  subst e
  refine ⟨p, _, rfl, hs, by rw [da_bool h1]; rfl, ?_, ?_⟩
  · rw [List.all_eq_true]; intro d hd; obtain ⟨s, _, rfl⟩ := List.mem_map.mp hd; rfl
  · rw [da_bool h1, inV_bl]
    exact q _ H (Same.refl H) (Da.bl _)
theorem ends_len (lit rest isH : Nat → Bool) : ∀ n, (endsK lit rest isH n).1.length ≤ n
  | 0 => Nat.le_refl _
  | n + 1 => by
    have ih := ends_len lit rest isH n
    rw [endsK_succ]
    unfold eStep
    split
    · exact Nat.le_succ_of_le ih
    · split
      · dsimp only
        split
        · rw [List.length_append]; exact Nat.succ_le_succ ih
        · exact Nat.le_succ_of_le ih
      · exact Nat.le_succ_of_le ih
theorem cutD_mid {ds : List PyData} {a b : Nat} (h : b ≤ ds.length) : cutD ds (some (a : Int)) (some (b : Int)) = (ds.drop a).take (b - a) := by
  unfold cutD
  rw [HT.sIx_nat, HT.sIx_nat, Nat.min_eq_left h]
  by_cases q : a ≤ ds.length
  · rw [Nat.min_eq_left q]
  · rw [Nat.min_eq_right (by omega), show b - a = 0 by omega, show b - ds.length = 0 by omega, List.take_zero, List.take_zero]
theorem dSts_cut (B : BR) (p : List (Bool × Str)) {n a b : Nat} (h : b ≤ n) : ((dSts B p n).drop a).take (b - a) = (List.range (b - a)).map fun i => dState (B.run (p.take (a + i))) := by
  refine List.ext_getElem? fun i => ?_
  rw [List.getElem?_take, List.getElem?_drop, List.getElem?_map]
  by_cases q : i < b - a
  · rw [if_pos q, dSts_get B p (show a + i < n by omega), List.getElem?_range q]; rfl
  · rw [if_neg q, List.getElem?_eq_none_iff.mpr (by rw [List.length_range]; omega)]; rfl
theorem bits_cut (lit : Nat → Bool) (h n : Nat) : cutD (dBits ((List.range (n + 2)).map fun i => lit (h + i))) (some 1) (some (-1)) = dBits ((List.range n).map fun i => lit (h + 1 + i)) := by
  have hl : (dBits ((List.range (n + 2)).map fun i => lit (h + i))).length = n + 2 := by rw [dBits_len, List.length_map, List.length_range]
  have e1 : HT.sIx (n + 2) 0 (some 1) = 1 := by
    show (if (1 : Int) < 0 then ((1 : Int) + ((n + 2 : Nat) : Int)).toNat else min (1 : Int).toNat (n + 2)) = 1
    rw [if_neg (by decide)]
    exact Nat.min_eq_left (by show 1 ≤ n + 2; omega)
  have e2 : HT.sIx (n + 2) (n + 2) (some (-1)) = n + 1 := by
    show (if (-1 : Int) < 0 then ((-1 : Int) + ((n + 2 : Nat) : Int)).toNat else min (-1 : Int).toNat (n + 2)) = n + 1
    rw [if_pos (by decide)]; omega
  unfold cutD
  rw [hl, e1, e2]
  unfold dBits
  rw [List.map_map, List.map_map]
  refine List.ext_getElem? fun i => ?_
  rw [List.getElem?_take, List.getElem?_drop, List.getElem?_map, List.getElem?_map]
  by_cases q : i < n
  · rw [if_pos (by omega), List.getElem?_range (by omega), List.getElem?_range q]
    simp only [Option.map_some, Function.comp]
    rw [show h + (1 + i) = h + 1 + i by omega]
  · rw [if_neg (by omega), List.getElem?_eq_none_iff.mpr (by rw [List.length_range]; omega)]; rfl
theorem none_len (l : List Str) : decide (((dStrs l).length : Int) = 0) = l.isEmpty := by
  rw [dStrs_len]
  cases l with
  | nil => rfl
  | cons a l => exact decide_eq_false (by simp only [List.length_cons]; omega)
inductive R_law_ends : List Ar → Ar → Prop
  | mk (B : BR) (h : WB B) (p : List (Bool × Str)) (hl : p.length ≤ 1000) (lamp : Str) : R_law_ends [.d (dSpec B), .d (.list (dMoves p)), .d (.list (dSts B p (p.length + 1))), .d (.str lamp)] (.d (.list (dEnds (B.ends lamp p).1)))
theorem lit_last {α : Type} (f : Nat → α) (n : Nat) : atI ((List.range (n + 1)).map f) (-1) = some (f n) := by
  rw [List.range_succ, List.map_append]; exact atI_last _ _
theorem bl_eq (b : Bool) : (PyData.bool b) = .bool b := rfl
theorem c_law_ends (T : TX K mg) : C8.Cal P w K mg base 6 "_law_ends" (FS K R_law_ends) [] := by
  obtain ⟨fd, F⟩ := T.f_law_ends
  have c_law_due := @c_law_due P w K mg base T
  have c_law_live := @c_law_live P w K mg base T
  exact cal_of F T.g_law_ends (F.bindsN fun _ _ _ _ _ _ us hl => match us, hl with | [_, _, _, _], _ => rfl) (fs_ok F scope_law_ends 5 (fun _ _ r => by cases r; rfl) rfl (fun _ _ r => by cases r; first | rfl | simp_all [Ar.nm]) fun cdv A outer s H E hr => by
    have hu := hu_of hr
    have hu9 : (A.deeper (envOfC "_law_ends" (defScope s_law_ends) s.heap.objs.size (He.ga K "_law_ends") cdv)).units + 9 < cLine := by have := hr.un; omega
    have hu64 : (A.deeper (envOfC "_law_ends" (defScope s_law_ends) s.heap.objs.size (He.ga K "_law_ends") cdv)).units + 64 < cLine := by have := hr.un; omega
    have hu65 : (A.deeper (envOfC "_law_ends" (defScope s_law_ends) s.heap.objs.size (He.ga K "_law_ends") cdv)).units + 65 < cLine := by have := hr.un; omega
    refine ⟨_, (pss_cons (ps_set (i := 4) scope_law_ends.nd rfl (Or.inl rfl) (pe_lst pa_nil))
        (pss_cons (ps_set (i := 5) scope_law_ends.nd rfl (Or.inl rfl) pe_non)
        (pss_cons (ps_for PassesOwn.never rfl (pi_range1 (by rfl) T.z_range (pa_cons (pe_callB (cLen (K := K)) (by rfl) T.z_len PySem.boot_len (pa_cons (pv 1) pa_nil)) pa_nil)) (pg_name (i := 6) scope_law_ends.nd rfl (Or.inl rfl))
          (pss_cons (ps_if (pt_cmpR op_eq (pe_ix (ixT (K := K)) (pe_ix (ixL (K := K)) (pv 1) (pv 6) (fun _ _ => rfl)) pe_int (fun _ _ => rfl)) pe_str (nomark _))
          (pss_one (ps_set (i := 5) scope_law_ends.nd rfl (Or.inl rfl) (pv 6)))
          pss_nil)
        (pss_one (ps_if (PW.pt (pw_and (pt_cmpR op_notN (pv 5) pe_non (nomark _)) (pw_and1 (pt_cmpR op_eq (pe_callB (cLen (K := K)) (by rfl) T.z_len PySem.boot_len (pa_cons (C8.pe_c c_law_due hr (by decide) rfl (pa_cons (pv 0) (pa_cons (pe_ix (ixL (K := K)) (pv 2) (pe_op op_add (pv 6) pe_int) (fun _ _ => rfl)) pa_nil))) pa_nil)) pe_int (nomark _)))))
          (pss_cons (ps_setLc (i := 7) (own := [("_law_state", 8)]) (g := gName 8) (tt := tYes) rfl scope_law_ends.nd rfl rfl (sw_true rfl rfl rfl (by decide +kernel)) (piList (K := K) (pe_slice (slL (K := K)) (pv 2) (po_some (pv 5)) (po_some (pe_op op_add (pv 6) pe_int)))) (blkOk_by (own := [("_law_state", 8)]) (N := nm_law_ends) (sc := defScope s_law_ends) (by decide +kernel)) (fun _ _ _ _ _ => (pg_name (i := 8) scope_law_ends.nd rfl (Or.inl rfl))) (fun _ _ _ _ _ => pts_nil) (fun _ _ _ _ _ => (pe_cmpR (opIn (K := K)) (pv 3) (C8.pe_c c_law_live hr (by decide) rfl (pa_cons (pv 0) (pa_cons (pv 8) (pa_cons (pe_ix (ixL (K := K)) (pv 0) pe_int (fun _ _ => rfl)) pa_nil)))) rfl)))
        (pss_cons (ps_if (PW.pt (pw_and (pt_cmpR op_eq (pe_ix (ixL (K := K)) (pv 7) pe_int (fun _ _ => rfl)) (pe_ix (ixL (K := K)) (pv 7) (pe_un un_neg pe_int) (fun _ _ => rfl)) (nomark _)) (pw_and1 (pt_cmpR (opIn (K := K)) (pe_not (pe_ix (ixL (K := K)) (pv 7) pe_int (fun _ _ => rfl))) (pe_slice (slL (K := K)) (pv 7) (po_some pe_int) (po_some (pe_un un_neg pe_int))) rfl))))
          (pss_one (ps_expr (peBm (K := K) PySem.F.plainAttrs_list PySem.F.slot_list_append PySem.F.type_list_append mt_append (pv 4) (pa_cons (pe_tup (pa_cons (pv 5) (pa_cons (pe_op op_add (pv 6) pe_int) pa_nil))) pa_nil))))
          pss_nil)
        (pss_one (ps_set (i := 5) scope_law_ends.nd rfl (Or.inl rfl) pe_non))))
          pss_nil))))
        (pss_one (ps_ret (pv 4)))))), fun as y r => ?_⟩
    cases r with
    | mk B h p hl lamp =>
    show Sd K _ [some _, some _, some _, some _, none, none, none, none, none] _ _
    have zr := h.zr
    let lit := B.litP lamp p
    let rest := B.restP p
    let A : Nat → Ends0 := fun i => endsK lit rest (isHP p) i
    refine sd_letN (en_lst (ds := []) ea_nil (Nat.le_of_ble_eq_true rfl)) ?_
    refine sd_let (x := .d .none) (ed_c rfl) rfl ?_
    refine sd_seq (M := fun ys => ∃ o a b c, ys = [some (.d (dSpec B)), some (.d (.list (dMoves p))), some (.d (.list (dSts B p (p.length + 1)))), some (.d (.str lamp)), some (.m (dEnds (A p.length).1)), o, a, b, c])
      (sd_for (fun i ys => ∃ a b c, ys = [some (.d (dSpec B)), some (.d (.list (dMoves p))), some (.d (.list (dSts B p (p.length + 1)))), some (.d (.str lamp)), some (.m (dEnds (A i).1)), some (.d (dHand (A i).2)), a, b, c])
        (id_range (n := p.length) (by omega) (ed_is (ed_cb (ea_cons (ed_var rfl) ea_nil) (rc_len (by constructor))) (by rw [dMoves_len]))) ⟨_, _, _, rfl⟩ (fun i d ys hd hP => ?_) (fun ys hP => ?_)) (fun ys hP => ?_)
    · obtain ⟨a, b, c, rfl⟩ := hP
      obtain ⟨hi, rfl⟩ := range_get' hd
      have hmv : p[i]? = some p[i] := by simp [hi]
      have hmd : (dMoves p)[i]? = some (dMove p[i]) := by unfold dMoves; rw [List.getElem?_map, hmv]; rfl
      have hH : isHP p i = p[i].1 := by unfold isHP; rw [hmv]
      have hst := dSts_get B p (show i + 1 < p.length + 1 by omega)
      have el := ends_len lit rest (isHP p) i
      refine ⟨_, _, gd_name, sd_seq (M := fun ys => ∃ b c, ys = [some (.d (dSpec B)), some (.d (.list (dMoves p))), some (.d (.list (dSts B p (p.length + 1)))), some (.d (.str lamp)), some (.m (dEnds (A i).1)), some (.d (dHand (if isHP p i = true then some i else (A i).2))), some (.d (.int (i : Nat))), b, c])
        (sd_if (b := isHP p i) (et_is (et_test (ed_op (ed_op (ed_op (ed_var rfl) (ed_var rfl) (rv_ixL (at_nat hmd))) (ed_c rfl) (rv_ixT (at0 rfl))) (ed_c rfl) rv_eqS)) (by rw [hH]; exact hand_str _)) (fun e => sd_asg (ed_var rfl) rfl (by rw [if_pos e]; exact ⟨_, _, rfl⟩)) (fun e => sd_next (by rw [if_neg (by rw [e]; decide)]; exact ⟨_, _, rfl⟩))) (fun ys hP => ?_)⟩
      obtain ⟨b, c, rfl⟩ := hP
      have hrs : B.rest (B.run (p.take (i + 1))) = rest (i + 1) := rfl
      have hA : A (i + 1) = eStep lit rest (isHP p) (A i) i := endsK_succ _ _ _ _
      unfold eStep at hA
      have hb : ∀ h, (if isHP p i = true then some i else (A i).2) = some h → h ≤ i := fun h e => by
        split at e
        · cases e; exact Nat.le_refl _
        · exact Nat.le_of_lt (endsK_lt e)
      generalize (if isHP p i = true then some i else (A i).2) = o at hA hb ⊢
      refine sd_if (b := o.isSome && rest (i + 1)) (et_is (et_and (et_test (ed_op (ed_var rfl) (ed_c rfl) rv_notN)) fun _ => (et_test (ed_op (ed_cb (ea_cons (ed_call (ea_cons (ed_var rfl) (ea_cons (ed_op (ed_var rfl) (ed_is (y := .d (.int ((i + 1 : Nat) : Int))) (ed_op (ed_var rfl) (ed_c rfl) (rv_i0 rfl)) rfl) (rv_ixL (at_nat hst))) ea_nil)) (.mk B h _ (run_ln B _))) ea_nil) (rc_len (by constructor))) (ed_c rfl) rv_eqI))) ?_) (fun e => ?_) (fun e => sd_next ?_)
      · rw [none_len]
        cases o <;> rfl
      · cases o with
        | none => cases e
        | some hh =>
        have hr : rest (i + 1) = true := e
        have hle := hb hh rfl
        obtain ⟨n, rfl⟩ : ∃ n, i = hh + n := ⟨i - hh, by omega⟩
        dsimp only at hA
        rw [if_pos hr] at hA
        have hz : hh + n + 2 - hh = n + 2 := by omega
        have hcut : cutD (dSts B p (p.length + 1)) (some ((hh : Nat) : Int)) (some ((hh + n + 2 : Nat) : Int)) = (List.range (n + 2)).map fun j => dState (B.run (p.take (hh + j))) := by
          rw [cutD_mid (by rw [dSts_len]; omega), dSts_cut B p (by omega), hz]
        have b0 : atI (dBits ((List.range (n + 2)).map fun j => lit (hh + j))) 0 = some (.bool (lit hh)) := at0 (by unfold dBits; rw [List.getElem?_map, List.getElem?_map, List.getElem?_range (by omega)]; rfl)
        have b1 : atI (dBits ((List.range (n + 2)).map fun j => lit (hh + j))) (-1) = some (.bool (lit (hh + (n + 1)))) := by unfold dBits; rw [List.map_map]; exact lit_last _ _
        refine sd_let (x := .d (.list (dBits ((List.range (n + 2)).map fun j => lit (hh + j))))) (En.ed (en_lcY (l := List.range (n + 2)) (enc := fun j => dState (B.run (p.take (hh + j)))) (out := .bool) (w := fun j => lit (hh + j))
          (id_list (ed_is (En.ed (en_slL (ed_var rfl) (by constructor) (eo_some (i := ((hh : Nat) : Int)) (ed_is (ed_var rfl) rfl)) (eo_some (i := ((hh + n + 2 : Nat) : Int)) (ed_is (ed_op (ed_var rfl) (ed_c rfl) (rv_i0 rfl)) rfl)))) (congrArg (fun x => Ar.d (.list x)) hcut))) (fun a _ => gd_name) (fun i hi => hi) (fun j _ => ed_is (ed_op (ed_var rfl) (ed_call (ea_cons (ed_var rfl) (ea_cons (ed_var rfl) (ea_cons (ed_op (ed_var rfl) (ed_c rfl) (rv_ixL (at3 rfl))) ea_nil))) (.mk B h _ (run_ln B _) B.lamps h.ll)) (rv_isIn (by constructor))) rfl) (by rw [List.length_range]; omega))) rfl ?_
        refine sd_seq (M := fun ys => ∃ b c, ys = [some (.d (dSpec B)), some (.d (.list (dMoves p))), some (.d (.list (dSts B p (p.length + 1)))), some (.d (.str lamp)), some (.m (dEnds (A (hh + n + 1)).1)), some (.d (.int (hh : Nat))), some (.d (.int ((hh + n : Nat) : Int))), b, c])
          (sd_if (b := flashW lit hh (hh + n + 1)) (et_is (et_and (et_test (ed_op (ed_op (ed_var rfl) (ed_c rfl) (rv_ixL (b0))) (ed_op (ed_var rfl) (ed_neg (ed_c rfl)) (rv_ixL (b1))) rv_eqB)) fun _ => (et_test (ed_op (ed_notV (ed_op (ed_var rfl) (ed_c rfl) (rv_ixL (b0)))) (ed_is (En.ed (en_slL (ed_var rfl) (by constructor) (eo_some (i := 1) (ed_is (ed_c rfl) rfl)) (eo_some (i := -1) (ed_is (ed_neg (ed_c rfl)) rfl)))) (congrArg (fun x => Ar.d (.list x)) (bits_cut lit hh n))) (rv_isInB (by constructor))))) ?_) (fun e2 => sd_app rfl (d := dEnd (hh, hh + n + 1)) (ed_is (ed_tup (ds := [_, _]) (ea_cons (ed_var rfl) (ea_cons (ed_op (ed_var rfl) (ed_c rfl) (rv_i0 rfl)) ea_nil)) (Nat.le_of_ble_eq_true rfl)) rfl) (by rw [dEnds_len]; have : (A (hh + n)).1.length ≤ hh + n := el; omega) ?_) (fun e2 => sd_next ?_)) (fun ys hP => ?_)
        · unfold flashW
          rw [show hh + n + 1 - hh - 1 = n by omega, List.any_map]
          rfl
        · rw [hA, e2, if_pos rfl]
          rw [show dEnds (((A (hh + n)).1 ++ [(hh, hh + n + 1)], (none : Option Nat)).1) = dEnds (A (hh + n)).1 ++ [dEnd (hh, hh + n + 1)] by show dEnds (_ ++ _) = _; unfold dEnds; rw [List.map_append]; rfl]
          exact ⟨_, _, rfl⟩
        · rw [hA, e2, if_neg (by decide)]
          exact ⟨_, _, rfl⟩
        · obtain ⟨b, c, rfl⟩ := hP
          refine sd_asg (x := .d .none) (ed_c rfl) rfl ?_
          rw [show (A (hh + n + 1)).2 = none by rw [hA]]
          exact ⟨_, _, _, rfl⟩
      · cases o with
        | none =>
          dsimp only at hA
          rw [hA]
          exact ⟨_, _, _, rfl⟩
        | some hh =>
          have hr : ¬ rest (i + 1) = true := fun q => by rw [q] at e; cases e
          dsimp only at hA
          rw [if_neg hr] at hA
          rw [hA]
          exact ⟨_, _, _, rfl⟩
    · obtain ⟨a, b, c, rfl⟩ := hP
      rw [rangeD_len]
      exact ⟨_, _, _, _, rfl⟩
    · obtain ⟨o, a, b, c, rfl⟩ := hP
      exact sd_retM rfl rfl)
end
end K58
end
/-! W14 -/
section
set_option maxRecDepth 100000
set_option maxHeartbeats 2000000
namespace K58
open PySem PySem.Spec PyProof.Rows L2
/-! ### the law's numbers -/
def bigC (c : Int) : Bool := decide (10 ^ 18 ≤ c.natAbs)
def rst (c : Int) : Nat → Nat
  | 0 => c.natAbs
  | k + 1 => if bigC c = true then rst c k / 1009 else rst c k
def mix1 (c : Int) (k : Nat) : Nat := (rst c k * 48271 + (k + 1) * 69621) % 2147483647
def mix2 (c : Int) (k : Nat) : Nat := (mix1 c k * 16807 + 271 * (k + 3)) % 2147483629
def elC (c : Int) (k : Nat) : Nat := if bigC c = true then rst c k % 1009 else mix2 c k % 1009
def rowF (c : Int) (n : Nat) : List Nat := (List.range n).map (elC c)
theorem rowF_succ (c : Int) (n : Nat) : rowF c (n + 1) = rowF c n ++ [elC c n] := by unfold rowF; rw [List.range_succ, List.map_append]; rfl
theorem rowF_len (c : Int) (n : Nat) : (rowF c n).length = n := by unfold rowF; rw [List.length_map, List.length_range]
theorem dNats_snoc (l : List Nat) (x : Nat) : dNats (l ++ [x]) = dNats l ++ [.int (x : Nat)] := by unfold dNats; rw [List.map_append]; rfl
theorem abs_nat (i : Int) : (if i < 0 then -i else i) = ((i.natAbs : Nat) : Int) := by split <;> omega
theorem cmulR (i : Int) {j : Int} (h : -(2 ^ 64) < j ∧ j < 2 ^ 64) : CMul i j := .inr h
theorem cmulL {i : Int} (j : Int) (h : -(2 ^ 64) < i ∧ i < 2 ^ 64) : CMul i j := .inl h
section
variable {P : Program} {w : World} {K : PySem.W.Frag} {mg : Str → Option Value} {base : Heap} {xs : Xs}
inductive R_law_row : List Ar → Ar → Prop
  | mk (c : Int) (n : Nat) (hn : n ≤ 1000) : R_law_row [.d (.int c), .d (.int (n : Nat))] (.d (.list (dNats (rowF c n))))
theorem c_law_row (T : TX K mg) : C8.Cal P w K mg base 1 "_law_row" (FS K R_law_row) [] := by
  obtain ⟨fd, F⟩ := T.f_law_row
  exact cal_of F T.g_law_row (F.bindsN fun _ _ _ _ _ _ us hl => match us, hl with | [_, _], _ => rfl) (fs_ok F scope_law_row 4 (fun _ _ r => by cases r; rfl) rfl (fun _ _ r => by cases r; first | rfl | simp_all [Ar.nm]) fun cdv A outer s H E hr => by
    have hu := hu_of hr
    have hu9 : (A.deeper (envOfC "_law_row" (defScope s_law_row) s.heap.objs.size (He.ga K "_law_row") cdv)).units + 9 < cLine := by have := hr.un; omega
    have hu64 : (A.deeper (envOfC "_law_row" (defScope s_law_row) s.heap.objs.size (He.ga K "_law_row") cdv)).units + 64 < cLine := by have := hr.un; omega
    have hu65 : (A.deeper (envOfC "_law_row" (defScope s_law_row) s.heap.objs.size (He.ga K "_law_row") cdv)).units + 65 < cLine := by have := hr.un; omega
    refine ⟨_, (pss_cons (ps_set (i := 2) scope_law_row.nd rfl (Or.inl rfl) (pe_lst pa_nil))
        (pss_cons (ps_set (i := 3) scope_law_row.nd rfl (Or.inl rfl) (pe_callB call_abs (by rfl) T.z_abs (by decide +kernel) (pa_cons (pe_callTy call_int1 (by rfl) T.z_int boot_int (pa_cons (pv 0) pa_nil)) pa_nil)))
        (pss_cons (ps_for PassesOwn.never rfl (pi_range1 (by rfl) T.z_range (pa_cons (pv 1) pa_nil)) (pg_name (i := 4) scope_law_row.nd rfl (Or.inl rfl))
          (pss_one (ps_if (pt_cmpR op_ge (pe_callB call_abs (by rfl) T.z_abs (by decide +kernel) (pa_cons (pe_callTy call_int1 (by rfl) T.z_int boot_int (pa_cons (pv 0) pa_nil)) pa_nil)) (pe_op op_pow pe_int pe_int) (nomark _))
          (pss_cons (ps_expr (peBm (K := K) PySem.F.plainAttrs_list PySem.F.slot_list_append PySem.F.type_list_append mt_append (pv 2) (pa_cons (pe_op op_mod (pe_callTy call_int1 (by rfl) T.z_int boot_int (pa_cons (pv 3) pa_nil)) pe_int) pa_nil)))
        (pss_one (ps_set (i := 3) scope_law_row.nd rfl (Or.inl rfl) (pe_op op_fdiv (pv 3) pe_int))))
          (pss_cons (ps_set (i := 5) scope_law_row.nd rfl (Or.inl rfl) (pe_op op_mod (pe_callTy call_int1 (by rfl) T.z_int boot_int (pa_cons (pe_op op_add (pe_op op_mul (pv 3) pe_int) (pe_op op_mul (pe_op op_add (pv 4) pe_int) pe_int)) pa_nil)) pe_int))
        (pss_cons (ps_set (i := 5) scope_law_row.nd rfl (Or.inl rfl) (pe_op op_mod (pe_callTy call_int1 (by rfl) T.z_int boot_int (pa_cons (pe_op op_add (pe_op op_mul (pv 5) pe_int) (pe_op op_mul pe_int (pe_op op_add (pv 4) pe_int))) pa_nil)) pe_int))
        (pss_one (ps_expr (peBm (K := K) PySem.F.plainAttrs_list PySem.F.slot_list_append PySem.F.type_list_append mt_append (pv 2) (pa_cons (pe_op op_mod (pe_callTy call_int1 (by rfl) T.z_int boot_int (pa_cons (pv 5) pa_nil)) pe_int) pa_nil)))))))))
        (pss_one (ps_ret (pv 2)))))), fun as y r => ?_⟩
    cases r with
    | mk c n hn =>
    show Sd K _ [some _, some _, none, none, none, none] _ _
    refine sd_letN (en_lst (ds := []) ea_nil (Nat.le_of_ble_eq_true rfl)) ?_
    refine sd_let (x := .d (.int (c.natAbs : Nat))) (ed_is (ed_cb (ea_cons (ed_cb (ea_cons (ed_var rfl) ea_nil) rc_int) ea_nil) rc_abs) (by rw [abs_nat])) rfl ?_
    refine sd_seq (M := fun ys => ∃ a b d, ys = [some (.d (.int c)), some (.d (.int (n : Nat))), some (.m (dNats (rowF c n))), a, b, d])
      (sd_for (fun i ys => ∃ a b, ys = [some (.d (.int c)), some (.d (.int (n : Nat))), some (.m (dNats (rowF c i))), some (.d (.int (rst c i : Nat))), a, b]) (id_range (n := n) (by omega) (ed_var rfl)) ⟨_, _, rfl⟩ (fun i d ys hd hP => ?_) (fun ys hP => ?_)) (fun ys hP => ?_)
    · obtain ⟨a, b, rfl⟩ := hP
      obtain ⟨hi, rfl⟩ := range_get' hd
      have ln : (dNats (rowF c i)).length < 1000000 := by rw [dNats_len, rowF_len]; omega
      refine ⟨_, _, gd_name, sd_if (b := bigC c) (et_is (et_test (ed_op (ed_cb (ea_cons (ed_cb (ea_cons (ed_var rfl) ea_nil) rc_int) ea_nil) rc_abs) (ed_op (ed_c rfl) (ed_c rfl) (rv_i (⟨by decide, by decide, by decide⟩) rfl)) (rv_i0 rfl))) ?_) (fun e => ?_) (fun e => ?_)⟩
      · rw [abs_nat]
        unfold bigC
        exact decide_eq_decide.mpr (by
          rw [show ((10 : Int) ^ (18 : Int).toNat) = ((10 ^ 18 : Nat) : Int) from rfl]
          exact Int.ofNat_le)
      · refine sd_app1 rfl (d := .int ((rst c i % 1009 : Nat) : Int)) (ed_is (ed_op (ed_cb (ea_cons (ed_var rfl) ea_nil) rc_int) (ed_c rfl) (rv_i (by decide) rfl)) rfl) ln ?_
        refine sd_asg (x := .d (.int ((rst c i / 1009 : Nat) : Int))) (ed_is (ed_op (ed_var rfl) (ed_c rfl) (rv_i (⟨by decide, by decide⟩) rfl)) rfl) rfl ?_
        rw [rowF_succ, dNats_snoc]
        have e1 : elC c i = rst c i % 1009 := by unfold elC; rw [if_pos e]
        have e2 : rst c (i + 1) = rst c i / 1009 := by show (if bigC c = true then rst c i / 1009 else rst c i) = _; rw [if_pos e]
        rw [e1, e2]
        exact ⟨_, _, rfl⟩
      · refine sd_let (x := .d (.int (mix1 c i : Nat))) (ed_is (ed_op (ed_cb (ea_cons (ed_op (ed_op (ed_var rfl) (ed_c rfl) (rv_i (cmulR _ (by decide)) rfl)) (ed_op (ed_op (ed_var rfl) (ed_c rfl) (rv_i0 rfl)) (ed_c rfl) (rv_i (cmulR _ (by decide)) rfl)) (rv_i0 rfl)) ea_nil) rc_int) (ed_c rfl) (rv_i (by decide) rfl)) rfl) rfl ?_
        refine sd_let (x := .d (.int (mix2 c i : Nat))) (ed_is (ed_op (ed_cb (ea_cons (ed_op (ed_op (ed_var rfl) (ed_c rfl) (rv_i (cmulR _ (by decide)) rfl)) (ed_op (ed_c rfl) (ed_op (ed_var rfl) (ed_c rfl) (rv_i0 rfl)) (rv_i (cmulL _ (by decide)) rfl)) (rv_i0 rfl)) ea_nil) rc_int) (ed_c rfl) (rv_i (by decide) rfl)) rfl) rfl ?_
        refine sd_app rfl (d := .int ((mix2 c i % 1009 : Nat) : Int)) (ed_is (ed_op (ed_cb (ea_cons (ed_var rfl) ea_nil) rc_int) (ed_c rfl) (rv_i (by decide) rfl)) rfl) ln ?_
        have hf : ¬ bigC c = true := by rw [e]; decide
        rw [rowF_succ, dNats_snoc]
        have e1 : elC c i = mix2 c i % 1009 := by unfold elC; rw [if_neg hf]
        have e2 : rst c (i + 1) = rst c i := by show (if bigC c = true then rst c i / 1009 else rst c i) = _; rw [if_neg hf]
        rw [e1, e2]
        exact ⟨_, _, rfl⟩
    · obtain ⟨a, b, rfl⟩ := hP
      rw [rangeD_len]
      exact ⟨_, _, _, rfl⟩
    · obtain ⟨a, b, d, rfl⟩ := hP
      exact sd_retM rfl rfl)
/-- all the rows -/
def numE (cs : List Int) : Nat := 1 + 170 / (max 1 cs.length)
def numL (cs : List Int) : List Nat := cs.flatMap fun c => rowF c (numE cs)
def numF (is : List Int) : List Nat := (numL (is.take 63) ++ List.replicate (170 - (numL (is.take 63)).length) 0).take 170
theorem numF_len (is : List Int) : (numF is).length = 170 := by
  unfold numF
  rw [List.length_take, List.length_append, List.length_replicate]
  omega
def dInts (l : List Int) : List PyData := l.map PyData.int
inductive R_law_numbers : List Ar → Ar → Prop
  | mk (is : List Int) : R_law_numbers [.s (is.map V.int), .d (.int 170)] (.d (.list (dNats (numF is))))
theorem numL_take_len (cs : List Int) (E : Nat) : (cs.flatMap fun c => rowF c E).length = cs.length * E := by
  induction cs with
  | nil => simp
  | cons a l ih => rw [List.flatMap_cons, List.length_append, ih, rowF_len, List.length_cons, Nat.succ_mul]; omega
theorem c_law_numbers (T : TX K mg) : C8.Cal P w K mg base 2 "_law_numbers" (FS K R_law_numbers) [] := by
  obtain ⟨fd, F⟩ := T.f_law_numbers
  have c_law_row := @c_law_row P w K mg base T
  exact cal_of F T.g_law_numbers (F.bindsN fun _ _ _ _ _ _ us hl => match us, hl with | [_, _], _ => rfl) (fs_ok F scope_law_numbers 5 (fun _ _ r => by cases r; rfl) rfl (fun _ _ r => by cases r; first | rfl | simp_all [Ar.nm]) fun cdv A outer s H E hr => by
    have hu := hu_of hr
    have hu9 : (A.deeper (envOfC "_law_numbers" (defScope s_law_numbers) s.heap.objs.size (He.ga K "_law_numbers") cdv)).units + 9 < cLine := by have := hr.un; omega
    have hu64 : (A.deeper (envOfC "_law_numbers" (defScope s_law_numbers) s.heap.objs.size (He.ga K "_law_numbers") cdv)).units + 64 < cLine := by have := hr.un; omega
    have hu65 : (A.deeper (envOfC "_law_numbers" (defScope s_law_numbers) s.heap.objs.size (He.ga K "_law_numbers") cdv)).units + 65 < cLine := by have := hr.un; omega
    refine ⟨_, (pss_cons (ps_set (i := 2) scope_law_numbers.nd rfl (Or.inl rfl) (pe_slice (slL (K := K)) (pv 0) po_none (po_some pe_int)))
        (pss_cons (ps_set (i := 3) scope_law_numbers.nd rfl (Or.inl rfl) (pe_op op_add pe_int (pe_op op_fdiv (pv 1) (pe_callB (call_max2 rfl) (by rfl) T.z_max (by decide +kernel) (pa_cons pe_int (pa_cons (pe_callB (cLen (K := K)) (by rfl) T.z_len PySem.boot_len (pa_cons (pv 2) pa_nil)) pa_nil))))))
        (pss_cons (ps_set (i := 4) scope_law_numbers.nd rfl (Or.inl rfl) (pe_lst pa_nil))
        (pss_cons (ps_for PassesOwn.never rfl (piList (K := K) (pv 2)) (pg_name (i := 5) scope_law_numbers.nd rfl (Or.inl rfl))
          (pss_one (ps_for PassesOwn.never rfl (piList (K := K) (C8.pe_c c_law_row hr (by decide) rfl (pa_cons (pv 5) (pa_cons (pv 3) pa_nil)))) (pg_name (i := 6) scope_law_numbers.nd rfl (Or.inl rfl))
          (pss_one (ps_expr (peBm (K := K) PySem.F.plainAttrs_list PySem.F.slot_list_append PySem.F.type_list_append mt_append (pv 4) (pa_cons (pv 6) pa_nil)))))))
        (pss_cons (ps_while PassesOwn.never (pt_cmpR op_lt (pe_callB (cLen (K := K)) (by rfl) T.z_len PySem.boot_len (pa_cons (pv 4) pa_nil)) (pv 1) (nomark _))
          (pss_one (ps_expr (peBm (K := K) PySem.F.plainAttrs_list PySem.F.slot_list_append PySem.F.type_list_append mt_append (pv 4) (pa_cons pe_int pa_nil)))))
        (pss_one (ps_ret (pe_slice (slL (K := K)) (pv 4) po_none (po_some (pv 1)))))))))), fun as y r => ?_⟩
    cases r with
    | mk is =>
    show Sd K _ [some _, some _, none, none, none, none, none] _ _
    let cs := is.take 63
    have hcs : cs.length ≤ 63 := by show (is.take 63).length ≤ 63; rw [List.length_take]; omega
    have hv : is.map V.int = (dInts is).map ofD := by unfold dInts; rw [List.map_map]; rfl
    have hcut : cutD (dInts is) none (some 63) = dInts cs := by
      have e1 : HT.sIx (dInts is).length (dInts is).length (some 63) = min 63 (dInts is).length := HT.sIx_nat _ _ 63
      unfold cutD
      rw [e1, HT.sIx_none, List.drop_zero, Nat.sub_zero]
      rw [show (dInts is).length = is.length from List.length_map ..]
      show List.take (min 63 is.length) (is.map PyData.int) = (is.take 63).map PyData.int
      rw [← List.map_take, ← List.take_eq_take_min]
    have hE : numE cs ≤ 171 := by
      unfold numE
      have := Nat.div_le_self 170 (max 1 cs.length)
      omega
    refine sd_let (x := .d (.list (dInts cs))) (ed_is (En.ed (en_slS (ds := dInts is) (ed_is (ed_var rfl) (by rw [hv])) (by rw [List.all_eq_true]; intro d hd; obtain ⟨b, _, rfl⟩ := List.mem_map.mp hd; rfl) eo_none (eo_some (i := 63) (ed_is (ed_c rfl) rfl)))) (congrArg (fun x => Ar.d (.list x)) hcut)) rfl ?_
    have hmax : (if ((cs.length : Nat) : Int) > 1 then ((cs.length : Nat) : Int) else 1) = ((max 1 cs.length : Nat) : Int) := by split <;> omega
    have hil : (dInts cs).length = cs.length := List.length_map ..
    refine sd_let (x := .d (.int (numE cs : Nat))) (ed_op (ed_c rfl) (ed_op (ed_var rfl) (ed_is (y := .d (.int ((max 1 cs.length : Nat) : Int))) (ed_cb (ea_cons (ed_c rfl) (ea_cons (ed_cb (ea_cons (ed_var rfl) ea_nil) (rc_len (by constructor))) ea_nil)) rc_max2) (by rw [hil]; exact congrArg (fun x => Ar.d (.int x)) hmax)) (rv_i (by show (0 : Int) < _ ∧ _ < (1073741824 : Int); omega) rfl)) (rv_i0 rfl)) rfl ?_
    refine sd_letN (en_lst (ds := []) ea_nil (Nat.le_of_ble_eq_true rfl)) ?_
    have big : ∀ i, ((cs.take i).flatMap fun c => rowF c (numE cs)).length ≤ 63 * 171 := fun i => by
      rw [numL_take_len]
      refine Nat.mul_le_mul ?_ hE
      rw [List.length_take]; omega
    refine sd_seq (M := fun ys => ∃ a b c d, ys = [some (.s (is.map V.int)), some (.d (.int 170)), a, b, some (.m (dNats (numL cs))), c, d])
      (sd_for (fun i ys => ∃ a b, ys = [some (.s (is.map V.int)), some (.d (.int 170)), some (.d (.list (dInts cs))), some (.d (.int (numE cs : Nat))), some (.m (dNats ((cs.take i).flatMap fun c => rowF c (numE cs)))), a, b]) (id_list (ed_var rfl)) ⟨_, _, rfl⟩ (fun i d ys hd hP => ?_) (fun ys hP => ?_)) (fun ys hP => ?_)
    · obtain ⟨a, b, rfl⟩ := hP
      obtain ⟨c, hc, rfl⟩ := map_get hd
      have hfl : (cs.take (i + 1)).flatMap (fun c => rowF c (numE cs)) = (cs.take i).flatMap (fun c => rowF c (numE cs)) ++ rowF c (numE cs) := by
        rw [take_snoc hc, List.flatMap_append]; simp
      have hbi := big i
      refine ⟨_, _, gd_name, sd_for (fun j ys => ∃ b, ys = [some (.s (is.map V.int)), some (.d (.int 170)), some (.d (.list (dInts cs))), some (.d (.int (numE cs : Nat))), some (.m (dNats ((cs.take i).flatMap (fun c => rowF c (numE cs)) ++ (rowF c (numE cs)).take j))), some (.d (.int c)), b]) (id_list (ed_call (ea_cons (ed_var rfl) (ea_cons (ed_var rfl) ea_nil)) (.mk c _ (by omega)))) ⟨_, by rw [List.take_zero, List.append_nil]; rfl⟩ (fun j d ys hd hP => ?_) (fun ys hP => ?_)⟩
      · obtain ⟨b, rfl⟩ := hP
        obtain ⟨x, hx, rfl⟩ := map_get hd
        have hj := rowF_len c (numE cs)
        refine ⟨_, _, gd_name, sd_app rfl (ed_var rfl) (by rw [dNats_len, List.length_append, List.length_take]; omega) ?_⟩
        rw [take_snoc hx, ← List.append_assoc, dNats_snoc]
        exact ⟨_, rfl⟩
      · obtain ⟨b, rfl⟩ := hP
        rw [dNats_len, List.take_length, hfl]
        exact ⟨_, _, rfl⟩
    · obtain ⟨a, b, rfl⟩ := hP
      rw [hil, List.take_length]
      exact ⟨_, _, _, _, rfl⟩
    · obtain ⟨a, b, c, d, rfl⟩ := hP
      have hn : (numL cs).length ≤ 63 * 171 := by have := big cs.length; rw [List.take_length] at this; exact this
      refine sd_seq (M := fun ys => ∃ a b c d, ys = [some (.s (is.map V.int)), some (.d (.int 170)), a, b, some (.m (dNats (numL cs ++ List.replicate (170 - (numL cs).length) 0))), c, d])
        (sd_while (fun m ys => ∃ j a b c d, j + m = 170 - (numL cs).length ∧ ys = [some (.s (is.map V.int)), some (.d (.int 170)), a, b, some (.m (dNats (numL cs ++ List.replicate j 0))), c, d]) (170 - (numL cs).length) ⟨0, _, _, _, _, by omega, by rw [List.replicate_zero, List.append_nil]⟩ (fun m ys hP => ?_)) (fun ys hP => ?_)
      · obtain ⟨j, a, b, c, d, hj, rfl⟩ := hP
        have hl : (dNats (numL cs ++ List.replicate j 0)).length = (numL cs).length + j := by rw [dNats_len, List.length_append, List.length_replicate]
        refine ⟨decide ((numL cs).length + j < 170), et_is (et_test (ed_op (ed_cb (ea_cons (ed_var rfl) ea_nil) (rc_len (by constructor))) (ed_var rfl) (rv_i0 rfl))) (by rw [hl]; exact decide_eq_decide.mpr (by omega)), fun e => ?_, fun e => ?_⟩
        · have hlt := of_decide_eq_true e
          refine sd_app rfl (d := .int ((0 : Nat) : Int)) (ed_is (ed_c rfl) rfl) (by rw [hl]; omega) ⟨m - 1, by omega, j + 1, a, b, c, d, by omega, ?_⟩
          rw [List.replicate_succ', ← List.append_assoc, dNats_snoc]
          rfl
        · have hge := of_decide_eq_false e
          have : j = 170 - (numL cs).length := by omega
          rw [this]
          exact ⟨_, _, _, _, rfl⟩
      · obtain ⟨a, b, c, d, rfl⟩ := hP
        refine sd_ret (ed_is (En.ed (en_slL (ed_var rfl) (by constructor) eo_none (eo_some (i := ((170 : Nat) : Int)) (ed_is (ed_var rfl) rfl)))) ?_) rfl rfl
        rw [cutD_take (by rw [dNats_len, List.length_append, List.length_replicate]; omega)]
        unfold dNats
        rw [← List.map_take]
        rfl)
end
end K58
end
/-! W15 -/
section
set_option maxRecDepth 100000
set_option maxHeartbeats 2000000
namespace K58
open PySem PySem.Spec PyProof.Rows L2
/-! ### the law's names -/
def chL : List Nat := charsT.cps.toList
def chA (i : Nat) : Nat := chL.getD (i % 36) 0
def szN (n : Nat) : Nat := ([0, 1, 3, 11] : List Nat).getD (n % 4) 0
def restL (num oth : Nat) : List Nat := (List.range (szN num)).map fun k => chA (oth + 7 * k * k + num * k)
def plN (num oth : Nat) : Nat := (num / 4 + oth) % (szN num + 1)
def nameL (num oth k : Nat) : List Nat := (restL num oth).take (plN num oth) ++ [chA (oth + 5 * k)] ++ (restL num oth).drop (plN num oth)
def mkS (l : List Nat) : Str := ⟨l.toArray⟩
def nameS (num oth k : Nat) : Str := mkS (nameL num oth k)
def namesF (num oth many : Nat) : List Str := (List.range many).map (nameS num oth)
theorem chL_len : chL.length = 36 := by decide +kernel
theorem chL_nd : chL.Nodup := by decide +kernel
theorem chA_get (i : Nat) : chL[i % 36]? = some (chA i) := by
  have : i % 36 < chL.length := by rw [chL_len]; exact Nat.mod_lt _ (by decide)
  unfold chA
  rw [List.getD_eq_getElem?_getD, List.getElem?_eq_getElem this]; rfl
theorem chA_mem (i : Nat) : chA i ∈ chL := List.mem_of_getElem? (chA_get i)
theorem chA_inj {i j : Nat} (h : chA i = chA j) : i % 36 = j % 36 := by
  have h1 := chA_get i
  have h2 := chA_get j
  rw [h] at h1
  exact (List.getElem?_inj (List.getElem?_eq_some_iff.mp h1).1 chL_nd).mp (h1.trans h2.symm)
theorem szN_le (n : Nat) : szN n ≤ 11 := by
  unfold szN
  have : n % 4 < 4 := Nat.mod_lt _ (by decide)
  rcases (show n % 4 = 0 ∨ n % 4 = 1 ∨ n % 4 = 2 ∨ n % 4 = 3 by omega) with h | h | h | h <;> rw [h] <;> decide
theorem szN_get (n : Nat) : (dNats [0, 1, 3, 11])[n % 4]? = some (.int (szN n : Nat)) := by
  unfold szN
  rcases (show n % 4 = 0 ∨ n % 4 = 1 ∨ n % 4 = 2 ∨ n % 4 = 3 by omega) with h | h | h | h <;> rw [h] <;> rfl
theorem restL_len (num oth : Nat) : (restL num oth).length = szN num := by unfold restL; rw [List.length_map, List.length_range]
theorem plN_le (num oth : Nat) : plN num oth ≤ szN num := Nat.le_of_lt_succ (Nat.mod_lt _ (Nat.succ_pos _))
theorem nameL_len (num oth k : Nat) : (nameL num oth k).length = szN num + 1 := by
  unfold nameL
  have h1 := restL_len num oth
  have h2 := plN_le num oth
  rw [List.length_append, List.length_append, List.length_take, List.length_drop, List.length_singleton]
  omega
theorem nameL_at (num oth k : Nat) : (nameL num oth k)[plN num oth]? = some (chA (oth + 5 * k)) := by
  unfold nameL
  have h1 := restL_len num oth
  have h2 := plN_le num oth
  rw [List.append_assoc, List.getElem?_append_right (by rw [List.length_take]; omega), List.length_take, Nat.min_eq_left (by omega), Nat.sub_self]
  rfl
theorem mkS_inj {a b : List Nat} (h : mkS a = mkS b) : a = b := by
  unfold mkS at h
  injection h with h
  simpa using congrArg Array.toList h
theorem mkS_len (l : List Nat) : (mkS l).length = l.length := by unfold mkS Str.length; simp
theorem nameS_inj {num oth j k : Nat} (hj : j < 36) (hk : k < 36) (h : nameS num oth j = nameS num oth k) : j = k := by
  have h1 := mkS_inj h
  have h2 := nameL_at num oth j
  rw [h1, nameL_at num oth k] at h2
  have h3 := chA_inj (Option.some.inj h2)
  omega
theorem nameS_ok (num oth k : Nat) : NmOk (nameS num oth k) where
  l1 := by unfold nameS; rw [mkS_len, nameL_len]; omega
  l2 := by unfold nameS; rw [mkS_len, nameL_len]; have := szN_le num; omega
  ch := fun c hc => by
    have hc' : c ∈ nameL num oth k := hc
    unfold nameL at hc'
    have hr : ∀ c ∈ restL num oth, c ∈ chL := fun c hc => by
      obtain ⟨i, _, rfl⟩ := List.mem_map.mp hc
      exact chA_mem _
    rcases List.mem_append.mp hc' with hc' | hc'
    · rcases List.mem_append.mp hc' with hc' | hc'
      · exact hr c (List.mem_of_mem_take hc')
      · rw [List.mem_singleton] at hc'; subst hc'; exact chA_mem _
    · exact hr c (List.mem_of_mem_drop hc')
theorem namesF_len (num oth many : Nat) : (namesF num oth many).length = many := by unfold namesF; rw [List.length_map, List.length_range]
theorem namesF_ok {num oth many : Nat} : ∀ s ∈ namesF num oth many, NmOk s := fun s hs => by
  obtain ⟨k, _, rfl⟩ := List.mem_map.mp hs
  exact nameS_ok _ _ _
theorem nodup_map' {α β : Type} {f : α → β} : ∀ {l : List α}, l.Nodup → (∀ x ∈ l, ∀ y ∈ l, f x = f y → x = y) → (l.map f).Nodup
  | [], _, _ => List.nodup_nil
  | a :: l, nd, h => by
    have h1 := List.nodup_cons.mp nd
    rw [List.map_cons, List.nodup_cons]
    refine ⟨fun hm => ?_, nodup_map' h1.2 fun x hx y hy => h x (List.mem_cons_of_mem _ hx) y (List.mem_cons_of_mem _ hy)⟩
    obtain ⟨b, hb, e⟩ := List.mem_map.mp hm
    have := h b (List.mem_cons_of_mem _ hb) a List.mem_cons_self e
    subst this
    exact h1.1 hb
theorem namesF_nd {num oth many : Nat} (h : many ≤ 36) : (namesF num oth many).Nodup := nodup_map' List.nodup_range fun j hj k hk e => by
  rw [List.mem_range] at hj hk
  exact nameS_inj (by omega) (by omega) e
theorem mkS_app (a b : List Nat) : mkS a ++ mkS b = mkS (a ++ b) := by
  show (⟨a.toArray ++ b.toArray⟩ : Str) = ⟨(a ++ b).toArray⟩
  congr 1
  simp
theorem cut_take (l : List Nat) {k : Nat} (h : k ≤ l.length) : cutS (mkS l) none (some (k : Int)) = mkS (l.take k) := by
  unfold cutS
  rw [HT.sIx_none, HT.sIx_nat, mkS_len, List.drop_zero, Nat.sub_zero, Nat.min_eq_left h]
  rfl
theorem cut_drop (l : List Nat) {k : Nat} (h : k ≤ l.length) : cutS (mkS l) (some (k : Int)) none = mkS (l.drop k) := by
  unfold cutS
  rw [HT.sIx_none, HT.sIx_nat, mkS_len, Nat.min_eq_left h]
  show mkS ((l.drop k).take (l.length - k)) = _
  rw [List.take_of_length_le (by rw [List.length_drop]; omega)]
theorem join0 : ∀ ys : List (List Nat), TL.joinL [] ys = ys.flatten
  | [] => rfl
  | [p] => by simp [TL.joinL]
  | p :: q :: r => by
    show p ++ ([] ++ TL.joinL [] (q :: r)) = _
    rw [join0 (q :: r)]; simp
theorem flat1 : ∀ l : List Nat, (l.map fun c => [c]).flatten = l
  | [] => rfl
  | a :: l => by rw [List.map_cons, List.flatten_cons, flat1 l]; rfl
theorem join_signs (l : List Nat) : Txt.join "" (l.map fun c => (⟨#[c]⟩ : Str)) = mkS l := by
  have h := SX.join_S [] (l.map fun c => [c])
  rw [List.map_map, join0, flat1] at h
  exact h
section
variable {P : Program} {w : World} {K : PySem.W.Frag} {mg : Str → Option Value} {base : Heap} {xs : Xs}
inductive R_law_names : List Ar → Ar → Prop
  | mk (num oth many : Nat) (hm : many ≤ 36) : R_law_names [.d (.int (num : Nat)), .d (.int (oth : Nat)), .d (.int (many : Nat))] (.d (.list (dStrs (namesF num oth many))))
theorem c_law_names (T : TX K mg) : C8.Cal P w K mg base 1 "_law_names" (FS K R_law_names) [] := by
  obtain ⟨fd, F⟩ := T.f_law_names
  exact cal_of F T.g_law_names (F.bindsN fun _ _ _ _ _ _ us hl => match us, hl with | [_, _, _], _ => rfl) (fs_ok F scope_law_names 5 (fun _ _ r => by cases r; rfl) rfl (fun _ _ r => by cases r; first | rfl | simp_all [Ar.nm]) fun cdv A outer s H E hr => by
    have hu := hu_of hr
    have hu9 : (A.deeper (envOfC "_law_names" (defScope s_law_names) s.heap.objs.size (He.ga K "_law_names") cdv)).units + 9 < cLine := by have := hr.un; omega
    have hu64 : (A.deeper (envOfC "_law_names" (defScope s_law_names) s.heap.objs.size (He.ga K "_law_names") cdv)).units + 64 < cLine := by have := hr.un; omega
    have hu65 : (A.deeper (envOfC "_law_names" (defScope s_law_names) s.heap.objs.size (He.ga K "_law_names") cdv)).units + 65 < cLine := by have := hr.un; omega
    refine ⟨_, (pss_cons (ps_set (i := 3) scope_law_names.nd rfl (Or.inr rfl) pe_str)
        (pss_cons (ps_set (i := 4) scope_law_names.nd rfl (Or.inl rfl) (pe_ix (ixL (K := K)) (pe_lst (pa_cons pe_int (pa_cons pe_int (pa_cons pe_int (pa_cons pe_int pa_nil))))) (pe_op op_mod (pe_callTy call_int1 (by rfl) T.z_int boot_int (pa_cons (pv 0) pa_nil)) pe_int) (fun _ _ => rfl)))
        (pss_cons (ps_set (i := 5) scope_law_names.nd rfl (Or.inr rfl) (peJoin (K := K) pe_str (pe_lc (own := [("_law_k", 7)]) (g := gName 7) (tt := tYes) rfl scope_law_names.nd (pi_range1 (by rfl) T.z_range (pa_cons (pv 4) pa_nil)) (blkOk_by (own := [("_law_k", 7)]) (N := nm_law_names) (sc := defScope s_law_names) (by decide +kernel)) (fun _ _ _ _ _ => (pg_name (i := 7) scope_law_names.nd rfl (Or.inl rfl))) (fun _ _ _ _ _ => pts_nil) (fun _ _ _ _ _ => (pe_ix ix_str (pv 3) (pe_op op_mod (pe_callTy call_int1 (by rfl) T.z_int boot_int (pa_cons (pe_op op_add (pe_op op_add (pv 1) (pe_op op_mul (pe_op op_mul pe_int (pv 7)) (pv 7))) (pe_op op_mul (pv 0) (pv 7))) pa_nil)) pe_int) (fun _ _ => rfl))))))
        (pss_cons (ps_set (i := 6) scope_law_names.nd rfl (Or.inr rfl) (pe_op op_mod (pe_callTy call_int1 (by rfl) T.z_int boot_int (pa_cons (pe_op op_add (pe_op op_fdiv (pv 0) pe_int) (pv 1)) pa_nil)) (pe_op op_add (pv 4) pe_int)))
        (pss_one (ps_ret (pe_lc (own := [("_law_k", 7)]) (g := gName 7) (tt := tYes) rfl scope_law_names.nd (pi_range1 (by rfl) T.z_range (pa_cons (pv 2) pa_nil)) (blkOk_by (own := [("_law_k", 7)]) (N := nm_law_names) (sc := defScope s_law_names) (by decide +kernel)) (fun _ _ _ _ _ => (pg_name (i := 7) scope_law_names.nd rfl (Or.inl rfl))) (fun _ _ _ _ _ => pts_nil) (fun _ _ _ _ _ => (pe_op op_add_str (pe_op op_add_str (pe_slice sl_str (pv 5) po_none (po_some (pv 6))) (pe_ix ix_str (pv 3) (pe_op op_mod (pe_callTy call_int1 (by rfl) T.z_int boot_int (pa_cons (pe_op op_add (pv 1) (pe_op op_mul pe_int (pv 7))) pa_nil)) pe_int) (fun _ _ => rfl))) (pe_slice sl_str (pv 5) (po_some (pv 6)) po_none)))))))))), fun as y r => ?_⟩
    cases r with
    | mk num oth many hm =>
    show Sd K _ [some _, some _, some _, none, none, none, none, none] _ _
    have hsz := szN_le num
    have hpl := plN_le num oth
    have hrl := restL_len num oth
    have hch : charsT.length ≤ 1000000 := by decide +kernel
    refine sd_let (x := .d (.str charsT)) (ed_is (ed_c rfl) rfl) rfl ?_
    refine sd_let (x := .d (.int (szN num : Nat))) (ed_op (x := .d (.list (dNats [0, 1, 3, 11]))) (ed_is (En.ed (en_lst (ds := [_, _, _, _]) (ea_cons (ed_c rfl) (ea_cons (ed_c rfl) (ea_cons (ed_c rfl) (ea_cons (ed_c rfl) ea_nil)))) (Nat.le_of_ble_eq_true rfl))) rfl) (ed_is (y := .d (.int ((num % 4 : Nat) : Int))) (ed_op (ed_cb (ea_cons (ed_var rfl) ea_nil) rc_int) (ed_c rfl) (rv_i (by decide) rfl)) rfl) (rv_ixL (at_nat (szN_get num)))) rfl ?_
    have hx : ∀ i : Nat, atI charsT.cps.toList ((i % 36 : Nat) : Int) = some (chA i) := fun i => at_nat (chA_get i)
    refine sd_let (x := .d (.str (mkS (restL num oth)))) (ed_is (ed_join (s := "") (ss := (restL num oth).map fun c => (⟨#[c]⟩ : Str)) (ed_is (ed_c rfl) rfl) (ed_is (En.ed (en_lcY (l := List.range (szN num)) (enc := fun i => .int (i : Nat)) (out := .str) (w := fun k => (⟨#[chA (oth + 7 * k * k + num * k)]⟩ : Str)) (id_range (n := szN num) (by omega) (ed_var rfl)) (fun a _ => gd_name) (fun i hi => hi) (fun k hk => ?_) (by rw [List.length_range]; omega))) ?_) ?_) ?_) rfl ?_
    · have hk' := List.mem_range.mp hk
      refine ed_op (ed_var rfl) (ed_is (y := .d (.int (((oth + 7 * k * k + num * k) % 36 : Nat) : Int))) (ed_op (ed_cb (ea_cons (ed_op (ed_op (ed_var rfl) (ed_op (ed_op (ed_c rfl) (ed_var rfl) (rv_i (cmulL _ (by decide)) rfl)) (ed_var rfl) (rv_i (cmulR _ (by constructor <;> omega)) rfl)) (rv_i0 rfl)) (ed_op (ed_var rfl) (ed_var rfl) (rv_i (cmulR _ (by constructor <;> omega)) rfl)) (rv_i0 rfl)) ea_nil) rc_int) (ed_c rfl) (rv_i (by decide) rfl)) rfl) (rv_ixS hch (hx _))
    · unfold restL dStrs; simp only [List.map_map]; rfl
    · have e1 : ((restL num oth).map fun c => (⟨#[c]⟩ : Str)).map (·.length) = (restL num oth).map fun _ => 1 := by rw [List.map_map]; rfl
      rw [e1, List.map_const', List.sum_replicate_nat, List.length_map, hrl]
      show szN num * 1 + szN num * (Str.ofString "").length ≤ 16777216
      have : (Str.ofString "").length = 0 := by decide +kernel
      rw [this]; omega
    · rw [join_signs]
    refine sd_let (x := .d (.int (plN num oth : Nat))) (ed_is (ed_op (ed_cb (ea_cons (ed_op (ed_op (ed_var rfl) (ed_c rfl) (rv_i (⟨by decide, by decide⟩) rfl)) (ed_var rfl) (rv_i0 rfl)) ea_nil) rc_int) (ed_op (ed_var rfl) (ed_c rfl) (rv_i0 rfl)) (rv_i (by omega) rfl)) rfl) rfl ?_
    refine sd_ret (ed_is (En.ed (en_lcY (l := List.range many) (enc := fun i => .int (i : Nat)) (out := .str) (w := nameS num oth) (id_range (n := many) (by omega) (ed_var rfl)) (fun a _ => gd_name) (fun i hi => hi) (fun k hk => ?_) (by rw [List.length_range]; omega))) rfl) rfl rfl
    have hk' := List.mem_range.mp hk
    have hz : (mkS (restL num oth)).length ≤ 1000000 := by rw [mkS_len]; omega
    refine ed_is (ed_op (ed_op (ed_is (y := .d (.str (mkS ((restL num oth).take (plN num oth))))) (ed_slS (ed_var rfl) hz eo_none (eo_some (ed_var rfl))) (by rw [cut_take _ (by omega)]))
      (ed_is (y := .d (.str (mkS [chA (oth + 5 * k)]))) (ed_op (ed_var rfl) (ed_is (y := .d (.int (((oth + 5 * k) % 36 : Nat) : Int))) (ed_op (ed_cb (ea_cons (ed_op (ed_var rfl) (ed_op (ed_c rfl) (ed_var rfl) (rv_i (cmulL _ (by decide)) rfl)) (rv_i0 rfl)) ea_nil) rc_int) (ed_c rfl) (rv_i (by decide) rfl)) rfl) (rv_ixS hch (hx _))) rfl) (rv_addS ?_))
      (ed_is (y := .d (.str (mkS ((restL num oth).drop (plN num oth))))) (ed_slS (ed_var rfl) hz (eo_some (ed_var rfl)) eo_none) (by rw [cut_drop _ (by omega)])) (rv_addS ?_)) ?_
    · rw [mkS_len, mkS_len, List.length_take]; show _ + 1 ≤ _; omega
    · rw [mkS_app, mkS_len, mkS_len, List.length_append, List.length_take, List.length_drop]; show _ + 1 + _ ≤ _; omega
    · rw [mkS_app, mkS_app]; rfl)
end
end K58
end
/-! W16 -/
section
set_option maxRecDepth 100000
set_option maxHeartbeats 2000000
namespace K58
open PySem PySem.Spec PyProof.Rows L2
/-! ### the law's loads and contacts -/
def nG (ns : List Nat) (i : Nat) : Nat := ns.getD i 0
def ixO (ns : List Nat) (a m : Nat) : Nat := nG ns a % m
def ixT' (ns : List Nat) (a m : Nat) : Nat := (ixO ns a m + 1 + nG ns (a + 1) % (m - 1)) % m
theorem ixO_lt {ns : List Nat} {a m : Nat} (h : 2 ≤ m) : ixO ns a m < m := Nat.mod_lt _ (by omega)
theorem ixT_lt {ns : List Nat} {a m : Nat} (h : 2 ≤ m) : ixT' ns a m < m := Nat.mod_lt _ (by omega)
theorem ix_ne {ns : List Nat} {a m : Nat} (h : 2 ≤ m) : ixO ns a m ≠ ixT' ns a m := by
  have h1 : ixO ns a m < m := ixO_lt h
  have h2 : nG ns (a + 1) % (m - 1) < m - 1 := Nat.mod_lt _ (by omega)
  unfold ixT'
  generalize ixO ns a m = x at h1 ⊢
  generalize nG ns (a + 1) % (m - 1) = y at h2 ⊢
  by_cases q : x + 1 + y < m
  · rw [Nat.mod_eq_of_lt q]; omega
  · rw [Nat.mod_eq_sub_mod (by omega), Nat.mod_eq_of_lt (by omega)]; omega
def loadF (ns : List Nat) (at_ : Nat) (nm nd : List Str) (k : Nat) : Str × Str × Str := (nm.getD k "", nd.getD (ixO ns (at_ + 2 * k) nd.length) "", nd.getD (ixT' ns (at_ + 2 * k) nd.length) "")
def loadsF (ns : List Nat) (at_ many : Nat) (nm nd : List Str) : List (Str × Str × Str) := (List.range many).map (loadF ns at_ nm nd)
theorem loadsF_len (ns : List Nat) (at_ many : Nat) (nm nd : List Str) : (loadsF ns at_ many nm nd).length = many := by unfold loadsF; rw [List.length_map, List.length_range]
theorem getD_mem {l : List Str} {i : Nat} (h : i < l.length) : l.getD i "" ∈ l := by
  rw [List.getD_eq_getElem?_getD, List.getElem?_eq_getElem h]
  exact List.getElem_mem h
theorem getD_ne {l : List Str} (nd : l.Nodup) {i j : Nat} (hi : i < l.length) (hj : j < l.length) (h : i ≠ j) : l.getD i "" ≠ l.getD j "" := fun e => by
  rw [List.getD_eq_getElem?_getD, List.getD_eq_getElem?_getD, List.getElem?_eq_getElem hi, List.getElem?_eq_getElem hj] at e
  refine h ((List.getElem?_inj hi nd).mp ?_)
  rw [List.getElem?_eq_getElem hi, List.getElem?_eq_getElem hj]
  exact congrArg some e
theorem loadsF_in {ns : List Nat} {at_ many : Nat} {nm nd : List Str} (h2 : 2 ≤ nd.length) (hn : nd.Nodup) : ∀ l ∈ loadsF ns at_ many nm nd, l.2.1 ∈ nd ∧ l.2.2 ∈ nd ∧ l.2.1 ≠ l.2.2 := fun l hl => by
  obtain ⟨k, _, rfl⟩ := List.mem_map.mp hl
  exact ⟨getD_mem (ixO_lt h2), getD_mem (ixT_lt h2), getD_ne hn (ixO_lt h2) (ixT_lt h2) (ix_ne h2)⟩
theorem map_getD (l : List Str) : (List.range l.length).map (fun k => l.getD k "") = l := by
  refine List.ext_getElem? fun i => ?_
  rw [List.getElem?_map]
  by_cases q : i < l.length
  · rw [List.getElem?_range q, List.getElem?_eq_getElem q, Option.map_some, List.getD_eq_getElem?_getD, List.getElem?_eq_getElem q]; rfl
  · rw [List.getElem?_eq_none_iff.mpr (by rw [List.length_range]; omega), List.getElem?_eq_none_iff.mpr (by omega)]; rfl
theorem loadsF_names {ns : List Nat} {at_ : Nat} {nm nd : List Str} : (loadsF ns at_ nm.length nm nd).map (·.1) = nm := by
  unfold loadsF
  rw [List.map_map]
  exact map_getD nm
def conF (ns : List Nat) (a : Nat) (nd mv : List Str) : Con Str where
  one := nd.getD (ixO ns a nd.length) ""
  other := nd.getD (ixT' ns a nd.length) ""
  mover := if nG ns (a + 2) % (mv.length + 1) = mv.length then (if mv.length = 0 ∨ nG ns (a + 3) % 3 = 0 then none else some (mv.getD (nG ns (a + 2) % mv.length) "")) else some (mv.getD (nG ns (a + 2) % (mv.length + 1)) "")
  make := if nG ns (a + 2) % (mv.length + 1) = mv.length ∧ (mv.length = 0 ∨ nG ns (a + 3) % 3 = 0) then true else decide (nG ns (a + 3) / 2 % 2 = 0)
  both := decide (nG ns (a + 3) / 8 % 4 ≠ 3)
theorem conF_ok {ns : List Nat} {a : Nat} {nd mv : List Str} (h2 : 2 ≤ nd.length) (hn : nd.Nodup) : COk (conF ns a nd mv) nd mv where
  o1 := getD_mem (ixO_lt h2)
  o2 := getD_mem (ixT_lt h2)
  ne := getD_ne hn (ixO_lt h2) (ixT_lt h2) (ix_ne h2)
  wn := fun e => by
    unfold conF at e ⊢
    dsimp only at e ⊢
    split at e
    · rename_i q
      split at e
      · rename_i q2
        rw [if_pos ⟨q, q2⟩]
      · cases e
    · cases e
  mv := fun m e => by
    unfold conF at e
    dsimp only at e
    split at e
    · split at e
      · cases e
      · rename_i q
        have hz : 0 < mv.length := by omega
        cases e
        exact getD_mem (Nat.mod_lt _ hz)
    · rename_i q
      have : nG ns (a + 2) % (mv.length + 1) < mv.length + 1 := Nat.mod_lt _ (Nat.succ_pos _)
      cases e
      exact getD_mem (by omega)
section
variable {P : Program} {w : World} {K : PySem.W.Frag} {mg : Str → Option Value} {base : Heap} {xs : Xs}
theorem strs_getD {l : List Str} {i : Nat} (h : i < l.length) : (dStrs l)[i]? = some (.str (l.getD i "")) := by
  unfold dStrs
  rw [List.getElem?_map, List.getD_eq_getElem?_getD, List.getElem?_eq_getElem h]; rfl
theorem ed_num {t1 t2 : TE} {ns : List Nat} {i : Nat} (h : Ed K t1 xs (.d (.list (dNats ns)))) (hi : Ed K t2 xs (.d (.int (i : Nat)))) (hl : i < ns.length) : Ed K (tOp (rIxL K) t1 t2) xs (.d (.int (nG ns i : Nat))) := ed_op h hi (rv_ixL (at_nat (nats_get hl)))
inductive R_law_loads : List Ar → Ar → Prop
  | mk (ns : List Nat) (at_ many : Nat) (nm nd : List Str) (hb : at_ + 2 * many ≤ ns.length) (hm : many ≤ nm.length) (h2 : 2 ≤ nd.length) (hl : many ≤ 1000) :
      R_law_loads [.d (.list (dNats ns)), .d (.int (at_ : Nat)), .d (.int (many : Nat)), .d (.list (dStrs nm)), .d (.list (dStrs nd))] (.d (.list (dLoads (loadsF ns at_ many nm nd))))
theorem loadsF_succ (ns : List Nat) (at_ k : Nat) (nm nd : List Str) : loadsF ns at_ (k + 1) nm nd = loadsF ns at_ k nm nd ++ [loadF ns at_ nm nd k] := by unfold loadsF; rw [List.range_succ, List.map_append]; rfl
theorem c_law_loads (T : TX K mg) : C8.Cal P w K mg base 1 "_law_loads" (FS K R_law_loads) [] := by
  obtain ⟨fd, F⟩ := T.f_law_loads
  exact cal_of F T.g_law_loads (F.bindsN fun _ _ _ _ _ _ us hl => match us, hl with | [_, _, _, _, _], _ => rfl) (fs_ok F scope_law_loads 4 (fun _ _ r => by cases r; rfl) rfl (fun _ _ r => by cases r; first | rfl | simp_all [Ar.nm]) fun cdv A outer s H E hr => by
    have hu := hu_of hr
    have hu9 : (A.deeper (envOfC "_law_loads" (defScope s_law_loads) s.heap.objs.size (He.ga K "_law_loads") cdv)).units + 9 < cLine := by have := hr.un; omega
    have hu64 : (A.deeper (envOfC "_law_loads" (defScope s_law_loads) s.heap.objs.size (He.ga K "_law_loads") cdv)).units + 64 < cLine := by have := hr.un; omega
    have hu65 : (A.deeper (envOfC "_law_loads" (defScope s_law_loads) s.heap.objs.size (He.ga K "_law_loads") cdv)).units + 65 < cLine := by have := hr.un; omega
    refine ⟨_, (pss_cons (ps_set (i := 5) scope_law_loads.nd rfl (Or.inl rfl) (pe_lst pa_nil))
        (pss_cons (ps_for PassesOwn.never rfl (pi_range1 (by rfl) T.z_range (pa_cons (pv 2) pa_nil)) (pg_name (i := 6) scope_law_loads.nd rfl (Or.inl rfl))
          (pss_cons (ps_set (i := 7) scope_law_loads.nd rfl (Or.inl rfl) (pe_op op_mod (pe_callTy call_int1 (by rfl) T.z_int boot_int (pa_cons (pe_ix (ixL (K := K)) (pv 0) (pe_op op_add (pv 1) (pe_op op_mul pe_int (pv 6))) (fun _ _ => rfl)) pa_nil)) (pe_callB (cLen (K := K)) (by rfl) T.z_len PySem.boot_len (pa_cons (pv 4) pa_nil))))
        (pss_cons (ps_set (i := 8) scope_law_loads.nd rfl (Or.inl rfl) (pe_op op_mod (pe_op op_add (pe_op op_add (pv 7) pe_int) (pe_op op_mod (pe_callTy call_int1 (by rfl) T.z_int boot_int (pa_cons (pe_ix (ixL (K := K)) (pv 0) (pe_op op_add (pe_op op_add (pv 1) (pe_op op_mul pe_int (pv 6))) pe_int) (fun _ _ => rfl)) pa_nil)) (pe_op op_sub (pe_callB (cLen (K := K)) (by rfl) T.z_len PySem.boot_len (pa_cons (pv 4) pa_nil)) pe_int))) (pe_callB (cLen (K := K)) (by rfl) T.z_len PySem.boot_len (pa_cons (pv 4) pa_nil))))
        (pss_one (ps_expr (peBm (K := K) PySem.F.plainAttrs_list PySem.F.slot_list_append PySem.F.type_list_append mt_append (pv 5) (pa_cons (pe_tup (pa_cons (pe_ix (ixL (K := K)) (pv 3) (pv 6) (fun _ _ => rfl)) (pa_cons (pe_ix (ixL (K := K)) (pv 4) (pv 7) (fun _ _ => rfl)) (pa_cons (pe_ix (ixL (K := K)) (pv 4) (pv 8) (fun _ _ => rfl)) pa_nil)))) pa_nil)))))))
        (pss_one (ps_ret (pv 5))))), fun as y r => ?_⟩
    cases r with
    | mk ns at_ many nm nd hb hm h2 hl =>
    show Sd K _ [some _, some _, some _, some _, some _, none, none, none, none] _ _
    refine sd_letN (en_lst (ds := []) ea_nil (Nat.le_of_ble_eq_true rfl)) ?_
    refine sd_seq (M := fun ys => ∃ a b c, ys = [some (.d (.list (dNats ns))), some (.d (.int (at_ : Nat))), some (.d (.int (many : Nat))), some (.d (.list (dStrs nm))), some (.d (.list (dStrs nd))), some (.m (dLoads (loadsF ns at_ many nm nd))), a, b, c])
      (sd_for (fun i ys => ∃ a b c, ys = [some (.d (.list (dNats ns))), some (.d (.int (at_ : Nat))), some (.d (.int (many : Nat))), some (.d (.list (dStrs nm))), some (.d (.list (dStrs nd))), some (.m (dLoads (loadsF ns at_ i nm nd))), a, b, c]) (id_range (n := many) (by omega) (ed_var rfl)) ⟨_, _, _, rfl⟩ (fun i d ys hd hP => ?_) (fun ys hP => ?_)) (fun ys hP => ?_)
    · obtain ⟨a, b, c, rfl⟩ := hP
      obtain ⟨hi, rfl⟩ := range_get' hd
      have hnl := dStrs_len nd
      refine ⟨_, _, gd_name, sd_let (x := .d (.int (ixO ns (at_ + 2 * i) nd.length : Nat))) (ed_is (y := .d (.int (ixO ns (at_ + 2 * i) nd.length : Nat))) (ed_op (ed_cb (ea_cons (ed_num (i := at_ + 2 * i) (ed_var rfl) (ed_is (ed_op (ed_var rfl) (ed_op (ed_c rfl) (ed_var rfl) (rv_i (cmulL _ (by decide)) rfl)) (rv_i0 rfl)) rfl) (by omega)) ea_nil) rc_int) (ed_cb (ea_cons (ed_var rfl) ea_nil) (rc_len (by constructor))) (rv_i (by rw [hnl]; omega) rfl)) (by rw [hnl]; rfl)) rfl ?_⟩
      have hc1 : ((nd.length - 1 : Nat) : Int) = ((nd.length : Nat) : Int) - 1 := by omega
      refine sd_let (x := .d (.int (ixT' ns (at_ + 2 * i) nd.length : Nat))) (ed_is (y := .d (.int (ixT' ns (at_ + 2 * i) nd.length : Nat))) (ed_op (ed_op (ed_op (ed_var rfl) (ed_c rfl) (rv_i0 rfl)) (ed_op (ed_cb (ea_cons (ed_num (i := at_ + 2 * i + 1) (ed_var rfl) (ed_is (ed_op (ed_op (ed_var rfl) (ed_op (ed_c rfl) (ed_var rfl) (rv_i (cmulL _ (by decide)) rfl)) (rv_i0 rfl)) (ed_c rfl) (rv_i0 rfl)) rfl) (by omega)) ea_nil) rc_int) (ed_is (y := .d (.int ((nd.length - 1 : Nat) : Int))) (ed_op (ed_cb (ea_cons (ed_var rfl) ea_nil) (rc_len (by constructor))) (ed_c rfl) (rv_i0 rfl)) (by rw [hnl, hc1]; rfl)) (rv_i (by first | (rw [hnl]; omega) | omega) rfl)) (rv_i0 rfl)) (ed_cb (ea_cons (ed_var rfl) ea_nil) (rc_len (by constructor))) (rv_i (by first | (rw [hnl]; omega) | omega) rfl)) (by rw [hnl]; rfl)) rfl ?_
      refine sd_app rfl (d := dLoad (loadF ns at_ nm nd i)) (ed_is (ed_tup (ds := [_, _, _]) (ea_cons (ed_op (ed_var rfl) (ed_var rfl) (rv_ixL (at_nat (strs_getD (by omega))))) (ea_cons (ed_op (ed_var rfl) (ed_var rfl) (rv_ixL (at_nat (strs_getD (ixO_lt h2))))) (ea_cons (ed_op (ed_var rfl) (ed_var rfl) (rv_ixL (at_nat (strs_getD (ixT_lt h2))))) ea_nil))) (Nat.le_of_ble_eq_true rfl)) rfl) (by rw [dLoads_len, loadsF_len]; omega) ?_
      rw [loadsF_succ]
      unfold dLoads
      rw [List.map_append]
      exact ⟨_, _, _, rfl⟩
    · obtain ⟨a, b, c, rfl⟩ := hP
      rw [rangeD_len]
      exact ⟨_, _, _, rfl⟩
    · obtain ⟨a, b, c, rfl⟩ := hP
      exact sd_retM rfl rfl)
inductive R_law_contact : List Ar → Ar → Prop
  | mk (ns : List Nat) (a : Nat) (nd mv : List Str) (hb : a + 4 ≤ ns.length) (h2 : 2 ≤ nd.length) : R_law_contact [.d (.list (dNats ns)), .d (.int (a : Nat)), .d (.list (dStrs nd)), .d (.list (dStrs mv))] (.d (dCon (conF ns a nd mv)))
theorem way_get (n : Nat) : (dStrs ["both", "both", "both", "forward"])[n % 4]? = some (.str (if decide (n % 4 ≠ 3) = true then "both" else "forward")) := by
  rcases (show n % 4 = 0 ∨ n % 4 = 1 ∨ n % 4 = 2 ∨ n % 4 = 3 by omega) with h | h | h | h <;> rw [h] <;> rfl
theorem when_get (n : Nat) : (dStrs ["make", "break"])[n % 2]? = some (.str (if decide (n % 2 = 0) = true then "make" else "break")) := by
  rcases (show n % 2 = 0 ∨ n % 2 = 1 by omega) with h | h <;> rw [h] <;> rfl
theorem c_law_contact (T : TX K mg) : C8.Cal P w K mg base 1 "_law_contact" (FS K R_law_contact) [] := by
  obtain ⟨fd, F⟩ := T.f_law_contact
  exact cal_of F T.g_law_contact (F.bindsN fun _ _ _ _ _ _ us hl => match us, hl with | [_, _, _, _], _ => rfl) (fs_ok F scope_law_contact 4 (fun _ _ r => by cases r; rfl) rfl (fun _ _ r => by cases r; first | rfl | simp_all [Ar.nm]) fun cdv A outer s H E hr => by
    have hu := hu_of hr
    have hu9 : (A.deeper (envOfC "_law_contact" (defScope s_law_contact) s.heap.objs.size (He.ga K "_law_contact") cdv)).units + 9 < cLine := by have := hr.un; omega
    have hu64 : (A.deeper (envOfC "_law_contact" (defScope s_law_contact) s.heap.objs.size (He.ga K "_law_contact") cdv)).units + 64 < cLine := by have := hr.un; omega
    have hu65 : (A.deeper (envOfC "_law_contact" (defScope s_law_contact) s.heap.objs.size (He.ga K "_law_contact") cdv)).units + 65 < cLine := by have := hr.un; omega
    refine ⟨_, (pss_cons (ps_set (i := 4) scope_law_contact.nd rfl (Or.inl rfl) (pe_op op_mod (pe_callTy call_int1 (by rfl) T.z_int boot_int (pa_cons (pe_ix (ixL (K := K)) (pv 0) (pv 1) (fun _ _ => rfl)) pa_nil)) (pe_callB (cLen (K := K)) (by rfl) T.z_len PySem.boot_len (pa_cons (pv 2) pa_nil))))
        (pss_cons (ps_set (i := 5) scope_law_contact.nd rfl (Or.inl rfl) (pe_op op_mod (pe_op op_add (pe_op op_add (pv 4) pe_int) (pe_op op_mod (pe_callTy call_int1 (by rfl) T.z_int boot_int (pa_cons (pe_ix (ixL (K := K)) (pv 0) (pe_op op_add (pv 1) pe_int) (fun _ _ => rfl)) pa_nil)) (pe_op op_sub (pe_callB (cLen (K := K)) (by rfl) T.z_len PySem.boot_len (pa_cons (pv 2) pa_nil)) pe_int))) (pe_callB (cLen (K := K)) (by rfl) T.z_len PySem.boot_len (pa_cons (pv 2) pa_nil))))
        (pss_cons (ps_set (i := 6) scope_law_contact.nd rfl (Or.inl rfl) (pe_op op_mod (pe_callTy call_int1 (by rfl) T.z_int boot_int (pa_cons (pe_ix (ixL (K := K)) (pv 0) (pe_op op_add (pv 1) pe_int) (fun _ _ => rfl)) pa_nil)) (pe_op op_add (pe_callB (cLen (K := K)) (by rfl) T.z_len PySem.boot_len (pa_cons (pv 3) pa_nil)) pe_int)))
        (pss_cons (ps_set (i := 7) scope_law_contact.nd rfl (Or.inl rfl) (pe_ix (ixL (K := K)) (pe_lst (pa_cons pe_str (pa_cons pe_str (pa_cons pe_str (pa_cons pe_str pa_nil))))) (pe_op op_mod (pe_callTy call_int1 (by rfl) T.z_int boot_int (pa_cons (pe_op op_fdiv (pe_ix (ixL (K := K)) (pv 0) (pe_op op_add (pv 1) pe_int) (fun _ _ => rfl)) pe_int) pa_nil)) pe_int) (fun _ _ => rfl)))
        (pss_cons (ps_if (pt_cmpR op_eq (pv 6) (pe_callB (cLen (K := K)) (by rfl) T.z_len PySem.boot_len (pa_cons (pv 3) pa_nil)) (nomark _))
          (pss_cons (ps_if (PW.pt (pw_or (pt_cmpR op_eq (pe_callB (cLen (K := K)) (by rfl) T.z_len PySem.boot_len (pa_cons (pv 3) pa_nil)) pe_int (nomark _)) (pw_or1 (pt_cmpR op_eq (pe_op op_mod (pe_callTy call_int1 (by rfl) T.z_int boot_int (pa_cons (pe_ix (ixL (K := K)) (pv 0) (pe_op op_add (pv 1) pe_int) (fun _ _ => rfl)) pa_nil)) pe_int) pe_int (nomark _)))))
          (pss_one (ps_ret (pe_tup (pa_cons (pe_ix (ixL (K := K)) (pv 2) (pv 4) (fun _ _ => rfl)) (pa_cons (pe_ix (ixL (K := K)) (pv 2) (pv 5) (fun _ _ => rfl)) (pa_cons pe_non (pa_cons pe_str (pa_cons (pv 7) pa_nil))))))))
          pss_nil)
        (pss_one (ps_set (i := 6) scope_law_contact.nd rfl (Or.inl rfl) (pe_op op_mod (pe_callTy call_int1 (by rfl) T.z_int boot_int (pa_cons (pe_ix (ixL (K := K)) (pv 0) (pe_op op_add (pv 1) pe_int) (fun _ _ => rfl)) pa_nil)) (pe_callB (cLen (K := K)) (by rfl) T.z_len PySem.boot_len (pa_cons (pv 3) pa_nil))))))
          pss_nil)
        (pss_one (ps_ret (pe_tup (pa_cons (pe_ix (ixL (K := K)) (pv 2) (pv 4) (fun _ _ => rfl)) (pa_cons (pe_ix (ixL (K := K)) (pv 2) (pv 5) (fun _ _ => rfl)) (pa_cons (pe_ix (ixL (K := K)) (pv 3) (pv 6) (fun _ _ => rfl)) (pa_cons (pe_ix (ixL (K := K)) (pe_lst (pa_cons pe_str (pa_cons pe_str pa_nil))) (pe_op op_mod (pe_callTy call_int1 (by rfl) T.z_int boot_int (pa_cons (pe_op op_fdiv (pe_ix (ixL (K := K)) (pv 0) (pe_op op_add (pv 1) pe_int) (fun _ _ => rfl)) pe_int) pa_nil)) pe_int) (fun _ _ => rfl)) (pa_cons (pv 7) pa_nil))))))))))))), fun as y r => ?_⟩
    cases r with
    | mk ns a nd mv hb h2 =>
    show Sd K _ [some _, some _, some _, some _, none, none, none, none] _ _
    have hnl := dStrs_len nd
    have hml := dStrs_len mv
    have hc1 : ((nd.length - 1 : Nat) : Int) = ((nd.length : Nat) : Int) - 1 := by omega
    refine sd_let (x := .d (.int (ixO ns a nd.length : Nat))) (ed_is (y := .d (.int (ixO ns a nd.length : Nat))) (ed_op (ed_cb (ea_cons (ed_num (i := a) (ed_var rfl) (ed_var rfl) (by omega)) ea_nil) rc_int) (ed_cb (ea_cons (ed_var rfl) ea_nil) (rc_len (by constructor))) (rv_i (by rw [hnl]; omega) rfl)) (by rw [hnl]; rfl)) rfl ?_
    refine sd_let (x := .d (.int (ixT' ns a nd.length : Nat))) (ed_is (y := .d (.int (ixT' ns a nd.length : Nat))) (ed_op (ed_op (ed_op (ed_var rfl) (ed_c rfl) (rv_i0 rfl)) (ed_op (ed_cb (ea_cons (ed_num (i := a + 1) (ed_var rfl) (ed_is (ed_op (ed_var rfl) (ed_c rfl) (rv_i0 rfl)) rfl) (by omega)) ea_nil) rc_int) (ed_is (y := .d (.int ((nd.length - 1 : Nat) : Int))) (ed_op (ed_cb (ea_cons (ed_var rfl) ea_nil) (rc_len (by constructor))) (ed_c rfl) (rv_i0 rfl)) (by rw [hnl, hc1]; rfl)) (rv_i (by first | (rw [hnl]; omega) | omega) rfl)) (rv_i0 rfl)) (ed_cb (ea_cons (ed_var rfl) ea_nil) (rc_len (by constructor))) (rv_i (by first | (rw [hnl]; omega) | omega) rfl)) (by rw [hnl]; rfl)) rfl ?_
    refine sd_let (x := .d (.int ((nG ns (a + 2) % (mv.length + 1) : Nat) : Int))) (ed_is (y := .d (.int ((nG ns (a + 2) % (mv.length + 1) : Nat) : Int))) (ed_op (ed_cb (ea_cons (ed_num (i := a + 2) (ed_var rfl) (ed_is (ed_op (ed_var rfl) (ed_c rfl) (rv_i0 rfl)) rfl) (by omega)) ea_nil) rc_int) (ed_op (ed_cb (ea_cons (ed_var rfl) ea_nil) (rc_len (by constructor))) (ed_c rfl) (rv_i0 rfl)) (rv_i (by rw [hml]; omega) rfl)) (by rw [hml]; rfl)) rfl ?_
    refine sd_let (x := .d (.str (if decide (nG ns (a + 3) / 8 % 4 ≠ 3) = true then "both" else "forward"))) (ed_op (x := .d (.list (dStrs ["both", "both", "both", "forward"]))) (ed_is (En.ed (en_lst (ds := [_, _, _, _]) (ea_cons (ed_c rfl) (ea_cons (ed_c rfl) (ea_cons (ed_c rfl) (ea_cons (ed_c rfl) ea_nil)))) (Nat.le_of_ble_eq_true rfl))) rfl) (ed_is (y := .d (.int ((nG ns (a + 3) / 8 % 4 : Nat) : Int))) (ed_op (ed_cb (ea_cons (ed_op (ed_num (i := a + 3) (ed_var rfl) (ed_is (ed_op (ed_var rfl) (ed_c rfl) (rv_i0 rfl)) rfl) (by omega)) (ed_c rfl) (rv_i (⟨by decide, by decide⟩) rfl)) ea_nil) rc_int) (ed_c rfl) (rv_i (by decide) rfl)) rfl) (rv_ixL (at_nat (way_get _)))) rfl ?_
    have g1 := strs_getD (ixO_lt (ns := ns) (a := a) h2)
    have g2 := strs_getD (ixT_lt (ns := ns) (a := a) h2)
    have hw : nG ns (a + 2) % (mv.length + 1) < mv.length + 1 := Nat.mod_lt _ (Nat.succ_pos _)
    refine sd_seq (M := fun ys => ¬ (nG ns (a + 2) % (mv.length + 1) = mv.length ∧ (mv.length = 0 ∨ nG ns (a + 3) % 3 = 0)) ∧ ys = [some (.d (.list (dNats ns))), some (.d (.int (a : Nat))), some (.d (.list (dStrs nd))), some (.d (.list (dStrs mv))), some (.d (.int (ixO ns a nd.length : Nat))), some (.d (.int (ixT' ns a nd.length : Nat))), some (.d (.int ((if nG ns (a + 2) % (mv.length + 1) = mv.length then nG ns (a + 2) % mv.length else nG ns (a + 2) % (mv.length + 1) : Nat) : Int))), some (.d (.str (if decide (nG ns (a + 3) / 8 % 4 ≠ 3) = true then "both" else "forward")))])
      (sd_if (b := decide (nG ns (a + 2) % (mv.length + 1) = mv.length)) (et_is (et_test (ed_op (ed_var rfl) (ed_cb (ea_cons (ed_var rfl) ea_nil) (rc_len (by constructor))) rv_eqI)) (by rw [hml]; exact decide_eq_decide.mpr (by omega))) (fun e => ?_) (fun e => sd_next ?_)) (fun ys hP => ?_)
    · have e' := of_decide_eq_true e
      refine sd_ifr (b := decide (mv.length = 0 ∨ nG ns (a + 3) % 3 = 0)) (et_is (b := decide (mv.length = 0 ∨ nG ns (a + 3) % 3 = 0)) (et_or (et_test (ed_op (ed_cb (ea_cons (ed_var rfl) ea_nil) (rc_len (by constructor))) (ed_c rfl) rv_eqI)) fun _ => (et_test (ed_op (ed_is (y := .d (.int ((nG ns (a + 3) % 3 : Nat) : Int))) (ed_op (ed_cb (ea_cons (ed_num (i := a + 3) (ed_var rfl) (ed_is (ed_op (ed_var rfl) (ed_c rfl) (rv_i0 rfl)) rfl) (by omega)) ea_nil) rc_int) (ed_c rfl) (rv_i (by decide) rfl)) rfl) (ed_c rfl) rv_eqI))) ?_) (fun e2 => ?_) (fun e2 => ?_)
      · rw [hml, Bool.decide_or]
        congr 1
        · exact decide_eq_decide.mpr (by omega)
        · exact decide_eq_decide.mpr (by omega)
      · have e2' := of_decide_eq_true e2
        refine sd_ret (ed_is (ed_tup (ds := [_, _, _, _, _]) (ea_cons (ed_op (ed_var rfl) (ed_var rfl) (rv_ixL (at_nat g1))) (ea_cons (ed_op (ed_var rfl) (ed_var rfl) (rv_ixL (at_nat g2))) (ea_cons (ed_c rfl) (ea_cons (ed_c rfl) (ea_cons (ed_var rfl) ea_nil))))) (Nat.le_of_ble_eq_true rfl)) ?_) rfl rfl
        have h1 : (conF ns a nd mv).mover = none := by unfold conF; dsimp only; rw [if_pos e', if_pos e2']
        have h3 : (conF ns a nd mv).make = true := by unfold conF; dsimp only; exact if_pos ⟨e', e2'⟩
        unfold dCon
        rw [h1, h3]
        rfl
      · have e2' := of_decide_eq_false e2
        have hz : 0 < mv.length := by omega
        refine sd_asg (x := .d (.int ((nG ns (a + 2) % mv.length : Nat) : Int))) (ed_is (ed_op (ed_cb (ea_cons (ed_num (i := a + 2) (ed_var rfl) (ed_is (ed_op (ed_var rfl) (ed_c rfl) (rv_i0 rfl)) rfl) (by omega)) ea_nil) rc_int) (ed_cb (ea_cons (ed_var rfl) ea_nil) (rc_len (by constructor))) (rv_i (by rw [hml]; omega) rfl)) (by rw [hml]; rfl)) rfl ⟨fun q => e2' q.2, ?_⟩
        rw [if_pos e']
        rfl
    · have e' := of_decide_eq_false e
      refine ⟨fun q => e' q.1, ?_⟩
      rw [if_neg e']
      rfl
    · obtain ⟨hne, rfl⟩ := hP
      have hlt : (if nG ns (a + 2) % (mv.length + 1) = mv.length then nG ns (a + 2) % mv.length else nG ns (a + 2) % (mv.length + 1)) < mv.length := by
        split
        · rename_i q
          have : 0 < mv.length := Nat.pos_of_ne_zero fun z => hne ⟨q, .inl z⟩
          exact Nat.mod_lt _ this
        · omega
      refine sd_ret (ed_is (ed_tup (ds := [_, _, _, _, _]) (ea_cons (ed_op (ed_var rfl) (ed_var rfl) (rv_ixL (at_nat g1))) (ea_cons (ed_op (ed_var rfl) (ed_var rfl) (rv_ixL (at_nat g2))) (ea_cons (ed_op (ed_var rfl) (ed_var rfl) (rv_ixL (at_nat (strs_getD hlt)))) (ea_cons (ed_op (x := .d (.list (dStrs ["make", "break"]))) (ed_is (En.ed (en_lst (ds := [_, _]) (ea_cons (ed_c rfl) (ea_cons (ed_c rfl) ea_nil)) (Nat.le_of_ble_eq_true rfl))) rfl) (ed_is (y := .d (.int ((nG ns (a + 3) / 2 % 2 : Nat) : Int))) (ed_op (ed_cb (ea_cons (ed_op (ed_num (i := a + 3) (ed_var rfl) (ed_is (ed_op (ed_var rfl) (ed_c rfl) (rv_i0 rfl)) rfl) (by omega)) (ed_c rfl) (rv_i (⟨by decide, by decide⟩) rfl)) ea_nil) rc_int) (ed_c rfl) (rv_i (by decide) rfl)) rfl) (rv_ixL (at_nat (when_get _)))) (ea_cons (ed_var rfl) ea_nil))))) (Nat.le_of_ble_eq_true rfl)) ?_) rfl rfl
      have h3 : (conF ns a nd mv).make = decide (nG ns (a + 3) / 2 % 2 = 0) := by unfold conF; dsimp only; exact if_neg hne
      have h1 : (conF ns a nd mv).mover = some (mv.getD (if nG ns (a + 2) % (mv.length + 1) = mv.length then nG ns (a + 2) % mv.length else nG ns (a + 2) % (mv.length + 1)) "") := by
        unfold conF
        dsimp only
        by_cases q : nG ns (a + 2) % (mv.length + 1) = mv.length
        · rw [if_pos q, if_neg (fun z => hne ⟨q, z⟩), if_pos q]
        · rw [if_neg q, if_neg q]
      unfold dCon
      rw [h1, h3]
      rfl)
end
end K58
end
/-! W17 -/
section
set_option maxRecDepth 100000
set_option maxHeartbeats 2000000
namespace K58
open PySem PySem.Spec PyProof.Rows L2
/-! ### the law's board -/
def ndF (ns : List Nat) : List Str := namesF (nG ns 6) (nG ns 7) (2 + nG ns 0 % 3)
def mvF (ns : List Nat) : List Str := namesF (nG ns 8) (nG ns 9) (nG ns 1 % 3 + nG ns 2 % 3)
def lmF (ns : List Nat) : List Str := namesF (nG ns 10) (nG ns 11) (1 + nG ns 3 % 2)
def brdF (ns : List Nat) : BR where
  plus := nameS (nG ns 6) (nG ns 7) 0
  minus := nameS (nG ns 6) (nG ns 7) 1
  more := (List.range (nG ns 0 % 3)).map fun k => nameS (nG ns 6) (nG ns 7) (k + 2)
  sw := (mvF ns).take (nG ns 1 % 3)
  rel := loadsF ns 12 (nG ns 2 % 3) ((mvF ns).drop (nG ns 1 % 3)) (ndF ns)
  lamps := loadsF ns 30 (1 + nG ns 3 % 2) (lmF ns) (ndF ns)
  con := (List.range (nG ns 4 % 8)).map fun k => conF ns (50 + 4 * k) (ndF ns) (mvF ns)
theorem brd_nodes (ns : List Nat) : (brdF ns).nodes = ndF ns := by
  unfold Brd.nodes brdF ndF namesF
  dsimp only
  rw [show 2 + nG ns 0 % 3 = (nG ns 0 % 3 + 1) + 1 by omega, List.range_succ_eq_map, List.map_cons, List.map_map, List.range_succ_eq_map, List.map_cons, List.map_map]
  rfl
theorem ndF_len (ns : List Nat) : (ndF ns).length = 2 + nG ns 0 % 3 := namesF_len _ _ _
theorem mvF_len (ns : List Nat) : (mvF ns).length = nG ns 1 % 3 + nG ns 2 % 3 := namesF_len _ _ _
theorem lmF_len (ns : List Nat) : (lmF ns).length = 1 + nG ns 3 % 2 := namesF_len _ _ _
theorem m3 (x : Nat) : x % 3 < 3 := Nat.mod_lt _ (by decide)
theorem m2 (x : Nat) : x % 2 < 2 := Nat.mod_lt _ (by decide)
theorem m8 (x : Nat) : x % 8 < 8 := Nat.mod_lt _ (by decide)
theorem ndF_nd (ns : List Nat) : (ndF ns).Nodup := namesF_nd (by have := m3 (nG ns 0); omega)
theorem mvF_nd (ns : List Nat) : (mvF ns).Nodup := namesF_nd (by have := m3 (nG ns 1); have := m3 (nG ns 2); omega)
theorem lmF_nd (ns : List Nat) : (lmF ns).Nodup := namesF_nd (by have := m2 (nG ns 3); omega)
theorem brd_rel (ns : List Nat) : (brdF ns).rel.map (·.1) = (mvF ns).drop (nG ns 1 % 3) := by
  have h : ((mvF ns).drop (nG ns 1 % 3)).length = nG ns 2 % 3 := by rw [List.length_drop, mvF_len]; omega
  show (loadsF ns 12 (nG ns 2 % 3) ((mvF ns).drop (nG ns 1 % 3)) (ndF ns)).map (·.1) = _
  rw [← h]
  exact loadsF_names
theorem brd_movers (ns : List Nat) : (brdF ns).movers = mvF ns := by
  unfold Brd.movers
  rw [brd_rel]
  exact List.take_append_drop _ _
theorem brd_lamps (ns : List Nat) : (brdF ns).lamps.map (·.1) = lmF ns := by
  show (loadsF ns 30 (1 + nG ns 3 % 2) (lmF ns) (ndF ns)).map (·.1) = _
  rw [← lmF_len ns]
  exact loadsF_names
theorem brd_ok (ns : List Nat) : BOk (brdF ns) := by
  have h2 : 2 ≤ (ndF ns).length := by rw [ndF_len]; omega
  have hc : ∀ c ∈ (brdF ns).con, COk c (ndF ns) (mvF ns) := fun c hc => by
    obtain ⟨k, _, rfl⟩ := List.mem_map.mp (show c ∈ (List.range (nG ns 4 % 8)).map fun k => conF ns (50 + 4 * k) (ndF ns) (mvF ns) from hc)
    exact conF_ok h2 (ndF_nd ns)
  have hr : ∀ l ∈ (brdF ns).rel, l.2.1 ∈ ndF ns ∧ l.2.2 ∈ ndF ns ∧ l.2.1 ≠ l.2.2 := loadsF_in h2 (ndF_nd ns)
  have hl : ∀ l ∈ (brdF ns).lamps, l.2.1 ∈ ndF ns ∧ l.2.2 ∈ ndF ns ∧ l.2.1 ≠ l.2.2 := loadsF_in h2 (ndF_nd ns)
  have a0 := m3 (nG ns 0)
  have a1 := m3 (nG ns 1)
  have a2 := m3 (nG ns 2)
  have a3 := m2 (nG ns 3)
  have a4 := m8 (nG ns 4)
  refine ⟨⟨?_, ?_, ?_, ?_, ?_, ?_, ?_, ?_, ?_, ?_⟩, ?_, ?_, ?_, ?_, ?_, ?_, ?_, ?_, ?_⟩
  · rw [brd_movers]; exact mvF_nd ns
  · intro c h m e; rw [brd_movers]; exact (hc c h).mv m e
  · intro c h; rw [brd_nodes]; exact ⟨(hc c h).o1, (hc c h).o2⟩
  · intro l h; rw [brd_nodes]; exact ⟨(hr l h).1, (hr l h).2.1⟩
  · intro l h; rw [brd_nodes]; exact ⟨(hl l h).1, (hl l h).2.1⟩
  · rw [brd_nodes, ndF_len]; omega
  · show ((mvF ns).take (nG ns 1 % 3)).length ≤ 2; rw [List.length_take]; omega
  · show (loadsF ns 12 (nG ns 2 % 3) ((mvF ns).drop (nG ns 1 % 3)) (ndF ns)).length ≤ 2; rw [loadsF_len]; omega
  · show (loadsF ns 30 (1 + nG ns 3 % 2) (lmF ns) (ndF ns)).length ≤ 2; rw [loadsF_len]; omega
  · show ((List.range (nG ns 4 % 8)).map fun k => conF ns (50 + 4 * k) (ndF ns) (mvF ns)).length ≤ 7; rw [List.length_map, List.length_range]; omega
  · rw [brd_nodes]; exact namesF_ok
  · rw [brd_nodes]; exact ndF_nd ns
  · rw [brd_movers]; exact namesF_ok
  · rw [brd_lamps]; exact namesF_ok
  · rw [brd_lamps]; exact lmF_nd ns
  · show 1 ≤ (loadsF ns 30 (1 + nG ns 3 % 2) (lmF ns) (ndF ns)).length; rw [loadsF_len]; omega
  · exact fun l h => (hr l h).2.2
  · exact fun l h => (hl l h).2.2
  · intro c h; rw [brd_nodes, brd_movers]; exact hc c h
section
variable {P : Program} {w : World} {K : PySem.W.Frag} {mg : Str → Option Value} {base : Heap} {xs : Xs}
inductive R_law_small : List Ar → Ar → Prop
  | mk (ns : List Nat) (hn : ns.length = 170) : R_law_small [.d (.list (dNats ns)), .d (.bool false)] (.d (dSpec (brdF ns)))
def szF (ns : List Nat) : List Nat := [2 + nG ns 0 % 3, nG ns 1 % 3, nG ns 2 % 3, 1 + nG ns 3 % 2, nG ns 4 % 8]
theorem c_law_small (T : TX K mg) : C8.Cal P w K mg base 2 "_law_small" (FS K R_law_small) [] := by
  obtain ⟨fd, F⟩ := T.f_law_small
  have c_law_names := @c_law_names P w K mg base T
  have c_law_loads := @c_law_loads P w K mg base T
  have c_law_contact := @c_law_contact P w K mg base T
  exact cal_of F T.g_law_small (F.bindsN fun _ _ _ _ _ _ us hl => match us, hl with | [_, _], _ => rfl) (fs_ok F scope_law_small 7 (fun _ _ r => by cases r; rfl) rfl (fun _ _ r => by cases r; first | rfl | simp_all [Ar.nm]) fun cdv A outer s H E hr => by
    have hu := hu_of hr
    have hu9 : (A.deeper (envOfC "_law_small" (defScope s_law_small) s.heap.objs.size (He.ga K "_law_small") cdv)).units + 9 < cLine := by have := hr.un; omega
    have hu64 : (A.deeper (envOfC "_law_small" (defScope s_law_small) s.heap.objs.size (He.ga K "_law_small") cdv)).units + 64 < cLine := by have := hr.un; omega
    have hu65 : (A.deeper (envOfC "_law_small" (defScope s_law_small) s.heap.objs.size (He.ga K "_law_small") cdv)).units + 65 < cLine := by have := hr.un; omega
    refine ⟨_, (pss_cons (ps_set (i := 2) scope_law_small.nd rfl (Or.inl rfl) (pe_lst (pa_cons (pe_op op_add pe_int (pe_op op_mod (pe_callTy call_int1 (by rfl) T.z_int boot_int (pa_cons (pe_ix (ixL (K := K)) (pv 0) pe_int (fun _ _ => rfl)) pa_nil)) pe_int)) (pa_cons (pe_op op_mod (pe_callTy call_int1 (by rfl) T.z_int boot_int (pa_cons (pe_ix (ixL (K := K)) (pv 0) pe_int (fun _ _ => rfl)) pa_nil)) pe_int) (pa_cons (pe_op op_mod (pe_callTy call_int1 (by rfl) T.z_int boot_int (pa_cons (pe_ix (ixL (K := K)) (pv 0) pe_int (fun _ _ => rfl)) pa_nil)) pe_int) (pa_cons (pe_op op_add pe_int (pe_op op_mod (pe_callTy call_int1 (by rfl) T.z_int boot_int (pa_cons (pe_ix (ixL (K := K)) (pv 0) pe_int (fun _ _ => rfl)) pa_nil)) pe_int)) (pa_cons (pe_op op_mod (pe_callTy call_int1 (by rfl) T.z_int boot_int (pa_cons (pe_ix (ixL (K := K)) (pv 0) pe_int (fun _ _ => rfl)) pa_nil)) pe_int) pa_nil)))))))
        (pss_cons (ps_if (PW.pt (pw_and (pt_val (pv 1)) (pw_and1 (pt_cmpR op_eq (pe_op op_mod (pe_callTy call_int1 (by rfl) T.z_int boot_int (pa_cons (pe_ix (ixL (K := K)) (pv 0) pe_int (fun _ _ => rfl)) pa_nil)) pe_int) pe_int (nomark _)))))
          (pss_cons ps_never (pss_one ps_never))
          pss_nil)
        (pss_cons (ps_set (i := 3) scope_law_small.nd rfl (Or.inr rfl) (C8.pe_c c_law_names hr (by decide) rfl (pa_cons (pe_ix (ixL (K := K)) (pv 0) pe_int (fun _ _ => rfl)) (pa_cons (pe_ix (ixL (K := K)) (pv 0) pe_int (fun _ _ => rfl)) (pa_cons (pe_ix (ixL (K := K)) (pv 2) pe_int (fun _ _ => rfl)) pa_nil)))))
        (pss_cons (ps_set (i := 4) scope_law_small.nd rfl (Or.inr rfl) (C8.pe_c c_law_names hr (by decide) rfl (pa_cons (pe_ix (ixL (K := K)) (pv 0) pe_int (fun _ _ => rfl)) (pa_cons (pe_ix (ixL (K := K)) (pv 0) pe_int (fun _ _ => rfl)) (pa_cons (pe_op op_add (pe_ix (ixL (K := K)) (pv 2) pe_int (fun _ _ => rfl)) (pe_ix (ixL (K := K)) (pv 2) pe_int (fun _ _ => rfl))) pa_nil)))))
        (pss_cons (ps_set (i := 5) scope_law_small.nd rfl (Or.inl rfl) (C8.pe_c c_law_names hr (by decide) rfl (pa_cons (pe_ix (ixL (K := K)) (pv 0) pe_int (fun _ _ => rfl)) (pa_cons (pe_ix (ixL (K := K)) (pv 0) pe_int (fun _ _ => rfl)) (pa_cons (pe_ix (ixL (K := K)) (pv 2) pe_int (fun _ _ => rfl)) pa_nil)))))
        (pss_cons (ps_set (i := 6) scope_law_small.nd rfl (Or.inl rfl) (C8.pe_c c_law_loads hr (by decide) rfl (pa_cons (pv 0) (pa_cons pe_int (pa_cons (pe_ix (ixL (K := K)) (pv 2) pe_int (fun _ _ => rfl)) (pa_cons (pe_slice (slL (K := K)) (pv 4) (po_some (pe_ix (ixL (K := K)) (pv 2) pe_int (fun _ _ => rfl))) po_none) (pa_cons (pv 3) pa_nil)))))))
        (pss_cons (ps_setLc (i := 7) (own := [("_law_k", 8)]) (g := gName 8) (tt := tYes) rfl scope_law_small.nd rfl rfl (sw_true rfl rfl rfl (by decide +kernel)) (pi_range1 (by rfl) T.z_range (pa_cons (pe_ix (ixL (K := K)) (pv 2) pe_int (fun _ _ => rfl)) pa_nil)) (blkOk_by (own := [("_law_k", 8)]) (N := nm_law_small) (sc := defScope s_law_small) (by decide +kernel)) (fun _ _ _ _ _ => (pg_name (i := 8) scope_law_small.nd rfl (Or.inl rfl))) (fun _ _ _ _ _ => pts_nil) (fun _ _ _ _ _ => (C8.pe_c c_law_contact hr (by decide) rfl (pa_cons (pv 0) (pa_cons (pe_op op_add pe_int (pe_op op_mul pe_int (pv 8))) (pa_cons (pv 3) (pa_cons (pv 4) pa_nil)))))))
        (pss_one (ps_ret (pe_lst (pa_cons (pv 3) (pa_cons (pe_slice (slL (K := K)) (pv 4) po_none (po_some (pe_ix (ixL (K := K)) (pv 2) pe_int (fun _ _ => rfl)))) (pa_cons (pv 6) (pa_cons (C8.pe_c c_law_loads hr (by decide) rfl (pa_cons (pv 0) (pa_cons pe_int (pa_cons (pe_ix (ixL (K := K)) (pv 2) pe_int (fun _ _ => rfl)) (pa_cons (pv 5) (pa_cons (pv 3) pa_nil)))))) (pa_cons (pv 7) pa_nil))))))))))))))), fun as y r => ?_⟩
    cases r with
    | mk ns hn =>
    show Sd K _ [some _, some _, none, none, none, none, none, none, none] _ _
    have a0 := m3 (nG ns 0)
    have a1 := m3 (nG ns 1)
    have a2 := m3 (nG ns 2)
    have a3 := m2 (nG ns 3)
    have a4 := m8 (nG ns 4)
    have z0 := ndF_len ns
    have z1 := mvF_len ns
    have z2 := lmF_len ns
    refine sd_let (x := .d (.list (dNats (szF ns)))) (ed_is (En.ed (en_lst (ds := [_, _, _, _, _]) (ea_cons (ed_op (ed_c rfl) (ed_op (ed_cb (ea_cons (ed_num (i := 0) (ed_var rfl) (ed_is (ed_c rfl) rfl) (by omega)) ea_nil) rc_int) (ed_c rfl) (rv_i (by decide) rfl)) (rv_i0 rfl)) (ea_cons (ed_op (ed_cb (ea_cons (ed_num (i := 1) (ed_var rfl) (ed_is (ed_c rfl) rfl) (by omega)) ea_nil) rc_int) (ed_c rfl) (rv_i (by decide) rfl)) (ea_cons (ed_op (ed_cb (ea_cons (ed_num (i := 2) (ed_var rfl) (ed_is (ed_c rfl) rfl) (by omega)) ea_nil) rc_int) (ed_c rfl) (rv_i (by decide) rfl)) (ea_cons (ed_op (ed_c rfl) (ed_op (ed_cb (ea_cons (ed_num (i := 3) (ed_var rfl) (ed_is (ed_c rfl) rfl) (by omega)) ea_nil) rc_int) (ed_c rfl) (rv_i (by decide) rfl)) (rv_i0 rfl)) (ea_cons (ed_op (ed_cb (ea_cons (ed_num (i := 4) (ed_var rfl) (ed_is (ed_c rfl) rfl) (by omega)) ea_nil) rc_int) (ed_c rfl) (rv_i (by decide) rfl)) ea_nil))))) (Nat.le_of_ble_eq_true rfl))) rfl) rfl ?_
    refine sd_ifn (et_is (et_and (et_B (ed_var rfl)) (b := false) (fun e => nomatch e)) rfl) ?_
    have s0 : atI (dNats (szF ns)) 0 = some (.int ((2 + nG ns 0 % 3 : Nat) : Int)) := at0 rfl
    have s1 : atI (dNats (szF ns)) 1 = some (.int ((nG ns 1 % 3 : Nat) : Int)) := at1 rfl
    have s2 : atI (dNats (szF ns)) 2 = some (.int ((nG ns 2 % 3 : Nat) : Int)) := at2 rfl
    have s3 : atI (dNats (szF ns)) 3 = some (.int ((1 + nG ns 3 % 2 : Nat) : Int)) := at3 rfl
    have s4 : atI (dNats (szF ns)) 4 = some (.int ((nG ns 4 % 8 : Nat) : Int)) := at4 rfl
    refine sd_let (ed_call (ea_cons (ed_num (i := 6) (ed_var rfl) (ed_is (ed_c rfl) rfl) (by omega)) (ea_cons (ed_num (i := 7) (ed_var rfl) (ed_is (ed_c rfl) rfl) (by omega)) (ea_cons (ed_op (ed_var rfl) (ed_c rfl) (rv_ixL (s0))) ea_nil))) (.mk _ _ _ (by omega))) rfl ?_
    refine sd_let (x := .d (.list (dStrs (mvF ns)))) (ed_call (as := [.d (.int (nG ns 8 : Nat)), .d (.int (nG ns 9 : Nat)), .d (.int ((nG ns 1 % 3 + nG ns 2 % 3 : Nat) : Int))]) (ea_cons (ed_num (i := 8) (ed_var rfl) (ed_is (ed_c rfl) rfl) (by omega)) (ea_cons (ed_num (i := 9) (ed_var rfl) (ed_is (ed_c rfl) rfl) (by omega)) (ea_cons (ed_is (ed_op (ed_op (ed_var rfl) (ed_c rfl) (rv_ixL (s1))) (ed_op (ed_var rfl) (ed_c rfl) (rv_ixL (s2))) (rv_i0 rfl)) rfl) ea_nil))) (.mk _ _ _ (by omega))) rfl ?_
    refine sd_let (ed_call (ea_cons (ed_num (i := 10) (ed_var rfl) (ed_is (ed_c rfl) rfl) (by omega)) (ea_cons (ed_num (i := 11) (ed_var rfl) (ed_is (ed_c rfl) rfl) (by omega)) (ea_cons (ed_op (ed_var rfl) (ed_c rfl) (rv_ixL (s3))) ea_nil))) (.mk _ _ _ (by omega))) rfl ?_
    have hdrop : cutD (dStrs (mvF ns)) (some ((nG ns 1 % 3 : Nat) : Int)) none = dStrs ((mvF ns).drop (nG ns 1 % 3)) := by
      rw [cutD_drop (by rw [dStrs_len]; omega)]; unfold dStrs; rw [List.map_drop]
    have htake : cutD (dStrs (mvF ns)) none (some ((nG ns 1 % 3 : Nat) : Int)) = dStrs ((mvF ns).take (nG ns 1 % 3)) := by
      rw [cutD_take (by rw [dStrs_len]; omega)]; unfold dStrs; rw [List.map_take]
    refine sd_let (x := .d (.list (dLoads (brdF ns).rel))) (ed_call (as := [.d (.list (dNats ns)), .d (.int ((12 : Nat) : Int)), .d (.int ((nG ns 2 % 3 : Nat) : Int)), .d (.list (dStrs ((mvF ns).drop (nG ns 1 % 3)))), .d (.list (dStrs (ndF ns)))]) (ea_cons (ed_var rfl) (ea_cons (ed_is (ed_c rfl) rfl) (ea_cons (ed_op (ed_var rfl) (ed_c rfl) (rv_ixL (s2))) (ea_cons (ed_is (En.ed (en_slL (ed_var rfl) (by constructor) (eo_some (ed_op (ed_var rfl) (ed_c rfl) (rv_ixL (s1)))) eo_none)) (congrArg (fun x => Ar.d (.list x)) hdrop)) (ea_cons (ed_var rfl) ea_nil))))) (.mk ns 12 _ _ _ (by omega) (by rw [List.length_drop]; omega) (by omega) (by omega))) rfl ?_
    refine sd_let (x := .d (.list (dCons (brdF ns).con))) (En.ed (en_lcY (l := List.range (nG ns 4 % 8)) (enc := fun i => .int (i : Nat)) (out := dCon) (w := fun k => conF ns (50 + 4 * k) (ndF ns) (mvF ns)) (id_range (n := nG ns 4 % 8) (by omega) (ed_op (ed_var rfl) (ed_c rfl) (rv_ixL (s4)))) (fun a _ => gd_name) (fun i hi => hi) (fun k hk => ?_) (by rw [List.length_range]; omega))) rfl ?_
    · have hk' := List.mem_range.mp hk
      exact ed_call (as := [.d (.list (dNats ns)), .d (.int ((50 + 4 * k : Nat) : Int)), .d (.list (dStrs (ndF ns))), .d (.list (dStrs (mvF ns)))]) (ea_cons (ed_var rfl) (ea_cons (ed_is (ed_op (ed_c rfl) (ed_op (ed_c rfl) (ed_var rfl) (rv_i (cmulL _ (by decide)) rfl)) (rv_i0 rfl)) rfl) (ea_cons (ed_var rfl) (ea_cons (ed_var rfl) ea_nil)))) (.mk ns _ _ _ (by omega) (by omega))
    refine sd_ret (ed_is (En.ed (en_lst (ds := [.list (dStrs (ndF ns)), .list (dStrs ((mvF ns).take (nG ns 1 % 3))), .list (dLoads (brdF ns).rel), .list (dLoads (brdF ns).lamps), .list (dCons (brdF ns).con)]) (ea_cons (ed_var rfl) (ea_cons (ed_is (En.ed (en_slL (ed_var rfl) (by constructor) eo_none (eo_some (ed_op (ed_var rfl) (ed_c rfl) (rv_ixL (s1)))))) (congrArg (fun x => Ar.d (.list x)) htake)) (ea_cons (ed_var rfl)
      (ea_cons (ed_call (as := [.d (.list (dNats ns)), .d (.int ((30 : Nat) : Int)), .d (.int ((1 + nG ns 3 % 2 : Nat) : Int)), .d (.list (dStrs (lmF ns))), .d (.list (dStrs (ndF ns)))]) (ea_cons (ed_var rfl) (ea_cons (ed_is (ed_c rfl) rfl) (ea_cons (ed_op (ed_var rfl) (ed_c rfl) (rv_ixL (s3))) (ea_cons (ed_var rfl) (ea_cons (ed_var rfl) ea_nil))))) (.mk ns 30 _ _ _ (by omega) (by omega) (by omega) (by omega))) (ea_cons (ed_var rfl) ea_nil))))) (Nat.le_of_ble_eq_true rfl))) ?_) rfl rfl
    unfold dSpec
    rw [brd_nodes]
    rfl)
end
end K58
end
/-! W18 -/
section
set_option maxRecDepth 100000
set_option maxHeartbeats 4000000
namespace K58
open PySem PySem.Spec PyProof.Rows L2
/-! ### what the search tells, for each lamp -/
theorem least_of {P : Nat → Prop} : ∀ (n : Nat), P n → ∃ i, P i ∧ ∀ j, j < i → ¬ P j := by
  intro n
  induction n using Nat.strongRecOn with
  | _ n ih =>
    intro h
    by_cases q : ∃ j, j < n ∧ P j
    · obtain ⟨j, h1, h2⟩ := q
      exact ih j h1 h2
    · exact ⟨n, h, fun j hj hp => q ⟨j, hj, hp⟩⟩
theorem bi_d_le {B : BR} {lamp : Str} {cs : Srs} {d : Nat → Nat} {a : Nat} (h : BI (B.succ lamp) B.case0 cs a d) : ∀ (i : Nat) (c : Case) (s : Option (Case × (Bool × Str))), cs[i]? = some (c, s) → d i ≤ i := by
  intro i
  induction i using Nat.strongRecOn with
  | _ i ih =>
    intro c s hi
    cases s with
    | none =>
      have e := h.nosrc i c hi
      subst e
      rw [h.z0]; exact Nat.le_refl _
    | some cm =>
      obtain ⟨j, s', h1, h2, h3, h4⟩ := h.src i c cm.1 cm.2 hi
      have := ih j h1 cm.1 s' h2
      omega
theorem back_uniq {cs : Srs} (nd : (keys cs).Nodup) {c : Case} {p q : List (Bool × Str)} (h1 : Back cs c p) (h2 : Back cs c q) : p = q := by
  induction h1 generalizing q with
  | nil h => exact (h2.none nd h).symm
  | snoc h hb ih =>
    obtain ⟨q', rfl, hq⟩ := h2.some nd h
    rw [ih hq]
theorem told_ex {B : BR} (hn : B.movers.length ≤ 4) (lamp : Str) : ∃ x, ToldD lamp (searchC B lamp) x := by
  obtain ⟨⟨d, bi⟩, ok⟩ := searchC_ok (lamp := lamp) hn
  have hlen := len_of hn bi.nd ok
  by_cases q : ∃ c ∈ keys (searchC B lamp), c.2.1 = 3
  · obtain ⟨c, hc, h3⟩ := q
    obtain ⟨n, s, hi⟩ := keys_get.mp hc
    obtain ⟨i, ⟨c, s, hi, h3⟩, hf⟩ := least_of (P := fun i => ∃ (c : Case) (s : Option (Case × (Bool × Str))), (searchC B lamp)[i]? = some (c, s) ∧ c.2.1 = 3) n ⟨c, s, hi, h3⟩
    obtain ⟨p0, hb, hl, hp⟩ := bi.back i c s hi
    have hd := bi_d_le bi i c s hi
    have hil := (List.getElem?_eq_some_iff.mp hi).1
    obtain ⟨v, _, z⟩ := B.path lamp hp
    rcases z with ⟨z, _⟩ | ⟨_, h0, z1, p', m, z2, z3, z4⟩
    · exact absurd h3 z
    · obtain ⟨l, hh⟩ := B.ends_hand lamp p' h0 z4
      exact ⟨_, .some i c s p0 l h0 hi h3 (fun j x t hj hx e => hf j hj ⟨x, t, hx, e⟩) hb (by rw [z2, hands_snoc, hh, if_neg (by rw [z3]; decide), List.append_nil]) (by omega)⟩
  · exact ⟨_, .none fun c hc e => q ⟨c, hc, e⟩⟩
theorem told_zip {B : BR} (hn : B.movers.length ≤ 4) : ∀ ls : List (Str × Str × Str), ∃ zs : List ((Str × Str × Str) × PyData), zs.map (·.1) = ls ∧ ∀ z ∈ zs, ToldD z.1.1 (searchC B z.1.1) z.2
  | [] => ⟨[], rfl, fun z hz => nomatch hz⟩
  | l :: ls => by
    obtain ⟨zs, h1, h2⟩ := told_zip hn ls
    obtain ⟨x, hx⟩ := told_ex hn l.1
    exact ⟨(l, x) :: zs, by rw [List.map_cons, h1], fun z hz => by
      rcases List.mem_cons.mp hz with rfl | hz
      · exact hx
      · exact h2 z hz⟩
/-- the law's plain part -/
theorem told_law {B : BR} (hn : B.movers.length ≤ 4) {lamp : Str} {x : PyData} (h : ToldD lamp (searchC B lamp) x) {p : List (Bool × Str)} (hv : B.Valid p) :
    (x = .none ∧ (B.ends lamp p).1 = []) ∨ ∃ (pl : List (Bool × Str)) (hd : Nat), x = flaD lamp (dMoves pl) (hd : Nat) ∧ B.Valid pl ∧ pl.length ≤ 1000 ∧ (B.ends lamp pl).1 = [(hd, pl.length)] ∧ ∀ y ∈ (B.ends lamp p).1, ¬ y.2 < pl.length := by
  obtain ⟨⟨d, bi⟩, ok⟩ := searchC_ok (lamp := lamp) hn
  obtain ⟨t1, t2⟩ := B.told lamp bi hv
  cases h with
  | none h => exact .inl ⟨rfl, t1 h⟩
  | some i c s pl hs hd h1 h2 h3 h4 h5 h6 =>
    obtain ⟨p0, k1, k2, ⟨l, hd', k3, k4⟩, k5⟩ := t2 i c s h1 h2 h3
    have := back_uniq bi.nd k1 h4
    subst this
    rw [k3] at h5
    have e : hd' = hd := by
      have := congrArg List.getLast? h5
      simpa using this
    subst e
    exact .inr ⟨p0, hd', rfl, k2, h6, k4, k5⟩
section
variable {P : Program} {w : World} {K : PySem.W.Frag} {mg : Str → Option Value} {base : Heap} {xs : Xs} {te : TE}
theorem fla_at {N : List Addr} {H : Hp} {v : V} {l : Str} {ms : List PyData} {h : Int} (r : Da K (hid N H) v (flaD l ms h)) : ∃ a dx vp, v = .ref a ∧ H a = some (.ins (He.ga K "Flash") dx [("lamp", .str l), ("play", vp), ("hand", .int h)]) ∧ Da K (hid N H) vp (.list ms) := by
  cases r with
  | fla h1 h2 => exact ⟨_, _, _, rfl, hid_le _ _ h1, h2⟩
theorem ed_fllamp {l : Str} {ms : List PyData} {h : Int} (T : TX K mg) (ho : Ed K te xs (.d (flaD l ms h))) : Ed K (tFld K te "lamp") xs (.d (.str l)) := fun N H σ al sl Q q => ho N H σ al sl _ fun v H1 e1 r1 => by
  obtain ⟨a, dx, vp, rfl, h1, h2⟩ := fla_at r1
  exact ⟨a, _, dx, _, .str l, rfl, h1, T.cl_Flash, T.na_Flash_lamp, rfl, q _ H1 e1 (Da.str _)⟩
theorem ed_flplay {l : Str} {ms : List PyData} {h : Int} (T : TX K mg) (ho : Ed K te xs (.d (flaD l ms h))) : Ed K (tFld K te "play") xs (.d (.list ms)) := fun N H σ al sl Q q => ho N H σ al sl _ fun v H1 e1 r1 => by
  obtain ⟨a, dx, vp, rfl, h1, h2⟩ := fla_at r1
  exact ⟨a, _, dx, _, vp, rfl, h1, T.cl_Flash, T.na_Flash_play, rfl, q _ H1 e1 h2⟩
theorem ed_flhand {l : Str} {ms : List PyData} {h : Int} (T : TX K mg) (ho : Ed K te xs (.d (flaD l ms h))) : Ed K (tFld K te "hand") xs (.d (.int h)) := fun N H σ al sl Q q => ho N H σ al sl _ fun v H1 e1 r1 => by
  obtain ⟨a, dx, vp, rfl, h1, h2⟩ := fla_at r1
  exact ⟨a, _, dx, _, .int h, rfl, h1, T.cl_Flash, T.na_Flash_hand, rfl, q _ H1 e1 (Da.int _)⟩
theorem ed_isi {ds : List PyData} (h : Ed K te xs (.d (.list ds))) : Ed K (tCB (rIsi K) (tCons te (tCons (tC (.ty "list")) tNil))) xs (.d (.bool true)) := fun N H σ al sl Q q => h N H σ al sl _ fun v H1 e1 r1 => by
  cases r1 with
  | @lst a vs _ a1 a2 =>
  exact ⟨.ref a, .ty "list", .type "list", .type "list", true, rfl, .ty "list", .base (.lst (hid_le _ _ a1)), kit_ty (by decide +kernel), q _ H1 e1 (Da.bl _)⟩
inductive R_law : List Ar → Ar → Prop
  | mk (is : List Int) : R_law [.s (is.map V.int)] (.d (.bool true))
theorem shp_end (a b : Nat) : SeqAt.shaped (.list (dEnds [(a, b)])) = true := shp (by simp [dEnds, dEnd, PyData.canLay0, PyData.canLayAll0]) (by simp [dEnds, dEnd, PyData.depth, PyData.depthAll])
theorem ends_lay : ∀ l : List (Nat × Nat), PyData.canLayAll0 (dEnds l) = true ∧ PyData.depthAll (dEnds l) ≤ 1
  | [] => ⟨rfl, by simp [dEnds, PyData.depthAll]⟩
  | x :: l => by
    obtain ⟨h1, h2⟩ := ends_lay l
    have e : dEnds (x :: l) = dEnd x :: dEnds l := rfl
    rw [e]
    unfold dEnd
    simp only [PyData.canLayAll0, PyData.canLay0, PyData.depthAll, PyData.depth, h1, Bool.and_true, true_and]
    omega
theorem shp_ends (l : List (Nat × Nat)) : SeqAt.shaped (.list (dEnds l)) = true := shp (by simpa [PyData.canLay0] using (ends_lay l).1) (by have := (ends_lay l).2; simp only [PyData.depth]; omega)
theorem valid_ok {B : BR} (h : BOk B) {p : List (Bool × Str)} (hv : B.Valid p) : ∀ m ∈ p, PyData.strOk m.2 = true := fun m hm => by
  obtain ⟨i, hi⟩ := List.mem_iff_getElem?.mp hm
  exact moves_ok h (hv i m hi)
theorem ok_law (T : TX K mg) {fd : FuncData} (F : FunD K "law" "law" (defArgs s_law) (defBody s_law) (defScope s_law) [] [] (He.ga K "law") fd) : FnOk P w K mg base CX0 14 (He.ga K "law") fd ["_law_script"] (FS K R_law) := by
  have c_law_numbers := @c_law_numbers P w K mg base T
  have c_law_small := @c_law_small P w K mg base T
  have c_law_made := @c_law_made P w K mg base T
  have c_law_play := @c_law_play P w K mg base T
  have c_law_states := @c_law_states P w K mg base T
  have c_flashes := @c_flashes P w K mg base T
  have c_law_ends := @c_law_ends P w K mg base T
  have mk_Flash := @mk_Flash P w K mg base T
  exact (fs_ok F scope_law 13 (fun _ _ r => by cases r; rfl) rfl (fun _ _ r => by cases r; first | rfl | simp_all [Ar.nm]) fun cdv A outer s H E hr => by
    have hu := hu_of hr
    have hu9 : (A.deeper (envOfC "law" (defScope s_law) s.heap.objs.size (He.ga K "law") cdv)).units + 9 < cLine := by have := hr.un; omega
    have hu64 : (A.deeper (envOfC "law" (defScope s_law) s.heap.objs.size (He.ga K "law") cdv)).units + 64 < cLine := by have := hr.un; omega
    have hu65 : (A.deeper (envOfC "law" (defScope s_law) s.heap.objs.size (He.ga K "law") cdv)).units + 65 < cLine := by have := hr.un; omega
    refine ⟨_, (pss_cons (ps_set (i := 1) scope_law.nd rfl (Or.inl rfl) (C8.pe_c c_law_numbers hr (by decide) rfl (pa_cons (pv 0) (pa_cons pe_int pa_nil))))
        (pss_cons (ps_set (i := 2) scope_law.nd rfl (Or.inl rfl) (C8.pe_c c_law_small hr (by decide) rfl (pa_cons (pv 1) (pa_cons pe_bl pa_nil))))
        (pss_cons (ps_set (i := 3) scope_law.nd rfl (Or.inl rfl) (C8.pe_c c_law_made hr (by decide) rfl (pa_cons (pv 2) pa_nil)))
        (pss_cons (ps_set (i := 4) scope_law.nd rfl (Or.inl rfl) (C8.pe_c c_law_play hr (by decide) rfl (pa_cons (pv 2) (pa_cons (pv 1) (pa_cons pe_int (pa_cons (pe_op op_mod (pe_callTy call_int1 (by rfl) T.z_int boot_int (pa_cons (pe_ix (ixL (K := K)) (pv 1) pe_int (fun _ _ => rfl)) pa_nil)) pe_int) (pa_cons pe_int pa_nil)))))))
        (pss_cons (ps_set (i := 5) scope_law.nd rfl (Or.inl rfl) (C8.pe_c c_law_states hr (by decide) rfl (pa_cons (pv 2) (pa_cons (pv 4) pa_nil))))
        (pss_cons (ps_set (i := 6) scope_law.nd rfl (Or.inl rfl) (pe_callTy (cList (K := K)) (by rfl) T.z_list boot_list (pa_cons (pv 4) pa_nil)))
        (pss_cons (ps_set (i := 7) scope_law.nd rfl (Or.inl rfl) (C8.pe_mk mk_Flash hr (by decide) rfl (pa_cons pe_str (pa_cons (pv 6) (pa_cons pe_int pa_nil)))))
        (pss_cons (ps_expr (peBm (K := K) PySem.F.plainAttrs_list PySem.F.slot_list_append PySem.F.type_list_append mt_append (pv 6) (pa_cons (pe_tup (pa_cons pe_str (pa_cons pe_str pa_nil))) pa_nil)))
        (pss_cons (ps_if (PW.pt (pw_or (pt_cmpR op_ne (peFld (K := K) (pv 7)) pe_str (nomark _)) (pw_or (pt_cmpR (opNeD (K := K) hu64) (peFld (K := K) (pv 7)) (pv 4) (nomark _)) (pw_or1 (pt_cmpR op_ne (peFld (K := K) (pv 7)) pe_int (nomark _))))))
          (pss_one (ps_ret pe_bl))
          pss_nil)
        (pss_cons (ps_set (i := 8) scope_law.nd rfl (Or.inr rfl) (C8.pe_c c_flashes hr (by decide) rfl (pa_cons (pv 3) pa_nil)))
        (pss_cons (ps_if (PW.pt (pw_or (pt_not (pt_val (pe_callB (cIsi (K := K)) (by rfl) T.z_isinstance (by decide +kernel) (pa_cons (pv 8) (pa_cons (pe_bltn (v := .ty "list") (by rfl) T.z_list boot_list rfl) pa_nil))))) (pw_or1 (pt_cmpR op_ne (pe_callB (cLen (K := K)) (by rfl) T.z_len PySem.boot_len (pa_cons (pv 8) pa_nil)) (pe_callB (cLen (K := K)) (by rfl) T.z_len PySem.boot_len (pa_cons (pe_ix (ixL (K := K)) (pv 2) pe_int (fun _ _ => rfl)) pa_nil)) (nomark _)))))
          (pss_one (ps_ret pe_bl))
          pss_nil)
        (pss_cons (ps_for PassesOwn.never rfl (pi_range1 (by rfl) T.z_range (pa_cons (pe_callB (cLen (K := K)) (by rfl) T.z_len PySem.boot_len (pa_cons (pv 8) pa_nil)) pa_nil)) (pg_name (i := 9) scope_law.nd rfl (Or.inr rfl))
          (pss_cons (ps_set (i := 10) scope_law.nd rfl (Or.inl rfl) (pe_ix (ixT (K := K)) (pe_ix (ixL (K := K)) (pe_ix (ixL (K := K)) (pv 2) pe_int (fun _ _ => rfl)) (pv 9) (fun _ _ => rfl)) pe_int (fun _ _ => rfl)))
        (pss_cons (ps_set (i := 11) scope_law.nd rfl (Or.inl rfl) (C8.pe_c c_law_ends hr (by decide) rfl (pa_cons (pv 2) (pa_cons (pv 4) (pa_cons (pv 5) (pa_cons (pv 10) pa_nil))))))
        (pss_one (ps_if (pt_cmpR op_isN (pe_ix (ixL (K := K)) (pv 8) (pv 9) (fun _ _ => rfl)) pe_non (nomark _))
          (pss_one (ps_if (pt_cmpR op_gt (pe_callB (cLen (K := K)) (by rfl) T.z_len PySem.boot_len (pa_cons (pv 11) pa_nil)) pe_int (nomark _))
          (pss_one (ps_ret pe_bl))
          pss_nil))
          (pss_cons (ps_set (i := 12) scope_law.nd rfl (Or.inl rfl) (C8.pe_c c_law_states hr (by decide) rfl (pa_cons (pv 2) (pa_cons (peFld (K := K) (pe_ix (ixL (K := K)) (pv 8) (pv 9) (fun _ _ => rfl))) pa_nil))))
        (pss_cons (ps_if (PW.pt (pw_or (pt_cmpR op_isN (pv 12) pe_non (nomark _)) (pw_or1 (pt_cmpR (opNeD (K := K) hu64) (C8.pe_c c_law_ends hr (by decide) rfl (pa_cons (pv 2) (pa_cons (peFld (K := K) (pe_ix (ixL (K := K)) (pv 8) (pv 9) (fun _ _ => rfl))) (pa_cons (pv 12) (pa_cons (pv 10) pa_nil))))) (pe_lst (pa_cons (pe_tup (pa_cons (peFld (K := K) (pe_ix (ixL (K := K)) (pv 8) (pv 9) (fun _ _ => rfl))) (pa_cons (pe_callB (cLen (K := K)) (by rfl) T.z_len PySem.boot_len (pa_cons (peFld (K := K) (pe_ix (ixL (K := K)) (pv 8) (pv 9) (fun _ _ => rfl))) pa_nil)) pa_nil))) pa_nil)) (nomark _)))))
          (pss_one (ps_ret pe_bl))
          pss_nil)
        (pss_one (ps_if (pt_cmpR op_gt (pe_callB (cLen (K := K)) (by rfl) T.z_len PySem.boot_len (pa_cons (pe_lc (own := [("_law_end", 13)]) (g := gName 13) rfl scope_law.nd (piList (K := K) (pv 11)) (blkOk_by (own := [("_law_end", 13)]) (N := nm_law) (sc := defScope s_law) (by decide +kernel)) (fun _ _ _ _ _ => (pg_name (i := 13) scope_law.nd rfl (Or.inl rfl))) (fun _ _ _ _ _ => (pts_one (pt_cmpR op_lt (pe_ix (ixT (K := K)) (pv 13) pe_int (fun _ _ => rfl)) (pe_callB (cLen (K := K)) (by rfl) T.z_len PySem.boot_len (pa_cons (peFld (K := K) (pe_ix (ixL (K := K)) (pv 8) (pv 9) (fun _ _ => rfl))) pa_nil)) (nomark _)))) (fun _ _ _ _ _ => (pv 13))) pa_nil)) pe_int (nomark _))
          (pss_one (ps_ret pe_bl))
          pss_nil)))))))))
        (pss_one (ps_ret pe_bl)))))))))))))), fun as y r => ?_⟩
    cases r with
    | mk is =>
    show Sd K _ [some _, none, none, none, none, none, none, none, none, none, none, none, none, none] _ _
    have hnl := numF_len is
    generalize hns : numF is = ns at hnl
    let B := brdF ns
    have ok : BOk B := brd_ok ns
    have wb := ok.wb
    have zm := wb.zm
    have zl := wb.zl
    have many : nG ns 115 % 31 < 31 := Nat.mod_lt _ (by decide)
    let p := lpl B (fun k => ns.getD (130 + k) 0) (nG ns 115 % 31)
    obtain ⟨hv, hpl⟩ := lpl_ok B (fun k => ns.getD (130 + k) 0) (nG ns 115 % 31)
    have hpl' : p.length ≤ 30 := Nat.le_trans hpl (by omega)
    have hv' : B.Valid p := hv
    obtain ⟨zs, hz, ht⟩ := told_zip zm B.lamps
    have hzl : zs.length = B.lamps.length := by rw [← hz, List.length_map]
    refine sd_let (x := .d (.list (dNats ns))) (ed_call (as := [.s (is.map V.int), .d (.int 170)]) (ea_cons (ed_var rfl) (ea_cons (ed_c rfl) ea_nil)) (by rw [← hns]; exact .mk is)) rfl ?_
    refine sd_let (ed_call (ea_cons (ed_var rfl) (ea_cons (ed_c rfl) ea_nil)) (.mk ns hnl)) rfl ?_
    refine sd_let (ed_call (ea_cons (ed_var rfl) ea_nil) (.mk B ok)) rfl ?_
    refine sd_let (x := .d (.list (dMoves p))) (ed_call (as := [.d (dSpec B), .d (.list (dNats ns)), .d (.int ((130 : Nat) : Int)), .d (.int ((nG ns 115 % 31 : Nat) : Int)), .d (.int 0)]) (ea_cons (ed_var rfl) (ea_cons (ed_var rfl) (ea_cons (ed_is (ed_c rfl) rfl) (ea_cons (ed_is (ed_op (ed_cb (ea_cons (ed_num (i := 115) (ed_var rfl) (ed_is (ed_c rfl) rfl) (by omega)) ea_nil) rc_int) (ed_c rfl) (rv_i (by decide) rfl)) rfl) (ea_cons (ed_c rfl) ea_nil))))) (.mk B wb ns 130 _ (by omega) (by omega))) rfl ?_
    refine sd_let (ed_call (ea_cons (ed_var rfl) (ea_cons (ed_var rfl) ea_nil)) (.mk B ok p hv' (by omega))) rfl ?_
    refine sd_letN (en_cb (ea_cons (ed_var rfl) ea_nil) (rcn_list (by constructor))) ?_
    refine sd_let (x := .d (flaD "x" (dMoves p) 3)) (ed_mkFlash T (ed_is (ed_c rfl) rfl) (ed_var rfl) (.m _) (ed_is (ed_c rfl) rfl)) rfl ?_
    refine sd_app1 rfl (ed_tup (ds := [_, _]) (ea_cons (ed_c rfl) (ea_cons (ed_c rfl) ea_nil)) (Nat.le_of_ble_eq_true rfl)) (by rw [dMoves_len]; omega) ?_
    refine sd_ifn (et_is (et_or (et_test (ed_op (ed_fllamp T (ed_var rfl)) (ed_c rfl) rv_neS)) fun _ => (et_or (et_test (ed_op (ed_flplay T (ed_var rfl)) (ed_var rfl) (rv_neD (by constructor) (by constructor) (mvs_shp (valid_ok ok hv')) (mvs_shp (valid_ok ok hv'))))) fun _ => (et_test (ed_op (ed_flhand T (ed_var rfl)) (ed_c rfl) rv_neI)))) ?_) ?_
    · rw [eqv_same (mvs_shp (valid_ok ok hv'))]
      decide +kernel
    have hzz : ∀ z : (Str × Str × Str) × PyData, z ∈ zs → ToldD z.1.1 (searchC B z.1.1) z.2 := ht
    generalize htl : (zs.map fun z => z.2 : List PyData) = tl
    have htll : tl.length = B.lamps.length := by rw [← htl, List.length_map, hzl]
    refine sd_let (x := .d (.list tl)) (ed_callD (dvs := [.int 3000]) rfl (ea_cons (ed_var rfl) ea_nil) (by rw [← htl]; exact .mk B wb zs hz ht)) rfl ?_
    refine sd_ifn (et_is (et_or (et_not (et_B (ed_isi (ed_var rfl)))) fun _ => (et_test (ed_op (ed_cb (ea_cons (ed_var rfl) ea_nil) (rc_len (by constructor))) (ed_cb (ea_cons (ed_op (ed_var rfl) (ed_c rfl) (rv_ixL (at3 rfl))) ea_nil) (rc_len (by constructor))) rv_neI))) ?_) ?_
    · rw [dLoads_len, htll, decide_eq_true rfl]; rfl
    refine sd_seq (M := fun _ => True) (sd_for (fun i ys => ∃ a b c d e f g h i j : Option Ar, ys = [a, b, some (.d (dSpec B)), c, some (.d (.list (dMoves p))), some (.d (.list (dSts B p (p.length + 1)))), d, e, some (.d (.list tl)), f, g, h, i, j])
      (id_range (n := tl.length) (by omega) (ed_cb (ea_cons (ed_var rfl) ea_nil) (rc_len (by constructor)))) ⟨_, _, _, _, _, _, _, _, _, _, rfl⟩ (fun i d ys hd hP => ?_) (fun ys hP => trivial)) (fun ys hP => sd_ret (ed_c rfl) rfl rfl)
    obtain ⟨a, b, c, d, e, f, g, h, i', j, rfl⟩ := hP
    obtain ⟨hi, rfl⟩ := range_get' hd
    have hzi : i < zs.length := by omega
    have hzz2 : zs[i]? = some zs[i] := by simp [hzi]
    have hzm : zs[i] ∈ zs := List.getElem_mem hzi
    have hld : (dLoads B.lamps)[i]? = some (dLoad zs[i].1) := by unfold dLoads; rw [← hz, List.getElem?_map, List.getElem?_map, hzz2]; rfl
    have htd : tl[i]? = some zs[i].2 := by rw [← htl, List.getElem?_map, hzz2]; rfl
    generalize hzv : zs[i] = z at hzm hld htd
    have hT := hzz z hzm
    obtain ⟨⟨lamp, l1, l2⟩, x⟩ := z
    dsimp only at hT htd
    refine ⟨_, _, gd_name, sd_let (x := .d (.str lamp)) (ed_op (ed_op (ed_op (ed_var rfl) (ed_c rfl) (rv_ixL (at3 rfl))) (ed_var rfl) (rv_ixL (at_nat hld))) (ed_c rfl) (rv_ixT (at0 rfl))) rfl ?_⟩
    refine sd_let (ed_call (ea_cons (ed_var rfl) (ea_cons (ed_var rfl) (ea_cons (ed_var rfl) (ea_cons (ed_var rfl) ea_nil)))) (.mk B wb p (by omega) lamp)) rfl ?_
    rcases told_law zm hT hv' with ⟨rfl, he⟩ | ⟨pl, hd2, rfl, hv2, hl2, he2, hf2⟩
    · rw [he]
      refine sd_if (b := true) (et_is (et_test (ed_op (ed_op (ed_var rfl) (ed_var rfl) (rv_ixL (at_nat htd))) (ed_c rfl) rv_isN)) rfl) (fun _ => ?_) (fun e => nomatch e)
      exact sd_if (b := false) (et_is (et_test (ed_op (ed_cb (ea_cons (ed_var rfl) ea_nil) (rc_len (by constructor))) (ed_c rfl) (rv_i0 rfl))) rfl) (fun e => nomatch e) (fun _ => sd_next ⟨_, _, _, _, _, _, _, _, _, _, rfl⟩)
    · have hok2 := valid_ok ok hv2
      have hE : (dEnds (B.ends lamp pl).1) = dEnds [(hd2, pl.length)] := by rw [he2]
      refine sd_if (b := false) (et_is (et_test (ed_op (ed_op (ed_var rfl) (ed_var rfl) (rv_ixL (at_nat htd))) (ed_c rfl) rv_isN)) rfl) (fun e => nomatch e) (fun _ => ?_)
      refine sd_let (ed_call (ea_cons (ed_var rfl) (ea_cons (ed_flplay T (ed_op (ed_var rfl) (ed_var rfl) (rv_ixL (at_nat htd)))) ea_nil)) (.mk B ok pl hv2 hl2)) rfl ?_
      refine sd_ifn (et_is (et_or (et_test (ed_op (ed_var rfl) (ed_c rfl) rv_isN)) fun _ => et_test (ed_op (x := .d (.list (dEnds [(hd2, pl.length)]))) (y := .d (.list (dEnds [(hd2, pl.length)]))) (ed_is (ed_call (ea_cons (ed_var rfl) (ea_cons (ed_flplay T (ed_op (ed_var rfl) (ed_var rfl) (rv_ixL (at_nat htd)))) (ea_cons (ed_var rfl) (ea_cons (ed_var rfl) ea_nil)))) (.mk B wb pl hl2 lamp)) (by rw [hE])) (ed_is (En.ed (en_lst (ds := [_]) (ea_cons (ed_tup (ds := [_, _]) (ea_cons (ed_flhand T (ed_op (ed_var rfl) (ed_var rfl) (rv_ixL (at_nat htd)))) (ea_cons (ed_cb (ea_cons (ed_flplay T (ed_op (ed_var rfl) (ed_var rfl) (rv_ixL (at_nat htd)))) ea_nil) (rc_len (by constructor))) ea_nil)) (Nat.le_of_ble_eq_true rfl)) ea_nil) (Nat.le_of_ble_eq_true rfl))) (by rw [dMoves_len]; rfl)) (rv_neD (by constructor) (by constructor) (shp_end _ _) (shp_end _ _)))) ?_) ?_
      · rw [eqv_same (shp_end _ _)]; rfl
      · have hel : (B.ends lamp p).1.length ≤ 30 := Nat.le_trans (ends_len _ _ _ _) hpl'
        refine sd_if (b := false) (et_is (et_test (ed_op (x := .d (.int 0)) (ed_is (ed_cb (ea_cons (En.ed (en_lcE (l := (B.ends lamp p).1) (enc := dEnd) (out := dEnd) (p := fun y => decide (y.2 < pl.length)) (w := id) (id_list (ed_var rfl)) (fun a _ => gd_name) (fun i hi => hi) (fun y _ => et_is (et_test (ed_op (ed_op (ed_var rfl) (ed_c rfl) (rv_ixT (at1 rfl))) (ed_cb (ea_cons (ed_flplay T (ed_op (ed_var rfl) (ed_var rfl) (rv_ixL (at_nat htd)))) ea_nil) (rc_len (by constructor))) (rv_i0 rfl))) (by rw [dMoves_len]; exact decide_eq_decide.mpr Int.ofNat_lt)) (fun y _ _ => ed_var rfl) (by omega))) ea_nil) (rc_len (by constructor))) ?_) (ed_c rfl) (rv_i0 rfl))) rfl) (fun e => nomatch e) (fun _ => sd_next ⟨_, _, _, _, _, _, _, _, _, _, rfl⟩)
        rw [show (B.ends lamp p).1.filter (fun y => decide (y.2 < pl.length)) = [] from List.filter_eq_nil_iff.mpr fun y hy => by simpa using hf2 y hy]
        rfl)
end
end K58
end
/-! the end -/
set_option maxRecDepth 100000
set_option maxHeartbeats 0
namespace K58
open PySem PySem.Spec PyProof.Rows L2
theorem law_facts {P : Program} {w : World} {K : PySem.W.Frag} {h : Heap} {mg : Str → Option Value} {f : Addr} (X : K.In h) (G : h.Ns mainGlobals mg) (hfa : mg ("law" : Str) = some (.ref f)) (c : SaysK K) :
    ∃ fd : FuncData, (∀ (s : Shared) (v : Value), BindsTo s fd ⟨[v], []⟩ [("_law_script", v)]) ∧ ∀ base : Heap, K.In base → base.Ns mainGlobals mg → FnOk P w K mg base CX0 14 f fd ["_law_script"] (FS K R_law) := by
  have T : TX K mg := tx_of X G c
  have e := hfa.symm.trans T.g_law
  cases e
  obtain ⟨fd, F⟩ := T.f_law
  have b := FunD.bindsA (ps := ["_law_script"]) F fun _ _ _ _ _ _ us hl => match us, hl with | [_], _ => rfl
  exact ⟨fd, fun s v => b s [v] rfl, fun base _ _ => ok_law T F⟩
theorem law_promise {K : PySem.W.Frag} (H : Hp) (a : Addr) (ns : List Int) (hS : SqL K H a (ns.map V.int)) : FS K R_law [.ref a] H (fun v _ => v = .bl true) (fun _ _ _ => False) :=
  ⟨[], [.s (ns.map V.int)], .d (.bool true), (fun a ha => nomatch ha), .cons ⟨a, rfl, by rw [hid_nil]; exact hS⟩ .nil, .mk ns, fun v H1 _ r => da_bool r⟩
end K58
open PySem PySem.W PySem.Calls PyProof.Rows in
theorem PySem.Challenge.cw_leverhouse_k58_whole_flashes_are_seen_holds : PySem.Challenge.rw_leverhouse_k58_whole_flashes_are_seen.Holds := by
  w_on; o_law
  refine HandSHeadRun.head_any (r := K58.Rw) (q := view K58.Rw.prog [68]) (H := K58.hookK) (ob := K58.obK) (M := 6000) (loose := K58.looseN) (d := HandSHeadRun.topDef K58.Rw.prog 68) (kwd := []) K58.obK_eq
    (by kernel_rfl) (fun s => by kernel_rfl) K58.run (by kernel_rfl) (by kernel_rfl) (by kernel_rfl) (by rfl) (by first | assumption | decide +kernel) (by decide +kernel) ⟨rfl, rfl, rfl, rfl, rfl, by decide +kernel⟩ ?hw ?hc
  case hw => w_witness2
  case hc =>
    refine L2.walk_ofE (l := PySem.Challenge.rw_leverhouse_k58_whole_flashes_are_seen) (n := 63) (k := 14) (x := "_law_script") (CX := L2.CX0) rfl (by decide) (by kernel_rfl) ⟨rfl, by decide, by decide⟩ ?F (fun _ _ _ _ z => z)
    intro w mg fa h Y G hmg0
    obtain ⟨K, KX, c⟩ := Y
    have hmg : mg ("law" : PySem.Str) = some (.ref fa) := by
      have e : (HandSHeadRun.topDef K58.Rw.prog 68).name = ("law" : PySem.Str) := by kernel_rfl
      rw [← e]
      exact hmg0
    obtain ⟨fd, hb, hF⟩ := K58.law_facts (P := (PySem.Challenge.rw_leverhouse_k58_whole_flashes_are_seen).prog) (w := w) KX G hmg c
    exact ⟨K, fd, K58.FS K K58.R_law, KX, hb, fun H a ns hl _ hS => K58.law_promise H a ns hS, hF⟩
