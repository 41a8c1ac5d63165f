import PyProof.Rows.All
import Wide.All
import OpenK.AllK
import Wide.FinOn
import HandS.ForMost
import HandS.Walk
import HandS.SortRule
import HandS.ReplaceLit
import HandS.ReplaceList
import HandS.RaiseMore
import HandS.IsInst
import KE.KSortTupAny
import PySem.Challenge.RW_surelyread_k46_texts_of_lexicons
set_option Elab.async false
set_option linter.all false
set_option maxRecDepth 100000
set_option maxHeartbeats 4000000
/-! The mathematics: words as lists of signs, the moves of their machine, what it accepts. -/
namespace K46
abbrev W := List Nat
abbrev Mv := Int × W × Int

/-! ### beginnings -/
def addB (f : List W) (b : W) : List W := if b ∈ f then f else f ++ [b]
def begW (f : List W) (w : W) : Nat → List W
  | 0 => f
  | n + 1 => addB (begW f w n) (w.take (n + 1))
def begs : List W → List W → List W
  | f, [] => f
  | f, w :: ws => begs (begW f w w.length) ws
theorem begs_app : ∀ (f : List W) (xs ys : List W), begs f (xs ++ ys) = begs (begs f xs) ys
  | _, [], _ => rfl
  | f, x :: xs, ys => begs_app (begW f x x.length) xs ys
theorem begs_snoc (f : List W) (xs : List W) (w : W) : begs f (xs ++ [w]) = begW (begs f xs) w w.length := by
  rw [begs_app]; rfl
theorem mem_addB {f : List W} {b x : W} : x ∈ addB f b ↔ x ∈ f ∨ x = b := by
  unfold addB
  by_cases h : b ∈ f
  · rw [if_pos h]
    refine ⟨.inl, fun z => z.elim id fun e => ?_⟩
    rw [e]; exact h
  · rw [if_neg h]
    simp
theorem nd_addB {f : List W} {b : W} (h : f.Nodup) : (addB f b).Nodup := by
  unfold addB
  by_cases hb : b ∈ f
  · rw [if_pos hb]; exact h
  · rw [if_neg hb]
    refine List.nodup_append.mpr ⟨h, by simp, ?_⟩
    intro x hx y hy e
    have e2 : y = b := List.mem_singleton.mp hy
    rw [e, e2] at hx
    exact hb hx
theorem len_addB {f : List W} {b : W} : (addB f b).length ≤ f.length + 1 := by
  unfold addB
  by_cases hb : b ∈ f
  · rw [if_pos hb]; omega
  · rw [if_neg hb, List.length_append]; exact Nat.le_refl _
theorem mem_begW {f : List W} {w x : W} : ∀ {n : Nat}, x ∈ begW f w n ↔ x ∈ f ∨ ∃ k, 1 ≤ k ∧ k ≤ n ∧ x = w.take k
  | 0 => by
    refine ⟨.inl, fun h => h.elim id fun ⟨k, h1, h2, _⟩ => ?_⟩
    omega
  | n + 1 => by
    show x ∈ addB (begW f w n) (w.take (n + 1)) ↔ _
    rw [mem_addB, mem_begW]
    constructor
    · rintro ((h | ⟨k, h1, h2, h3⟩) | h)
      · exact .inl h
      · exact .inr ⟨k, h1, by omega, h3⟩
      · exact .inr ⟨n + 1, by omega, Nat.le_refl _, h⟩
    · rintro (h | ⟨k, h1, h2, h3⟩)
      · exact .inl (.inl h)
      · by_cases e : k = n + 1
        · subst e; exact .inr h3
        · exact .inl (.inr ⟨k, h1, by omega, h3⟩)
theorem nd_begW {f : List W} {w : W} (h : f.Nodup) : ∀ n, (begW f w n).Nodup
  | 0 => h
  | n + 1 => nd_addB (nd_begW h n)
theorem len_begW {f : List W} {w : W} : ∀ n, (begW f w n).length ≤ f.length + n
  | 0 => Nat.le_refl _
  | n + 1 => Nat.le_trans len_addB (by have := len_begW (f := f) (w := w) n; omega)
theorem mem_begs {x : W} : ∀ {ws f : List W}, x ∈ begs f ws ↔ x ∈ f ∨ ∃ w ∈ ws, ∃ k, 1 ≤ k ∧ k ≤ w.length ∧ x = w.take k
  | [], f => by
    refine ⟨.inl, fun h => h.elim id fun ⟨w, h, _⟩ => absurd h (by simp)⟩
  | w :: ws, f => by
    show x ∈ begs (begW f w w.length) ws ↔ _
    rw [mem_begs, mem_begW]
    constructor
    · rintro ((h | h) | ⟨u, hu, h⟩)
      · exact .inl h
      · exact .inr ⟨w, List.mem_cons_self, h⟩
      · exact .inr ⟨u, List.mem_cons_of_mem _ hu, h⟩
    · rintro (h | ⟨u, hu, h⟩)
      · exact .inl (.inl h)
      · rcases List.mem_cons.mp hu with e | hu
        · subst e; exact .inl (.inr h)
        · exact .inr ⟨u, hu, h⟩
theorem nd_begs : ∀ {ws f : List W}, f.Nodup → (begs f ws).Nodup
  | [], _, h => h
  | w :: ws, f, h => nd_begs (ws := ws) (nd_begW (w := w) h w.length)
theorem len_begs : ∀ {ws f : List W}, (∀ w ∈ ws, w.length ≤ 4) → (begs f ws).length ≤ f.length + 4 * ws.length
  | [], f, _ => by show f.length ≤ _; omega
  | w :: ws, f, h => by
    have h1 := len_begs (ws := ws) (f := begW f w w.length) fun u hu => h u (List.mem_cons_of_mem _ hu)
    have h2 := len_begW (f := f) (w := w) w.length
    have h3 := h w List.mem_cons_self
    show (begs (begW f w w.length) ws).length ≤ _
    rw [List.length_cons]
    omega

/-! ### a lexicon -/
structure Lex (ws : List W) : Prop where
  pos : 1 ≤ ws.length
  six : ws.length ≤ 6
  nd : ws.Nodup
  ne : ∀ w ∈ ws, 1 ≤ w.length
  four : ∀ w ∈ ws, w.length ≤ 4
  nosep : ∀ w ∈ ws, ∀ c ∈ w, c ≠ 32 ∧ c ≠ 10
abbrev found (ws : List W) : List W := begs [] ws
theorem mem_found {ws : List W} {b : W} : b ∈ found ws ↔ ∃ w ∈ ws, ∃ k, 1 ≤ k ∧ k ≤ w.length ∧ b = w.take k := by
  rw [mem_begs]
  constructor
  · rintro (h | h)
    · exact absurd h (by simp)
    · exact h
  · exact .inr
theorem found_ne {ws : List W} {b : W} (h : b ∈ found ws) : b ≠ [] := by
  obtain ⟨w, _, k, h1, h2, e⟩ := mem_found.mp h
  intro z
  have := congrArg List.length (e.symm.trans z)
  rw [List.length_take, List.length_nil] at this
  omega
theorem found_nosep {ws : List W} (L : Lex ws) {b : W} (h : b ∈ found ws) : ∀ c ∈ b, c ≠ 32 ∧ c ≠ 10 := fun c hc => by
  obtain ⟨w, hw, k, h1, h2, e⟩ := mem_found.mp h
  rw [e] at hc
  exact L.nosep w hw c (List.mem_of_mem_take hc)
theorem word_found {ws : List W} (L : Lex ws) {w : W} (h : w ∈ ws) : w ∈ found ws :=
  mem_found.mpr ⟨w, h, w.length, L.ne w h, Nat.le_refl _, (List.take_length).symm⟩
theorem found_pre {ws : List W} {p : W} {c : Nat} (hp : p ≠ []) (h : p ++ [c] ∈ found ws) : p ∈ found ws := by
  obtain ⟨w, hw, k, h1, h2, e⟩ := mem_found.mp h
  refine mem_found.mpr ⟨w, hw, p.length, List.length_pos_iff.mpr hp, ?_, ?_⟩
  · have := congrArg List.length e
    rw [List.length_append, List.length_take, List.length_singleton] at this
    omega
  · have e2 := congrArg (List.take p.length) e
    rw [List.take_left, List.take_take] at e2
    have := congrArg List.length e
    rw [List.length_append, List.length_take, List.length_singleton] at this
    rw [show min p.length k = p.length by omega] at e2
    exact e2

/-! ### the moves -/
def mvA (fs : List W) (i : Nat) (b : W) : List Mv :=
  if b.length = 1 then [(0, b, (i : Int) + 2), (1, b, (i : Int) + 2)] else [((fs.idxOf b.dropLast : Int) + 2, [b.getLastD 0], (i : Int) + 2)]
def mvB (ws : List W) (i : Nat) (b : W) : List Mv := if b ∈ ws then [((i : Int) + 2, [32], 1), ((i : Int) + 2, [10], 1)] else []
def movesTo (ws fs : List W) : Nat → List Mv
  | 0 => []
  | n + 1 => movesTo ws fs n ++ (mvA fs n (fs.getD n []) ++ mvB ws n (fs.getD n []))
abbrev moves (ws : List W) : List Mv := movesTo ws (found ws) (found ws).length
theorem mem_movesTo {ws fs : List W} {k : Mv} : ∀ {n : Nat}, k ∈ movesTo ws fs n ↔ ∃ i, i < n ∧ (k ∈ mvA fs i (fs.getD i []) ∨ k ∈ mvB ws i (fs.getD i []))
  | 0 => by
    refine ⟨fun h => absurd h (by show ¬ k ∈ []; simp), fun ⟨i, h, _⟩ => absurd h (by omega)⟩
  | n + 1 => by
    show k ∈ movesTo ws fs n ++ (mvA fs n (fs.getD n []) ++ mvB ws n (fs.getD n [])) ↔ _
    rw [List.mem_append, List.mem_append, mem_movesTo]
    constructor
    · rintro (⟨i, h1, h2⟩ | h)
      · exact ⟨i, by omega, h2⟩
      · exact ⟨n, by omega, h⟩
    · rintro ⟨i, h1, h2⟩
      by_cases e : i = n
      · subst e; exact .inr h2
      · exact .inl ⟨i, by omega, h2⟩
theorem len_movesTo {ws fs : List W} : ∀ n : Nat, (movesTo ws fs n).length ≤ 4 * n
  | 0 => Nat.le_refl _
  | n + 1 => by
    have h := len_movesTo (ws := ws) (fs := fs) n
    have hA : (mvA fs n (fs.getD n [])).length ≤ 2 := by unfold mvA; split <;> simp
    have hB : (mvB ws n (fs.getD n [])).length ≤ 2 := by unfold mvB; split <;> simp
    show (movesTo ws fs n ++ (mvA fs n (fs.getD n []) ++ mvB ws n (fs.getD n []))).length ≤ _
    rw [List.length_append, List.length_append]
    omega
/-- what a move is -/
inductive Is (ws : List W) : Int → W → Int → Prop where
  | a {i : Nat} {b : W} {q : Int} (h : (found ws)[i]? = some b) (l : b.length = 1) (hq : q = 0 ∨ q = 1) : Is ws q b (i + 2)
  | b {i : Nat} {p : W} {c : Nat} (h : (found ws)[i]? = some (p ++ [c])) (hp : p ≠ []) : Is ws ((found ws).idxOf p + 2) [c] (i + 2)
  | c {i : Nat} {b : W} {c : Nat} (h : (found ws)[i]? = some b) (hw : b ∈ ws) (hc : c = 32 ∨ c = 10) : Is ws (i + 2) [c] 1
theorem snoc_of {b : W} (h : b ≠ []) : b = b.dropLast ++ [b.getLastD 0] := by
  have e := List.dropLast_concat_getLast h
  have e2 : b.getLastD 0 = b.getLast h := by
    cases b with
    | nil => exact absurd rfl h
    | cons x r => rw [List.getLastD_eq_getLast?, List.getLast?_eq_getLast h]; rfl
  rw [e2]; exact e.symm
theorem mem_moves {ws : List W} {q r : Int} {c : W} : (q, c, r) ∈ moves ws ↔ Is ws q c r := by
  rw [mem_movesTo]
  constructor
  · rintro ⟨i, hi, h⟩
    have hg : (found ws)[i]? = some ((found ws).getD i []) := by
      rw [List.getD_eq_getElem?_getD, List.getElem?_eq_getElem hi]; rfl
    generalize (found ws).getD i [] = b at h hg
    have hb : b ∈ found ws := List.mem_of_getElem? hg
    rcases h with h | h
    · unfold mvA at h
      by_cases l : b.length = 1
      · rw [if_pos l] at h
        simp only [List.mem_cons, Prod.mk.injEq, List.not_mem_nil, or_false] at h
        rcases h with ⟨rfl, rfl, rfl⟩ | ⟨rfl, rfl, rfl⟩
        · exact .a hg l (.inl rfl)
        · exact .a hg l (.inr rfl)
      · rw [if_neg l] at h
        simp only [List.mem_cons, Prod.mk.injEq, List.not_mem_nil, or_false] at h
        obtain ⟨rfl, rfl, rfl⟩ := h
        have e := snoc_of (found_ne hb)
        refine .b (by rw [← e]; exact hg) fun z => l ?_
        rw [e, z]; rfl
    · unfold mvB at h
      by_cases hw : b ∈ ws
      · rw [if_pos hw] at h
        simp only [List.mem_cons, Prod.mk.injEq, List.not_mem_nil, or_false] at h
        rcases h with ⟨rfl, rfl, rfl⟩ | ⟨rfl, rfl, rfl⟩
        · exact .c hg hw (.inl rfl)
        · exact .c hg hw (.inr rfl)
      · rw [if_neg hw] at h
        exact absurd h (by simp)
  · intro h
    have key : ∀ {i : Nat} {b : W}, (found ws)[i]? = some b → i < (found ws).length ∧ (found ws).getD i [] = b := fun {i b} hg => by
      obtain ⟨h1, h2⟩ := List.getElem?_eq_some_iff.mp hg
      refine ⟨h1, ?_⟩
      rw [List.getD_eq_getElem?_getD, hg]; rfl
    cases h with
    | a hg l hq =>
      obtain ⟨h1, h2⟩ := key hg
      refine ⟨_, h1, .inl ?_⟩
      rw [h2]
      unfold mvA
      rw [if_pos l]
      rcases hq with rfl | rfl <;> simp
    | @b i p d hg hp =>
      obtain ⟨h1, h2⟩ := key hg
      refine ⟨_, h1, .inl ?_⟩
      rw [h2]
      unfold mvA
      have l : ¬ (p ++ [d]).length = 1 := by
        rw [List.length_append]
        have := List.length_pos_iff.mpr hp
        show ¬ p.length + 1 = 1
        omega
      rw [if_neg l, List.dropLast_concat]
      have e : (p ++ [d]).getLastD 0 = d := by rw [List.getLastD_eq_getLast?, List.getLast?_concat]; rfl
      rw [e]
      exact List.mem_singleton.mpr rfl
    | @c i b d hg hw hc =>
      obtain ⟨h1, h2⟩ := key hg
      refine ⟨_, h1, .inr ?_⟩
      rw [h2]
      unfold mvB
      rw [if_pos hw]
      rcases hc with rfl | rfl <;> simp
theorem nd_ix {l : List W} (hN : l.Nodup) {i j : Nat} {x : W} (a : l[i]? = some x) (b : l[j]? = some x) : i = j :=
  (List.getElem?_inj (List.getElem?_eq_some_iff.mp a).1 hN).mp (a.trans b.symm)
theorem at_idx {l : List W} {x : W} (h : x ∈ l) : l[l.idxOf x]? = some x := by
  have h1 := List.idxOf_lt_length_of_mem h
  rw [List.getElem?_eq_getElem h1, List.getElem_idxOf h1]
theorem idx_of {l : List W} (hN : l.Nodup) {i : Nat} {x : W} (h : l[i]? = some x) : l.idxOf x = i := nd_ix hN (at_idx (List.mem_of_getElem? h)) h
theorem idx_inj {l : List W} {x y : W} (hx : x ∈ l) (hy : y ∈ l) (e : l.idxOf x = l.idxOf y) : x = y := by
  have h1 := at_idx hx
  rw [e, at_idx hy] at h1
  exact (Option.some.inj h1).symm
/-- from a state a sign leads to one state -/
theorem is_fun {ws : List W} (L : Lex ws) {q r r' : Int} {c : W} (h : Is ws q c r) (h' : Is ws q c r') : r = r' := by
  have nd : (found ws).Nodup := nd_begs List.nodup_nil
  generalize eq1 : q = q1 at h'
  generalize ec1 : c = c1 at h'
  cases h with
  | @a i b _ hg l hq =>
    cases h' with
    | @a j b' _ hg' l' hq' =>
      subst ec1
      rw [nd_ix nd hg hg']
    | @b j p d hg' hp' => omega
    | @c j b' d hg' hw' hc' => omega
  | @b i p d hg hp =>
    cases h' with
    | @a j b' _ hg' l' hq' => omega
    | @b j p' d' hg' hp' =>
      have e1 : d = d' := (List.cons.inj ec1).1
      have e2 : (found ws).idxOf p = (found ws).idxOf p' := by omega
      have e3 : p = p' := idx_inj (found_pre hp (List.mem_of_getElem? hg)) (found_pre hp' (List.mem_of_getElem? hg')) e2
      subst e1 e3
      rw [nd_ix nd hg hg']
    | @c j b' d' hg' hw' hc' =>
      have e1 : d = d' := (List.cons.inj ec1).1
      have := found_nosep L (List.mem_of_getElem? hg) d (by simp)
      omega
  | @c i b d hg hw hc =>
    cases h' with
    | @a j b' _ hg' l' hq' => omega
    | @b j p' d' hg' hp' =>
      have e1 : d = d' := (List.cons.inj ec1).1
      have := found_nosep L (List.mem_of_getElem? hg') d' (by simp)
      omega
    | c => rfl
theorem is_bound {ws : List W} {q r : Int} {c : W} (h : Is ws q c r) : 0 ≤ r ∧ r < (found ws).length + 2 := by
  cases h with
  | a hg _ _ =>
    obtain ⟨h1, _⟩ := List.getElem?_eq_some_iff.mp hg
    omega
  | b hg _ =>
    obtain ⟨h1, _⟩ := List.getElem?_eq_some_iff.mp hg
    omega
  | c hg _ _ =>
    obtain ⟨h1, _⟩ := List.getElem?_eq_some_iff.mp hg
    omega

/-! ### a step: the last move that fits -/
def lastM (q : Int) (c : W) : List Mv → Option Int
  | [] => none
  | k :: ks => match lastM q c ks with
    | some r => some r
    | none => if k.1 = q ∧ k.2.1 = c then some k.2.2 else none
theorem lastM_snoc (q : Int) (c : W) (k : Mv) : ∀ ks : List Mv, lastM q c (ks ++ [k]) = if k.1 = q ∧ k.2.1 = c then some k.2.2 else lastM q c ks
  | [] => by
    show (match lastM q c [] with | some r => some r | none => if k.1 = q ∧ k.2.1 = c then some k.2.2 else none) = _
    rfl
  | j :: ks => by
    show (match lastM q c (ks ++ [k]) with | some r => some r | none => if j.1 = q ∧ j.2.1 = c then some j.2.2 else none) = _
    rw [lastM_snoc q c k ks]
    by_cases h : k.1 = q ∧ k.2.1 = c
    · rw [if_pos h, if_pos h]
    · rw [if_neg h, if_neg h]; rfl
theorem lastM_mem {q r : Int} {c : W} : ∀ {ks : List Mv}, lastM q c ks = some r → (q, c, r) ∈ ks
  | k :: ks, h => by
    unfold lastM at h
    split at h
    · rename_i r' h'
      cases h
      exact List.mem_cons_of_mem _ (lastM_mem h')
    · by_cases e : k.1 = q ∧ k.2.1 = c
      · rw [if_pos e] at h
        cases h
        obtain ⟨rfl, rfl⟩ := e
        exact List.mem_cons_self
      · rw [if_neg e] at h
        cases h
theorem lastM_none {q r : Int} {c : W} : ∀ {ks : List Mv}, lastM q c ks = none → (q, c, r) ∉ ks
  | [], _, h => absurd h (by simp)
  | k :: ks, h, hm => by
    unfold lastM at h
    split at h
    · cases h
    · rename_i h'
      rcases List.mem_cons.mp hm with e | hm
      · subst e
        rw [if_pos ⟨rfl, rfl⟩] at h
        cases h
      · exact lastM_none h' hm
theorem lastM_is {ws : List W} (L : Lex ws) {ks : List Mv} (hp : ks.Perm (moves ws)) {q r : Int} {c : W} : lastM q c ks = some r ↔ Is ws q c r := by
  constructor
  · intro h
    exact mem_moves.mp (hp.mem_iff.mp (lastM_mem h))
  · intro h
    have hm := hp.mem_iff.mpr (mem_moves.mpr h)
    cases e : lastM q c ks with
    | none => exact absurd hm (lastM_none e)
    | some r' => rw [is_fun L h (mem_moves.mp (hp.mem_iff.mp (lastM_mem e)))]
theorem lastM_perm {ws : List W} (L : Lex ws) {ks : List Mv} (hp : ks.Perm (moves ws)) (q : Int) (c : W) : lastM q c ks = lastM q c (moves ws) := by
  apply Option.ext
  intro r
  rw [lastM_is L hp, lastM_is L (List.Perm.refl _)]
/-- the step of the machine -/
def step (ws : List W) (q : Int) (c : W) : Option Int := lastM q c (moves ws)
theorem step_is {ws : List W} (L : Lex ws) {q r : Int} {c : W} : step ws q c = some r ↔ Is ws q c r := lastM_is L (List.Perm.refl _)
theorem step_none {ws : List W} (L : Lex ws) {q : Int} {c : W} (h : ∀ r, ¬ Is ws q c r) : step ws q c = none := by
  cases e : step ws q c with
  | none => rfl
  | some r => exact absurd ((step_is L).mp e) (h r)
/-- the way over a text -/
def runL (ws : List W) : Int → List Nat → Option Int
  | q, [] => some q
  | q, c :: z => match step ws q [c] with
    | some r => runL ws r z
    | none => none
theorem runL_cons {ws : List W} {q : Int} {c : Nat} {z : List Nat} : runL ws q (c :: z) = (step ws q [c]).bind fun r => runL ws r z := by
  show (match step ws q [c] with | some r => runL ws r z | none => none) = _
  cases step ws q [c] with
  | none => rfl
  | some r => rfl
theorem runL_app {ws : List W} : ∀ (x y : List Nat) (q : Int), runL ws q (x ++ y) = (runL ws q x).bind fun r => runL ws r y
  | [], _, _ => rfl
  | c :: x, y, q => by
    rw [List.cons_append, runL_cons, runL_cons]
    cases step ws q [c] with
    | none => rfl
    | some r => exact runL_app x y r
theorem runL_bound {ws : List W} (L : Lex ws) : ∀ (z : List Nat) (q r : Int), 0 ≤ q → q < (found ws).length + 2 → runL ws q z = some r → 0 ≤ r ∧ r < (found ws).length + 2
  | [], q, r, h1, h2, h => by
    cases h
    exact ⟨h1, h2⟩
  | c :: z, q, r, h1, h2, h => by
    rw [runL_cons] at h
    cases e : step ws q [c] with
    | none => rw [e] at h; cases h
    | some r' =>
      rw [e] at h
      obtain ⟨h3, h4⟩ := is_bound ((step_is L).mp e)
      exact runL_bound L z r' r h3 h4 h

/-! ### where a text can end; accepting is cutting up -/
def ends (ws : List W) : List Bool := [true, false] ++ (found ws).map fun b => decide (b ∈ ws)
theorem ends_len (ws : List W) : (ends ws).length = (found ws).length + 2 := by
  unfold ends
  rw [List.length_append, List.length_map]
  show 2 + _ = _
  omega
def accL (ws : List W) (q : Int) (z : List Nat) : Bool := match runL ws q z with
  | some r => (ends ws).getD r.toNat false
  | none => false
/-- the state behind a partial word p, behind a separator if it is empty -/
def enc (ws : List W) (p : W) : Int := if p = [] then 1 else ((found ws).idxOf p : Int) + 2
def isSep (c : Nat) : Bool := c == 32 || c == 10
def okB (ws : List W) : W → List Nat → Bool
  | p, [] => decide (p ∈ ws)
  | p, c :: z => if isSep c = true then decide (p ∈ ws) && okB ws [] z else okB ws (p ++ [c]) z
theorem okB_bad {ws : List W} (L : Lex ws) : ∀ (z : List Nat) (p : W), p ≠ [] → p ∉ found ws → okB ws p z = false
  | [], p, _, hn => decide_eq_false fun h => hn (word_found L h)
  | c :: z, p, hp, hn => by
    unfold okB
    by_cases hc : isSep c = true
    · rw [if_pos hc, decide_eq_false fun h => hn (word_found L h)]; rfl
    · rw [if_neg hc]
      exact okB_bad L z _ (by simp) fun h => hn (found_pre hp h)
theorem isSep_iff {c : Nat} : isSep c = true ↔ c = 32 ∨ c = 10 := by
  unfold isSep
  rw [Bool.or_eq_true, beq_iff_eq, beq_iff_eq]
/-- p is a beginning of a word, or empty -/
def Val (ws : List W) (p : W) : Prop := p = [] ∨ p ∈ found ws
theorem one_of {b : W} (h : b.length = 1) : ∃ c, b = [c] := by
  match b, h with
  | [c], _ => exact ⟨c, rfl⟩
theorem step_sign {ws : List W} (L : Lex ws) {p : W} (hv : Val ws p) {c : Nat} (hc : ¬ isSep c = true) (h : p ++ [c] ∈ found ws) : step ws (enc ws p) [c] = some (enc ws (p ++ [c])) := by
  have e : enc ws (p ++ [c]) = ((found ws).idxOf (p ++ [c]) : Int) + 2 := by
    unfold enc
    rw [if_neg (by simp)]
  rw [step_is L, e]
  by_cases hp : p = []
  · subst hp
    unfold enc
    rw [if_pos rfl]
    exact .a (at_idx h) rfl (.inr rfl)
  · unfold enc
    rw [if_neg hp]
    exact .b (at_idx h) hp
theorem step_lost {ws : List W} (L : Lex ws) {p : W} (hv : Val ws p) {c : Nat} (hc : ¬ isSep c = true) (h : p ++ [c] ∉ found ws) : step ws (enc ws p) [c] = none := by
  refine step_none L fun r hi => ?_
  generalize eq1 : enc ws p = q at hi
  generalize ec1 : ([c] : W) = c1 at hi
  cases hi with
  | @a i b _ hg l hq =>
    subst ec1
    by_cases hp : p = []
    · subst hp
      exact h (List.mem_of_getElem? hg)
    · unfold enc at eq1
      rw [if_neg hp] at eq1
      omega
  | @b i p' d hg hp' =>
    have e1 : c = d := (List.cons.inj ec1).1
    subst e1
    by_cases hp : p = []
    · unfold enc at eq1
      rw [if_pos hp] at eq1
      omega
    · unfold enc at eq1
      rw [if_neg hp] at eq1
      have e3 : p = p' := idx_inj (hv.resolve_left hp) (found_pre hp' (List.mem_of_getElem? hg)) (by omega)
      subst e3
      exact h (List.mem_of_getElem? hg)
  | @c i b d hg hw hd =>
    have e1 : c = d := (List.cons.inj ec1).1
    subst e1
    exact hc (isSep_iff.mpr hd)
theorem step_sep {ws : List W} (L : Lex ws) {p : W} (hv : Val ws p) {c : Nat} (hc : isSep c = true) : step ws (enc ws p) [c] = if p ∈ ws then some 1 else none := by
  have hcs := isSep_iff.mp hc
  by_cases hw : p ∈ ws
  · rw [if_pos hw, step_is L]
    have hp : p ≠ [] := found_ne (word_found L hw)
    unfold enc
    rw [if_neg hp]
    exact .c (at_idx (word_found L hw)) hw hcs
  · rw [if_neg hw]
    refine step_none L fun r hi => ?_
    generalize eq1 : enc ws p = q at hi
    generalize ec1 : ([c] : W) = c1 at hi
    cases hi with
    | @a i b _ hg l hq =>
      subst ec1
      have := found_nosep L (List.mem_of_getElem? hg) c (by simp)
      omega
    | @b i p' d hg hp' =>
      have e1 : c = d := (List.cons.inj ec1).1
      subst e1
      have := found_nosep L (List.mem_of_getElem? hg) c (by simp)
      omega
    | @c i b d hg hw' hd =>
      by_cases hp : p = []
      · unfold enc at eq1
        rw [if_pos hp] at eq1
        omega
      · unfold enc at eq1
        rw [if_neg hp] at eq1
        have e3 : (found ws).idxOf p = i := by omega
        have hg2 := at_idx (hv.resolve_left hp)
        rw [e3, hg] at hg2
        exact hw (by rw [← Option.some.inj hg2]; exact hw')
theorem step_zero {ws : List W} (L : Lex ws) (c : W) : step ws 0 c = step ws 1 c := by
  apply Option.ext
  intro r
  rw [step_is L, step_is L]
  constructor
  · intro h
    generalize eq1 : (0 : Int) = q at h
    cases h with
    | a hg l hq => exact .a hg l (.inr rfl)
    | b hg hp => omega
    | c hg hw hc => omega
  · intro h
    generalize eq1 : (1 : Int) = q at h
    cases h with
    | a hg l hq => exact .a hg l (.inl rfl)
    | b hg hp => omega
    | c hg hw hc => omega
theorem ends_enc {ws : List W} (L : Lex ws) {p : W} (hv : Val ws p) : (ends ws).getD (enc ws p).toNat false = decide (p ∈ ws) := by
  unfold enc
  by_cases hp : p = []
  · rw [if_pos hp, decide_eq_false fun h => found_ne (word_found L h) hp]
    rfl
  · rw [if_neg hp]
    have e : (((found ws).idxOf p : Int) + 2).toNat = (found ws).idxOf p + 2 := by omega
    rw [e]
    unfold ends
    show (((found ws).map fun b => decide (b ∈ ws))).getD ((found ws).idxOf p) false = _
    rw [List.getD_eq_getElem?_getD, List.getElem?_map, at_idx (hv.resolve_left hp)]
    rfl
theorem acc_ok {ws : List W} (L : Lex ws) : ∀ (z : List Nat) (p : W), Val ws p → accL ws (enc ws p) z = okB ws p z
  | [], p, hv => ends_enc L hv
  | c :: z, p, hv => by
    unfold accL okB
    rw [runL_cons]
    by_cases hc : isSep c = true
    · rw [if_pos hc, step_sep L hv hc]
      by_cases hw : p ∈ ws
      · rw [if_pos hw, decide_eq_true hw, Bool.true_and]
        have ih := acc_ok L z [] (.inl rfl)
        exact ih
      · rw [if_neg hw, decide_eq_false hw, Bool.false_and]
        rfl
    · rw [if_neg hc]
      by_cases h : p ++ [c] ∈ found ws
      · rw [step_sign L hv hc h]
        exact acc_ok L z (p ++ [c]) (.inr h)
      · rw [step_lost L hv hc h, okB_bad L z _ (by simp) h]
        rfl
/-- a text of the lexicon, by cutting it up -/
def isT (ws : List W) (z : List Nat) : Bool := decide (z = []) || okB ws [] z
theorem acc_is {ws : List W} (L : Lex ws) (z : List Nat) : accL ws 0 z = isT ws z := by
  cases z with
  | nil => rfl
  | cons c z =>
    have e : accL ws 0 (c :: z) = accL ws 1 (c :: z) := by
      unfold accL
      rw [runL_cons, runL_cons, step_zero L]
    have h := acc_ok L (c :: z) [] (.inl rfl)
    rw [e]
    exact h
end K46

/-! Rules that the layer lacks: sorted of tuples (int, text, int); repr of None; a test against a written text that gives out a token; a method on such a receiver. -/
namespace K46
open PySem PySem.Spec PyProof.Rows L2

/-! ### heaps -/
theorem same_upd {H : Hp} {p : Addr} {o : HO} (h : H p = none) : Same H (upd H p o) := fun b x e => by
  rw [upd_ne (ne_of_none e h)]
  exact e
/-! ### texts as lists of signs -/
abbrev mk (l : List Nat) : Str := ⟨l.toArray⟩
abbrev S (l : List Nat) : V := .str (mk l)
theorem mk_inj {a b : List Nat} (e : mk a = mk b) : a = b := by
  have h := congrArg (fun x : Str => x.cps.toList) e
  exact h
theorem S_inj {a b : List Nat} (e : S a = S b) : a = b := mk_inj (V.str.inj e)
theorem len_mk (l : List Nat) : (mk l).length = l.length := by simp [Str.length]
theorem mk_of (x : Str) : x = mk x.cps.toList := (TL.mk_tl x).symm
theorem mk_append (a b : List Nat) : mk a ++ mk b = mk (a ++ b) := by
  refine TL.ext_tl ?_
  rw [TL.tl_append] <;> rfl
theorem eqV_S (a b : List Nat) : eqV (S a) (S b) = decide (a = b) := by
  show (mk a == mk b) = _
  by_cases h : a = b
  · rw [h, decide_eq_true rfl]; exact beq_self_eq_true _
  · rw [decide_eq_false h]
    exact beq_eq_false_iff_ne.mpr fun e => h (mk_inj e)
theorem inV_S (a : List Nat) : ∀ xs : List (List Nat), inV (S a) (xs.map S) = decide (a ∈ xs)
  | [] => by simp [inV]
  | x :: xs => by
    have ih := inV_S a xs
    unfold inV at ih ⊢
    rw [List.map_cons, List.any_cons, ih, eqV_S]
    by_cases h : x = a
    · simp [h]
    · have h2 : ¬ a = x := fun e => h e.symm
      simp [h, h2]
theorem flat_S (xs : List (List Nat)) : (xs.map S).all flatV = true := by
  rw [List.all_eq_true]
  intro x hx
  obtain ⟨y, _, rfl⟩ := List.mem_map.mp hx
  rfl
theorem cut_to (l : List Nat) (n : Nat) : cutS (mk l) none (some (n : Int)) = mk (l.take n) := by
  unfold cutS
  rw [HT.sIx_none, HT.sIx_nat, len_mk]
  show mk ((l.drop 0).take (min n l.length - 0)) = _
  rw [List.drop_zero, Nat.sub_zero]
  congr 1
  by_cases h : n ≤ l.length
  · rw [Nat.min_eq_left h]
  · rw [Nat.min_eq_right (by omega), List.take_length, List.take_of_length_le (by omega)]
theorem cut_from (l : List Nat) (n : Nat) : cutS (mk l) (some (n : Int)) none = mk (l.drop n) := by
  unfold cutS
  rw [HT.sIx_none, HT.sIx_nat, len_mk]
  show mk ((l.drop (min n l.length)).take (l.length - min n l.length)) = _
  congr 1
  by_cases h : n ≤ l.length
  · rw [Nat.min_eq_left h]
    exact List.take_of_length_le (by rw [List.length_drop]; exact Nat.le_refl _)
  · rw [Nat.min_eq_right (by omega), List.drop_length, List.drop_of_length_le (by omega), List.take_nil]

/-! ### sorted of tuples of an int, a text, an int: some arrangement of them -/
def shp (i : Nat) : Bool := decide (i = 1)
theorem ord_swo (O : KeyOrd) (k : Value → O.α) : SrtO.Swo fun v u => O.blt (k v) (k u) :=
  ⟨fun _ _ h => KeyOrd.klt_asymm (O := O) h, fun _ _ _ h1 h2 => KeyOrd.kle_trans (O := O) h1 h2⟩
/-- v is, at h, a tuple of an int, a text and an int; its key is ks -/
def IsMix (h : Heap) (ks : List (Int ⊕ List Nat)) (v : Value) : Prop :=
  ∃ a o x y z t u r n, (v = .ref a ∧ ks = [.inl x, .inr y.cps.toList, .inl z]) ∧ h.get? a = some o ∧ o.cls = .type "tuple" ∧ o.data = .seq #[.int x t, .str y u, .int z r] n
theorem IsMix.key {h : Heap} {v : Value} {ks : List (Int ⊕ List Nat)} (p : IsMix h ks v) : (tupKind h shp).keyOf v = some ks := by
  obtain ⟨a, o, x, y, z, t, u, r, n, ⟨rfl, rfl⟩, ho, _, hd⟩ := p
  show tupKey h shp (.ref a) = _
  unfold tupKey
  simp only [ho, hd]
  rfl
section
variable {prog : Program} {w : World} {A : Around} {s : Shared}
theorem mix_firsts {h : Heap} {k : Value → List (Int ⊕ List Nat)} (vs : List Value) (hp : ∀ v ∈ vs, IsMix h (k v) v) : ∃ fs, TupsOf h shp vs fs ∧ fs.length = vs.length := by
  induction vs with
  | nil => exact ⟨[], .nil, rfl⟩
  | cons v vs ih =>
    obtain ⟨fs, h1, h2⟩ := ih fun u hu => hp u (List.mem_cons_of_mem _ hu)
    obtain ⟨a, o, x, y, z, t, u, r, n, ⟨e, _⟩, ho, hc, hd⟩ := hp v List.mem_cons_self
    exact ⟨.int x t :: fs, .cons ⟨a, o, _, n, e, ho, hc, hd, rfl, fun _ => ⟨x, t, rfl⟩, fun z => by simp [shp] at z⟩ h1, congrArg (· + 1) h2⟩
/-- such items can be sorted by their keys, at every heap that keeps them -/
theorem mix_sortable {a : Addr} {vs : List Value} {k : Value → List (Int ⊕ List Nat)} (h0 : 0 < vs.length) (hp : ∀ v ∈ vs, IsMix s.heap (k v) v) (ha : ∀ o, s.heap.get? a = some o → o.cls ≠ .type "tuple") :
    SrtO.SortableO prog w A s a vs fun v u => (listOrd itemOrd).blt (k v) (k u) := fun h' keep => by
  have stay : ∀ v ∈ vs, IsMix h' (k v) v := fun v hm => by
    obtain ⟨b, o, x, y, z, t, u, r, n, e, ho, hc, hd⟩ := hp v hm
    exact ⟨b, o, x, y, z, t, u, r, n, e, keep b o (fun q => ha o (by rw [← q]; exact ho) hc) ho, hc, hd⟩
  obtain ⟨fs, h1, h2⟩ := mix_firsts vs stay
  exact ⟨tuples' true, fun Q E hq => tup_kind (s := { s with heap := h' }) (by omega) h1 hq,
    fun p q hm hm' => tup_ltAt (s := { s with heap := h' }) (shape := shp) true A _ p.1 q.1 (k p.1) (k q.1) (stay _ hm).key (stay _ hm').key ⟨rfl, rfl⟩⟩
end
/-- sorted(xs), xs a list of such tuples: a new list of the same items -/
def rSortedM (K : PySem.W.Frag) : List V → Hp → VK → Prop := fun vs H Q => ∃ (l : Addr) (xs : List V), (vs = [V.ref l] ∧ SqL K H l xs) ∧ (∀ x ∈ xs, ∃ t i c j, x = V.ref t ∧ H t = some (.tup [.int i, .str c, .int j])) ∧
  ∀ (ys : List V) (d : Addr), ys.Perm xs → H d = none → Q (.ref d) (upd H d (.lst ys))
section
variable {X : Cx}
theorem cr_sortedM : CallR X (.builtin "sorted") (rSortedM X.K) := fun pins s σ H vs us Q I r ⟨l, xs, ⟨e0, hs⟩, hx, fin⟩ => by
  subst e0
  obtain ⟨us1, eu, ru⟩ := vals1 r
  have eu1 : us1 = Value.ref l := ru
  subst eu eu1
  obtain ⟨its, rv, pl, hz⟩ := I.list hs
  have hrefs := refs_back rv fun x m => (hx x m).elim fun t h => h.elim fun _ h => h.elim fun _ h => h.elim fun _ h => ⟨t, h.1⟩
  -- what stands at the items
  have mix : ∀ v ∈ its, IsMix s.heap ((tupKey s.heap shp v).getD []) v := fun v hv => by
    obtain ⟨t, rfl⟩ := hrefs.2 v hv
    obtain ⟨t', i, c, j, et, ht⟩ := hx (.ref t) (hrefs.1 ▸ List.mem_map_of_mem hv)
    obtain rfl : t = t' := V.ref.inj et
    obtain ⟨_, ts, rt, o, ho, hc, n, hd⟩ := I.hok t _ ht
    obtain ⟨v1, v2, v3, rfl, ⟨k1, rfl⟩, ⟨k2, rfl⟩, ⟨k3, rfl⟩⟩ : ∃ v1 v2 v3, ts = [v1, v2, v3] ∧ RelV (.int i) v1 ∧ RelV (.str c) v2 ∧ RelV (.int j) v3 := by
      cases rt with
      | cons r1 rr =>
        obtain ⟨v2, v3, e, r2, r3⟩ := vals2 rr
        exact ⟨_, v2, v3, by rw [e], r1, r2, r3⟩
    have here : IsMix s.heap [.inl i, .inr c.cps.toList, .inl j] (.ref t) := ⟨t, o, i, c, j, k1, k2, k3, n, ⟨rfl, rfl⟩, ho, hc, hd⟩
    have ek : tupKey s.heap shp (.ref t) = some [.inl i, .inr c.cps.toList, .inl j] := here.key
    rw [ek]
    exact here
  have hz' : its.length ≤ sizeLine := rv.length ▸ hz
  refine SrtO.sorted_ord (ord_swo (listOrd itemOrd) fun v => (tupKey s.heap shp v).getD []) pl.isList hz' (fun two g a ha kk => ?_) fun out _ st => ?_
  · refine mix_sortable (s := { s with heap := g }) (by omega) (fun v hm => ?_) fun o ho hc => ?_
    · obtain ⟨b, o, x, y, z, t, u, r, n, e, ho, hc, hd⟩ := mix v hm
      exact ⟨b, o, x, y, z, t, u, r, n, e, (kk b o ho).2, hc, hd⟩
    · have eo : seqObj "list" its.toArray 0 = o := Option.some.inj (ha.symm.trans ho)
      rw [← eo] at hc
      exact absurd (Value.type.inj hc) (by decide)
  · have pm : (out.map backV).Perm xs := hrefs.1 ▸ st.perm.map backV
    have old : ∀ b o, s.heap.get? b = some o → (sortedAll s.heap its out.toArray).get? b = some o := fun _ _ => sortedAll_old
    obtain ⟨n, hn⟩ := sortedAll_at s.heap its out.toArray
    have new : s.heap.objs.size ≤ s.heap.objs.size + 1 := Nat.le_succ _
    exact ⟨.ref (s.heap.objs.size + 1), upd H (s.heap.objs.size + 1) (.lst (out.map backV)), I.laid (t' := s.toks) old new ⟨pm.length_eq ▸ hz, out, n, vals_back fun u hu => hrefs.2 u (st.perm.mem_iff.mp hu), hn⟩, rfl, fin _ _ pm (I.hok.fresh new)⟩

/-! ### repr of an int or of None -/
def optV : Option Int → V
  | some i => .int i
  | none => .non
def reprS : Option Int → Str
  | some i => (toString i : String)
  | none => "None"
theorem cr_repr : CallR X (.builtin "repr") (fun xs H Q => ∃ o : Option Int, xs = [optV o] ∧ (∀ i, o = some i → i.natAbs.log2 < 1920) ∧ Q (.str (reprS o)) H) := by
  intro pins s σ H xs us Q I r h
  obtain ⟨o, rfl, hz, q⟩ := h
  cases o with
  | some i =>
    obtain ⟨u, rfl, t, rfl⟩ := vals1 r
    exact PySem.P.repr_of_int (hz i rfl) ⟨.str _, H, I.tok _, ⟨_, rfl⟩, q⟩
  | none =>
    obtain ⟨u, rfl, ru⟩ := vals1 r
    obtain rfl : u = Value.none := ru
    exact PySem.P.repr_of_none ⟨.str _, H, I.tok _, ⟨_, rfl⟩, q⟩

/-! ### a token is out behind a test against a written text -/
theorem pss_ifEqT {e : Expr} {te : TE} {z : Str} {j : Nat} {cpos cp pos : Pos} {body rest : List Stmt} {tb u : TS} (ha : PE X e te) (hb : PSs X body tb) (hr : PSsT X rest u) (hm : behindInMarks .Eq (.Constant (.str z) j cpos) = false := by rfl) :
    PSs X (.If (.Compare e [.Eq] [.Constant (.str z) j cpos] cp) body [] pos :: rest) (tSeq (tIfS (tTest (tOp rEq te (tC (.str z)))) tb tNext) u) := by
  refine ⟨fun pins s σ H D I h => ?_⟩
  refine wpAny_execs_cons (wpAny_If (wpAny_isTrue_Compare1 (thn (ha.run pins s σ H _ I h) fun v s1 ⟨x, H1, I1, r1, q1⟩ => Calls.Constant_str ?_) hm))
  have q1' : rEq x (V.str z) H1 (fun y H' => ∃ k, y = V.bl k ∧ if k = true then tb { D with nx := u D } σ H' else u D σ H') := q1
  refine wpAny_mono (PySem.wpAny_toks (op_eq pins { s1 with toks := s1.toks + 1 } σ H1 x (.str z) v (.str z s1.toks) _ (I1.tok _) r1 ⟨_, rfl⟩ q1')) (fun c s3 ⟨hk, y, H3, I3, r3, q⟩ => ?_) fun _ _ z => z.2
  obtain ⟨k, e3, q3⟩ := q
  have hk1 : 1 ≤ s3.toks := Nat.le_trans (Nat.le_add_left 1 s1.toks) hk
  subst e3
  cases r3
  refine wpAny_truthy_bool ?_
  cases k with
  | true =>
    refine wpAny_mono (PySem.wpAny_toks (hb.run pins s3 σ H3 _ I3 q3)) (fun f s4 q => ?_) fun _ _ z => z.2
    obtain ⟨hk4, q⟩ := q
    cases f with
    | next =>
      obtain ⟨σ', H', I', q⟩ := q
      exact hr pins s4 σ' H' D (Nat.le_trans hk1 hk4) I' q
    | ret v => exact q
    | brk => exact q
    | cont => exact q
  | false =>
    refine wpAny_execs_nil ?_
    exact hr pins s3 σ H3 D hk1 I3 q3
/-- o.split('..'), the separator written, where o wants a token -/
theorem pet_cut {o : Expr} {to : TE} {c : Str} {j : Nat} {apos cp pos : Pos} (ho : PET X o to) (hne : (c.length == 0) = false)
    (hs : starEach [.Constant (.str c) j cp] X.env = [(false, eval (.Constant (.str c) j cp) X.env)] := by rfl) (hb : attributeBase o "split" X.env (eval o X.env) = eval o X.env := by rfl) (hl : (apos.endLine == pos.line) = true := by rfl) :
    PET X (.Call (.Attribute o "split" apos) [.Constant (.str c) j cp] [] pos) (fun σ H Q => to σ H fun v H1 => ∃ a, v = .str a ∧ a.length + 2 ≤ sizeLine ∧ rNewStrs (Txt.split a c) H1 Q) := fun pins s σ H Q out I h => by
  refine PySem.Call_method1 hb hs hl (thn (ho pins s σ H _ out I h) ?_)
  rintro v s1 ⟨x, H1, I1, rx, a, rfl, hz, q⟩
  have rx' := rx
  obtain ⟨t, rfl⟩ := rx
  have arg := mt_split pins { s1 with toks := s1.toks + 1 } σ H1 (.str a) [.str c] (.str a t) [.str c s1.toks] Q (I1.tok _) rx' (.cons ⟨_, rfl⟩ .nil) ⟨a, c, rfl, rfl, hne, hz, q⟩
  exact ⟨"str", _, F.plainAttrs_str, F.slot_str_split, F.type_str_split, typeIs_str _ _ _, (fun _ e => nomatch e), Calls.callWith_builtin rfl (Calls.evalArgs_plain (Calls.spliced_cons (Calls.Constant_str (Calls.spliced_nil arg))))⟩
end
end K46

/-! The defs of the text; draw, cell, digits. -/
namespace K46
open PySem PySem.Spec PyProof.Rows L2
/-! ### the text -/
def topS (i : Nat) : Stmt := PySem.Challenge.pw_surelyread_k46_texts_of_lexicons.main.body.getD i (.Pass ⟨0, 0, 0, 0⟩)
abbrev sCheck : Stmt := topS 6
abbrev sBegs : Stmt := topS 7
abbrev sLexicon : Stmt := topS 8
abbrev sRun : Stmt := topS 9
abbrev sAccepts : Stmt := topS 10
abbrev sCell : Stmt := topS 13
abbrev sSame : Stmt := topS 15
abbrev sDigits : Stmt := topS 17
abbrev sDraw : Stmt := topS 18
abbrev sWords : Stmt := topS 19
abbrev sIsText : Stmt := topS 20
abbrev sText : Stmt := topS 21
abbrev sLaw : Stmt := topS 22
theorem scDraw : FnScope ["_law_box", "_law_many", "_law_at"] ["_law_box", "_law_many"] (defScope sDraw) := ⟨rfl, rfl, rfl, by decide +kernel, rfl, by decide +kernel, by decide +kernel⟩
theorem scCell : FnScope ["_law_script", "_law_k"] ["_law_script", "_law_k"] (defScope sCell) := ⟨rfl, rfl, rfl, by decide +kernel, rfl, by decide +kernel, by decide +kernel⟩
theorem scDigits : FnScope ["_law_script", "_law_first", "_law_last", "_law_digits_here", "_law_k", "_law_cell_here", "_law_turn", "_law_seed"] ["_law_script", "_law_first", "_law_last"] (defScope sDigits) := ⟨rfl, rfl, rfl, by decide +kernel, rfl, by decide +kernel, by decide +kernel⟩

/-! ### the box of the digits: it alone changes -/
def Box (H : Hp) (b dg : Addr) : Prop := ∃ (ns : List Int) (n : Nat), H b = some (.lst [.ref dg, .int (n : Int)]) ∧ H dg = some (.lst (ns.map V.int))
def SameX (b : Addr) (H H' : Hp) : Prop := ∀ c o, c ≠ b → H c = some o → H' c = some o
theorem SameX.refl (b : Addr) (H : Hp) : SameX b H H := fun _ _ _ h => h
theorem SameX.trans {b : Addr} {H H1 H2 : Hp} (a : SameX b H H1) (c : SameX b H1 H2) : SameX b H H2 := fun d o n h => c d o n (a d o n h)
theorem SameX.of {b : Addr} {H H1 : Hp} (a : Same H H1) : SameX b H H1 := fun d o _ h => a d o h
theorem Box.same {b dg : Addr} {H H' : Hp} (x : Box H b dg) (a : Same H H') : Box H' b dg := by
  obtain ⟨ns, n, h1, h2⟩ := x
  exact ⟨ns, n, a _ _ h1, a _ _ h2⟩
theorem Box.here {b dg : Addr} {H : Hp} (x : Box H b dg) : ∃ o, H b = some o := by
  obtain ⟨ns, n, h1, h2⟩ := x
  exact ⟨_, h1⟩
theorem Box.ne {b dg p : Addr} {H : Hp} (bx : Box H b dg) (n : H p = none) : p ≠ b := fun e => by
  obtain ⟨u, hu⟩ := bx.here
  rw [e, hu] at n
  cases n
theorem Box.nd {b dg p : Addr} {H : Hp} (bx : Box H b dg) (n : H p = none) : p ≠ dg := fun e => by
  obtain ⟨_, _, _, hu⟩ := bx
  rw [e, hu] at n
  cases n
/-- a store elsewhere -/
theorem Box.put {b dg p : Addr} {H : Hp} {o : HO} (bx : Box H b dg) (n : p ≠ b) (m : p ≠ dg) : Box (upd H p o) b dg := by
  obtain ⟨ns, k, h1, h2⟩ := bx
  exact ⟨ns, k, by rw [upd_ne (Ne.symm n)]; exact h1, by rw [upd_ne (Ne.symm m)]; exact h2⟩
theorem SameX.put {b p : Addr} {H H' : Hp} {o : HO} (sx : SameX b H H') (n : H p = none) : SameX b H (upd H' p o) := fun c u nc e => by
  rw [upd_ne (ne_of_none e n)]
  exact sx c u nc e
theorem SameX.free {b dg p : Addr} {H H' : Hp} (sx : SameX b H H') (bx : Box H' b dg) (n : H' p = none) : H p = none := by
  cases q : H p with
  | none => rfl
  | some o =>
    by_cases e : p = b
    · obtain ⟨u, hu⟩ := bx.here
      rw [e, hu] at n
      cases n
    · rw [sx p o e q] at n
      cases n
section
variable {P : Program} {w : World} {K : PySem.W.Frag} {mg : Str → Option Value} {base : Heap}
/-! ### draw -/
def spDraw (K : PySem.W.Frag) : Sp := fun vs H Q _ => ∃ (b dg : Addr) (m : Int), vs = [.ref b, .int m] ∧ 0 < m ∧ Box H b dg ∧ ∀ H' r, SameX b H H' → Box H' b dg → 0 ≤ r → r < m → Q (.int r) H'
theorem ok_draw {f : Addr} {fd : FuncData} {k : Nat} (F : Fun K "_law_draw" "_law_draw" sDraw f fd) (ml : mg "len" = none) (mi : mg "int" = none) : FnOk P w K mg base CX0 (k + 1) f fd ["_law_box", "_law_many"] (spDraw K) := by
  refine F.ok scDraw (fun vs H Q E h => ?_) (fun cdv A outer s H vs Q E hr h => ?_)
  · obtain ⟨b, dg, m, rfl, _⟩ := h
    rfl
  · obtain ⟨b, dg, m, rfl, hm, ⟨ns, n, hb, hd⟩, q⟩ := h
    refine ⟨_, pss_cons (ps_set (i := 2) scDraw.nd rfl (.inl rfl) (pe_ix ix_list (pv 0) pe_int (fun _ _ => rfl)))
      (pss_cons (ps_asg (pe_op op_add (pv 2) pe_int) (pg_sub (pv 0) pe_int set_list))
      (pss_cons (ps_if (pt_cmpR op_lt (pv 2) (pe_callB call_len_seq (by rfl) ml PySem.boot_len (pa_cons (pe_ix ix_list (pv 0) pe_int (fun _ _ => rfl)) pa_nil)) (nomark _))
        (pss_one (ps_ret (pe_op op_mod (pe_callTy call_int1 (by rfl) mi PyProof.Rows.boot_int (pa_cons (pe_ix ix_list (pe_ix ix_list (pv 0) pe_int (fun _ _ => rfl)) (pv 2) (fun _ _ => rfl)) pa_nil)) (pv 1)))) pss_nil)
      (pss_one (ps_ret (pe_op op_mod (pe_callTy call_int1 (by rfl) mi PyProof.Rows.boot_int (pa_cons (pe_op op_add (pe_op op_mul (pv 2) pe_int) pe_int) pa_nil)) (pv 1)))))), ?_⟩
    have ndb : dg ≠ b := fun e => by
      rw [e, hb] at hd
      have h1 := HO.lst.inj (Option.some.inj hd)
      cases ns with
      | nil => cases h1
      | cons x r => cases (List.cons.inj h1).1
    -- the place is read
    refine ⟨.ref b, rfl, b, _, 1, .int n, rfl, rfl, SqL.of hb, rfl, ?_⟩
    -- and raised
    refine ⟨_, rfl, (n : Int), 1, rfl, rfl, .ref b, rfl, b, _, 1, 1, rfl, rfl, hb, rfl, ?_⟩
    have hb' : (upd H b (.lst [.ref dg, .int ((n : Int) + 1)])) b = some (.lst [.ref dg, .int ((n : Int) + 1)]) := upd_same
    have hd' : (upd H b (.lst [.ref dg, .int ((n : Int) + 1)])) dg = some (.lst (ns.map V.int)) := by rw [upd_ne ndb]; exact hd
    have sx : SameX b H (upd H b (.lst [.ref dg, .int ((n : Int) + 1)])) := fun c o nc e => by rw [upd_ne nc]; exact e
    have bx : Box (upd H b (.lst [.ref dg, .int ((n : Int) + 1)])) b dg := ⟨ns, n + 1, hb', hd'⟩
    have fin : ∀ z : Int, Q (.int (z % m)) (upd H b (.lst [.ref dg, .int ((n : Int) + 1)])) := fun z =>
      q _ _ sx bx (Int.emod_nonneg _ (by omega)) (Int.emod_lt_of_pos _ hm)
    -- a digit, or none is left
    refine ⟨.int n, rfl, .ref b, rfl, b, _, 0, .ref dg, rfl, rfl, SqL.of hb', rfl, dg, _, rfl, .inl (SqL.of hd'), n, _, rfl, rfl, _, rfl, ite2 (fun e => ?_) (fun e => ?_)⟩
    · have e1 := of_decide_eq_true e
      rw [List.length_map] at e1
      have e2 : n < ns.length := by omega
      refine ⟨.ref b, rfl, b, _, 0, .ref dg, rfl, rfl, SqL.of hb', rfl, .int n, rfl, dg, _, n, .int ns[n], rfl, rfl, SqL.of hd', atI_nat (by simp [e2]), .inl ⟨_, rfl, ?_⟩⟩
      exact ⟨.int m, rfl, _, m, rfl, rfl, hm, fin _⟩
    · refine ⟨.int n, rfl, (n : Int), 7, rfl, rfl, .inr ⟨by decide, by decide⟩, _, 3, rfl, rfl, .inl ⟨_, rfl, ?_⟩⟩
      exact ⟨.int m, rfl, _, m, rfl, rfl, hm, fin _⟩

/-! ### cell -/
def spCell (K : PySem.W.Frag) : Sp := fun vs H Q _ => ∃ (a : Addr) (ns : List Int) (k : Nat), vs = [.ref a, .int (k : Int)] ∧ SqL K H a (ns.map V.int) ∧ ∀ i : Int, Q (.int i) H
theorem ok_cell {f : Addr} {fd : FuncData} {k : Nat} (F : Fun K "_law_cell" "_law_cell" sCell f fd) (ml : mg "len" = none) : FnOk P w K mg base CX0 (k + 1) f fd ["_law_script", "_law_k"] (spCell K) := by
  refine F.ok scCell (fun vs H Q E h => ?_) (fun cdv A outer s H vs Q E hr h => ?_)
  · obtain ⟨b, m, k, rfl, _⟩ := h
    rfl
  · obtain ⟨a, ns, j, rfl, hS, q⟩ := h
    refine ⟨_, pss_cons (ps_if (pt_cmpR op_lt (pv 1) (pe_callB call_len_seq (by rfl) ml PySem.boot_len (pa_cons (pv 0) pa_nil)) (nomark _)) (pss_one (ps_ret (pe_ix ix_list (pv 0) (pv 1) (fun _ _ => rfl)))) pss_nil)
      (pss_one (ps_ret pe_int)), ?_⟩
    refine ⟨.int j, rfl, .ref a, rfl, a, _, rfl, .inl hS, (j : Int), _, rfl, rfl, _, rfl, ite2 (fun e => ?_) (fun e => ?_)⟩
    · have e1 := of_decide_eq_true e
      rw [List.length_map] at e1
      have e2 : j < ns.length := by omega
      exact ⟨.ref a, rfl, .int j, rfl, a, _, j, .int ns[j], rfl, rfl, hS, atI_nat (by simp [e2]), q _⟩
    · exact q _

/-! ### digits -/
def spDigits (K : PySem.W.Frag) : Sp := fun vs H Q _ => ∃ (a : Addr) (ns : List Int), vs = [.ref a, .int 0, .int 50] ∧ SqL K H a (ns.map V.int) ∧ ∀ H' p (ds : List Int), Same H H' → H p = none → H' p = some (.lst (ds.map V.int)) → Q (.ref p) H'
theorem ok_digits {f fC : Addr} {fd fdC : FuncData} {k : Nat} (F : Fun K "_law_digits" "_law_digits" sDigits f fd) (FC : Fun K "_law_cell" "_law_cell" sCell fC fdC) (bC : Binds K fdC ["_law_script", "_law_k"] []) (gC : mg "_law_cell" = some (.ref fC)) (ml : mg "len" = none)
    (mi : mg "int" = none) (mr : mg "range" = none) : FnOk P w K mg base CX0 (k + 2) f fd ["_law_script", "_law_first", "_law_last"] (spDigits K) := by
  have GC : FnOk P w K mg base CX0 1 fC fdC ["_law_script", "_law_k"] (spCell K) := ok_cell FC ml
  refine F.ok scDigits (fun vs H Q E h => ?_) (fun cdv A outer s H vs Q E hr h => ?_)
  · obtain ⟨a, ns, rfl, _⟩ := h
    rfl
  · obtain ⟨a, ns, rfl, hS, q⟩ := h
    refine ⟨_, pss_cons (ps_set (i := 3) scDigits.nd rfl (.inl rfl) (pe_lst pa_nil))
      (pss_cons (ps_for PassesOwn.never rfl (pi_range2 rfl mr (pa_cons (pv 1) (pa_cons (pv 2) pa_nil))) (pg_name (i := 4) scDigits.nd rfl (.inl rfl))
        (pss_cons (ps_set (i := 5) scDigits.nd rfl (.inl rfl) (pe_call GC (hr.mono (by omega)) (by rfl) gC FC.kp bC .nil pass0 (pa_cons (pv 0) (pa_cons (pv 4) pa_nil))))
        (pss_cons (ps_if (pt_cmpR op_lt (pv 5) pe_int (nomark _)) (pss_one (ps_set (i := 5) scDigits.nd rfl (.inl rfl) (pe_op op_sub pe_int (pe_op op_mul pe_int (pv 5))))) pss_nil)
        (pss_one (ps_if (pt_cmpR op_ge (pv 5) (pe_op op_pow pe_int pe_int) (nomark _))
          (pss_one (ps_for PassesOwn.never rfl (pi_range1 rfl mr (pa_cons pe_int pa_nil)) (pg_name (i := 6) scDigits.nd rfl (.inl rfl))
            (pss_one (ps_if (pt_cmpR op_gt (pv 5) pe_int (nomark _))
              (pss_cons (ps_expr (pe_bm PySem.F.plainAttrs_list PySem.F.slot_list_append PySem.F.type_list_append mt_append (pv 3) (pa_cons (pe_op op_mod (pe_callTy call_int1 (by rfl) mi PyProof.Rows.boot_int (pa_cons (pv 5) pa_nil)) pe_int) pa_nil)))
              (pss_one (ps_set (i := 5) scDigits.nd rfl (.inl rfl) (pe_op op_fdiv (pv 5) pe_int)))) pss_nil))))
          (pss_cons (ps_set (i := 7) scDigits.nd rfl (.inl rfl) (pe_op op_mod (pe_callTy call_int1 (by rfl) mi PyProof.Rows.boot_int (pa_cons (pe_op op_add (pe_op op_add (pe_op op_mul (pv 5) pe_int) (pe_op op_mul (pv 4) pe_int)) pe_int) pa_nil)) pe_int))
          (pss_one (ps_for PassesOwn.never rfl (pi_range1 rfl mr (pa_cons pe_int pa_nil)) (pg_name (i := 6) scDigits.nd rfl (.inl rfl))
            (pss_cons (ps_set (i := 7) scDigits.nd rfl (.inl rfl) (pe_op op_mod (pe_callTy call_int1 (by rfl) mi PyProof.Rows.boot_int (pa_cons (pe_op op_add (pe_op op_add (pe_op op_mul (pv 7) pe_int) (pe_op op_mul pe_int (pv 6))) pe_int) pa_nil)) pe_int))
            (pss_one (ps_expr (pe_bm PySem.F.plainAttrs_list PySem.F.slot_list_append PySem.F.type_list_append mt_append (pv 3) (pa_cons (pe_op op_mod (pe_callTy call_int1 (by rfl) mi PyProof.Rows.boot_int (pa_cons (pe_op op_fdiv (pv 7) pe_int) pa_nil)) pe_int) pa_nil)))))))))))))
      (pss_one (ps_ret (pv 3)))), ?_⟩
    -- the list of the digits
    refine ⟨Nat.zero_le _, fun o no => ?_⟩
    have s1 : Same H (upd H o (.lst [])) := same_upd no
    have so : (upd H o (.lst [])) o = some (.lst (([] : List Int).map V.int)) := upd_same
    have grow : ∀ (H' : Hp) (ds : List Int) (z : Int), Same H H' → H' o = some (.lst (ds.map V.int)) → Same H (upd H' o (.lst (ds.map V.int ++ [.int z]))) := fun H' ds z sm _ b x e => by
      rw [upd_ne (ne_of_none e no)]
      exact sm b x e
    have grown : ∀ (H' : Hp) (ds : List Int) (z : Int), (upd H' o (.lst (ds.map V.int ++ [.int z]))) o = some (.lst ((ds ++ [z]).map V.int)) := fun H' ds z => by
      rw [upd_same, List.map_append] <;> rfl
    have tight : ∀ n : Nat, n ≤ 3000 → n < sizeLine := fun n h => Nat.lt_of_le_of_lt h (by decide)
    -- the loop over the cells
    refine ⟨.int 0, rfl, .int 50, rfl, 0, 50, rfl, by decide, for_it walk_range (fun i σ H' => ∃ y4 y5 y6 y7 ds, σ = [some (.ref a), some (.int 0), some (.int 50), some (.ref o), y4, y5, y6, y7] ∧ Same H H' ∧ H' o = some (.lst ((ds : List Int).map V.int)) ∧ ds.length ≤ 60 * i)
      ⟨none, none, none, none, [], rfl, s1, so, Nat.le_refl _⟩ (fun _ _ _ _ _ => True.intro) (fun i x σ H1 H2 hi hP hY => ?_) (fun σ H1 hP => ?_)⟩
    · obtain ⟨y4, y5, y6, y7, ds, rfl, sm, ho, hl⟩ := hP
      obtain ⟨rfl, rfl⟩ := hY
      have hi50 : i < 50 := hi
      have ei : (0 : Int) + i = i := by omega
      -- the cell is read
      refine ⟨.ref a, rfl, .int ((0 : Int) + i), rfl, a, ns, i, by rw [ei]; rfl, sm.seq hS, fun c => ?_⟩
      -- a negative one is turned
      refine ⟨.int c, rfl, c, 0, rfl, rfl, _, rfl, ite2 (fun _ => ?_) (fun _ => ?_)⟩
      refine ⟨.int c, rfl, 2, c, rfl, rfl, .inl ⟨by decide, by decide⟩, 1, _, rfl, rfl, ?_⟩
      all_goals
        refine ⟨_, rfl, 10, 18, rfl, rfl, ⟨by decide, by decide, by decide⟩, _, _, rfl, rfl, _, rfl, ite2 (fun _ => ?_) (fun _ => ?_)⟩
        · -- the digits of a great one
          refine ⟨60, rfl, by decide, by decide, for_it walk_range (fun j σ H' => ∃ d y6 ds, σ = [some (.ref a), some (.int 0), some (.int 50), some (.ref o), some (.int ((0 : Int) + i)), some (.int d), y6, y7] ∧ Same H H' ∧ H' o = some (.lst ((ds : List Int).map V.int)) ∧ ds.length ≤ 60 * i + j)
            ⟨_, y6, ds, rfl, sm, ho, hl⟩ (fun _ _ _ _ _ => True.intro) (fun j x σ H3 H4 hj hP hY => ?_) (fun σ H3 hP => ?_)⟩
          · obtain ⟨d, y6, ds, rfl, sm, ho, hl⟩ := hP
            obtain ⟨rfl, rfl⟩ := hY
            have hj60 : j < 60 := hj
            refine ⟨.int d, rfl, d, 0, rfl, rfl, _, rfl, ite2 (fun _ => ?_) (fun _ => ?_)⟩
            · refine ⟨.ref o, rfl, .inl ⟨rfl, _, SqL.of ho⟩, .int d, rfl,   .inl ⟨d, rfl, d, 1000, rfl, rfl, (by show (0 : Int) < 1000; decide), o, _, _, rfl, rfl, ho, ?_, ?_⟩⟩
              · rw [List.length_map]; exact tight _ (by omega)
              · exact ⟨.int d, rfl, d, 1000, rfl, rfl, ⟨by decide, by decide⟩, _, _, ds ++ [d % 1000], rfl, grow _ ds _ sm ho, grown _ ds _, by rw [List.length_append]; show ds.length + 1 ≤ _; omega⟩
            · exact ⟨d, _, ds, rfl, sm, ho, by omega⟩
          · obtain ⟨d, y6, ds, rfl, sm, ho, hl⟩ := hP
            have hl' : ds.length ≤ 60 * i + 60 := hl
            exact ⟨_, _, _, _, ds, rfl, sm, ho, by omega⟩
        · -- the digits of a seed
          refine ⟨_, rfl, _, 48271, rfl, rfl, .inr ⟨by decide, by decide⟩, .int ((0 : Int) + i), rfl, (0 : Int) + i, 69621, rfl, rfl, .inr ⟨by decide, by decide⟩, _, _, rfl, rfl, _, 11, rfl, rfl, .inl ⟨_, rfl, _, 2147483647, rfl, rfl, (by show (0 : Int) < 2147483647; decide), ?_⟩⟩
          refine ⟨12, rfl, by decide, by decide, for_it walk_range (fun j σ H' => ∃ d y6 e ds, σ = [some (.ref a), some (.int 0), some (.int 50), some (.ref o), some (.int ((0 : Int) + i)), some (.int d), y6, some (.int e)] ∧ Same H H' ∧ H' o = some (.lst ((ds : List Int).map V.int)) ∧ ds.length ≤ 60 * i + j)
            ⟨_, y6, _, ds, rfl, sm, ho, hl⟩ (fun _ _ _ _ _ => True.intro) (fun j x σ H3 H4 hj hP hY => ?_) (fun σ H3 hP => ?_)⟩
          · obtain ⟨d, y6, e, ds, rfl, sm, ho, hl⟩ := hP
            obtain ⟨rfl, rfl⟩ := hY
            have hj60 : j < 12 := hj
            refine ⟨.int e, rfl, e, 16807, rfl, rfl, .inr ⟨by decide, by decide⟩, .int ((0 : Int) + j), rfl, 7, (0 : Int) + j, rfl, rfl, .inl ⟨by decide, by decide⟩, _, _, rfl, rfl, _, 1, rfl, rfl, .inl ⟨_, rfl, _, 2147483647, rfl, rfl, (by show (0 : Int) < 2147483647; decide), ?_⟩⟩
            refine ⟨.ref o, rfl, .inl ⟨rfl, _, SqL.of ho⟩, _, rfl, _, 997, rfl, rfl, ⟨by decide, by decide⟩, .inl ⟨_, rfl, _, 1000, rfl, rfl, (by show (0 : Int) < 1000; decide), o, _, _, rfl, rfl, ho, ?_, ?_⟩⟩
            · rw [List.length_map]; exact tight _ (by omega)
            · exact ⟨_, _, _, ds ++ [_], rfl, grow _ ds _ sm ho, grown _ ds _, by rw [List.length_append]; show ds.length + 1 ≤ _; omega⟩
          · obtain ⟨d, y6, e, ds, rfl, sm, ho, hl⟩ := hP
            have hl' : ds.length ≤ 60 * i + 12 := hl
            exact ⟨_, _, _, _, ds, rfl, sm, ho, by omega⟩
    · obtain ⟨y4, y5, y6, y7, ds, rfl, sm, ho, hl⟩ := hP
      exact ⟨.ref o, rfl, q H1 o ds sm no ho⟩
end
end K46

/-! words, text. -/
namespace K46
open PySem PySem.Spec PyProof.Rows L2
theorem scWords : FnScope ["_law_box", "_law_words_here", "_law_k", "_law_word", "_law_m"] ["_law_box"] (defScope sWords) := ⟨rfl, rfl, rfl, by decide +kernel, rfl, by decide +kernel, by decide +kernel⟩
theorem scText : FnScope ["_law_box", "_law_words_here", "_law_text_here", "_law_k", "_law_kind", "_law_place"] ["_law_box", "_law_words_here"] (defScope sText) := ⟨rfl, rfl, rfl, by decide +kernel, rfl, by decide +kernel, by decide +kernel⟩

/-- the signs of words -/
def isSg (c : Nat) : Prop := c ∈ ([97, 98, 99, 45] : List Nat)
theorem isSg_nosep {c : Nat} (h : isSg c) : c ≠ 32 ∧ c ≠ 10 := by
  unfold isSg at h
  simp only [List.mem_cons, List.not_mem_nil, or_false] at h
  omega
theorem sg_list : (("abc-" : Str)).cps.toList = [97, 98, 99, 45] := by decide +kernel
theorem at_in {xs : List Nat} {r : Int} (h0 : 0 ≤ r) (h1 : r < xs.length) : ∃ c, atI xs r = some c ∧ c ∈ xs := by
  obtain ⟨n, rfl⟩ := Int.eq_ofNat_of_zero_le h0
  have h2 : n < xs.length := by omega
  exact ⟨xs[n], atI_nat (by simp [h2]), List.getElem_mem h2⟩
theorem join_signs : ∀ cs : List Nat, TL.joinL [] (cs.map fun c => [c]) = cs
  | [] => rfl
  | [c] => rfl
  | c :: d :: r => by
    have ih := join_signs (d :: r)
    show [c] ++ ([] ++ TL.joinL [] ((d :: r).map fun c => [c])) = _
    rw [ih] <;> rfl
theorem join_mk (cs : List Nat) : Txt.join "" (cs.map fun c => mk [c]) = mk cs := by
  refine TL.ext_tl ?_
  rw [TL.join_eq, TL.tl_join, List.map_map]
  have e : TL.tl ("" : Str) = [] := by decide +kernel
  rw [e]
  exact join_signs cs
theorem sum_ones : ∀ cs : List Nat, ((cs.map fun c => mk [c]).map (·.length)).sum = cs.length
  | [] => rfl
  | c :: r => by
    rw [List.map_cons, List.map_cons, List.sum_cons, sum_ones r, List.length_cons]
    show 1 + r.length = r.length + 1
    omega

/-- the words so far, behind i turns -/
structure Wl (ws : List W) (i : Nat) : Prop where
  len : ws.length ≤ i
  pos : 1 ≤ i → 1 ≤ ws.length
  nd : ws.Nodup
  ne : ∀ w ∈ ws, 1 ≤ w.length
  four : ∀ w ∈ ws, w.length ≤ 4
  sg : ∀ w ∈ ws, ∀ c ∈ w, isSg c
theorem Wl.lex {ws : List W} {i : Nat} (h : Wl ws i) (h1 : 1 ≤ i) (h6 : i ≤ 6) : Lex ws :=
  ⟨h.pos h1, Nat.le_trans h.len h6, h.nd, h.ne, h.four, fun w hw c hc => isSg_nosep (h.sg w hw c hc)⟩
theorem Wl.old {ws : List W} {i : Nat} {w : W} (h : Wl ws i) (m : w ∈ ws) : Wl ws (i + 1) :=
  ⟨Nat.le_trans h.len (Nat.le_succ _), fun _ => List.length_pos_of_mem m, h.nd, h.ne, h.four, h.sg⟩
theorem Wl.new {ws : List W} {i : Nat} {w : W} (h : Wl ws i) (m : w ∉ ws) (h1 : 1 ≤ w.length) (h4 : w.length ≤ 4) (hs : ∀ c ∈ w, isSg c) : Wl (ws ++ [w]) (i + 1) := by
  have split : ∀ {Pr : W → Prop}, (∀ u ∈ ws, Pr u) → Pr w → ∀ u ∈ ws ++ [w], Pr u := fun ha hb u hu => by
    rcases List.mem_append.mp hu with hu | hu
    · exact ha u hu
    · rw [List.mem_singleton.mp hu]; exact hb
  refine ⟨?_, fun _ => ?_, ?_, split h.ne h1, split h.four h4, split h.sg hs⟩
  · rw [List.length_append]
    have := h.len
    show ws.length + 1 ≤ _
    omega
  · rw [List.length_append]
    show 1 ≤ ws.length + 1
    omega
  · refine List.nodup_append.mpr ⟨h.nd, by simp, ?_⟩
    intro x hx y hy e
    rw [e, List.mem_singleton.mp hy] at hx
    exact m hx

section
variable {P : Program} {w : World} {K : PySem.W.Frag} {mg : Str → Option Value} {base : Heap}
def spWords (K : PySem.W.Frag) : Sp := fun vs H Q _ => ∃ b dg : Addr, vs = [.ref b] ∧ Box H b dg ∧ ∀ H' p ws, SameX b H H' → Box H' b dg → H p = none → H' p = some (.tup (ws.map S)) → Lex ws → Q (.ref p) H'
theorem ok_words {f fD : Addr} {fd fdD : FuncData} {k : Nat} (F : Fun K "_law_words" "_law_words" sWords f fd) (FD : Fun K "_law_draw" "_law_draw" sDraw fD fdD) (bD : Binds K fdD ["_law_box", "_law_many"] []) (gD : mg "_law_draw" = some (.ref fD)) (ml : mg "len" = none)
    (mi : mg "int" = none) (mr : mg "range" = none) (mt : mg "tuple" = none) : FnOk P w K mg base CX0 (k + 2) f fd ["_law_box"] (spWords K) := by
  have GD : FnOk P w K mg base CX0 1 fD fdD ["_law_box", "_law_many"] (spDraw K) := ok_draw FD ml mi
  refine F.ok scWords (fun vs H Q E h => ?_) (fun cdv A outer s H vs Q E hr h => ?_)
  · obtain ⟨b, dg, rfl, _⟩ := h
    rfl
  · obtain ⟨b, dg, rfl, bx, q⟩ := h
    have hr1 : Room 1 (A.deeper (envOfC "_law_words" (defScope sWords) s.heap.objs.size f cdv)) := hr.mono (by omega)
    refine ⟨_, pss_cons (ps_set (i := 1) scWords.nd rfl (.inl rfl) (pe_lst pa_nil))
      (pss_cons (ps_for PassesOwn.never rfl (pi_range1 rfl mr (pa_cons (pe_op op_add pe_int (pe_call GD hr1 (by rfl) gD FD.kp bD .nil pass0 (pa_cons (pv 0) (pa_cons pe_int pa_nil)))) pa_nil)) (pg_name (i := 2) scWords.nd rfl (.inl rfl))
        (pss_cons (ps_set (i := 3) scWords.nd rfl (.inl rfl) (pe_join pe_str (pe_lc (own := [("_law_m", 4)]) (g := gName 4) (tt := tYes) rfl scWords.nd
            (pi_range1 rfl mr (pa_cons (pe_op op_add pe_int (pe_call GD hr1 (by rfl) gD FD.kp bD .nil pass0 (pa_cons (pv 0) (pa_cons pe_int pa_nil)))) pa_nil))
            (blkOk_by (N := ["_law_box", "_law_words_here", "_law_k", "_law_word", "_law_m"]) (sc := defScope sWords) (by decide +kernel)) (fun _ _ _ _ _ => pg_name (i := 4) scWords.nd rfl (Or.inl rfl)) (fun _ _ _ _ _ => pts_nil)
            (fun _ _ _ _ _ => pe_ix ix_str pe_str (pe_call GD hr1 (by rfl) gD FD.kp bD .nil pass0 (pa_cons (pv 0) (pa_cons pe_int pa_nil))) (fun _ _ => rfl)))))
        (pss_cons (ps_if (PW.pt (pw_and (pt_cmpR op_gt (pe_callB call_len_seq (by rfl) ml PySem.boot_len (pa_cons (pv 1) pa_nil)) pe_int (nomark _)) (pw_and1 (pt_cmpR op_eq (pe_call GD hr1 (by rfl) gD FD.kp bD .nil pass0 (pa_cons (pv 0) (pa_cons pe_int pa_nil))) pe_int (nomark _)))))
          (pss_one (ps_set (i := 3) scWords.nd rfl (.inl rfl) (pe_slice sl_str (pe_op op_add_str (pe_slice sl_str (pe_ix ix_list (pv 1) (pe_un un_neg pe_int) (fun _ _ => rfl)) po_none (po_some (pe_call GD hr1 (by rfl) gD FD.kp bD .nil pass0 (pa_cons (pv 0) (pa_cons pe_int pa_nil))))) (pv 3)) po_none (po_some pe_int)))) pss_nil)
        (pss_one (ps_if (pt_cmpR op_notIn_seq (pv 3) (pv 1) (by rfl))
          (pss_one (ps_expr (pe_bm PySem.F.plainAttrs_list PySem.F.slot_list_append PySem.F.type_list_append mt_append (pv 1) (pa_cons (pv 3) pa_nil)))) pss_nil)))))
      (pss_one (ps_ret (pe_callTy call_tuple_of (by rfl) mt PyProof.Rows.boot_tuple (pa_cons (pv 1) pa_nil))))), ?_⟩
    have small : ∀ n : Nat, n ≤ 1000 → n ≤ sizeLine := fun n h => Nat.le_trans h (by decide)
    have small' : ∀ n : Nat, n ≤ 1000 → n < sizeLine := fun n h => Nat.lt_of_le_of_lt h (by decide)
    -- the list of the words
    refine ⟨Nat.zero_le _, fun o no => ?_⟩
    have nob : o ≠ b := bx.ne no
    have nod : o ≠ dg := bx.nd no
    have s0 : Same H (upd H o (.lst [])) := same_upd no
    -- the turn's end: a new word is kept
    have tail : ∀ (ws : List W) (i : Nat) (H3 : Hp) (wd : W) (z : Str) (y2 y4 : Option V) (D : Ends), Wl ws i → ws.length ≤ 6 → z = mk wd → 1 ≤ wd.length → wd.length ≤ 4 → (∀ c ∈ wd, isSg c) → SameX b H H3 → Box H3 b dg → H3 o = some (.lst (ws.map S)) →
        (∀ σ' H', (∃ ws y2 y3 y4, σ' = [some (.ref b), some (.ref o), y2, y3, y4] ∧ SameX b H H' ∧ Box H' b dg ∧ H' o = some (.lst (ws.map S)) ∧ Wl ws (i + 1)) → D.nx σ' H') →
        tIfS (tTest (tOp (rIn K true) (tVar 3) (tVar 1))) (tDrop (tBM K "list" rAppend (tVar 1) (tCons (tVar 3) tNil))) tNext D [some (.ref b), some (.ref o), y2, some (.str z), y4] H3 := by
      intro ws i H3 wd z y2 y4 D hW h6 hz h1 h4 hs sx bx ho fin
      subst hz
      refine ⟨.str (mk wd), rfl, .ref o, rfl, o, _, rfl, .inl (SqL.of ho), rfl, flat_S ws, _, rfl, ?_⟩
      show if (!inV (S wd) (ws.map S)) = true then _ else _
      rw [inV_S]
      by_cases m : wd ∈ ws
      · rw [decide_eq_true m]
        exact iteF (fin _ _ ⟨ws, _, _, _, rfl, sx, bx, ho, hW.old m⟩)
      · rw [decide_eq_false m]
        refine iteT ⟨.ref o, rfl, .inl ⟨rfl, _, SqL.of ho⟩, .str (mk wd), rfl, o, _, _, rfl, rfl, ho, ?_, fin _ _ ⟨ws ++ [wd], _, _, _, rfl, ?_, ?_, ?_, hW.new m h1 h4 hs⟩⟩
        · rw [List.length_map]; exact small' _ (by omega)
        · exact sx.put no
        · exact bx.put nob nod
        · rw [upd_same, List.map_append] <;> rfl
    -- the loop over the words
    refine ⟨.ref b, rfl, b, dg, 6, rfl, by decide, bx.same s0, fun H1 r sx1 bx1 r0 r6 => ⟨1, r, rfl, rfl, 1 + r, rfl, by omega, by omega, for_it walk_range (fun i σ H' => ∃ ws y2 y3 y4, σ = [some (.ref b), some (.ref o), y2, y3, y4] ∧ SameX b H H' ∧ Box H' b dg ∧ H' o = some (.lst (ws.map S)) ∧ Wl ws i)
      ⟨[], none, none, none, rfl, (SameX.of s0).trans sx1, bx1, sx1 o _ nob upd_same, ⟨Nat.le_refl _, fun z => absurd z (by omega), List.nodup_nil, fun _ z => absurd z (by simp), fun _ z => absurd z (by simp), fun _ z => absurd z (by simp)⟩⟩ (fun _ _ _ _ _ => True.intro) (fun i x σ H2 H3 hi hP hY => ?_) (fun σ H2 hP => ?_)⟩⟩
    · obtain ⟨ws, y2, y3, y4, rfl, sx, bx, ho, hW⟩ := hP
      obtain ⟨rfl, rfl⟩ := hY
      have hi6 : i < 6 := by omega
      have hws : ws.length ≤ 6 := Nat.le_trans hW.len (by omega)
      -- the signs are drawn and joined
      refine ⟨⟨_, rfl⟩, .ref b, rfl, b, dg, 4, rfl, by decide, bx, fun H2 r2 sx2 bx2 g0 g4 => ⟨1, r2, rfl, rfl, 1 + r2, rfl, by omega, by omega, fun D nD => ?_⟩⟩
      have nDb : D ≠ b := bx2.ne nD
      have nDd : D ≠ dg := bx2.nd nD
      have sx2' : SameX b H H2 := sx.trans sx2
      have nDo : D ≠ o := fun e => by
        rw [e, sx2 o _ nob ho] at nD
        cases nD
      have nDH : H D = none := sx2'.free bx2 nD
      refine lc_it walk_range (fun j H' => ∃ cs : List Nat, SameX b H H' ∧ Box H' b dg ∧ H' o = some (.lst (ws.map S)) ∧ H' D = some (.lst (cs.map fun c => S [c])) ∧ cs.length = j ∧ ∀ c ∈ cs, isSg c)
        ⟨[], sx2'.put nDH, bx2.put nDb nDd, by rw [upd_ne (Ne.symm nDo)]; exact sx2 o _ nob ho, upd_same, rfl, fun _ z => absurd z (by simp)⟩ (fun _ _ _ _ => True.intro) (fun j x H3 H4 hj hP hY => ?_) (fun H3 hP => ?_)
      · obtain ⟨cs, sx, bx, ho, hD, hl, hs⟩ := hP
        obtain ⟨rfl, rfl⟩ := hY
        refine ⟨rfl, .ref b, rfl, b, dg, 4, rfl, by decide, bx, fun H4 r3 sx3 bx3 k0 k4 => ?_⟩
        obtain ⟨c, hc, hm⟩ := at_in (xs := [97, 98, 99, 45]) k0 k4
        refine ⟨_, r3, c, rfl, rfl, by decide +kernel, by rw [sg_list]; exact hc, cs.map fun c => S [c], sx3 D _ nDb hD, ?_, cs ++ [c], (sx.trans sx3).put nDH, bx3.put nDb nDd, ?_, ?_, ?_, ?_⟩
        · rw [List.length_map]; exact small' _ (by omega)
        · rw [upd_ne (Ne.symm nDo)]; exact sx3 o _ nob ho
        · rw [upd_same, List.map_append] <;> rfl
        · rw [List.length_append, hl] <;> rfl
        · intro d hd
          rcases List.mem_append.mp hd with hd | hd
          · exact hs d hd
          · rw [List.mem_singleton.mp hd]; exact hm
      · obtain ⟨cs, sx, bx, ho, hD, hl, hs⟩ := hP
        have hl4 : 1 ≤ cs.length ∧ cs.length ≤ 4 := by omega
        refine ⟨_, D, cs.map fun c => mk [c], rfl, rfl, .inl (SqL.of (by rw [List.map_map]; exact hD)), ?_, ?_⟩
        · rw [sum_ones, List.length_map]
          have e : (Str.length "") = 0 := by decide +kernel
          rw [e]; omega
        -- is an elder word's beginning put ahead?
        refine ⟨.ref o, rfl, o, _, rfl, .inl (SqL.of ho), _, 0, rfl, rfl, _, rfl, ite2 (fun e => ?_) (fun e => iteF ?_)⟩
        · have e1 := of_decide_eq_true e
          rw [List.length_map] at e1
          have hne : ws ≠ [] := fun z => by
            rw [z] at e1
            exact absurd e1 (by decide)
          refine ⟨.ref b, rfl, b, dg, 2, rfl, by decide, bx, fun H4 r4 sx4 bx4 k0 k2 => ⟨rfl, _, rfl, ite2 (fun _ => ?_) (fun _ => ?_)⟩⟩
          · -- it is put ahead, and cut
            have hlast : atI (ws.map S) (-1) = some (S (ws.getLast hne)) := by
              have h1 : ws.map S = ws.dropLast.map S ++ [S (ws.getLast hne)] := by
                rw [← List.map_singleton (f := S), ← List.map_append, List.dropLast_concat_getLast]
              rw [h1]
              exact atI_last _ _
            have ml : ws.getLast hne ∈ ws := List.getLast_mem hne
            generalize ws.getLast hne = u at hlast ml
            have hu4 := hW.four u ml
            have hus := hW.sg u ml
            refine ⟨.ref o, rfl, 1, rfl, o, _, -1, _, rfl, rfl, SqL.of (sx4 o _ nob ho), hlast, .ref b, rfl, b, dg, 4, rfl, by decide, bx4, fun H5 r5 sx5 bx5 m0 m4 => ?_⟩
            obtain ⟨n, rfl⟩ := Int.eq_ofNat_of_zero_le m0
            have ecs : Txt.join "" (cs.map fun c => mk [c]) = mk cs := join_mk cs
            refine ⟨n, rfl, mk u, rfl, by rw [len_mk]; exact small _ (by omega), .str (Txt.join "" (cs.map fun c => mk [c])), rfl, mk (u.take n), mk cs, by rw [cut_to], by rw [ecs], ?_, 4, rfl, mk (u.take n ++ cs), by rw [mk_append], ?_, ?_⟩
            · rw [len_mk, len_mk, List.length_take]; exact small _ (by omega)
            · rw [len_mk, List.length_append, List.length_take]; exact small _ (by omega)
            · have hlen : ((u.take n ++ cs).take 4).length = min 4 (min n u.length + cs.length) := by
                rw [List.length_take, List.length_append, List.length_take]
              exact tail ws i _ ((u.take n ++ cs).take 4) _ _ _ _ hW hws (cut_to _ 4) (by omega) (by omega)
                (fun c hc => (List.mem_append.mp (List.mem_of_mem_take hc)).elim (fun z => hus c (List.mem_of_mem_take z)) fun z => hs c z)
                ((sx.trans sx4).trans sx5) bx5 (sx5 o _ nob (sx4 o _ nob ho)) (fun _ _ h => h)
          · exact tail ws i _ cs _ _ _ _ hW hws (join_mk cs) hl4.1 hl4.2 hs (sx.trans sx4) bx4 (sx4 o _ nob ho) (fun _ _ h => h)
        · exact tail ws i _ cs _ _ _ _ hW hws (join_mk cs) hl4.1 hl4.2 hs sx bx ho (fun _ _ h => h)
    · obtain ⟨ws, y2, y3, y4, rfl, sx, bx, ho, hW⟩ := hP
      refine ⟨.ref o, rfl, o, _, rfl, .inl ⟨SqL.of ho, fun p np => q _ p ws (sx.put (sx.free bx np)) (bx.put (bx.ne np) (bx.nd np)) (sx.free bx np) upd_same (hW.lex (by omega) (by omega))⟩⟩
end
end K46

/-! text. -/
namespace K46
open PySem PySem.Spec PyProof.Rows L2
section
variable {P : Program} {w : World} {K : PySem.W.Frag} {mg : Str → Option Value} {base : Heap}
def spText (K : PySem.W.Frag) : Sp := fun vs H Q _ => ∃ (b dg p : Addr) (ws : List W), vs = [.ref b, .ref p] ∧ Box H b dg ∧ H p = some (.tup (ws.map S)) ∧ Lex ws ∧ ∀ H' z, SameX b H H' → Box H' b dg → z.length ≤ 100 → Q (.str z) H'
theorem ok_text {f fD : Addr} {fd fdD : FuncData} {k : Nat} (F : Fun K "_law_text" "_law_text" sText f fd) (FD : Fun K "_law_draw" "_law_draw" sDraw fD fdD) (bD : Binds K fdD ["_law_box", "_law_many"] []) (gD : mg "_law_draw" = some (.ref fD)) (ml : mg "len" = none)
    (mi : mg "int" = none) (mr : mg "range" = none) : FnOk P w K mg base CX0 (k + 2) f fd ["_law_box", "_law_words_here"] (spText K) := by
  have GD : FnOk P w K mg base CX0 1 fD fdD ["_law_box", "_law_many"] (spDraw K) := ok_draw FD ml mi
  refine F.ok scText (fun vs H Q E h => ?_) (fun cdv A outer s H vs Q E hr h => ?_)
  · obtain ⟨b, dg, p, ws, rfl, _⟩ := h
    rfl
  · obtain ⟨b, dg, p, ws, rfl, bx, hp, L, q⟩ := h
    have hr1 : Room 1 (A.deeper (envOfC "_law_text" (defScope sText) s.heap.objs.size f cdv)) := hr.mono (by omega)
    refine ⟨_, pss_cons (ps_set (i := 2) scText.nd rfl (.inl rfl) pe_str)
      (pss_cons (ps_for PassesOwn.never rfl (pi_range1 rfl mr (pa_cons (pe_call GD hr1 (by rfl) gD FD.kp bD .nil pass0 (pa_cons (pv 0) (pa_cons pe_int pa_nil))) pa_nil)) (pg_name (i := 3) scText.nd rfl (.inl rfl))
        (pss_cons (ps_if (pt_cmpR op_gt (pv 3) pe_int (nomark _))
          (pss_one (ps_set (i := 2) scText.nd rfl (.inl rfl) (pe_op op_add_str (pv 2) (pe_ix ix_str pe_str (pe_call GD hr1 (by rfl) gD FD.kp bD .nil pass0 (pa_cons (pv 0) (pa_cons pe_int pa_nil))) (fun _ _ => rfl))))) pss_nil)
        (pss_one (ps_set (i := 2) scText.nd rfl (.inl rfl) (pe_op op_add_str (pv 2) (pe_ix ix_tup (pv 1) (pe_call GD hr1 (by rfl) gD FD.kp bD .nil pass0 (pa_cons (pv 0) (pa_cons (pe_callB call_len_seq (by rfl) ml PySem.boot_len (pa_cons (pv 1) pa_nil)) pa_nil))) (fun _ _ => rfl)))))))
      (pss_cons (ps_set (i := 4) scText.nd rfl (.inl rfl) (pe_call GD hr1 (by rfl) gD FD.kp bD .nil pass0 (pa_cons (pv 0) (pa_cons pe_int pa_nil))))
      (pss_cons (ps_set (i := 5) scText.nd rfl (.inl rfl) (pe_call GD hr1 (by rfl) gD FD.kp bD .nil pass0 (pa_cons (pv 0) (pa_cons (pe_op op_add (pe_callB call_len_str (by rfl) ml PySem.boot_len (pa_cons (pv 2) pa_nil)) pe_int) pa_nil))))
      (pss_cons (ps_if (pt_cmpR op_eq (pv 4) pe_int (nomark _)) (pss_one (ps_ret (pe_op op_add_str (pe_op op_add_str (pe_slice sl_str (pv 2) po_none (po_some (pv 5))) (pe_ix ix_str pe_str (pe_call GD hr1 (by rfl) gD FD.kp bD .nil pass0 (pa_cons (pv 0) (pa_cons pe_int pa_nil))) (fun _ _ => rfl))) (pe_slice sl_str (pv 2) (po_some (pv 5)) po_none)))) pss_nil)
      (pss_cons (ps_if (pt_cmpR op_eq (pv 4) pe_int (nomark _)) (pss_one (ps_ret (pe_op op_add_str (pe_slice sl_str (pv 2) po_none (po_some (pv 5))) (pe_slice sl_str (pv 2) (po_some (pe_op op_add (pv 5) pe_int)) po_none)))) pss_nil)
      (pss_cons (ps_if (pt_cmpR op_eq (pv 4) pe_int (nomark _)) (pss_one (ps_ret (pe_op op_add_str (pe_op op_add_str (pe_slice sl_str (pv 2) po_none (po_some (pv 5))) (pe_slice sl_str (pv 2) (po_some (pv 5)) (po_some (pe_op op_add (pv 5) pe_int)))) (pe_slice sl_str (pv 2) (po_some (pv 5)) po_none)))) pss_nil)
      (pss_cons (ps_if (pt_cmpR op_eq (pv 4) pe_int (nomark _)) (pss_one (ps_ret (pe_op op_add_str (pv 2) pe_str))) pss_nil)
      (pss_one (ps_ret (pv 2)))))))))), ?_⟩
    have small : ∀ n : Nat, n ≤ 1000 → n ≤ sizeLine := fun n h => Nat.le_trans h (by decide)
    have npb : p ≠ b := by
      obtain ⟨ns, n, hb, _⟩ := bx
      exact ne_of hp hb (by intro z; cases z)
    have lapp : ∀ x y : Str, (x ++ y).length = x.length + y.length := Str.length_append
    have l1 : ∀ c : Nat, (Str.mk #[c]).length = 1 := fun _ => rfl
    have hcut : ∀ (z : Str) lo hi, (cutS z lo hi).length ≤ z.length := cutS_length
    -- the loop over the words of the text
    refine ⟨.ref b, rfl, b, dg, 5, rfl, by decide, bx, fun H1 r sx1 bx1 r0 r5 => ⟨r, rfl, by omega, by omega, for_it walk_range (fun i σ H' => ∃ z y3 y4 y5, σ = [some (.ref b), some (.ref p), some (.str z), y3, y4, y5] ∧ SameX b H H' ∧ Box H' b dg ∧ z.length ≤ 5 * i)
      ⟨"", none, none, none, rfl, sx1, bx1, by decide +kernel⟩ (fun _ _ _ _ _ => True.intro) (fun i x σ H2 H3 hi hP hY => ?_) (fun σ H2 hP => ?_)⟩⟩
    · obtain ⟨z, y3, y4, y5, rfl, sx, bx, hz⟩ := hP
      obtain ⟨rfl, rfl⟩ := hY
      have hi5 : i < 5 := by omega
      -- the word
      have tail : ∀ (H3 : Hp) (z : Str) (D : Ends) (y3 y4 y5 : Option V), SameX b H H3 → Box H3 b dg → z.length ≤ 5 * i + 1 →
          (∀ σ' H', (∃ z y3 y4 y5, σ' = [some (.ref b), some (.ref p), some (.str z), y3, y4, y5] ∧ SameX b H H' ∧ Box H' b dg ∧ z.length ≤ 5 * (i + 1)) → D.nx σ' H') →
          tAsg (tOp (fun x y H Q => ∃ i j, x = .str i ∧ y = .str j ∧ i.length + j.length ≤ sizeLine ∧ Q (.str (i ++ j)) H) (tVar 2) (tOp (rIxT K) (tVar 1) (tCall (spDraw K) [] E0 (tCons (tVar 0) (tCons (tCB (fun xs H Q => ∃ p ys, xs = [.ref p] ∧ (SqL K H p ys ∨ SqT K H p ys) ∧ Q (.int ys.length) H) (tCons (tVar 1) tNil)) tNil))))) (gName 2) D [some (.ref b), some (.ref p), some (.str z), y3, y4, y5] H3 := by
        intro H3 z D y3 y4 y5 sx bx hz fin
        have hp3 : H3 p = some (.tup (ws.map S)) := sx p _ npb hp
        have hpos := L.pos
        refine ⟨.str z, rfl, .ref p, rfl, .ref b, rfl, .ref p, rfl, p, _, rfl, .inr (SqT.of hp3), b, dg, _, rfl, by rw [List.length_map]; omega, bx, fun H4 r sx4 bx4 r0 r1 => ?_⟩
        rw [List.length_map] at r1
        obtain ⟨n, rfl⟩ := Int.eq_ofNat_of_zero_le r0
        have hn : n < ws.length := by omega
        have h4 := L.four ws[n] (List.getElem_mem hn)
        refine ⟨p, _, n, S ws[n], rfl, rfl, SqT.of (sx4 p _ npb hp3), atI_nat (by simp [hn]), z, mk ws[n], rfl, rfl, by rw [len_mk ws[n]]; exact small _ (by omega), ?_⟩
        exact fin _ _ ⟨z ++ mk ws[n], _, _, _, rfl, sx.trans sx4, bx4, by rw [lapp, len_mk ws[n]]; omega⟩
      refine ⟨_, rfl, _, 0, rfl, rfl, _, rfl, ite2 (fun _ => ?_) (fun _ => ?_)⟩
      · refine ⟨.str z, rfl, .ref b, rfl, b, dg, 2, rfl, by decide, bx, fun H4 r sx4 bx4 r0 r1 => ?_⟩
        obtain ⟨c, hc, _⟩ := at_in (xs := ((" \n" : Str)).cps.toList) r0 (by rw [show ((" \n" : Str)).cps.toList.length = 2 by decide +kernel]; exact r1)
        refine ⟨_, r, c, rfl, rfl, by decide +kernel, hc, z, Str.mk #[c], rfl, rfl, by rw [l1]; exact small _ (by omega), ?_⟩
        exact tail _ _ _ _ _ _ (sx.trans sx4) bx4 (by rw [lapp, l1]; omega) (fun _ _ h => h)
      · exact tail _ _ _ _ _ _ sx bx (by omega) (fun _ _ h => h)
    · obtain ⟨z, y3, y4, y5, rfl, sx, bx, hz⟩ := hP
      have hz25 : z.length ≤ 25 := by omega
      have hzs : z.length ≤ sizeLine := small _ (by omega)
      -- kind, place
      refine ⟨.ref b, rfl, b, dg, 8, rfl, by decide, bx, fun H3 kd sx3 bx3 _ _ => ?_⟩
      refine ⟨.ref b, rfl, .str z, rfl, z, rfl, hzs, _, 1, rfl, rfl, b, dg, _, rfl, by omega, bx3, fun H4 pl sx4 bx4 _ _ => ?_⟩
      have sx5 : SameX b H H4 := (sx.trans sx3).trans sx4
      have c1 := hcut z none (some pl)
      have c2 := hcut z (some pl) none
      have c3 := hcut z (some (pl + 1)) none
      have c4 := hcut z (some pl) (some (pl + 1))
      refine ⟨.int kd, rfl, rfl, _, rfl, ite2 (fun _ => ?_) (fun _ => ?_)⟩
      · refine ⟨.str z, rfl, .int pl, rfl, pl, rfl, z, rfl, hzs, .ref b, rfl, b, dg, 5, rfl, by decide, bx4, fun H5 r sx6 bx6 r0 r1 => ?_⟩
        obtain ⟨c, hc, _⟩ := at_in (xs := (("ab \n-" : Str)).cps.toList) r0 (by rw [show ((("ab \n-" : Str)).cps.toList).length = 5 by decide +kernel]; exact r1)
        refine ⟨_, r, c, rfl, rfl, by decide +kernel, hc, _, _, rfl, rfl, by rw [l1]; exact small _ (by omega), .str z, rfl, .int pl, rfl, pl, rfl, z, rfl, hzs, _, _, rfl, rfl, by rw [lapp, l1]; exact small _ (by omega), ?_⟩
        exact q _ _ (sx5.trans sx6) bx6 (by rw [lapp, lapp, l1]; omega)
      refine ⟨.int kd, rfl, rfl, _, rfl, ite2 (fun _ => ?_) (fun _ => ?_)⟩
      · refine ⟨.str z, rfl, .int pl, rfl, pl, rfl, z, rfl, hzs, .str z, rfl, .int pl, rfl, pl, 1, rfl, rfl, pl + 1, rfl, z, rfl, hzs, _, _, rfl, rfl, small _ (by omega), ?_⟩
        exact q _ _ sx5 bx4 (by rw [lapp]; omega)
      refine ⟨.int kd, rfl, rfl, _, rfl, ite2 (fun _ => ?_) (fun _ => ?_)⟩
      · refine ⟨.str z, rfl, .int pl, rfl, pl, rfl, z, rfl, hzs, .str z, rfl, .int pl, rfl, pl, rfl, .int pl, rfl, pl, 1, rfl, rfl, pl + 1, rfl, z, rfl, hzs, _, _, rfl, rfl, small _ (by omega), .str z, rfl, .int pl, rfl, pl, rfl, z, rfl, hzs, _, _, rfl, rfl, by rw [lapp]; exact small _ (by omega), ?_⟩
        exact q _ _ sx5 bx4 (by rw [lapp, lapp]; omega)
      refine ⟨.int kd, rfl, rfl, _, rfl, ite2 (fun _ => ?_) (fun _ => ?_)⟩
      · have l2 : (Str.length " ") = 1 := by decide +kernel
        refine ⟨.str z, rfl, z, " ", rfl, rfl, by rw [l2]; exact small _ (by omega), ?_⟩
        exact q _ _ sx5 bx4 (by rw [lapp, l2]; omega)
      exact ⟨.str z, rfl, q _ _ sx5 bx4 (by omega)⟩
end
end K46

/-! check_words, beginnings. -/
namespace K46
open PySem PySem.Spec PyProof.Rows L2
theorem scCheck : FnScope ["words", "known", "word"] ["words"] (defScope sCheck) := ⟨rfl, rfl, rfl, by decide +kernel, rfl, by decide +kernel, by decide +kernel⟩
theorem scBegs : FnScope ["words", "found", "word", "size"] ["words"] (defScope sBegs) := ⟨rfl, rfl, rfl, by decide +kernel, rfl, by decide +kernel, by decide +kernel⟩
theorem iteN {c : Bool} {A B : Prop} (h : c = false) (b : B) : if c = true then A else B := by
  rw [h]
  exact iteF b
theorem take_in {ws : List W} {i : Nat} (hi : i < ws.length) : ws.take (i + 1) = ws.take i ++ [ws[i]] := by
  rw [List.take_add_one, List.getElem?_eq_getElem hi] <;> rfl
theorem not_before {ws : List W} (nd : ws.Nodup) {i : Nat} (hi : i < ws.length) : ws[i] ∉ ws.take i := fun h => by
  obtain ⟨j, hj, e⟩ := List.getElem_of_mem h
  have hj2 : j < i := by
    rw [List.length_take] at hj
    omega
  have e2 : ws[j]? = some ws[i] := by
    rw [← e, List.getElem_take, List.getElem?_eq_getElem (by omega)]
  have := nd_ix nd e2 (List.getElem?_eq_getElem hi)
  omega
theorem at_map {ws : List W} {i : Nat} {x : V} (h : (ws.map S)[i]? = some x) : ∃ hi : i < ws.length, x = S ws[i] := by
  have hi : i < ws.length := by
    have := (List.getElem?_eq_some_iff.mp h).1
    rw [List.length_map] at this
    exact this
  refine ⟨hi, ?_⟩
  rw [List.getElem?_map, List.getElem?_eq_getElem hi] at h
  exact (Option.some.inj h).symm
theorem e32 : (V.str " ") = S [32] := by decide +kernel
theorem e10 : (V.str "\n") = S [10] := by decide +kernel
section
variable {P : Program} {w : World} {K : PySem.W.Frag} {mg : Str → Option Value} {base : Heap}
def spCheck (K : PySem.W.Frag) : Sp := fun vs H Q _ => ∃ (p : Addr) (ws : List W), vs = [.ref p] ∧ H p = some (.tup (ws.map S)) ∧ Lex ws ∧ ∀ H', Same H H' → Q .non H'
theorem ok_check {f : Addr} {fd : FuncData} {k : Nat} {t1 t2 : Tok} (F : Fun K "check_words" "check_words" sCheck f fd) (ml : mg "len" = none) (g1 : mg "WORDS_MOST" = some (.int 20 t1)) (g2 : mg "WORD_MOST" = some (.int 10 t2)) : FnOk P w K mg base CX0 (k + 1) f fd ["words"] (spCheck K) := by
  refine F.ok scCheck (fun vs H Q E h => ?_) (fun cdv A outer s H vs Q E hr h => ?_)
  · obtain ⟨p, ws, rfl, _⟩ := h
    rfl
  · obtain ⟨p, ws, rfl, hp, L, q⟩ := h
    refine ⟨_, pss_cons (ps_if (PW.pt (pw_or (pt_cmpR op_lt (pe_callB call_len_seq (by rfl) ml PySem.boot_len (pa_cons (pv 0) pa_nil)) pe_int (nomark _)) (pw_or1 (pt_cmpR op_gt (pe_callB call_len_seq (by rfl) ml PySem.boot_len (pa_cons (pv 0) pa_nil)) (pe_glob (v := .int 20) rfl g1 ⟨_, rfl⟩) (nomark _))))) pss_never pss_nil)
      (pss_cons (ps_set (i := 1) scCheck.nd rfl (.inl rfl) (pe_lst pa_nil))
      (pss_one (ps_for PassesOwn.never rfl (pi_tup (pv 0)) (pg_name (i := 2) scCheck.nd rfl (.inl rfl))
        (pss_cons (ps_if (PW.pt (pw_or (pt_cmpR op_lt (pe_callB call_len_str (by rfl) ml PySem.boot_len (pa_cons (pv 2) pa_nil)) pe_int (nomark _))
            (pw_or (pt_cmpR op_gt (pe_callB call_len_str (by rfl) ml PySem.boot_len (pa_cons (pv 2) pa_nil)) (pe_glob (v := .int 10) rfl g2 ⟨_, rfl⟩) (nomark _))
            (pw_or (pt_cmpR op_in_sign pe_str (pv 2) (by rfl)) (pw_or (pt_cmpR op_in_sign pe_str (pv 2) (by rfl)) (pw_or1 (pt_cmpR op_in_seq (pv 2) (pv 1) (by rfl)))))))) pss_never pss_nil)
        (pss_one (ps_expr (pe_bm PySem.F.plainAttrs_list PySem.F.slot_list_append PySem.F.type_list_append mt_append (pv 1) (pa_cons (pv 2) pa_nil)))))))), ?_⟩
    have small : ∀ n : Nat, n ≤ 1000 → n ≤ sizeLine := fun n h => Nat.le_trans h (by decide)
    have small' : ∀ n : Nat, n ≤ 1000 → n < sizeLine := fun n h => Nat.lt_of_le_of_lt h (by decide)
    have hpos := L.pos
    have hsix := L.six
    have hlen : (ws.map S).length = ws.length := List.length_map _
    -- their number is right
    refine ⟨.ref p, rfl, p, _, rfl, .inr (SqT.of hp), _, 1, rfl, rfl, _, rfl, iteN (decide_eq_false (by omega)) ?_⟩
    refine ⟨.ref p, rfl, p, _, rfl, .inr (SqT.of hp), _, 20, rfl, rfl, _, rfl, iteN (decide_eq_false (by omega)) ?_⟩
    -- the list of the known ones
    refine ⟨Nat.zero_le _, fun o no => ?_⟩
    have s0 : Same H (upd H o (.lst [])) := same_upd no
    refine ⟨.ref p, rfl, p, rfl, ⟨_, SqT.of (s0 _ _ hp)⟩, for_it (walk_tup (xs := ws.map S)) (fun i σ H' => ∃ y2, σ = [some (.ref p), some (.ref o), y2] ∧ Same H H' ∧ H' o = some (.lst ((ws.take i).map S)))
      ⟨none, rfl, s0, upd_same⟩ (fun i σ H' _ hP => ?_) (fun i x σ H2 H3 hi hP hY => ?_) (fun σ H2 hP => ?_)⟩
    · obtain ⟨_, _, sm, _⟩ := hP
      exact SqT.of (sm _ _ hp)
    · obtain ⟨y2, rfl, sm, ho⟩ := hP
      obtain ⟨rfl, hx⟩ := hY
      obtain ⟨hi, rfl⟩ := at_map hx
      have mw : ws[i] ∈ ws := List.getElem_mem hi
      have l1 := L.ne _ mw
      have l4 := L.four _ mw
      have lns := L.nosep _ mw
      have nb := not_before L.nd hi
      have ti := take_in hi
      generalize ws[i] = u at mw l1 l4 lns nb ti
      have lu : (mk u).length = u.length := len_mk u
      refine ⟨S u, rfl, mk u, rfl, small _ (by omega), _, 1, rfl, rfl, _, rfl, iteN (decide_eq_false (by omega)) ?_⟩
      refine ⟨S u, rfl, mk u, rfl, small _ (by omega), _, 10, rfl, rfl, _, rfl, iteN (decide_eq_false (by omega)) ?_⟩
      refine ⟨S u, rfl, 32, mk u, e32, rfl, _, rfl, iteN (decide_eq_false (fun h => (lns 32 h).1 rfl)) ?_⟩
      refine ⟨S u, rfl, 10, mk u, e10, rfl, _, rfl, iteN (decide_eq_false (fun h => (lns 10 h).2 rfl)) ?_⟩
      refine ⟨S u, rfl, .ref o, rfl, o, _, rfl, .inl (SqL.of ho), rfl, flat_S _, _, rfl, iteN (by show inV (S u) _ = false; rw [inV_S]; exact decide_eq_false nb) ?_⟩
      -- the word is noted
      refine ⟨.ref o, rfl, .inl ⟨rfl, _, SqL.of ho⟩, S u, rfl, o, _, _, rfl, rfl, ho, ?_, ?_⟩
      · rw [List.length_map, List.length_take]; exact small' _ (by omega)
      · refine ⟨_, rfl, fun c v e => ?_, ?_⟩
        · rw [upd_ne (ne_of_none e no)]; exact sm c v e
        · rw [upd_same, ti, List.map_append] <;> rfl
    · obtain ⟨y2, rfl, sm, ho⟩ := hP
      exact q _ sm
def spBegs (K : PySem.W.Frag) : Sp := fun vs H Q _ => ∃ (p : Addr) (ws : List W), vs = [.ref p] ∧ H p = some (.tup (ws.map S)) ∧ Lex ws ∧ ∀ H' o, Same H H' → H o = none → H' o = some (.lst ((found ws).map S)) → Q (.ref o) H'
theorem ok_begs {f : Addr} {fd : FuncData} {k : Nat} (F : Fun K "beginnings" "beginnings" sBegs f fd) (ml : mg "len" = none) (mr : mg "range" = none) : FnOk P w K mg base CX0 (k + 1) f fd ["words"] (spBegs K) := by
  refine F.ok scBegs (fun vs H Q E h => ?_) (fun cdv A outer s H vs Q E hr h => ?_)
  · obtain ⟨p, ws, rfl, _⟩ := h
    rfl
  · obtain ⟨p, ws, rfl, hp, L, q⟩ := h
    refine ⟨_, pss_cons (ps_set (i := 1) scBegs.nd rfl (.inl rfl) (pe_lst pa_nil))
      (pss_cons (ps_for PassesOwn.never rfl (pi_tup (pv 0)) (pg_name (i := 2) scBegs.nd rfl (.inl rfl))
        (pss_one (ps_for PassesOwn.never rfl (pi_range2 rfl mr (pa_cons pe_int (pa_cons (pe_op op_add (pe_callB call_len_str (by rfl) ml PySem.boot_len (pa_cons (pv 2) pa_nil)) pe_int) pa_nil))) (pg_name (i := 3) scBegs.nd rfl (.inl rfl))
          (pss_one (ps_if (pt_cmpR op_notIn_seq (pe_slice sl_str (pv 2) po_none (po_some (pv 3))) (pv 1) (by rfl))
            (pss_one (ps_expr (pe_bm PySem.F.plainAttrs_list PySem.F.slot_list_append PySem.F.type_list_append mt_append (pv 1) (pa_cons (pe_slice sl_str (pv 2) po_none (po_some (pv 3))) pa_nil)))) pss_nil)))))
      (pss_one (ps_ret (pv 1)))), ?_⟩
    have small : ∀ n : Nat, n ≤ 1000 → n ≤ sizeLine := fun n h => Nat.le_trans h (by decide)
    have small' : ∀ n : Nat, n ≤ 1000 → n < sizeLine := fun n h => Nat.lt_of_le_of_lt h (by decide)
    have hsix := L.six
    -- the list is made
    refine ⟨Nat.zero_le _, fun o no => ?_⟩
    have s0 : Same H (upd H o (.lst [])) := same_upd no
    refine ⟨.ref p, rfl, p, rfl, ⟨_, SqT.of (s0 _ _ hp)⟩, for_it (walk_tup (xs := ws.map S)) (fun i σ H' => ∃ y2 y3, σ = [some (.ref p), some (.ref o), y2, y3] ∧ Same H H' ∧ H' o = some (.lst ((begs [] (ws.take i)).map S)))
      ⟨none, none, rfl, s0, upd_same⟩ (fun i σ H' _ hP => ?_) (fun i x σ H2 H3 hi hP hY => ?_) (fun σ H2 hP => ?_)⟩
    · obtain ⟨_, _, _, sm, _⟩ := hP
      exact SqT.of (sm _ _ hp)
    · obtain ⟨y2, y3, rfl, sm, ho⟩ := hP
      obtain ⟨rfl, hx⟩ := hY
      obtain ⟨hi, rfl⟩ := at_map hx
      have mw : ws[i] ∈ ws := List.getElem_mem hi
      have l4 := L.four _ mw
      have ti := take_in hi
      generalize ws[i] = u at mw l4 ti
      have lu : (mk u).length = u.length := len_mk u
      have hb : (begs [] (ws.take i)).length ≤ 24 := by
        have h1 := len_begs (ws := ws.take i) (f := []) fun w hw => L.four w (List.mem_of_mem_take hw)
        rw [List.length_take, List.length_nil] at h1
        omega
      -- the loop over the sizes
      refine ⟨S u, rfl, mk u, rfl, small _ (by omega), _, 1, rfl, rfl, 1, _, rfl, ⟨by decide, by decide, by omega, by omega⟩, for_it walk_range (fun j σ H' => ∃ y3, σ = [some (.ref p), some (.ref o), some (S u), y3] ∧ Same H H' ∧ H' o = some (.lst ((begW (begs [] (ws.take i)) u j).map S)))
        ⟨y3, rfl, sm, ho⟩ (fun _ _ _ _ _ => True.intro) (fun j x σ H4 H5 hj hP hY => ?_) (fun σ H4 hP => ?_)⟩
      · obtain ⟨y3, rfl, sm, ho⟩ := hP
        obtain ⟨rfl, rfl⟩ := hY
        have hj4 : j < 4 := by omega
        have ej : (1 : Int) + j = ((j + 1 : Nat) : Int) := by omega
        have ec : cutS (mk u) none (some ((1 : Int) + j)) = mk (u.take (j + 1)) := by rw [ej]; exact cut_to u (j + 1)
        have ec2 : V.str (cutS (mk u) none (some ((1 : Int) + j))) = S (u.take (j + 1)) := congrArg V.str ec
        have hl := len_begW (f := begs [] (ws.take i)) (w := u) j
        refine ⟨S u, rfl, .int ((1 : Int) + j), rfl, (1 : Int) + j, rfl, mk u, rfl, small _ (by omega), .ref o, rfl, o, _, rfl, .inl (SqL.of ho), rfl, flat_S _, _, rfl, ?_⟩
        show if (!inV (V.str (cutS (mk u) none (some ((1 : Int) + j)))) _) = true then _ else _
        rw [ec2, inV_S]
        by_cases m : u.take (j + 1) ∈ begW (begs [] (ws.take i)) u j
        · rw [decide_eq_true m]
          refine iteF ⟨_, rfl, sm, ?_⟩
          show _ = some (HO.lst ((addB (begW (begs [] (ws.take i)) u j) (u.take (j + 1))).map S))
          unfold addB
          rw [if_pos m]
          exact ho
        · rw [decide_eq_false m]
          refine iteT ⟨.ref o, rfl, .inl ⟨rfl, _, SqL.of ho⟩, S u, rfl, .int ((1 : Int) + j), rfl, (1 : Int) + j, rfl, mk u, rfl, small _ (by omega), o, _, _, rfl, rfl, ho, ?_, ?_⟩
          · rw [List.length_map]; exact small' _ (by omega)
          · refine ⟨_, rfl, fun c v e => ?_, ?_⟩
            · rw [upd_ne (ne_of_none e no)]; exact sm c v e
            · show _ = some (HO.lst ((addB (begW (begs [] (ws.take i)) u j) (u.take (j + 1))).map S))
              unfold addB
              rw [upd_same, if_neg m, List.map_append, ec2] <;> rfl
      · obtain ⟨y3, rfl, sm, ho⟩ := hP
        refine ⟨_, _, rfl, sm, ?_⟩
        have en : ((((mk u).length : Nat) : Int) + 1 - 1).toNat = u.length := by omega
        have ho' : H4 o = some (HO.lst ((begW (begs [] (ws.take i)) u ((((mk u).length : Nat) : Int) + 1 - 1).toNat).map S)) := ho
        rw [en] at ho'
        rw [ho', ti, begs_snoc]
    · obtain ⟨y2, y3, rfl, sm, ho⟩ := hP
      have ho' : H2 o = some (.lst ((begs [] (ws.take (ws.map S).length)).map S)) := ho
      rw [List.length_map, List.take_length] at ho'
      exact ⟨.ref o, rfl, q _ o sm no ho'⟩
end
end K46

/-! lexicon. -/
namespace K46
open PySem PySem.Spec PyProof.Rows L2
theorem scLexicon : FnScope ["words", "found", "beginning", "ends", "moves", "at"] ["words"] (defScope sLexicon) := ⟨rfl, rfl, rfl, by decide +kernel, rfl, by decide +kernel, by decide +kernel⟩
/-- a move as it stands -/
def mvO (k : Mv) : HO := .tup [.int k.1, S k.2.1, .int k.2.2]
def dec (H : Hp) : V → Mv
  | .ref a => match H a with
    | some (.tup [.int i, .str c, .int j]) => (i, c.cps.toList, j)
    | _ => (0, [], 0)
  | _ => (0, [], 0)
theorem dec_at {H : Hp} {t : Addr} {k : Mv} (h : H t = some (mvO k)) : dec H (.ref t) = k := by
  unfold dec
  simp only [h, mvO]
/-- the machine of a lexicon as it stands -/
def Mach (H : Hp) (m : Addr) (ws : List W) : Prop := ∃ (e mv : Addr) (ys : List V) (g : V → Mv), H m = some (.tup [.ref e, .ref mv]) ∧ H e = some (.tup ((ends ws).map V.bl)) ∧ H mv = some (.tup ys) ∧ (∀ y ∈ ys, ∃ t, y = .ref t ∧ H t = some (mvO (g y))) ∧ (ys.map g).Perm (moves ws)
/-- the list of the moves while it is built -/
structure MvIn (B : Hp) (mo : Addr) (H : Hp) (ks : List Mv) : Prop where
  same : Same B H
  ex : ∃ kt : List (Addr × Mv), H mo = some (.lst (kt.map fun q => V.ref q.1)) ∧ kt.map (·.2) = ks ∧ ∀ q ∈ kt, H q.1 = some (mvO q.2)
theorem MvIn.list {B : Hp} {mo : Addr} {H : Hp} {ks : List Mv} (h : MvIn B mo H ks) : ∃ xs, H mo = some (.lst xs) ∧ xs.length = ks.length := by
  obtain ⟨kt, h1, h2, _⟩ := h.ex
  exact ⟨_, h1, by rw [List.length_map, ← h2, List.length_map]⟩
theorem MvIn.grow {B : Hp} {mo T : Addr} {H : Hp} {ks : List Mv} {o : HO} (h : MvIn B mo H ks) (n : H T = none) : MvIn B mo (upd H T o) ks := by
  obtain ⟨kt, h1, h2, h3⟩ := h.ex
  have s := same_upd (o := o) n
  exact ⟨h.same.trans s, kt, s _ _ h1, h2, fun q hq => s _ _ (h3 q hq)⟩
theorem MvIn.push {B : Hp} {mo T : Addr} {H : Hp} {ks : List Mv} {o : HO} {k : Mv} {xs : List V} (h : MvIn B mo H ks) (nB : B mo = none) (n : H T = none) (ho : o = mvO k) (hx : (upd H T o) mo = some (.lst xs)) : MvIn B mo (upd (upd H T o) mo (.lst (xs ++ [.ref T]))) (ks ++ [k]) := by
  subst ho
  have g := h.grow (o := mvO k) n
  obtain ⟨kt, h1, h2, h3⟩ := g.ex
  rw [hx] at h1
  have e := HO.lst.inj (Option.some.inj h1)
  subst e
  have nT : T ≠ mo := fun e => by
    rw [e, upd_same] at hx
    have hx2 : mvO k = .lst (kt.map fun q => V.ref q.1) := Option.some.inj hx
    cases hx2
  refine ⟨fun c v hc => ?_, kt ++ [(T, k)], ?_, ?_, fun q hq => ?_⟩
  · rw [upd_ne (ne_of_none hc nB)]; exact g.same c v hc
  · rw [upd_same, List.map_append] <;> rfl
  · rw [List.map_append, h2] <;> rfl
  · have ne : ∀ a o, (upd H T (mvO k)) a = some (mvO o) → a ≠ mo := fun a o z e => by
      rw [e, hx] at z
      have z2 : (.lst (kt.map fun q => V.ref q.1) : HO) = mvO o := Option.some.inj z
      cases z2
    rcases List.mem_append.mp hq with hq | hq
    · rw [upd_ne (ne _ _ (h3 q hq))]; exact h3 q hq
    · rw [List.mem_singleton.mp hq]
      show upd (upd H T (mvO k)) mo _ T = _
      rw [upd_ne nT, upd_same]
theorem cut_init (b : W) (h : b ≠ []) : cutS (mk b) none (some (-1)) = mk b.dropLast := by
  unfold cutS
  rw [HT.sIx_none, len_mk]
  have hl := List.length_pos_iff.mpr h
  have e : HT.sIx b.length b.length (some (-1)) = b.length - 1 := by
    show (if (-1 : Int) < 0 then ((-1 : Int) + (b.length : Int)).toNat else min (-1 : Int).toNat b.length) = _
    rw [if_pos (by decide)]
    omega
  rw [e]
  show mk ((b.drop 0).take (b.length - 1 - 0)) = _
  rw [List.drop_zero, Nat.sub_zero, List.dropLast_eq_take]
section
variable {P : Program} {w : World} {K : PySem.W.Frag} {mg : Str → Option Value} {base : Heap}
def spLexicon (K : PySem.W.Frag) : Sp := fun vs H Q _ => ∃ (p : Addr) (ws : List W), vs = [.ref p] ∧ H p = some (.tup (ws.map S)) ∧ Lex ws ∧ ∀ H' m, Same H H' → Mach H' m ws → Q (.ref m) H'
theorem ok_lexicon {f fK fB : Addr} {fd fdK fdB : FuncData} {k : Nat} {t1 t2 : Tok} (F : Fun K "lexicon" "lexicon" sLexicon f fd) (FK : Fun K "check_words" "check_words" sCheck fK fdK) (FB : Fun K "beginnings" "beginnings" sBegs fB fdB) (bK : Binds K fdK ["words"] []) (bB : Binds K fdB ["words"] [])
    (gK : mg "check_words" = some (.ref fK)) (gB : mg "beginnings" = some (.ref fB)) (ml : mg "len" = none) (mr : mg "range" = none) (me : mg "enumerate" = none) (mt : mg "tuple" = none) (ms : mg "sorted" = none) (g1 : mg "WORDS_MOST" = some (.int 20 t1)) (g2 : mg "WORD_MOST" = some (.int 10 t2)) :
    FnOk P w K mg base CX0 (k + 2) f fd ["words"] (spLexicon K) := by
  have GK : FnOk P w K mg base CX0 1 fK fdK ["words"] (spCheck K) := ok_check FK ml g1 g2
  have GB : FnOk P w K mg base CX0 1 fB fdB ["words"] (spBegs K) := ok_begs FB ml mr
  refine F.ok scLexicon (fun vs H Q E h => ?_) (fun cdv A outer s H vs Q E hr h => ?_)
  · obtain ⟨p, ws, rfl, _⟩ := h
    rfl
  · obtain ⟨p, ws, rfl, hp, L, q⟩ := h
    have hr1 : Room 1 (A.deeper (envOfC "lexicon" (defScope sLexicon) s.heap.objs.size f cdv)) := hr.mono (by omega)
    refine ⟨_, pss_cons (ps_expr (pe_call GK hr1 (by rfl) gK FK.kp bK .nil pass0 (pa_cons (pv 0) pa_nil)))
      (pss_cons (ps_set (i := 1) scLexicon.nd rfl (.inl rfl) (pe_call GB hr1 (by rfl) gB FB.kp bB .nil pass0 (pa_cons (pv 0) pa_nil)))
      (pss_cons (ps_set (i := 3) scLexicon.nd rfl (.inl rfl) (pe_op op_cat (pe_lst (pa_cons pe_bl (pa_cons pe_bl pa_nil))) (pe_lc (own := [("beginning", 2)]) (g := gName 2) (tt := tYes) rfl scLexicon.nd (pi_list (pv 1))
          (blkOk_by (N := ["words", "found", "beginning", "ends", "moves", "at"]) (sc := defScope sLexicon) (by decide +kernel)) (fun _ _ _ _ _ => pg_name (i := 2) scLexicon.nd rfl (Or.inl rfl)) (fun _ _ _ _ _ => pts_nil)
          (fun _ _ _ _ _ => pe_cmpR (r := rIn K false) op_in_seq (pv 2) (pv 0) (by rfl)))))
      (pss_cons (ps_set (i := 4) scLexicon.nd rfl (.inl rfl) (pe_lst pa_nil))
      (pss_cons (ps_for PassesOwn.never rfl (pi_enum (by rfl) me (pa_cons (pv 1) pa_nil)) (pg_tup rfl (pgs_cons (pg_name (i := 5) scLexicon.nd rfl (.inl rfl)) (pgs_cons (pg_name (i := 2) scLexicon.nd rfl (.inl rfl)) pgs_nil)))
        (pss_cons (ps_if (pt_cmpR op_eq (pe_callB call_len_str (by rfl) ml PySem.boot_len (pa_cons (pv 2) pa_nil)) pe_int (nomark _))
          (pss_cons (ps_expr (pe_bm PySem.F.plainAttrs_list PySem.F.slot_list_append PySem.F.type_list_append mt_append (pv 4) (pa_cons (pe_tup (pa_cons pe_int (pa_cons (pv 2) (pa_cons (pe_op op_add (pv 5) pe_int) pa_nil)))) pa_nil)))
          (pss_one (ps_expr (pe_bm PySem.F.plainAttrs_list PySem.F.slot_list_append PySem.F.type_list_append mt_append (pv 4) (pa_cons (pe_tup (pa_cons pe_int (pa_cons (pv 2) (pa_cons (pe_op op_add (pv 5) pe_int) pa_nil)))) pa_nil)))))
          (pss_one (ps_expr (pe_bm PySem.F.plainAttrs_list PySem.F.slot_list_append PySem.F.type_list_append mt_append (pv 4) (pa_cons (pe_tup (pa_cons
            (pe_op op_add (pe_bm PySem.F.plainAttrs_list PySem.F.slot_list_index PySem.F.type_list_index mt_index (pv 1) (pa_cons (pe_slice sl_str (pv 2) po_none (po_some (pe_un un_neg pe_int))) pa_nil)) pe_int)
            (pa_cons (pe_ix ix_str (pv 2) (pe_un un_neg pe_int) (fun _ _ => rfl)) (pa_cons (pe_op op_add (pv 5) pe_int) pa_nil)))) pa_nil)))))
        (pss_one (ps_if (pt_cmpR op_in_seq (pv 2) (pv 0) (by rfl))
          (pss_cons (ps_expr (pe_bm PySem.F.plainAttrs_list PySem.F.slot_list_append PySem.F.type_list_append mt_append (pv 4) (pa_cons (pe_tup (pa_cons (pe_op op_add (pv 5) pe_int) (pa_cons pe_str (pa_cons pe_int pa_nil)))) pa_nil)))
          (pss_one (ps_expr (pe_bm PySem.F.plainAttrs_list PySem.F.slot_list_append PySem.F.type_list_append mt_append (pv 4) (pa_cons (pe_tup (pa_cons (pe_op op_add (pv 5) pe_int) (pa_cons pe_str (pa_cons pe_int pa_nil)))) pa_nil))))) pss_nil))))
      (pss_one (ps_ret (pe_tup (pa_cons (pe_callTy call_tuple_of (by rfl) mt PyProof.Rows.boot_tuple (pa_cons (pv 3) pa_nil))
        (pa_cons (pe_callTy call_tuple_of (by rfl) mt PyProof.Rows.boot_tuple (pa_cons (pe_callB cr_sortedM (by rfl) ms PyProof.Rows.boot_sorted (pa_cons (pv 4) pa_nil)) pa_nil)) pa_nil))))))))), ?_⟩
    have small : ∀ n : Nat, n ≤ 1000 → n ≤ sizeLine := fun n h => Nat.le_trans h (by decide)
    have small' : ∀ n : Nat, n ≤ 1000 → n < sizeLine := fun n h => Nat.lt_of_le_of_lt h (by decide)
    have three : (3 : Nat) ≤ sizeLine := by decide
    have hfl : (found ws).length ≤ 24 := by
      have h1 := len_begs (ws := ws) (f := []) L.four
      have h2 := L.six
      rw [List.length_nil] at h1
      show (begs [] ws).length ≤ 24
      omega
    have hnd : (found ws).Nodup := nd_begs List.nodup_nil
    have hf4 : ∀ b ∈ found ws, b.length ≤ 4 := fun b hb => by
      obtain ⟨u, hu, n, h1, h2, e⟩ := mem_found.mp hb
      have := L.four u hu
      rw [e, List.length_take]
      omega
    -- the words are looked at
    refine ⟨.ref p, rfl, p, ws, rfl, hp, L, fun H1 s1 => ?_⟩
    -- their beginnings
    refine ⟨.ref p, rfl, p, ws, rfl, s1 _ _ hp, L, fun H2 fo s2 nfo hfo => ?_⟩
    have hp2 : H2 p = some (.tup (ws.map S)) := s2 _ _ (s1 _ _ hp)
    -- where a text can end
    refine ⟨by decide, fun e1 ne1 => ?_⟩
    have s3 := same_upd (o := .lst [.bl true, .bl false]) ne1
    refine ⟨.ref fo, rfl, fo, rfl, ⟨_, SqL.of (s3 _ _ hfo)⟩, fun D nD => ?_⟩
    have s4 := same_upd (o := .lst []) nD
    refine lc_it (walk_list (xs := (found ws).map S)) (fun i H' => Same (upd H2 e1 (.lst [.bl true, .bl false])) H' ∧ H' D = some (.lst (((found ws).take i).map fun b => V.bl (decide (b ∈ ws)))))
      ⟨s4, upd_same⟩ (fun i H' _ hP => SqL.of (hP.1 _ _ (s3 _ _ hfo))) (fun i x H3 H4 hi hP hY => ?_) (fun H3 hP => ?_)
    · obtain ⟨sm, hD⟩ := hP
      obtain ⟨rfl, hx⟩ := hY
      obtain ⟨hi, rfl⟩ := at_map hx
      refine ⟨rfl, S (found ws)[i], rfl, .ref p, rfl, p, _, rfl, .inr (SqT.of (sm _ _ (s3 _ _ hp2))), rfl, flat_S _, _, hD, ?_, fun c v e => ?_, ?_⟩
      · rw [List.length_map, List.length_take]; exact small' _ (by omega)
      · rw [upd_ne (ne_of_none e nD)]; exact sm c v e
      · rw [upd_same, take_in hi, List.map_append]
        show some (HO.lst (_ ++ [V.bl (inV (S (found ws)[i]) (ws.map S))])) = _
        rw [inV_S] <;> rfl
    obtain ⟨sm, hD⟩ := hP
    have hD' : H3 D = some (.lst ((found ws).map fun b => V.bl (decide (b ∈ ws)))) := by
      have h := hD
      rw [List.length_map, List.take_length] at h
      exact h
    refine ⟨e1, D, _, _, rfl, rfl, sm _ _ upd_same, hD', ?_, fun e ne => ?_⟩
    · rw [List.length_map]
      show 2 + _ ≤ _
      exact small _ (by omega)
    have s5 := same_upd (o := .lst ([.bl true, .bl false] ++ (found ws).map fun b => V.bl (decide (b ∈ ws)))) ne
    have he : (upd H3 e (.lst ([.bl true, .bl false] ++ (found ws).map fun b => V.bl (decide (b ∈ ws))))) e = some (.lst ((ends ws).map V.bl)) := by
      rw [upd_same]
      unfold ends
      rw [List.map_append, List.map_map] <;> rfl
    have s6 : Same H (upd H3 e (.lst ([.bl true, .bl false] ++ (found ws).map fun b => V.bl (decide (b ∈ ws))))) := ((s1.trans s2).trans (s3.trans sm)).trans s5
    have hp6 := s6 _ _ hp
    have hfo6 := (s3.trans sm).trans s5 _ _ hfo
    generalize upd H3 e (.lst ([.bl true, .bl false] ++ (found ws).map fun b => V.bl (decide (b ∈ ws)))) = B at he s6 hp6 hfo6 ⊢
    -- the list of the moves
    refine ⟨Nat.zero_le _, fun mo nmo => ?_⟩
    have m0 : MvIn B mo (upd B mo (.lst [])) [] := ⟨same_upd nmo, [], upd_same, rfl, fun _ z => absurd z (by simp)⟩
    -- the loop over the beginnings
    refine ⟨.ref fo, rfl, fo, (found ws).map S, rfl, SqL.of (m0.same _ _ hfo6), for_it (walk_enum (xs := (found ws).map S)) (fun i σ H' => ∃ y2 y5, σ = [some (.ref p), some (.ref fo), y2, some (.ref e), some (.ref mo), y5] ∧ MvIn B mo H' (movesTo ws (found ws) i))
      ⟨_, none, rfl, m0⟩ (fun i σ H' _ hP => ?_) (fun i x σ H4 H5 hi hP hY => ?_) (fun σ H4 hP => ?_)⟩
    · obtain ⟨_, _, _, m⟩ := hP
      exact SqL.of (m.same _ _ hfo6)
    · obtain ⟨y2, y5, rfl, m⟩ := hP
      obtain ⟨T, x1, x2, rfl, nT, rfl, hx1, hx2⟩ := hY
      obtain rfl : V.int (i : Nat) = x1 := Option.some.inj hx1
      obtain ⟨hi, rfl⟩ := at_map hx2
      have hg : (found ws).getD i [] = (found ws)[i] := by
        rw [List.getD_eq_getElem?_getD, List.getElem?_eq_getElem hi] <;> rfl
      have mb : (found ws)[i] ∈ found ws := List.getElem_mem hi
      have hbn := found_ne mb
      have hb4 := hf4 _ mb
      have hstep : movesTo ws (found ws) (i + 1) = movesTo ws (found ws) i ++ (mvA (found ws) i (found ws)[i] ++ mvB ws i (found ws)[i]) := by
        rw [← hg] <;> rfl
      have hks := len_movesTo (ws := ws) (fs := found ws) i
      have m1 := m.grow (o := .tup [.int (i : Nat), S (found ws)[i]]) nT
      have hpre : ∀ c, (found ws)[i] = (found ws)[i].dropLast ++ [c] → (found ws)[i].length ≠ 1 → (found ws)[i].dropLast ∈ found ws := fun c e l => by
        refine found_pre (c := c) (fun z => l ?_) (by rw [← e]; exact mb)
        rw [e, z] <;> rfl
      refine ⟨T, [.int (i : Nat), S (found ws)[i]], rfl, SqT.of upd_same, rfl, _, _, rfl, _, _, rfl, rfl, ?_⟩
      generalize (found ws)[i] = b at hbn hb4 hstep m1 hpre ⊢
      have lb : (mk b).length = b.length := len_mk b
      generalize upd H4 T (.tup [.int (i : Nat), S b]) = H5 at m1 ⊢
      have fin : ∀ ks, ks = movesTo ws (found ws) (i + 1) → ∀ H', MvIn B mo H' ks → MvIn B mo H' (movesTo ws (found ws) (i + 1)) := fun ks e H' m => by
        rw [← e]; exact m
      -- the turn's end
      have tail : ∀ (ks : List Mv) (H3 : Hp) (D : Ends), ks.length ≤ 4 * i + 2 → ks ++ mvB ws i b = movesTo ws (found ws) (i + 1) → MvIn B mo H3 ks →
          (∀ σ' H', (∃ y2 y5, σ' = [some (.ref p), some (.ref fo), y2, some (.ref e), some (.ref mo), y5] ∧ MvIn B mo H' (movesTo ws (found ws) (i + 1))) → D.nx σ' H') →
          tIfS (tTest (tOp (rIn K false) (tVar 2) (tVar 0))) (tSeq (tDrop (tBM K "list" rAppend (tVar 4) (tCons (tTup (tCons (tOp (rI0 fun i j => .int (i + j)) (tVar 5) (tC (.int 2))) (tCons (tC (.str " ")) (tCons (tC (.int 1)) tNil)))) tNil)))
            (tDrop (tBM K "list" rAppend (tVar 4) (tCons (tTup (tCons (tOp (rI0 fun i j => .int (i + j)) (tVar 5) (tC (.int 2))) (tCons (tC (.str "\n")) (tCons (tC (.int 1)) tNil)))) tNil)))) tNext D [some (.ref p), some (.ref fo), some (S b), some (.ref e), some (.ref mo), some (.int (i : Nat))] H3 := by
        intro ks H3 D hl he m fin
        refine ⟨S b, rfl, .ref p, rfl, p, _, rfl, .inr (SqT.of (m.same _ _ hp6)), rfl, flat_S ws, _, rfl, ?_⟩
        show if inV (S b) (ws.map S) = true then _ else _
        rw [inV_S]
        by_cases hw : b ∈ ws
        · have eB : mvB ws i b = [((i : Int) + 2, [32], 1), ((i : Int) + 2, [10], 1)] := if_pos hw
          rw [decide_eq_true hw]
          obtain ⟨xs, hx, _⟩ := m.list
          refine iteT ⟨.ref mo, rfl, .inl ⟨rfl, _, SqL.of hx⟩, .int (i : Nat), rfl, (i : Int), 2, rfl, rfl, three, fun T1 n1 => ?_⟩
          have mg1 := m.grow (o := .tup [.int ((i : Int) + 2), .str " ", .int 1]) n1
          obtain ⟨xs, hx, hxl⟩ := mg1.list
          refine ⟨mo, xs, _, rfl, rfl, hx, small' _ (by omega), ?_⟩
          have mp1 := m.push (k := ((i : Int) + 2, [32], 1)) nmo n1 (by rw [e32]; rfl) hx
          generalize upd (upd H3 T1 (.tup [.int ((i : Int) + 2), .str " ", .int 1])) mo (.lst (xs ++ [.ref T1])) = H6 at mp1 ⊢
          obtain ⟨xs, hx, _⟩ := mp1.list
          refine ⟨.ref mo, rfl, .inl ⟨rfl, _, SqL.of hx⟩, .int (i : Nat), rfl, (i : Int), 2, rfl, rfl, three, fun T2 n2 => ?_⟩
          have mg2 := mp1.grow (o := .tup [.int ((i : Int) + 2), .str "\n", .int 1]) n2
          obtain ⟨xs, hx, hxl⟩ := mg2.list
          rw [List.length_append] at hxl
          have hxl' : xs.length = ks.length + 1 := hxl
          refine ⟨mo, xs, _, rfl, rfl, hx, small' _ (by omega), ?_⟩
          have mp2 := mp1.push (k := ((i : Int) + 2, [10], 1)) nmo n2 (by rw [e10]; rfl) hx
          refine fin _ _ ⟨_, _, rfl, ?_⟩
          rw [← he, eB]
          rw [List.append_assoc] at mp2
          exact mp2
        · have eB : mvB ws i b = [] := if_neg hw
          rw [decide_eq_false hw]
          refine iteF (fin _ _ ⟨_, _, rfl, ?_⟩)
          rw [← he, eB, List.append_nil]
          exact m
      -- one sign, or more
      refine ⟨S b, rfl, mk b, rfl, small _ (by omega), rfl, _, rfl, ite2 (fun e => ?_) (fun e => ?_)⟩
      · have l1 : b.length = 1 := by
          have := V.int.inj (of_decide_eq_true e)
          omega
        have eA : mvA (found ws) i b = [(0, b, (i : Int) + 2), (1, b, (i : Int) + 2)] := if_pos l1
        obtain ⟨xs, hx, _⟩ := m1.list
        refine ⟨.ref mo, rfl, .inl ⟨rfl, _, SqL.of hx⟩, S b, rfl, .int (i : Nat), rfl, (i : Int), 2, rfl, rfl, three, fun T1 n1 => ?_⟩
        have mg1 := m1.grow (o := .tup [.int 0, S b, .int ((i : Int) + 2)]) n1
        obtain ⟨xs, hx, hxl⟩ := mg1.list
        refine ⟨mo, xs, _, rfl, rfl, hx, small' _ (by omega), ?_⟩
        have mp1 : MvIn B mo (upd (upd H5 T1 (.tup [.int 0, S b, .int ((i : Int) + 2)])) mo (.lst (xs ++ [.ref T1]))) (movesTo ws (found ws) i ++ [(0, b, (i : Int) + 2)]) := m1.push (k := (0, b, (i : Int) + 2)) nmo n1 rfl hx
        generalize upd (upd H5 T1 (.tup [.int 0, S b, .int ((i : Int) + 2)])) mo (.lst (xs ++ [.ref T1])) = H6 at mp1 ⊢
        obtain ⟨xs, hx, _⟩ := mp1.list
        refine ⟨.ref mo, rfl, .inl ⟨rfl, _, SqL.of hx⟩, S b, rfl, .int (i : Nat), rfl, (i : Int), 2, rfl, rfl, three, fun T2 n2 => ?_⟩
        have mg2 := mp1.grow (o := .tup [.int 1, S b, .int ((i : Int) + 2)]) n2
        obtain ⟨xs, hx, hxl⟩ := mg2.list
        rw [List.length_append] at hxl
        have hxl' : xs.length = (movesTo ws (found ws) i).length + 1 := hxl
        refine ⟨mo, xs, _, rfl, rfl, hx, small' _ (by omega), ?_⟩
        have mp2 := mp1.push (k := (1, b, (i : Int) + 2)) nmo n2 rfl hx
        rw [List.append_assoc] at mp2
        refine tail _ _ _ ?_ ?_ mp2 (fun _ _ h => h)
        · rw [List.length_append]
          show _ + 2 ≤ _
          omega
        · rw [hstep, eA, List.append_assoc] <;> rfl
      · have l1 : ¬ b.length = 1 := fun z => e (decide_eq_true (by rw [lb, z] <;> rfl))
        have eb := snoc_of hbn
        have mp := hpre _ eb l1
        have eA : mvA (found ws) i b = [(((found ws).idxOf b.dropLast : Int) + 2, [b.getLastD 0], (i : Int) + 2)] := if_neg l1
        obtain ⟨xs, hx, _⟩ := m1.list
        have ec : V.str (cutS (mk b) none (some (-1))) = S b.dropLast := congrArg V.str (cut_init b hbn)
        have hat : atI (mk b).cps.toList (-1) = some (b.getLastD 0) := by
          show atI b (-1) = _
          have h := atI_last b.dropLast (b.getLastD 0)
          rw [← eb] at h
          exact h
        refine ⟨.ref mo, rfl, .inl ⟨rfl, _, SqL.of hx⟩, .ref fo, rfl, .inl ⟨rfl, _, SqL.of (m1.same _ _ hfo6)⟩, S b, rfl, 1, rfl, -1, rfl, mk b, rfl, small _ (by omega), fo, _, _, (found ws).idxOf b.dropLast, S b.dropLast, rfl, rfl, SqL.of (m1.same _ _ hfo6), rfl, flat_S _, ?_, ?_, ?_, ?_⟩
        · rw [List.getElem?_map, at_idx mp] <;> rfl
        · rw [ec, eqV_S]
          exact decide_eq_true rfl
        · intro m z' hm hz
          obtain ⟨hm2, rfl⟩ := at_map hz
          rw [ec, eqV_S]
          refine decide_eq_false fun z => ?_
          have := idx_of hnd (List.getElem?_eq_getElem hm2)
          rw [z] at this
          omega
        · refine ⟨_, 2, rfl, rfl, S b, rfl, 1, rfl, mk b, -1, b.getLastD 0, rfl, rfl, small _ (by omega), hat, .int (i : Nat), rfl, (i : Int), 2, rfl, rfl, three, fun T1 n1 => ?_⟩
          have mg1 := m1.grow (o := .tup [.int (((found ws).idxOf b.dropLast : Int) + 2), .str ⟨#[b.getLastD 0]⟩, .int ((i : Int) + 2)]) n1
          obtain ⟨xs, hx, hxl⟩ := mg1.list
          refine ⟨mo, xs, _, rfl, rfl, hx, small' _ (by omega), ?_⟩
          have mp1 := m1.push (k := (((found ws).idxOf b.dropLast : Int) + 2, [b.getLastD 0], (i : Int) + 2)) nmo n1 rfl hx
          refine tail _ _ _ ?_ ?_ mp1 (fun _ _ h => h)
          · rw [List.length_append]
            show _ + 1 ≤ _
            omega
          · rw [hstep, eA, List.append_assoc] <;> rfl
    · obtain ⟨y2, y5, rfl, m⟩ := hP
      have m' : MvIn B mo H4 (moves ws) := by
        have h : MvIn B mo H4 (movesTo ws (found ws) ((found ws).map S).length) := m
        rw [List.length_map] at h
        exact h
      obtain ⟨kt, hmo, hkt, hks⟩ := m'.ex
      -- the tuples
      refine ⟨.ref e, rfl, e, _, rfl, .inl ⟨SqL.of (m'.same _ _ he), fun l nl => ?_⟩⟩
      have t1 := same_upd (o := .tup ((ends ws).map V.bl)) nl
      refine ⟨.ref mo, rfl, mo, _, ⟨rfl, SqL.of (t1 _ _ hmo)⟩, fun x hx => ?_, fun ys p1 perm np1 => ?_⟩
      · obtain ⟨k, hk, rfl⟩ := List.mem_map.mp hx
        exact ⟨k.1, _, _, _, rfl, t1 _ _ (hks k hk)⟩
      · have t2 := same_upd (o := .lst ys) np1
        refine ⟨p1, ys, rfl, .inl ⟨SqL.of upd_same, fun l2 nl2 => ?_⟩⟩
        have t3 := same_upd (o := .tup ys) nl2
        refine ⟨(by show 2 ≤ sizeLine; decide), fun mm nmm => ?_⟩
        have t4 := same_upd (o := .tup [.ref l, .ref l2]) nmm
        refine q _ mm ((s6.trans m'.same).trans (((t1.trans t2).trans t3).trans t4)) ⟨l, l2, ys, dec H4, upd_same, ((t2.trans t3).trans t4) _ _ upd_same, t4 _ _ upd_same, fun y hy => ?_, ?_⟩
        · obtain ⟨k, hk, rfl⟩ := List.mem_map.mp (perm.mem_iff.mp hy)
          refine ⟨k.1, rfl, ?_⟩
          rw [dec_at (hks k hk)]
          exact (((t1.trans t2).trans t3).trans t4) _ _ (hks k hk)
        · have h := perm.map (dec H4)
          rw [List.map_map] at h
          have e2 : kt.map (dec H4 ∘ fun q => V.ref q.1) = moves ws := by
            rw [← hkt]
            exact List.map_congr_left fun k hk => dec_at (hks k hk)
          rw [e2] at h
          exact h
end
end K46

/-! run, accepts, is_text, same. -/
namespace K46
open PySem PySem.Spec PyProof.Rows L2
theorem scRun : FnScope ["machine", "state", "text", "character", "found", "move"] ["machine", "state", "text"] (defScope sRun) := ⟨rfl, rfl, rfl, by decide +kernel, rfl, by decide +kernel, by decide +kernel⟩
theorem scAccepts : FnScope ["machine", "text", "state"] ["machine", "text"] (defScope sAccepts) := ⟨rfl, rfl, rfl, by decide +kernel, rfl, by decide +kernel, by decide +kernel⟩
theorem scIsText : FnScope ["_law_words_here", "_law_text_here", "_law_word"] ["_law_words_here", "_law_text_here"] (defScope sIsText) := ⟨rfl, rfl, rfl, by decide +kernel, rfl, by decide +kernel, by decide +kernel⟩
theorem scSame : FnScope ["_law_actual", "_law_due", "_law_k"] ["_law_actual", "_law_due"] (defScope sSame) := ⟨rfl, rfl, rfl, by decide +kernel, rfl, by decide +kernel, by decide +kernel⟩
/-! ### cutting up -/
theorem spl_okB {ws : List W} : ∀ (z p : List Nat), (TL.spl [32] 0 p (PySem.StrLaws.replL [10] [32] z)).all (fun w => decide (w ∈ ws)) = okB ws p z
  | [], p => by
    rw [PySem.StrLaws.replL_nil, TL.spl_nil, List.all_cons, List.all_nil, Bool.and_true]
    rfl
  | c :: z, p => by
    have hit : ∀ r : List Nat, (TL.spl [32] 0 p (32 :: r)).all (fun w => decide (w ∈ ws)) = (decide (p ∈ ws) && (TL.spl [32] 0 [] r).all (fun w => decide (w ∈ ws))) := fun r => by
      rw [TL.spl_hit (show TL.pre [32] (32 :: r) = true from TL.pre_self [32] r), List.all_cons] <;> rfl
    unfold okB
    by_cases h : c = 10
    · subst h
      rw [PySem.StrLaws.replL_hit (by simp) (show (10 :: z).take ([10] : List Nat).length = [10] from rfl)]
      show (TL.spl [32] 0 p (32 :: PySem.StrLaws.replL [10] [32] z)).all _ = _
      rw [hit, spl_okB z []] <;> rfl
    · have hm : ¬ (c :: z).take ([10] : List Nat).length = [10] := fun e => h (List.cons.inj e).1
      rw [PySem.StrLaws.replL_miss hm]
      by_cases h2 : c = 32
      · subst h2
        rw [hit, spl_okB z []] <;> rfl
      · rw [TL.spl_miss (TL.pre_of_head [] _ h2), spl_okB z (p ++ [c]), if_neg (by rw [isSep_iff]; omega)]
section
variable {P : Program} {w : World} {K : PySem.W.Frag} {mg : Str → Option Value} {base : Heap}
/-! ### run -/
def spRun (K : PySem.W.Frag) : Sp := fun vs H Q _ => ∃ (m : Addr) (ws : List W) (q0 : Int) (z : Str), vs = [.ref m, .int q0, .str z] ∧ Mach H m ws ∧ Lex ws ∧ Q (optV (runL ws q0 z.cps.toList)) H
theorem ok_run {f : Addr} {fd : FuncData} {k : Nat} (F : Fun K "run" "run" sRun f fd) : FnOk P w K mg base CX0 (k + 1) f fd ["machine", "state", "text"] (spRun K) := by
  refine F.ok scRun (fun vs H Q E h => ?_) (fun cdv A outer s H vs Q E hr h => ?_)
  · obtain ⟨m, ws, q0, z, rfl, _⟩ := h
    rfl
  · obtain ⟨m, ws, q0, z, rfl, ⟨e, mv, ys, g, hm, he, hmv, hys, hperm⟩, L, q⟩ := h
    refine ⟨_, pss_cons (ps_for PassesOwn.never rfl (pi_str (pv 2)) (pg_name (i := 3) scRun.nd rfl (.inl rfl))
        (pss_cons (ps_set (i := 4) scRun.nd rfl (.inl rfl) pe_non)
        (pss_cons (ps_for PassesOwn.never rfl (pi_tup (pe_ix ix_tup (pv 0) pe_int (fun _ _ => rfl))) (pg_name (i := 5) scRun.nd rfl (.inl rfl))
          (pss_one (ps_if (PW.pt (pw_and (pt_cmpR op_eq (pe_ix ix_tup (pv 5) pe_int (fun _ _ => rfl)) (pv 1) (nomark _)) (pw_and1 (pt_cmpR op_eq (pe_ix ix_tup (pv 5) pe_int (fun _ _ => rfl)) (pv 3) (nomark _)))))
            (pss_one (ps_set (i := 4) scRun.nd rfl (.inl rfl) (pe_ix ix_tup (pv 5) pe_int (fun _ _ => rfl)))) pss_nil)))
        (pss_cons (ps_if (pt_cmp (pc_isN (pv 4))) (pss_one (ps_ret pe_non)) pss_nil)
        (pss_one (ps_set (i := 1) scRun.nd rfl (.inl rfl) (pv 4)))))))
      (pss_one (ps_ret (pv 1))), ?_⟩
    -- the loop over the signs
    refine ⟨.str z, rfl, z, rfl, for_it walk_str (fun i σ H' => ∃ (qq : Int) (y3 y4 y5 : Option V), σ = [some (.ref m), some (.int qq), some (.str z), y3, y4, y5] ∧ H' = H ∧ runL ws qq (z.cps.toList.drop i) = runL ws q0 z.cps.toList)
      ⟨q0, none, none, none, rfl, rfl, by rw [List.drop_zero]⟩ (fun _ _ _ _ _ => True.intro) (fun i x σ H2 H3 hi hP hY => ?_) (fun σ H2 hP => ?_)⟩
    · obtain ⟨qq, y3, y4, y5, rfl, rfl, hq⟩ := hP
      obtain ⟨rfl, c, hc, rfl⟩ := hY
      have hdrop : z.cps.toList.drop i = c :: z.cps.toList.drop (i + 1) := by
        have hc2 : z.cps.toList[i]? = some c := by rw [Array.getElem?_toList]; exact hc
        obtain ⟨h1, h2⟩ := List.getElem?_eq_some_iff.mp hc2
        rw [List.drop_eq_getElem_cons h1, h2]
      rw [hdrop, runL_cons] at hq
      -- the loop over the moves
      refine ⟨.ref m, rfl, m, _, 1, .ref mv, rfl, rfl, SqT.of hm, rfl, mv, rfl, ⟨_, SqT.of hmv⟩, for_it (walk_tup (xs := ys)) (fun j σ H' => ∃ y5, σ = [some (.ref m), some (.int qq), some (.str z), some (.str ⟨#[c]⟩), some (optV (lastM qq [c] ((ys.take j).map g))), y5] ∧ H' = H3)
        ⟨y5, rfl, rfl⟩ (fun j σ H' _ hP => ?_) (fun j x σ H4 H5 hj hP hY => ?_) (fun σ H4 hP => ?_)⟩
      · obtain ⟨_, _, rfl⟩ := hP
        exact SqT.of hmv
      · obtain ⟨y5, rfl, rfl⟩ := hP
        obtain ⟨rfl, hx⟩ := hY
        have ht : (ys.take (j + 1)).map g = (ys.take j).map g ++ [g x] := by
          rw [List.take_add_one, hx, List.map_append] <;> rfl
        obtain ⟨t, rfl, hT⟩ := hys x (List.mem_of_getElem? hx)
        rw [ht, lastM_snoc]
        generalize g (.ref t) = kk at hT ht ⊢
        have hT' : H5 t = some (.tup [.int kk.1, S kk.2.1, .int kk.2.2]) := hT
        refine ⟨.ref t, rfl, t, _, 0, _, rfl, rfl, SqT.of hT', rfl, .int qq, rfl, rfl, _, rfl, ite2 (fun e1 => ?_) (fun e1 => iteF ?_)⟩
        · have h1 : kk.1 = qq := V.int.inj (of_decide_eq_true e1)
          refine ⟨.ref t, rfl, t, _, 1, _, rfl, rfl, SqT.of hT', rfl, .str ⟨#[c]⟩, rfl, rfl, _, rfl, ite2 (fun e2 => ?_) (fun e2 => ?_)⟩
          · have h2 : kk.2.1 = [c] := S_inj (b := [c]) (of_decide_eq_true e2)
            refine ⟨.ref t, rfl, t, _, 2, _, rfl, rfl, SqT.of hT', rfl, some (.ref t), ?_, rfl⟩
            rw [if_pos ⟨h1, h2⟩] <;> rfl
          · have h2 : ¬ kk.2.1 = [c] := fun z => e2 (decide_eq_true (by rw [z] <;> rfl))
            refine ⟨some (.ref t), ?_, rfl⟩
            rw [if_neg (fun z => h2 z.2)] <;> rfl
        · have h1 : ¬ kk.1 = qq := fun z => e1 (decide_eq_true (by rw [z] <;> rfl))
          refine ⟨some (.ref t), ?_, rfl⟩
          rw [if_neg (fun z => h1 z.1)] <;> rfl
      · obtain ⟨y5, rfl, rfl⟩ := hP
        rw [List.take_length, lastM_perm L hperm]
        have es : lastM qq [c] (moves ws) = step ws qq [c] := rfl
        rw [es]
        -- no move fits, or the last one
        cases hst : step ws qq [c] with
        | none =>
          rw [hst] at hq
          refine ⟨.non, rfl, true, rfl, iteT ?_⟩
          rw [← hq] at q
          exact q
        | some r =>
          rw [hst] at hq
          refine ⟨.int r, rfl, false, rfl, iteF ?_⟩
          exact ⟨.int r, rfl, r, _, _, _, rfl, rfl, hq⟩
    · obtain ⟨qq, y3, y4, y5, rfl, rfl, hq⟩ := hP
      have e0 : z.cps.toList.drop z.cps.size = [] := List.drop_eq_nil_of_le (by rw [Array.length_toList]; exact Nat.le_refl _)
      rw [e0] at hq
      rw [← hq] at q
      exact ⟨.int qq, rfl, q⟩
end
end K46

/-! accepts, is_text, same. -/
namespace K46
open PySem PySem.Spec PyProof.Rows L2
/-- the parts between separators -/
def parts (l : List Nat) : List W := TL.spl [32] 0 [] (PySem.StrLaws.replL [10] [32] l)
theorem parts_ok (ws : List W) (l : List Nat) : (parts l).all (fun w => decide (w ∈ ws)) = okB ws [] l := spl_okB l []
theorem tl32 : (" " : Str).cps.toList = [32] := by decide +kernel
theorem tl10 : ("\n" : Str).cps.toList = [10] := by decide +kernel
theorem split_parts (z : Str) : (Txt.split (Txt.replace z "\n" " ") " ").map V.str = (parts z.cps.toList).map S := by
  have h := TL.split_spl (Txt.replace z "\n" " ") " " (by show (" " : Str).cps.toList ≠ []; rw [tl32]; simp) (TL.kind_ok (by decide +kernel))
  have h2 := PySem.StrLaws.replace_list (x := z) (y := "\n") (z := " ") (by decide +kernel)
  have h3 : (Txt.split (Txt.replace z "\n" " ") " ").map TL.tl = parts z.cps.toList := by
    rw [h]
    show TL.spl (" " : Str).cps.toList 0 [] (Txt.replace z "\n" " ").cps.toList = _
    rw [h2, tl32, tl10] <;> rfl
  rw [← h3, List.map_map]
  exact List.map_congr_left fun x _ => congrArg V.str (mk_of x)
section
variable {P : Program} {w : World} {K : PySem.W.Frag} {mg : Str → Option Value} {base : Heap}
/-! ### accepts -/
def spAccepts (K : PySem.W.Frag) : Sp := fun vs H Q _ => ∃ (m : Addr) (ws : List W) (z : Str), vs = [.ref m, .str z] ∧ Mach H m ws ∧ Lex ws ∧ Q (.bl (accL ws 0 z.cps.toList)) H
theorem ok_accepts {f fR : Addr} {fd fdR : FuncData} {k : Nat} (F : Fun K "accepts" "accepts" sAccepts f fd) (FR : Fun K "run" "run" sRun fR fdR) (bR : Binds K fdR ["machine", "state", "text"] []) (gR : mg "run" = some (.ref fR)) : FnOk P w K mg base CX0 (k + 2) f fd ["machine", "text"] (spAccepts K) := by
  have GR : FnOk P w K mg base CX0 1 fR fdR ["machine", "state", "text"] (spRun K) := ok_run FR
  refine F.ok scAccepts (fun vs H Q E h => ?_) (fun cdv A outer s H vs Q E hr h => ?_)
  · obtain ⟨m, ws, z, rfl, _⟩ := h
    rfl
  · obtain ⟨m, ws, z, rfl, M, L, q⟩ := h
    refine ⟨_, pss_cons (ps_set (i := 2) scAccepts.nd rfl (.inl rfl) (pe_call GR (hr.mono (by omega)) (by rfl) gR FR.kp bR .nil pass0 (pa_cons (pv 0) (pa_cons pe_int (pa_cons (pv 1) pa_nil)))))
      (pss_one (ps_ret (pe_and (pe_cmp (pc_notN (pv 2))) (pe_one (pe_ix ix_tup (pe_ix ix_tup (pv 0) pe_int (fun _ _ => rfl)) (pv 2) (fun _ _ => rfl)))))), ?_⟩
    refine ⟨.ref m, rfl, .str z, rfl, m, ws, 0, z, rfl, M, L, ?_⟩
    unfold accL at q
    cases hr : runL ws 0 z.cps.toList with
    | none =>
      rw [hr] at q
      exact ⟨.non, rfl, false, rfl, iteF q⟩
    | some r =>
      rw [hr] at q
      obtain ⟨h0, h1⟩ := runL_bound L _ 0 r (Int.le_refl 0) (by omega) hr
      obtain ⟨n, rfl⟩ := Int.eq_ofNat_of_zero_le h0
      obtain ⟨e, mv, ys, g, hm, he, _⟩ := M
      have hn : n < (ends ws).length := by rw [ends_len]; omega
      have hv : (ends ws).getD ((n : Int)).toNat false = (ends ws)[n] := by
        rw [Int.toNat_natCast, List.getD_eq_getElem?_getD, List.getElem?_eq_getElem hn] <;> rfl
      have q2 : Q (.bl ((ends ws).getD ((n : Int)).toNat false)) H := q
      rw [hv] at q2
      refine ⟨.int n, rfl, true, rfl, iteT ⟨.ref m, rfl, m, _, 0, .ref e, rfl, rfl, SqT.of hm, rfl, .int n, rfl, e, _, n, .bl (ends ws)[n], rfl, rfl, SqT.of he, atI_nat (by simp [hn]), q2⟩⟩

/-! ### is_text -/
def spIsText (K : PySem.W.Frag) : Sp := fun vs H Q _ => ∃ (p : Addr) (ws : List W) (z : Str), vs = [.ref p, .str z] ∧ H p = some (.tup (ws.map S)) ∧ z.length ≤ 100 ∧ ∀ H', Same H H' → Q (.bl (isT ws z.cps.toList)) H'
theorem ok_istext {f : Addr} {fd : FuncData} {k : Nat} (F : Fun K "_law_is_text" "_law_is_text" sIsText f fd) : FnOk P w K mg base CX0 (k + 1) f fd ["_law_words_here", "_law_text_here"] (spIsText K) := by
  refine F.ok scIsText (fun vs H Q E h => ?_) (fun cdv A outer s H vs Q E hr h => ?_)
  · obtain ⟨p, ws, z, rfl, _⟩ := h
    rfl
  · obtain ⟨p, ws, z, rfl, hp, hz, q⟩ := h
    refine ⟨_, pss_ifEqT (pv 1) (pss_one (ps_ret pe_bl)) (psst_cons (pst_for PassesOwn.never rfl (pit_list (pet_cut (CwR.pet_replC (pv 1)) (by decide +kernel))) (pg_name (i := 2) scIsText.nd rfl (.inl rfl))
      (pss_one (ps_if (pt_cmpR op_notIn_seq (pv 2) (pv 0) (by rfl)) (pss_one (ps_ret pe_bl)) pss_nil))) (PSsT.of (pss_one (ps_ret pe_bl)))), ?_⟩
    have small : ∀ n : Nat, n ≤ 1000 → n ≤ sizeLine := fun n h => Nat.le_trans h (by decide)
    have e0 : ("" : Str) = mk [] := by decide +kernel
    have ls : (" " : Str).length = 1 := by decide +kernel
    refine ⟨.str z, rfl, rfl, _, rfl, ite2 (fun e => ?_) (fun e => ?_)⟩
    · have hz0 : z.cps.toList = [] := by
        have h := V.str.inj (of_decide_eq_true e)
        rw [h, e0] <;> rfl
      have h := q H (Same.refl H)
      rw [hz0] at h
      exact h
    · have hz0 : z.cps.toList ≠ [] := fun h => e (decide_eq_true (by rw [mk_of z, h, e0]))
      have hl := TK.replace_len z "\n" " "
      rw [ls] at hl
      refine ⟨.str z, rfl, z, rfl, by rw [ls]; omega, _, rfl, small _ (by omega), fun D nD => ?_⟩
      rw [split_parts]
      have s1 := same_upd (o := .lst ((parts z.cps.toList).map S)) nD
      refine ⟨D, rfl, ⟨_, SqL.of upd_same⟩, for_it (walk_list (xs := (parts z.cps.toList).map S)) (fun i σ H' => ∃ y2, σ = [some (.ref p), some (.str z), y2] ∧ H' = upd H D (.lst ((parts z.cps.toList).map S)) ∧ ∀ u ∈ (parts z.cps.toList).take i, u ∈ ws)
        ⟨none, rfl, rfl, fun _ h => absurd h (by simp)⟩ (fun i σ H' _ hP => ?_) (fun i x σ H4 H5 hi hP hY => ?_) (fun σ H4 hP => ?_)⟩
      · obtain ⟨_, _, rfl, _⟩ := hP
        exact SqL.of upd_same
      · obtain ⟨y2, rfl, rfl, hall⟩ := hP
        obtain ⟨rfl, hx⟩ := hY
        obtain ⟨hi, rfl⟩ := at_map hx
        refine ⟨_, rfl, .ref p, rfl, p, _, rfl, .inr (SqT.of (s1 _ _ hp)), rfl, flat_S ws, _, rfl, ?_⟩
        show if (!inV (S (parts z.cps.toList)[i]) (ws.map S)) = true then _ else _
        rw [inV_S]
        by_cases m : (parts z.cps.toList)[i] ∈ ws
        · rw [decide_eq_true m]
          refine iteF ⟨_, rfl, rfl, fun u hu => ?_⟩
          rw [take_in hi] at hu
          rcases List.mem_append.mp hu with hu | hu
          · exact hall u hu
          · rw [List.mem_singleton.mp hu]; exact m
        · rw [decide_eq_false m]
          refine iteT ?_
          have hb : isT ws z.cps.toList = false := by
            unfold isT
            rw [decide_eq_false hz0, Bool.false_or, ← parts_ok ws, List.all_eq_false]
            exact ⟨_, List.getElem_mem hi, by rw [decide_eq_false m]; decide⟩
          have h := q _ s1
          rw [hb] at h
          exact h
      · obtain ⟨y2, rfl, rfl, hall⟩ := hP
        rw [List.length_map, List.take_length] at hall
        have hb : isT ws z.cps.toList = true := by
          unfold isT
          rw [decide_eq_false hz0, Bool.false_or, ← parts_ok ws, List.all_eq_true]
          exact fun u hu => decide_eq_true (hall u hu)
        have h := q _ s1
        rw [hb] at h
        exact h

/-! ### same -/
def spSame (K : PySem.W.Frag) : Sp := fun vs H Q _ => ∃ a d : Bool, vs = [.bl a, .bl d] ∧ Q (.bl (decide (V.bl a = V.bl d))) H
theorem ok_same {f : Addr} {fd : FuncData} {k : Nat} (F : Fun K "_law_same" "_law_same" sSame f fd) (mi : mg "isinstance" = none) (mt : mg "tuple" = none) (mb : mg "bool" = none) : FnOk P w K mg base CX0 (k + 1) f fd ["_law_actual", "_law_due"] (spSame K) := by
  refine F.ok scSame (fun vs H Q E h => ?_) (fun cdv A outer s H vs Q E hr h => ?_)
  · obtain ⟨a, d, rfl, _⟩ := h
    rfl
  · obtain ⟨a, d, rfl, q⟩ := h
    refine ⟨_, pss_cons (ps_if (pt_val (pe_callB call_isi (by rfl) mi PyProof.Rows.boot_isinstance (pa_cons (pv 1) (pa_cons (pe_bltn (v := .ty "tuple") rfl mt PyProof.Rows.boot_tuple rfl) pa_nil)))) pss_never pss_nil)
      (pss_cons (ps_if (pt_val (pe_callB call_isi (by rfl) mi PyProof.Rows.boot_isinstance (pa_cons (pv 1) (pa_cons (pe_bltn (v := .ty "bool") rfl mb PyProof.Rows.boot_bool rfl) pa_nil))))
        (pss_one (ps_ret (pe_and (pe_callB call_isi (by rfl) mi PyProof.Rows.boot_isinstance (pa_cons (pv 0) (pa_cons (pe_bltn (v := .ty "bool") rfl mb PyProof.Rows.boot_bool rfl) pa_nil))) (pe_one (pe_cmpR op_eq (pv 0) (pv 1) (nomark _)))))) pss_nil) pss_never), ?_⟩
    refine ⟨.bl d, rfl, .bl d, .ty "tuple", .type "bool", .type "tuple", false, rfl, .ty _, .base (.bl d), kit_ty (by decide +kernel), false, rfl, iteF ?_⟩
    refine ⟨.bl d, rfl, .bl d, .ty "bool", .type "bool", .type "bool", true, rfl, .ty _, .base (.bl d), kit_ty (by decide +kernel), true, rfl, iteT ?_⟩
    refine ⟨.bl a, rfl, .bl a, .ty "bool", .type "bool", .type "bool", true, rfl, .ty _, .base (.bl a), kit_ty (by decide +kernel), true, rfl, iteT ?_⟩
    exact ⟨.bl a, rfl, .bl d, rfl, rfl, q⟩
end
end K46

/-! the law, what the top leaves, the end. -/
namespace K46
open PySem PySem.Spec PyProof.Rows L2
theorem scLaw : FnScope ["_law_script", "_law_box", "_law_words_here", "_law_machine", "_law_turn", "_law_one", "_law_other", "_law_state", "_law_behind", "_law_both"] ["_law_script"] (defScope sLaw) := ⟨rfl, rfl, rfl, by decide +kernel, rfl, by decide +kernel, by decide +kernel⟩
theorem SameX.at {b dg a : Addr} {H H' : Hp} {xs : List V} (sx : SameX b H H') (bx : Box H b dg) (h : H a = some (.tup xs)) : H' a = some (.tup xs) := by
  obtain ⟨ns, n, hb, _⟩ := bx
  exact sx a _ (ne_of h hb (by intro z; cases z)) h
theorem Mach.sameX {b dg m : Addr} {H H' : Hp} {ws : List W} (M : Mach H m ws) (sx : SameX b H H') (bx : Box H b dg) : Mach H' m ws := by
  obtain ⟨e, mv, ys, g, h1, h2, h3, h4, h5⟩ := M
  refine ⟨e, mv, ys, g, sx.at bx h1, sx.at bx h2, sx.at bx h3, fun y hy => ?_, h5⟩
  obtain ⟨t, e, ht⟩ := h4 y hy
  exact ⟨t, e, sx.at bx ht⟩
theorem Mach.same {m : Addr} {H H' : Hp} {ws : List W} (M : Mach H m ws) (sm : Same H H') : Mach H' m ws := by
  obtain ⟨e, mv, ys, g, h1, h2, h3, h4, h5⟩ := M
  refine ⟨e, mv, ys, g, sm _ _ h1, sm _ _ h2, sm _ _ h3, fun y hy => ?_, h5⟩
  obtain ⟨t, e, ht⟩ := h4 y hy
  exact ⟨t, e, sm _ _ ht⟩
theorem found_small {ws : List W} (L : Lex ws) : (found ws).length ≤ 24 := by
  have h1 := len_begs (ws := ws) (f := []) L.four
  have h2 := L.six
  rw [List.length_nil] at h1
  show (begs [] ws).length ≤ 24
  omega
theorem run_small {ws : List W} (L : Lex ws) {q : Int} {z : List Nat} (h0 : 0 ≤ q) (h1 : q < (found ws).length + 2) : ∀ i, runL ws q z = some i → i.natAbs.log2 < 1920 := fun i h => by
  obtain ⟨h2, h3⟩ := runL_bound L z q i h0 h1 h
  have h4 := found_small L
  have h5 := Nat.log2_le_self i.natAbs
  omega
section
variable {P : Program} {w : World} {K : PySem.W.Frag} {mg : Str → Option Value} {base : Heap}
def spLaw (K : PySem.W.Frag) : Sp := fun vs H Q _ => ∃ (a : Addr) (ns : List Int), vs = [.ref a] ∧ SqL K H a (ns.map V.int) ∧ ∀ H', Q (.bl true) H'

theorem ok_law {f fD fW fL fT fS fA fI fR fU : Addr} {fd fdD fdW fdL fdT fdS fdA fdI fdR fdU : FuncData} (F : Fun K "law" "law" sLaw f fd)
    (GD : FnOk P w K mg base CX0 2 fD fdD ["_law_script", "_law_first", "_law_last"] (spDigits K)) (kD : PySem.W.keepIn K (.ref fD) = true) (bD : Binds K fdD ["_law_script", "_law_first", "_law_last"] []) (gD : mg "_law_digits" = some (.ref fD))
    (GW : FnOk P w K mg base CX0 2 fW fdW ["_law_box"] (spWords K)) (kW : PySem.W.keepIn K (.ref fW) = true) (bW : Binds K fdW ["_law_box"] []) (gW : mg "_law_words" = some (.ref fW))
    (GL : FnOk P w K mg base CX0 2 fL fdL ["words"] (spLexicon K)) (kL : PySem.W.keepIn K (.ref fL) = true) (bL : Binds K fdL ["words"] []) (gL : mg "lexicon" = some (.ref fL))
    (GT : FnOk P w K mg base CX0 2 fT fdT ["_law_box", "_law_words_here"] (spText K)) (kT : PySem.W.keepIn K (.ref fT) = true) (bT : Binds K fdT ["_law_box", "_law_words_here"] []) (gT : mg "_law_text" = some (.ref fT))
    (GS : FnOk P w K mg base CX0 1 fS fdS ["_law_actual", "_law_due"] (spSame K)) (kS : PySem.W.keepIn K (.ref fS) = true) (bS : Binds K fdS ["_law_actual", "_law_due"] []) (gS : mg "_law_same" = some (.ref fS))
    (GA : FnOk P w K mg base CX0 2 fA fdA ["machine", "text"] (spAccepts K)) (kA : PySem.W.keepIn K (.ref fA) = true) (bA : Binds K fdA ["machine", "text"] []) (gA : mg "accepts" = some (.ref fA))
    (GI : FnOk P w K mg base CX0 1 fI fdI ["_law_words_here", "_law_text_here"] (spIsText K)) (kI : PySem.W.keepIn K (.ref fI) = true) (bI : Binds K fdI ["_law_words_here", "_law_text_here"] []) (gI : mg "_law_is_text" = some (.ref fI))
    (GR : FnOk P w K mg base CX0 1 fR fdR ["_law_box", "_law_many"] (spDraw K)) (kR : PySem.W.keepIn K (.ref fR) = true) (bR : Binds K fdR ["_law_box", "_law_many"] []) (gR : mg "_law_draw" = some (.ref fR))
    (GU : FnOk P w K mg base CX0 1 fU fdU ["machine", "state", "text"] (spRun K)) (kU : PySem.W.keepIn K (.ref fU) = true) (bU : Binds K fdU ["machine", "state", "text"] []) (gU : mg "run" = some (.ref fU))
    (ml : mg "len" = none) (mr : mg "range" = none) (mp : mg "repr" = none) : FnOk P w K mg base CX0 3 f fd ["_law_script"] (spLaw K) := by
  refine F.ok scLaw (fun vs H Q E h => ?_) (fun cdv A outer s H vs Q E hr h => ?_)
  · obtain ⟨a, ns, rfl, _⟩ := h
    rfl
  · obtain ⟨a, ns, rfl, hS, q⟩ := h
    have hr1 := hr.mono (show 1 ≤ 2 by decide)
    refine ⟨_, pss_cons (ps_set (i := 1) scLaw.nd rfl (.inl rfl) (pe_lst (pa_cons (pe_call GD hr (by rfl) gD kD bD .nil pass0 (pa_cons (pv 0) (pa_cons pe_int (pa_cons pe_int pa_nil)))) (pa_cons pe_int pa_nil))))
      (pss_cons (ps_set (i := 2) scLaw.nd rfl (.inl rfl) (pe_call GW hr (by rfl) gW kW bW .nil pass0 (pa_cons (pv 1) pa_nil)))
      (pss_cons (ps_set (i := 3) scLaw.nd rfl (.inl rfl) (pe_call GL hr (by rfl) gL kL bL .nil pass0 (pa_cons (pv 2) pa_nil)))
      (pss_cons (ps_for PassesOwn.never rfl (pi_range1 rfl mr (pa_cons pe_int pa_nil)) (pg_name (i := 4) scLaw.nd rfl (.inl rfl))
        (pss_cons (ps_set (i := 5) scLaw.nd rfl (.inl rfl) (pe_call GT hr (by rfl) gT kT bT .nil pass0 (pa_cons (pv 1) (pa_cons (pv 2) pa_nil))))
        (pss_cons (ps_if (pt_not (pt_val (pe_call GS hr1 (by rfl) gS kS bS .nil pass0 (pa_cons (pe_call GA hr (by rfl) gA kA bA .nil pass0 (pa_cons (pv 3) (pa_cons (pv 5) pa_nil))) (pa_cons (pe_call GI hr1 (by rfl) gI kI bI .nil pass0 (pa_cons (pv 2) (pa_cons (pv 5) pa_nil))) pa_nil))))) (pss_one (ps_ret pe_bl)) pss_nil)
        (pss_cons (ps_set (i := 6) scLaw.nd rfl (.inl rfl) (pe_call GT hr (by rfl) gT kT bT .nil pass0 (pa_cons (pv 1) (pa_cons (pv 2) pa_nil))))
        (pss_cons (ps_set (i := 7) scLaw.nd rfl (.inl rfl) (pe_call GR hr1 (by rfl) gR kR bR .nil pass0 (pa_cons (pv 1) (pa_cons (pe_callB call_len_seq (by rfl) ml PySem.boot_len (pa_cons (pe_ix ix_tup (pv 3) pe_int (fun _ _ => rfl)) pa_nil)) pa_nil))))
        (pss_cons (ps_set (i := 8) scLaw.nd rfl (.inl rfl) (pe_call GU hr1 (by rfl) gU kU bU .nil pass0 (pa_cons (pv 3) (pa_cons (pv 7) (pa_cons (pv 5) pa_nil)))))
        (pss_cons (ps_set (i := 9) scLaw.nd rfl (.inl rfl) (pe_call GU hr1 (by rfl) gU kU bU .nil pass0 (pa_cons (pv 3) (pa_cons (pv 7) (pa_cons (pe_op op_add_str (pv 5) (pv 6)) pa_nil)))))
        (pss_one (ps_if (pt_cmp (pc_isN (pv 8))) (pss_one (ps_if (pt_cmp (pc_notN (pv 9))) (pss_one (ps_ret pe_bl)) pss_nil))
          (pss_one (ps_if (pt_cmpR op_ne (pe_callB cr_repr (by rfl) mp PyProof.Rows.boot_repr (pa_cons (pe_call GU hr1 (by rfl) gU kU bU .nil pass0 (pa_cons (pv 3) (pa_cons (pv 8) (pa_cons (pv 6) pa_nil)))) pa_nil)) (pe_callB cr_repr (by rfl) mp PyProof.Rows.boot_repr (pa_cons (pv 9) pa_nil)) (nomark _)) (pss_one (ps_ret pe_bl)) pss_nil)))))))))))
      (pss_one (ps_ret pe_bl))))), ?_⟩
    -- the box
    refine ⟨.ref a, rfl, a, ns, rfl, hS, fun H1 dg ds s1 ndg hdg => ⟨(by show 2 ≤ sizeLine; decide), fun b nb => ?_⟩⟩
    have s2 := same_upd (o := .lst [.ref dg, .int 0]) nb
    have bx : Box (upd H1 b (.lst [.ref dg, .int 0])) b dg := ⟨ds, 0, upd_same, s2 _ _ hdg⟩
    -- the words
    refine ⟨.ref b, rfl, b, dg, rfl, bx, fun H3 p ws sx3 bx3 np hp L => ?_⟩
    -- their machine
    refine ⟨.ref p, rfl, p, ws, rfl, hp, L, fun H4 m s4 M => ?_⟩
    -- the six turns
    refine ⟨6, rfl, by decide, by decide, for_it walk_range (fun i σ H' => ∃ y4 y5 y6 y7 y8 y9, σ = [some (.ref a), some (.ref b), some (.ref p), some (.ref m), y4, y5, y6, y7, y8, y9] ∧ Box H' b dg ∧ H' p = some (.tup (ws.map S)) ∧ Mach H' m ws)
      ⟨none, none, none, none, none, none, rfl, bx3.same s4, s4 _ _ hp, M⟩ (fun _ _ _ _ _ => True.intro) (fun i x σ H5 H6 hi hP hY => ?_) (fun σ H5 hP => q _)⟩
    obtain ⟨y4, y5, y6, y7, y8, y9, rfl, bx, hp, M⟩ := hP
    obtain ⟨rfl, rfl⟩ := hY
    -- a text
    refine ⟨.ref b, rfl, .ref p, rfl, b, dg, p, ws, rfl, bx, hp, L, fun H7 z1 sx1 bx1 hz1 => ?_⟩
    have hp1 := sx1.at bx hp
    have M1 := M.sameX sx1 bx
    -- both answers are one
    refine ⟨.ref m, rfl, .str z1, rfl, m, ws, z1, rfl, M1, L, .ref p, rfl, .str z1, rfl, p, ws, z1, rfl, hp1, hz1, fun H8 s8 => ⟨_, _, rfl, _, rfl, iteNS (congrArg V.bl (acc_is L _)) ?_⟩⟩
    have bx8 := bx1.same s8
    have hp8 := s8 _ _ hp1
    have M8 := M1.same s8
    -- another text
    refine ⟨.ref b, rfl, .ref p, rfl, b, dg, p, ws, rfl, bx8, hp8, L, fun H9 z2 sx9 bx9 hz2 => ?_⟩
    have hp9 := sx9.at bx8 hp8
    have M9 := M8.sameX sx9 bx8
    have hends : ((ends ws).map V.bl).length = (found ws).length + 2 := by rw [List.length_map, ends_len]
    obtain ⟨e, mv, ys, g, hm, he, hrest⟩ := id M9
    -- a state
    refine ⟨.ref b, rfl, .ref m, rfl, m, _, 0, .ref e, rfl, rfl, SqT.of hm, rfl, e, _, rfl, .inr (SqT.of he), b, dg, _, rfl, by rw [hends]; omega, bx9, fun H10 st sx10 bx10 h0 h1 => ?_⟩
    rw [hends] at h1
    have h1' : st < (found ws).length + 2 := by omega
    have hp10 := sx10.at bx9 hp9
    have M10 := M9.sameX sx10 bx9
    have small : ∀ n : Nat, n ≤ 1000 → n ≤ sizeLine := fun n h => Nat.le_trans h (by decide)
    -- the way over the one, over both
    refine ⟨.ref m, rfl, .int st, rfl, .str z1, rfl, m, ws, st, z1, rfl, M10, L, ?_⟩
    refine ⟨.ref m, rfl, .int st, rfl, .str z1, rfl, .str z2, rfl, z1, z2, rfl, rfl, small _ (by omega), m, ws, st, z1 ++ z2, rfl, M10, L, ?_⟩
    have eb : runL ws st (z1 ++ z2).cps.toList = (runL ws st z1.cps.toList).bind fun r => runL ws r z2.cps.toList := by
      have h : (z1 ++ z2).cps.toList = z1.cps.toList ++ z2.cps.toList := TL.tl_append z1 z2
      rw [h]
      exact runL_app _ _ _
    rw [eb]
    cases hb : runL ws st z1.cps.toList with
    | none =>
      refine ⟨.non, rfl, true, rfl, iteT ⟨.non, rfl, false, rfl, iteF ?_⟩⟩
      exact ⟨_, _, _, _, _, _, rfl, bx10, hp10, M10⟩
    | some r =>
      obtain ⟨r0, r1⟩ := runL_bound L _ st r h0 h1' hb
      have hs := run_small L (z := z2.cps.toList) r0 r1
      refine ⟨.int r, rfl, false, rfl, iteF ⟨.ref m, rfl, .int r, rfl, .str z2, rfl, m, ws, r, z2, rfl, M10, L, runL ws r z2.cps.toList, rfl, hs, _, rfl, runL ws r z2.cps.toList, rfl, hs, rfl, _, rfl, iteNS rfl ?_⟩⟩
      exact ⟨_, _, _, _, _, _, rfl, bx10, hp10, M10⟩
end

/-! ### what the top has written; the law's own head -/
theorem all_mk {l : PySem.W.OpenLaw} {w : World} {K : PySem.W.Frag} {h : Heap} {mg : Str → Option Value} {fa f0 f1 f2 f3 f4 f5 f6 f7 f8 f9 f10 f11 f12 : Addr} {t1 t2 : Tok} (X : K.In h) (G : h.Ns mainGlobals mg) (hfa : mg "law" = some (.ref fa))
    {od0 an0 od1 an1 od2 an2 od3 an3 od4 an4 od5 an5 od6 an6 od7 an7 od8 an8 od9 an9 od10 an10 od11 an11 od12 an12 : Option Addr} {sl0 sl1 sl2 sl3 sl4 sl5 sl6 sl7 sl8 sl9 sl10 sl11 sl12 : Array (Option Value)} {oc0 kV0 dc0 pm0 cd0 ct0 oc1 kV1 dc1 pm1 cd1 ct1 oc2 kV2 dc2 pm2 cd2 ct2 oc3 kV3 dc3 pm3 cd3 ct3 oc4 kV4 dc4 pm4 cd4 ct4 oc5 kV5 dc5 pm5 cd5 ct5 oc6 kV6 dc6 pm6 cd6 ct6 oc7 kV7 dc7 pm7 cd7 ct7 oc8 kV8 dc8 pm8 cd8 ct8 oc9 kV9 dc9 pm9 cd9 ct9 oc10 kV10 dc10 pm10 cd10 ct10 oc11 kV11 dc11 pm11 cd11 ct11 oc12 kV12 dc12 pm12 cd12 ct12 : Value}
    (a0 : PySem.W.nsIn K mainGlobals "check_words" = some (some (.ref f0))) (l0 : K.lookup f0 = some ⟨oc0, od0, .func (PySem.W.fnOf "check_words" "check_words" (defArgs sCheck) (defBody sCheck) (defScope sCheck) .none kV0 dc0 pm0 an0 cd0 ct0), sl0⟩) (c0 : PySem.W.codeIn K cd0 "check_words" = true) (k0 : PySem.W.keepIn K (.ref f0) = true)
    (a1 : PySem.W.nsIn K mainGlobals "beginnings" = some (some (.ref f1))) (l1 : K.lookup f1 = some ⟨oc1, od1, .func (PySem.W.fnOf "beginnings" "beginnings" (defArgs sBegs) (defBody sBegs) (defScope sBegs) .none kV1 dc1 pm1 an1 cd1 ct1), sl1⟩) (c1 : PySem.W.codeIn K cd1 "beginnings" = true) (k1 : PySem.W.keepIn K (.ref f1) = true)
    (a2 : PySem.W.nsIn K mainGlobals "lexicon" = some (some (.ref f2))) (l2 : K.lookup f2 = some ⟨oc2, od2, .func (PySem.W.fnOf "lexicon" "lexicon" (defArgs sLexicon) (defBody sLexicon) (defScope sLexicon) .none kV2 dc2 pm2 an2 cd2 ct2), sl2⟩) (c2 : PySem.W.codeIn K cd2 "lexicon" = true) (k2 : PySem.W.keepIn K (.ref f2) = true)
    (a3 : PySem.W.nsIn K mainGlobals "run" = some (some (.ref f3))) (l3 : K.lookup f3 = some ⟨oc3, od3, .func (PySem.W.fnOf "run" "run" (defArgs sRun) (defBody sRun) (defScope sRun) .none kV3 dc3 pm3 an3 cd3 ct3), sl3⟩) (c3 : PySem.W.codeIn K cd3 "run" = true) (k3 : PySem.W.keepIn K (.ref f3) = true)
    (a4 : PySem.W.nsIn K mainGlobals "accepts" = some (some (.ref f4))) (l4 : K.lookup f4 = some ⟨oc4, od4, .func (PySem.W.fnOf "accepts" "accepts" (defArgs sAccepts) (defBody sAccepts) (defScope sAccepts) .none kV4 dc4 pm4 an4 cd4 ct4), sl4⟩) (c4 : PySem.W.codeIn K cd4 "accepts" = true) (k4 : PySem.W.keepIn K (.ref f4) = true)
    (a5 : PySem.W.nsIn K mainGlobals "_law_cell" = some (some (.ref f5))) (l5 : K.lookup f5 = some ⟨oc5, od5, .func (PySem.W.fnOf "_law_cell" "_law_cell" (defArgs sCell) (defBody sCell) (defScope sCell) .none kV5 dc5 pm5 an5 cd5 ct5), sl5⟩) (c5 : PySem.W.codeIn K cd5 "_law_cell" = true) (k5 : PySem.W.keepIn K (.ref f5) = true)
    (a6 : PySem.W.nsIn K mainGlobals "_law_same" = some (some (.ref f6))) (l6 : K.lookup f6 = some ⟨oc6, od6, .func (PySem.W.fnOf "_law_same" "_law_same" (defArgs sSame) (defBody sSame) (defScope sSame) .none kV6 dc6 pm6 an6 cd6 ct6), sl6⟩) (c6 : PySem.W.codeIn K cd6 "_law_same" = true) (k6 : PySem.W.keepIn K (.ref f6) = true)
    (a7 : PySem.W.nsIn K mainGlobals "_law_digits" = some (some (.ref f7))) (l7 : K.lookup f7 = some ⟨oc7, od7, .func (PySem.W.fnOf "_law_digits" "_law_digits" (defArgs sDigits) (defBody sDigits) (defScope sDigits) .none kV7 dc7 pm7 an7 cd7 ct7), sl7⟩) (c7 : PySem.W.codeIn K cd7 "_law_digits" = true) (k7 : PySem.W.keepIn K (.ref f7) = true)
    (a8 : PySem.W.nsIn K mainGlobals "_law_draw" = some (some (.ref f8))) (l8 : K.lookup f8 = some ⟨oc8, od8, .func (PySem.W.fnOf "_law_draw" "_law_draw" (defArgs sDraw) (defBody sDraw) (defScope sDraw) .none kV8 dc8 pm8 an8 cd8 ct8), sl8⟩) (c8 : PySem.W.codeIn K cd8 "_law_draw" = true) (k8 : PySem.W.keepIn K (.ref f8) = true)
    (a9 : PySem.W.nsIn K mainGlobals "_law_words" = some (some (.ref f9))) (l9 : K.lookup f9 = some ⟨oc9, od9, .func (PySem.W.fnOf "_law_words" "_law_words" (defArgs sWords) (defBody sWords) (defScope sWords) .none kV9 dc9 pm9 an9 cd9 ct9), sl9⟩) (c9 : PySem.W.codeIn K cd9 "_law_words" = true) (k9 : PySem.W.keepIn K (.ref f9) = true)
    (a10 : PySem.W.nsIn K mainGlobals "_law_is_text" = some (some (.ref f10))) (l10 : K.lookup f10 = some ⟨oc10, od10, .func (PySem.W.fnOf "_law_is_text" "_law_is_text" (defArgs sIsText) (defBody sIsText) (defScope sIsText) .none kV10 dc10 pm10 an10 cd10 ct10), sl10⟩) (c10 : PySem.W.codeIn K cd10 "_law_is_text" = true) (k10 : PySem.W.keepIn K (.ref f10) = true)
    (a11 : PySem.W.nsIn K mainGlobals "_law_text" = some (some (.ref f11))) (l11 : K.lookup f11 = some ⟨oc11, od11, .func (PySem.W.fnOf "_law_text" "_law_text" (defArgs sText) (defBody sText) (defScope sText) .none kV11 dc11 pm11 an11 cd11 ct11), sl11⟩) (c11 : PySem.W.codeIn K cd11 "_law_text" = true) (k11 : PySem.W.keepIn K (.ref f11) = true)
    (a12 : PySem.W.nsIn K mainGlobals "law" = some (some (.ref f12))) (l12 : K.lookup f12 = some ⟨oc12, od12, .func (PySem.W.fnOf "law" "law" (defArgs sLaw) (defBody sLaw) (defScope sLaw) .none kV12 dc12 pm12 an12 cd12 ct12), sl12⟩) (c12 : PySem.W.codeIn K cd12 "law" = true) (k12 : PySem.W.keepIn K (.ref f12) = true)
    (z_len : PySem.W.nsIn K mainGlobals "len" = some none)
    (z_int : PySem.W.nsIn K mainGlobals "int" = some none)
    (z_range : PySem.W.nsIn K mainGlobals "range" = some none)
    (z_tuple : PySem.W.nsIn K mainGlobals "tuple" = some none)
    (z_enumerate : PySem.W.nsIn K mainGlobals "enumerate" = some none)
    (z_sorted : PySem.W.nsIn K mainGlobals "sorted" = some none)
    (z_isinstance : PySem.W.nsIn K mainGlobals "isinstance" = some none)
    (z_bool : PySem.W.nsIn K mainGlobals "bool" = some none)
    (z_repr : PySem.W.nsIn K mainGlobals "repr" = some none)
    (w1 : PySem.W.nsIn K mainGlobals "WORDS_MOST" = some (some (.int 20 t1))) (w2 : PySem.W.nsIn K mainGlobals "WORD_MOST" = some (some (.int 10 t2))) :
    ∃ fd : FuncData, (∀ (s : Shared) (v : Value), BindsTo s fd ⟨[v], []⟩ [("_law_script", v)]) ∧ ∀ base : Heap, K.In base → base.Ns mainGlobals mg → FnOk l.prog w K mg base CX0 3 fa fd ["_law_script"] (spLaw K) := by
  have e := hfa.symm.trans (PySem.W.mg_of X G a12)
  cases e
  have F0 := fun_mk (st := sCheck) l0 c0 k0
  have b0 := F0.binds (ps := ["words"]) fun _ _ _ _ _ _ us hl => match us, hl with | [_], _ => rfl
  have g0 := PySem.W.mg_of X G a0
  have F1 := fun_mk (st := sBegs) l1 c1 k1
  have b1 := F1.binds (ps := ["words"]) fun _ _ _ _ _ _ us hl => match us, hl with | [_], _ => rfl
  have g1 := PySem.W.mg_of X G a1
  have F2 := fun_mk (st := sLexicon) l2 c2 k2
  have b2 := F2.binds (ps := ["words"]) fun _ _ _ _ _ _ us hl => match us, hl with | [_], _ => rfl
  have g2 := PySem.W.mg_of X G a2
  have F3 := fun_mk (st := sRun) l3 c3 k3
  have b3 := F3.binds (ps := ["machine", "state", "text"]) fun _ _ _ _ _ _ us hl => match us, hl with | [_, _, _], _ => rfl
  have g3 := PySem.W.mg_of X G a3
  have F4 := fun_mk (st := sAccepts) l4 c4 k4
  have b4 := F4.binds (ps := ["machine", "text"]) fun _ _ _ _ _ _ us hl => match us, hl with | [_, _], _ => rfl
  have g4 := PySem.W.mg_of X G a4
  have F5 := fun_mk (st := sCell) l5 c5 k5
  have b5 := F5.binds (ps := ["_law_script", "_law_k"]) fun _ _ _ _ _ _ us hl => match us, hl with | [_, _], _ => rfl
  have g5 := PySem.W.mg_of X G a5
  have F6 := fun_mk (st := sSame) l6 c6 k6
  have b6 := F6.binds (ps := ["_law_actual", "_law_due"]) fun _ _ _ _ _ _ us hl => match us, hl with | [_, _], _ => rfl
  have g6 := PySem.W.mg_of X G a6
  have F7 := fun_mk (st := sDigits) l7 c7 k7
  have b7 := F7.binds (ps := ["_law_script", "_law_first", "_law_last"]) fun _ _ _ _ _ _ us hl => match us, hl with | [_, _, _], _ => rfl
  have g7 := PySem.W.mg_of X G a7
  have F8 := fun_mk (st := sDraw) l8 c8 k8
  have b8 := F8.binds (ps := ["_law_box", "_law_many"]) fun _ _ _ _ _ _ us hl => match us, hl with | [_, _], _ => rfl
  have g8 := PySem.W.mg_of X G a8
  have F9 := fun_mk (st := sWords) l9 c9 k9
  have b9 := F9.binds (ps := ["_law_box"]) fun _ _ _ _ _ _ us hl => match us, hl with | [_], _ => rfl
  have g9 := PySem.W.mg_of X G a9
  have F10 := fun_mk (st := sIsText) l10 c10 k10
  have b10 := F10.binds (ps := ["_law_words_here", "_law_text_here"]) fun _ _ _ _ _ _ us hl => match us, hl with | [_, _], _ => rfl
  have g10 := PySem.W.mg_of X G a10
  have F11 := fun_mk (st := sText) l11 c11 k11
  have b11 := F11.binds (ps := ["_law_box", "_law_words_here"]) fun _ _ _ _ _ _ us hl => match us, hl with | [_, _], _ => rfl
  have g11 := PySem.W.mg_of X G a11
  have F12 := fun_mk (st := sLaw) l12 c12 k12
  have m_len := PySem.W.mg_none_of X G z_len
  have m_int := PySem.W.mg_none_of X G z_int
  have m_range := PySem.W.mg_none_of X G z_range
  have m_tuple := PySem.W.mg_none_of X G z_tuple
  have m_enumerate := PySem.W.mg_none_of X G z_enumerate
  have m_sorted := PySem.W.mg_none_of X G z_sorted
  have m_isinstance := PySem.W.mg_none_of X G z_isinstance
  have m_bool := PySem.W.mg_none_of X G z_bool
  have m_repr := PySem.W.mg_none_of X G z_repr
  have x1 := PySem.W.mg_of X G w1
  have x2 := PySem.W.mg_of X G w2
  refine ⟨PySem.W.fnOf "law" "law" (defArgs sLaw) (defBody sLaw) (defScope sLaw) .none kV12 dc12 pm12 an12 cd12 ct12, fun s v => .of_eq rfl, fun base _ _ => ?_⟩
  exact ok_law F12 (ok_digits F7 F5 b5 g5 m_len m_int m_range) k7 b7 g7 (ok_words F9 F8 b8 g8 m_len m_int m_range m_tuple) k9 b9 g9 (ok_lexicon F2 F0 F1 b0 b1 g0 g1 m_len m_range m_enumerate m_tuple m_sorted x1 x2) k2 b2 g2 (ok_text F11 F8 b8 g8 m_len m_int m_range) k11 b11 g11 (ok_same F6 m_isinstance m_tuple m_bool) k6 b6 g6 (ok_accepts F4 F3 b3 g3) k4 b4 g4 (ok_istext F10) k10 b10 g10 (ok_draw F8 m_len m_int) k8 b8 g8 (ok_run F3) k3 b3 g3 m_len m_range m_repr
end K46

open PySem PySem.W PyProof.Rows
set_option maxHeartbeats 0 in
theorem PySem.Challenge.cw_surelyread_k46_texts_of_lexicons_holds : PySem.Challenge.rw_surelyread_k46_texts_of_lexicons.Holds := by
  w_on; o_law; k_head; (case hw => w_witness2)
  k_fill
  refine L2.walk_of (l := PySem.Challenge.rw_surelyread_k46_texts_of_lexicons) (n := 63) (k := 3) (x := "_law_script") (CX := fun _ => L2.CX0) (sp := fun w => K46.spLaw _) rfl (by decide) rfl ⟨rfl, by decide, by decide⟩ (fun w h Y => PySem.W.kIn_of Y) ?F (fun _ _ a ns hl _ hS => ⟨a, ns, rfl, hS, fun _ => rfl⟩) (fun _ _ _ _ _ h => h)
  case F =>
    intro w mg fa h KX G hmg
    refine' K46.all_mk KX G hmg ?a0 ?l0 ?c0 ?k0 ?a1 ?l1 ?c1 ?k1 ?a2 ?l2 ?c2 ?k2 ?a3 ?l3 ?c3 ?k3 ?a4 ?l4 ?c4 ?k4 ?a5 ?l5 ?c5 ?k5 ?a6 ?l6 ?c6 ?k6 ?a7 ?l7 ?c7 ?k7 ?a8 ?l8 ?c8 ?k8 ?a9 ?l9 ?c9 ?k9 ?a10 ?l10 ?c10 ?k10 ?a11 ?l11 ?c11 ?k11 ?a12 ?l12 ?c12 ?k12 ?z_len ?z_int ?z_range ?z_tuple ?z_enumerate ?z_sorted ?z_isinstance ?z_bool ?z_repr ?w1 ?w2
    (case a0 => k_is); (case l0 => k_is); (case c0 => k_is); (case k0 => k_is); (case a1 => k_is); (case l1 => k_is); (case c1 => k_is); (case k1 => k_is); (case a2 => k_is); (case l2 => k_is); (case c2 => k_is); (case k2 => k_is); (case a3 => k_is); (case l3 => k_is); (case c3 => k_is); (case k3 => k_is); (case a4 => k_is); (case l4 => k_is); (case c4 => k_is); (case k4 => k_is); (case a5 => k_is); (case l5 => k_is); (case c5 => k_is); (case k5 => k_is); (case a6 => k_is); (case l6 => k_is); (case c6 => k_is); (case k6 => k_is); (case a7 => k_is); (case l7 => k_is); (case c7 => k_is); (case k7 => k_is); (case a8 => k_is); (case l8 => k_is); (case c8 => k_is); (case k8 => k_is); (case a9 => k_is); (case l9 => k_is); (case c9 => k_is); (case k9 => k_is); (case a10 => k_is); (case l10 => k_is); (case c10 => k_is); (case k10 => k_is); (case a11 => k_is); (case l11 => k_is); (case c11 => k_is); (case k11 => k_is); (case a12 => k_is); (case l12 => k_is); (case c12 => k_is); (case k12 => k_is); (case z_len => k_is); (case z_int => k_is); (case z_range => k_is); (case z_tuple => k_is); (case z_enumerate => k_is); (case z_sorted => k_is); (case z_isinstance => k_is); (case z_bool => k_is); (case z_repr => k_is); (case w1 => k_is); (case w2 => k_is)
