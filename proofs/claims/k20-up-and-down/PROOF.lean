import PyProof.Rows.All
import Wide.All
import OpenK.AllK
import Wide.FinOn
import HandS.ForMost
import HandS.Deep
import KE.KDictKeyed
import KE.KDictDisplayH
import KE.SortData
import HandS.Conv
import HandS.ForExc
import HandS.Style
import HandS.Rev
import HandS.TryMany
import HandS.Lambda
import HandS.EndTab
import HandS.AnyAll
import PySem.Challenge.RW_crossloom_k20_up_and_down
import HandS.Walk
set_option Elab.async false
set_option linter.all false
/-! Plain law, part 1: breadth-first search by a queue and by layers, over any step relation. -/
namespace KM
set_option autoImplicit false

/-- a walk of k steps from s to the second -/
inductive Wk {α : Type} (sc : α → List α) (s : α) : Nat → α → Prop
  | zero : Wk sc s 0 s
  | step {k : Nat} {x y : α} : Wk sc s k x → y ∈ sc x → Wk sc s (k + 1) y

theorem Wk.pre {α : Type} {sc : α → List α} {s t : α} (h : t ∈ sc s) : ∀ {k : Nat} {x : α}, Wk sc t k x → Wk sc s (k + 1) x := by
  intro k x w
  induction w with
  | zero => exact .step .zero h
  | step _ hy ih => exact .step ih hy
theorem Wk.app {α : Type} {sc : α → List α} {s t : α} {j : Nat} (h : Wk sc s j t) : ∀ {k : Nat} {x : α}, Wk sc t k x → Wk sc s (j + k) x := by
  intro k x w
  induction w with
  | zero => exact h
  | step _ hy ih => exact .step ih hy

/-- a function with one value told anew -/
def updF {α β : Type} [DecidableEq α] (f : α → β) (a : α) (b : β) : α → β := fun x => if x = a then b else f x
theorem updF_same {α β : Type} [DecidableEq α] (f : α → β) (a : α) (b : β) : updF f a b a = b := by simp [updF]
theorem updF_ne {α β : Type} [DecidableEq α] (f : α → β) {a x : α} (b : β) (h : x ≠ a) : updF f a b x = f x := by simp [updF, h]

section
variable {α : Type} [DecidableEq α]
/-- a search by a queue: seen, in the order of finding; the first i are done; of the next one the steps pre are done -/
structure Bfs (sc : α → List α) (s : α) (seen : List α) (i : Nat) (dp : α → Nat) (pr : α → Option α) (pre : List α) : Prop where
  nodup : seen.Nodup
  head : seen[0]? = some s
  dp0 : dp s = 0
  pr0 : pr s = none
  par : ∀ (j : Nat) (y : α), seen[j]? = some y → j ≠ 0 → ∃ x jx, pr y = some x ∧ jx < j ∧ seen[jx]? = some x ∧ y ∈ sc x ∧ dp y = dp x + 1
  mono : ∀ (j k : Nat) (y z : α), j ≤ k → seen[j]? = some y → seen[k]? = some z → dp y ≤ dp z
  near : ∀ (j k : Nat) (y z : α), i ≤ j → seen[j]? = some y → seen[k]? = some z → dp z ≤ dp y + 1
  clo : ∀ (j : Nat) (x : α), j < i → seen[j]? = some x → ∀ y ∈ sc x, y ∈ seen ∧ dp y ≤ dp x + 1
  pcl : ∀ x, seen[i]? = some x → ∀ y ∈ pre, y ∈ seen

theorem bfs_start (sc : α → List α) (s : α) : Bfs sc s [s] 0 (fun _ => 0) (fun _ => none) [] := by
  refine ⟨by simp, by simp, rfl, rfl, ?_, ?_, ?_, ?_, ?_⟩
  · intro j y h hj
    cases j with
    | zero => exact absurd rfl hj
    | succ j => simp at h
  · intros; exact Nat.le_refl _
  · intros; exact Nat.zero_le _
  · intro j x hj; omega
  · intro x _ y hy; cases hy

theorem bfs_old {sc : α → List α} {s : α} {seen : List α} {i : Nat} {dp : α → Nat} {pr : α → Option α} {pre : List α} (B : Bfs sc s seen i dp pr pre) {y : α} (hy : y ∈ seen) :
    Bfs sc s seen i dp pr (pre ++ [y]) := by
  refine ⟨B.nodup, B.head, B.dp0, B.pr0, B.par, B.mono, B.near, B.clo, fun x hx z hz => ?_⟩
  rcases List.mem_append.mp hz with h | h
  · exact B.pcl x hx z h
  · rw [List.mem_singleton] at h
    rw [h]
    exact hy

theorem getElem?_snoc {β : Type} {l : List β} {a b : β} {j : Nat} (h : (l ++ [a])[j]? = some b) : (j < l.length ∧ l[j]? = some b) ∨ (j = l.length ∧ b = a) := by
  by_cases hj : j < l.length
  · rw [List.getElem?_append_left hj] at h
    exact .inl ⟨hj, h⟩
  · rw [List.getElem?_append_right (by omega)] at h
    have : j - l.length = 0 := by
      by_cases q : j - l.length = 0
      · exact q
      · rw [List.getElem?_eq_none (by simp; omega)] at h
        cases h
    rw [this] at h
    simp at h
    exact .inr ⟨by omega, h.symm⟩
theorem getElem?_snoc_old {β : Type} {l : List β} {a b : β} {j : Nat} (h : l[j]? = some b) : (l ++ [a])[j]? = some b := by
  have hj : j < l.length := (List.getElem?_eq_some_iff.mp h).1
  rw [List.getElem?_append_left hj]
  exact h

theorem bfs_new {sc : α → List α} {s : α} {seen : List α} {i : Nat} {dp : α → Nat} {pr : α → Option α} {pre : List α} (B : Bfs sc s seen i dp pr pre) {here y : α} (hh : seen[i]? = some here) (hy : y ∈ sc here) (hn : y ∉ seen) :
    Bfs sc s (seen ++ [y]) i (updF dp y (dp here + 1)) (updF pr y (some here)) (pre ++ [y]) := by
  have hi : i < seen.length := (List.getElem?_eq_some_iff.mp hh).1
  have ne : ∀ {j : Nat} {x : α}, seen[j]? = some x → x ≠ y := fun {j x} e z => hn (z ▸ List.mem_of_getElem? e)
  have hs : s ≠ y := ne B.head
  refine ⟨?_, getElem?_snoc_old B.head, by rw [updF_ne _ _ hs]; exact B.dp0, by rw [updF_ne _ _ hs]; exact B.pr0, ?_, ?_, ?_, ?_, ?_⟩
  · rw [List.nodup_append]
    refine ⟨B.nodup, by simp, fun a ha b hb => ?_⟩
    rw [List.mem_singleton] at hb
    intro e
    exact hn (hb ▸ e ▸ ha)
  · intro j z hz hj
    rcases getElem?_snoc hz with ⟨_, h⟩ | ⟨e, h⟩
    · obtain ⟨x, jx, h1, h2, h3, h4, h5⟩ := B.par j z h hj
      exact ⟨x, jx, by rw [updF_ne _ _ (ne h)]; exact h1, h2, getElem?_snoc_old h3, h4, by rw [updF_ne _ _ (ne h), updF_ne _ _ (ne h3)]; exact h5⟩
    · subst h
      exact ⟨here, i, updF_same _ _ _, by omega, getElem?_snoc_old hh, hy, by rw [updF_same, updF_ne _ _ (ne hh)]⟩
  · intro j k a b hjk ha hb
    rcases getElem?_snoc ha with ⟨h1, ha1⟩ | ⟨h1, ha1⟩
    · rcases getElem?_snoc hb with ⟨h2, hb1⟩ | ⟨h2, hb1⟩
      · rw [updF_ne _ _ (ne ha1), updF_ne _ _ (ne hb1)]
        exact B.mono j k a b hjk ha1 hb1
      · rw [hb1, updF_ne _ _ (ne ha1), updF_same]
        exact B.near i j here a (Nat.le_refl _) hh ha1
    · rcases getElem?_snoc hb with ⟨h2, hb1⟩ | ⟨h2, hb1⟩
      · omega
      · rw [ha1, hb1]
        exact Nat.le_refl _
  · intro j k a b hij ha hb
    have hdy : ∀ {k : Nat} {b : α}, (seen ++ [y])[k]? = some b → updF dp y (dp here + 1) b ≤ dp here + 1 := fun {k b} hb => by
      rcases getElem?_snoc hb with ⟨h2, hb⟩ | ⟨h2, hb⟩
      · rw [updF_ne _ _ (ne hb)]
        exact B.near i k here b (Nat.le_refl _) hh hb
      · rw [hb, updF_same]
        exact Nat.le_refl _
    rcases getElem?_snoc ha with ⟨h1, ha⟩ | ⟨h1, ha⟩
    · have h3 := B.mono i j here a hij hh ha
      rw [updF_ne _ _ (ne ha)]
      have := hdy hb
      omega
    · have := hdy hb
      rw [ha, updF_same]
      omega
  · intro j x hj hx z hz
    rcases getElem?_snoc hx with ⟨_, hx⟩ | ⟨e, _⟩
    · obtain ⟨h1, h2⟩ := B.clo j x hj hx z hz
      refine ⟨List.mem_append_left _ h1, ?_⟩
      rw [updF_ne _ _ (ne hx), updF_ne _ _ (fun e => hn (by rw [← e]; exact h1))]
      exact h2
    · omega
  · intro x hx z hz
    rcases getElem?_snoc hx with ⟨_, hx⟩ | ⟨e, _⟩
    · rcases List.mem_append.mp hz with h | h
      · exact List.mem_append_left _ (B.pcl x hx z h)
      · exact List.mem_append_right _ h
    · omega

theorem bfs_next {sc : α → List α} {s : α} {seen : List α} {i : Nat} {dp : α → Nat} {pr : α → Option α} {pre : List α} (B : Bfs sc s seen i dp pr pre) {here : α} (hh : seen[i]? = some here) (hp : ∀ y ∈ sc here, y ∈ pre) :
    Bfs sc s seen (i + 1) dp pr [] := by
  refine ⟨B.nodup, B.head, B.dp0, B.pr0, B.par, B.mono, fun j k y z hj => B.near j k y z (by omega), fun j x hj hx y hy => ?_, fun _ _ _ h => nomatch h⟩
  by_cases e : j = i
  · subst e
    rw [hh] at hx
    cases hx
    have hy' := B.pcl _ hh y (hp y hy)
    obtain ⟨k, hk⟩ := List.mem_iff_getElem?.mp hy'
    exact ⟨hy', B.near j k here y (Nat.le_refl _) hh hk⟩
  · exact B.clo j x (by omega) hx y hy

/-- what is seen is reached -/
theorem bfs_walk {sc : α → List α} {s : α} {seen : List α} {i : Nat} {dp : α → Nat} {pr : α → Option α} {pre : List α} (B : Bfs sc s seen i dp pr pre) : ∀ (j : Nat) (y : α), seen[j]? = some y → Wk sc s (dp y) y := by
  intro j
  induction j using Nat.strongRecOn with
  | _ j ih =>
    intro y hy
    by_cases hj : j = 0
    · subst hj
      rw [B.head] at hy
      cases hy
      rw [B.dp0]
      exact .zero
    · obtain ⟨x, jx, _, h2, h3, h4, h5⟩ := B.par j y hy hj
      rw [h5]
      exact .step (ih jx h2 x h3) h4
theorem bfs_reach {sc : α → List α} {s : α} {seen : List α} {i : Nat} {dp : α → Nat} {pr : α → Option α} {pre : List α} (B : Bfs sc s seen i dp pr pre) {y : α} (hy : y ∈ seen) : Wk sc s (dp y) y := by
  obtain ⟨j, hj⟩ := List.mem_iff_getElem?.mp hy
  exact bfs_walk B j y hj

/-- no deeper than its place -/
theorem bfs_depth {sc : α → List α} {s : α} {seen : List α} {i : Nat} {dp : α → Nat} {pr : α → Option α} {pre : List α} (B : Bfs sc s seen i dp pr pre) : ∀ (j : Nat) (y : α), seen[j]? = some y → dp y ≤ j := by
  intro j
  induction j using Nat.strongRecOn with
  | _ j ih =>
    intro y hy
    by_cases hj : j = 0
    · subst hj
      rw [B.head] at hy
      cases hy
      rw [B.dp0]
      exact Nat.le_refl _
    · obtain ⟨x, jx, _, h2, h3, _, h5⟩ := B.par j y hy hj
      have := ih jx h2 x h3
      omega

/-- all is done -/
theorem bfs_done {sc : α → List α} {s : α} {seen : List α} {i : Nat} {dp : α → Nat} {pr : α → Option α} {pre : List α} (B : Bfs sc s seen i dp pr pre) (hi : seen.length ≤ i) : ∀ {k : Nat} {x : α}, Wk sc s k x → x ∈ seen ∧ dp x ≤ k := by
  intro k x w
  induction w with
  | zero => exact ⟨List.mem_of_getElem? B.head, by rw [B.dp0]; exact Nat.le_refl _⟩
  | step _ hy ih =>
    obtain ⟨h1, h2⟩ := ih
    obtain ⟨j, hj⟩ := List.mem_iff_getElem?.mp h1
    obtain ⟨h3, h4⟩ := B.clo j _ (by have := (List.getElem?_eq_some_iff.mp hj).1; omega) hj _ hy
    exact ⟨h3, by omega⟩

/-- the first goal that is met is one of the nearest -/
theorem bfs_first {sc : α → List α} {s : α} {seen : List α} {i : Nat} {dp : α → Nat} {pr : α → Option α} {pre : List α} (B : Bfs sc s seen i dp pr pre) {here : α} (hh : seen[i]? = some here) (P : α → Prop)
    (hP : ∀ (j : Nat) (x : α), j < i → seen[j]? = some x → ¬ P x) : ∀ {k : Nat} {x : α}, Wk sc s k x → P x → dp here ≤ k := by
  have key : ∀ {k : Nat} {x : α}, Wk sc s k x → dp here ≤ k ∨ (∃ j, j < i ∧ seen[j]? = some x ∧ dp x ≤ k) := by
    intro k x w
    induction w with
    | zero =>
      by_cases hi : i = 0
      · left
        subst hi
        rw [B.head] at hh
        cases hh
        rw [B.dp0]
        exact Nat.le_refl _
      · exact .inr ⟨0, by omega, B.head, by rw [B.dp0]; exact Nat.le_refl _⟩
    | step _ hy ih =>
      rcases ih with h | ⟨j, h1, h2, h3⟩
      · exact .inl (by omega)
      · obtain ⟨h4, h5⟩ := B.clo j _ h1 h2 _ hy
        obtain ⟨m, hm⟩ := List.mem_iff_getElem?.mp h4
        by_cases hmi : m < i
        · exact .inr ⟨m, hmi, hm, by omega⟩
        · left
          have := B.mono i m here _ (by omega) hh hm
          omega
  intro k x w px
  rcases key w with h | ⟨j, h1, h2, _⟩
  · exact h
  · exact absurd px (hP j x h1 h2)

/-- the way back by the table of parents: from the start to y -/
inductive Chain (pr : α → Option α) : α → List α → Prop
  | root {y : α} : pr y = none → Chain pr y [y]
  | link {x y : α} {cs : List α} : pr y = some x → Chain pr x cs → Chain pr y (cs ++ [y])
/-- consecutive ones are joined -/
inductive Path (sc : α → List α) : α → List α → α → Prop
  | one {x : α} : Path sc x [x] x
  | more {s x y : α} {cs : List α} : Path sc s cs x → y ∈ sc x → Path sc s (cs ++ [y]) y
theorem bfs_chain {sc : α → List α} {s : α} {seen : List α} {i : Nat} {dp : α → Nat} {pr : α → Option α} {pre : List α} (B : Bfs sc s seen i dp pr pre) : ∀ (j : Nat) (y : α), seen[j]? = some y →
    ∃ cs, Chain pr y cs ∧ Path sc s cs y ∧ cs.length = dp y + 1 ∧ ∀ x ∈ cs, x ∈ seen := by
  intro j
  induction j using Nat.strongRecOn with
  | _ j ih =>
    intro y hy
    by_cases hj : j = 0
    · subst hj
      rw [B.head] at hy
      cases hy
      exact ⟨[s], .root B.pr0, .one, by rw [B.dp0]; rfl, fun x hx => by rw [List.mem_singleton] at hx; rw [hx]; exact List.mem_of_getElem? B.head⟩
    · obtain ⟨x, jx, h1, h2, h3, h4, h5⟩ := B.par j y hy hj
      obtain ⟨cs, c1, c2, c3, c4⟩ := ih jx h2 x h3
      refine ⟨cs ++ [y], .link h1 c1, .more c2 h4, by rw [List.length_append, c3, h5]; rfl, fun z hz => ?_⟩
      rcases List.mem_append.mp hz with h | h
      · exact c4 z h
      · rw [List.mem_singleton] at h
        rw [h]
        exact List.mem_of_getElem? hy

/-- the least length of a walk to a goal -/
def Least (sc : α → List α) (s : α) (P : α → Prop) (n : Nat) : Prop := (∃ x, P x ∧ Wk sc s n x) ∧ ∀ k x, Wk sc s k x → P x → n ≤ k
omit [DecidableEq α] in
theorem Least.one {sc : α → List α} {s : α} {P : α → Prop} {n m : Nat} (a : Least sc s P n) (b : Least sc s P m) : n = m := by
  obtain ⟨⟨x, px, wx⟩, h1⟩ := a
  obtain ⟨⟨y, py, wy⟩, h2⟩ := b
  have := h1 m y wy py
  have := h2 n x wx px
  omega

/-- the search by layers: seen, of which left is the last layer, all walks of n steps -/
structure Lay (sc : α → List α) (s : α) (P : α → Prop) (seen left : List α) (n : Nat) : Prop where
  nodup : seen.Nodup
  lnd : left.Nodup
  sub : ∀ x ∈ left, x ∈ seen
  at_ : ∀ x ∈ left, Wk sc s n x
  got : ∀ (k : Nat) (x : α), k ≤ n → Wk sc s k x → x ∈ seen
  clo : ∀ x ∈ seen, x ∉ left → ∀ y ∈ sc x, y ∈ seen
  non : ∀ x ∈ seen, x ∉ left → ¬ P x
  bef : ∀ (k : Nat) (x : α), k < n → Wk sc s k x → ¬ P x
/-- within a layer: pre of left's are done, of the next one the steps dn; fresh is found -/
structure LayIn (sc : α → List α) (s : α) (P : α → Prop) (seen left : List α) (n : Nat) (pre : List α) (fresh : List α) : Prop where
  lay : Lay sc s P seen left n
  nodup : (seen ++ fresh).Nodup
  at_ : ∀ x ∈ fresh, Wk sc s (n + 1) x
  clo : ∀ y ∈ pre, y ∈ seen ++ fresh
omit [DecidableEq α] in
theorem lay_start (sc : α → List α) (s : α) (P : α → Prop) : Lay sc s P [s] [s] 0 := by
  refine ⟨by simp, by simp, fun x h => h, fun x h => ?_, fun k x hk w => ?_, fun x h1 h2 => absurd h1 h2, fun x h1 h2 => absurd h1 h2, fun k x hk => by omega⟩
  · rw [List.mem_singleton] at h
    rw [h]
    exact .zero
  · have : k = 0 := by omega
    subst this
    cases w
    simp
omit [DecidableEq α] in
theorem lay_in {sc : α → List α} {s : α} {P : α → Prop} {seen left : List α} {n : Nat} (L : Lay sc s P seen left n) : LayIn sc s P seen left n [] [] := ⟨L, by simpa using L.nodup, (fun _ h => nomatch h), (fun _ h => nomatch h)⟩
omit [DecidableEq α] in
theorem lay_old {sc : α → List α} {s : α} {P : α → Prop} {seen left : List α} {n : Nat} {pre fresh : List α} (L : LayIn sc s P seen left n pre fresh) {y : α} (hy : y ∈ seen ++ fresh) : LayIn sc s P seen left n (pre ++ [y]) fresh :=
  ⟨L.lay, L.nodup, L.at_, fun z hz => by
    rcases List.mem_append.mp hz with h | h
    · exact L.clo z h
    · rw [List.mem_singleton] at h
      rw [h]
      exact hy⟩
omit [DecidableEq α] in
theorem lay_new {sc : α → List α} {s : α} {P : α → Prop} {seen left : List α} {n : Nat} {pre fresh : List α} (L : LayIn sc s P seen left n pre fresh) {x y : α} (hx : x ∈ left) (hy : y ∈ sc x) (hn : y ∉ seen ++ fresh) :
    LayIn sc s P seen left n (pre ++ [y]) (fresh ++ [y]) := by
  refine ⟨L.lay, ?_, fun z hz => ?_, fun z hz => ?_⟩
  · rw [← List.append_assoc, List.nodup_append]
    refine ⟨L.nodup, by simp, fun a ha b hb => ?_⟩
    rw [List.mem_singleton] at hb
    intro e
    exact hn (hb ▸ e ▸ ha)
  · rcases List.mem_append.mp hz with h | h
    · exact L.at_ z h
    · rw [List.mem_singleton] at h
      rw [h]
      exact .step (L.lay.at_ x hx) hy
  · rw [← List.append_assoc]
    rcases List.mem_append.mp hz with h | h
    · exact List.mem_append_left _ (L.clo z h)
    · exact List.mem_append_right _ h
omit [DecidableEq α] in
theorem lay_next {sc : α → List α} {s : α} {P : α → Prop} {seen left : List α} {n : Nat} {pre fresh : List α} (L : LayIn sc s P seen left n pre fresh) (hp : ∀ x ∈ left, ∀ y ∈ sc x, y ∈ pre) (hno : ∀ x ∈ left, ¬ P x) :
    Lay sc s P (seen ++ fresh) fresh (n + 1) := by
  have non : ∀ x ∈ seen, ¬ P x := fun x hx => by
    by_cases q : x ∈ left
    · exact hno x q
    · exact L.lay.non x hx q
  have clo : ∀ x ∈ seen, ∀ y ∈ sc x, y ∈ seen ++ fresh := fun x hx y hy => by
    by_cases q : x ∈ left
    · exact L.clo y (hp x q y hy)
    · exact List.mem_append_left _ (L.lay.clo x hx q y hy)
  refine ⟨L.nodup, (List.nodup_append.mp L.nodup).2.1, fun x hx => List.mem_append_right _ hx, L.at_, fun k x hk w => ?_, fun x hx hn y hy => ?_, fun x hx hn => ?_, fun k x hk w => ?_⟩
  · by_cases h : k ≤ n
    · exact List.mem_append_left _ (L.lay.got k x h w)
    · cases w with
      | zero => omega
      | step w hy => exact clo _ (L.lay.got _ _ (by omega) w) _ hy
  · rcases List.mem_append.mp hx with h | h
    · exact clo x h y hy
    · exact absurd h hn
  · rcases List.mem_append.mp hx with h | h
    · exact non x h
    · exact absurd h hn
  · exact non x (L.lay.got k x (by omega) w)
omit [DecidableEq α] in
theorem lay_goal {sc : α → List α} {s : α} {P : α → Prop} {seen left : List α} {n : Nat} (L : Lay sc s P seen left n) {x : α} (hx : x ∈ left) (px : P x) : Least sc s P n :=
  ⟨⟨x, px, L.at_ x hx⟩, fun k y w py => by
    by_cases h : k < n
    · exact absurd py (L.bef k y h w)
    · omega⟩
omit [DecidableEq α] in
theorem lay_end {sc : α → List α} {s : α} {P : α → Prop} {seen : List α} {n : Nat} (L : Lay sc s P seen [] n) : ∀ {k : Nat} {x : α}, Wk sc s k x → ¬ P x := by
  have h : ∀ {k : Nat} {x : α}, Wk sc s k x → x ∈ seen := by
    intro k x w
    induction w with
    | zero => exact L.got 0 s (Nat.zero_le _) .zero
    | step _ hy ih => exact L.clo _ ih (fun z => nomatch z) _ hy
  intro k x w
  exact L.non _ (h w) (fun z => nomatch z)
end
end KM
/-! Plain law, part 2: levels, ways up then down, waits, numbers. -/
namespace KM
set_option autoImplicit false

/-- nodes dm, neighbours G: closed, both ways, no loop -/
structure Gr (dm : List Int) (G : Int → List Int) : Prop where
  cl : ∀ k ∈ dm, ∀ j ∈ G k, j ∈ dm
  sy : ∀ k ∈ dm, ∀ j ∈ G k, k ∈ G j
  ir : ∀ k ∈ dm, k ∉ G k

/-- the key of a node is less: fewer steps, or as many and a lesser name -/
def lesB (S : Int → Int) (a b : Int) : Bool := decide (S a < S b) || (decide (S a = S b) && decide (a < b))
/-- the link from h to n goes up -/
def upB (S : Int → Int) (h n : Int) : Bool := lesB S n h
theorem lesB_iff {S : Int → Int} {a b : Int} : lesB S a b = true ↔ S a < S b ∨ (S a = S b ∧ a < b) := by
  unfold lesB
  simp

/-- what levels makes of a graph: C the nodes that hang together with the root -/
structure Lv (G : Int → List Int) (root : Int) (C : List Int) (S : Int → Int) : Prop where
  nd : C.Nodup
  rt : root ∈ C
  z : S root = 0
  nn : ∀ k ∈ C, 0 ≤ S k
  cl : ∀ k ∈ C, ∀ j ∈ G k, j ∈ C ∧ S j ≤ S k + 1
  pa : ∀ k ∈ C, k ≠ root → ∃ j ∈ C, k ∈ G j ∧ S k = S j + 1
  re : ∀ k ∈ C, ∃ n, Wk G root n k

theorem lv_of {G : Int → List Int} {root : Int} {seen : List Int} {i : Nat} {dp : Int → Nat} {pr : Int → Option Int} {pre : List Int} (B : Bfs G root seen i dp pr pre) (hi : seen.length ≤ i) : Lv G root seen (fun k => (dp k : Int)) := by
  refine ⟨B.nodup, List.mem_of_getElem? B.head, by simp [B.dp0], fun k _ => by simp, fun k hk j hj => ?_, fun k hk hr => ?_, fun k hk => ⟨_, bfs_reach B hk⟩⟩
  · obtain ⟨m, hm⟩ := List.mem_iff_getElem?.mp hk
    obtain ⟨h1, h2⟩ := B.clo m k (by have := (List.getElem?_eq_some_iff.mp hm).1; omega) hm j hj
    exact ⟨h1, by show (dp j : Int) ≤ (dp k : Int) + 1; omega⟩
  · obtain ⟨m, hm⟩ := List.mem_iff_getElem?.mp hk
    have hm0 : m ≠ 0 := fun e => by
      subst e
      rw [B.head] at hm
      cases hm
      exact hr rfl
    obtain ⟨x, jx, _, _, h3, h4, h5⟩ := B.par m k hm hm0
    exact ⟨x, List.mem_of_getElem? h3, h4, by show (dp k : Int) = (dp x : Int) + 1; omega⟩
theorem lv_all {G : Int → List Int} {root : Int} {C : List Int} {S : Int → Int} (L : Lv G root C S) {n : Nat} {k : Int} (w : Wk G root n k) : k ∈ C := by
  induction w with
  | zero => exact L.rt
  | step _ hy ih => exact (L.cl _ ih _ hy).1

/-- neighbours part by one step at most -/
theorem lv_apart {dm : List Int} {G : Int → List Int} {root : Int} {C : List Int} {S : Int → Int} (g : Gr dm G) (L : Lv G root C S) (hC : ∀ k ∈ C, k ∈ dm) {k j : Int} (hk : k ∈ C) (hj : j ∈ G k) : S j ≤ S k + 1 ∧ S k ≤ S j + 1 := by
  obtain ⟨h1, h2⟩ := L.cl k hk j hj
  exact ⟨h2, (L.cl j h1 k (g.sy k (hC k hk) j hj)).2⟩
/-- one more than the least of the neighbours -/
theorem lv_min {dm : List Int} {G : Int → List Int} {root : Int} {C : List Int} {S : Int → Int} (g : Gr dm G) (L : Lv G root C S) (hC : ∀ k ∈ C, k ∈ dm) {k m : Int} (hk : k ∈ C) (hr : k ≠ root) (hm : m ∈ (G k).map S) (hl : ∀ y ∈ (G k).map S, m ≤ y) : S k = 1 + m := by
  obtain ⟨j, hj, h1, h2⟩ := L.pa k hk hr
  have h3 : j ∈ G k := g.sy j (hC j hj) k h1
  have h4 := hl _ (List.mem_map_of_mem h3)
  obtain ⟨x, hx, rfl⟩ := List.mem_map.mp hm
  have h5 := (lv_apart g L hC hk hx).2
  omega
theorem lv_has {dm : List Int} {G : Int → List Int} {root : Int} {C : List Int} {S : Int → Int} (g : Gr dm G) (L : Lv G root C S) (hC : ∀ k ∈ C, k ∈ dm) {k : Int} (hk : k ∈ C) (hr : k ≠ root) : 0 < (G k).length := by
  obtain ⟨j, hj, h1, h2⟩ := L.pa k hk hr
  exact List.length_pos_of_mem (g.sy j (hC j hj) k h1)

/-! ### ways up, then down -/
abbrev UN := Int × Bool
/-- one step of such a way -/
def stepU (S : Int → Int) (x : UN) (n : Int) : Option UN := if x.2 || !upB S x.1 n then some (n, upB S x.1 n) else none
def scU (G : Int → List Int) (S : Int → Int) (x : UN) : List UN := (G x.1).filterMap (stepU S x)
theorem mem_scU {G : Int → List Int} {S : Int → Int} {x y : UN} : y ∈ scU G S x ↔ y.1 ∈ G x.1 ∧ (x.2 = true ∨ upB S x.1 y.1 = false) ∧ y.2 = upB S x.1 y.1 := by
  unfold scU stepU
  rw [List.mem_filterMap]
  constructor
  · rintro ⟨n, hn, h⟩
    split at h
    · rename_i hc
      cases h
      refine ⟨hn, ?_, rfl⟩
      simp only [Bool.or_eq_true, Bool.not_eq_true'] at hc
      exact hc
    · cases h
  · rintro ⟨h1, h2, h3⟩
    refine ⟨y.1, h1, ?_⟩
    rw [if_pos (by simp only [Bool.or_eq_true, Bool.not_eq_true']; exact h2), ← h3]

/-- up to the root -/
theorem climb {dm : List Int} {G : Int → List Int} {root : Int} {C : List Int} {S : Int → Int} (g : Gr dm G) (L : Lv G root C S) (hC : ∀ k ∈ C, k ∈ dm) : ∀ (d : Nat) (k : Int), k ∈ C → S k ≤ d → ∃ m, Wk (scU G S) (k, true) m (root, true) := by
  intro d
  induction d with
  | zero =>
    intro k hk hd
    by_cases hr : k = root
    · subst hr
      exact ⟨0, .zero⟩
    · obtain ⟨j, hj, _, h2⟩ := L.pa k hk hr
      have := L.nn j hj
      omega
  | succ d ih =>
    intro k hk hd
    by_cases hr : k = root
    · subst hr
      exact ⟨0, .zero⟩
    · obtain ⟨j, hj, h1, h2⟩ := L.pa k hk hr
      obtain ⟨m, hm⟩ := ih j hj (by omega)
      have hu : upB S k j = true := lesB_iff.mpr (.inl (by omega))
      refine ⟨m + 1, Wk.pre (t := (j, true)) (mem_scU.mpr ⟨g.sy j (hC j hj) k h1, .inl rfl, hu.symm⟩) hm⟩
/-- and down again -/
theorem descend {G : Int → List Int} {root : Int} {C : List Int} {S : Int → Int} (L : Lv G root C S) {s : UN} {n0 : Nat} {r0 : Bool} (w0 : Wk (scU G S) s n0 (root, r0)) : ∀ (d : Nat) (k : Int), k ∈ C → S k ≤ d → ∃ m b, Wk (scU G S) s m (k, b) := by
  intro d
  induction d with
  | zero =>
    intro k hk hd
    by_cases hr : k = root
    · subst hr
      exact ⟨n0, r0, w0⟩
    · obtain ⟨j, hj, _, h2⟩ := L.pa k hk hr
      have := L.nn j hj
      omega
  | succ d ih =>
    intro k hk hd
    by_cases hr : k = root
    · subst hr
      exact ⟨n0, r0, w0⟩
    · obtain ⟨j, hj, h1, h2⟩ := L.pa k hk hr
      obtain ⟨m, b, hm⟩ := ih j hj (by omega)
      have hu : upB S j k = false := by
        cases e : upB S j k with
        | false => rfl
        | true =>
          have := lesB_iff.mp e
          omega
      exact ⟨m + 1, false, .step hm (mem_scU.mpr ⟨h1, .inr hu, hu.symm⟩)⟩
theorem ud_reach {dm : List Int} {G : Int → List Int} {root : Int} {C : List Int} {S : Int → Int} (g : Gr dm G) (L : Lv G root C S) (hC : ∀ k ∈ C, k ∈ dm) {a b : Int} (ha : a ∈ C) (hb : b ∈ C) : ∃ m r, Wk (scU G S) (a, true) m (b, r) := by
  obtain ⟨m, hm⟩ := climb g L hC (S a).toNat a ha (by have := L.nn a ha; omega)
  exact descend L hm (S b).toNat b hb (by have := L.nn b hb; omega)
/-- no way leaves what hangs together -/
theorem ud_in {G : Int → List Int} {root : Int} {C : List Int} {S : Int → Int} (L : Lv G root C S) {a : Int} (ha : a ∈ C) {r : Bool} {m : Nat} {y : UN} (w : Wk (scU G S) (a, r) m y) : y.1 ∈ C := by
  induction w with
  | zero => exact ha
  | step _ hy ih => exact (L.cl _ ih _ (mem_scU.mp hy).1).1

/-! ### a way as a row of nodes -/
theorem path_ix {α : Type} {sc : α → List α} {s y : α} {cs : List α} (P : Path sc s cs y) : cs[0]? = some s ∧ 0 < cs.length ∧ cs[cs.length - 1]? = some y ∧ ∀ (p : Nat) (a b : α), cs[p]? = some a → cs[p + 1]? = some b → b ∈ sc a := by
  induction P with
  | one => exact ⟨rfl, by simp, rfl, fun p a b _ h => by simp at h⟩
  | @more x y cs P hy ih =>
    obtain ⟨h0, hp, hl, hc⟩ := ih
    refine ⟨getElem?_snoc_old h0, by simp, by simp, fun p a b ha hb => ?_⟩
    rcases getElem?_snoc hb with ⟨h1, hb⟩ | ⟨h1, hb⟩
    · rcases getElem?_snoc ha with ⟨h2, ha⟩ | ⟨h2, ha⟩
      · exact hc p a b ha hb
      · omega
    · rcases getElem?_snoc ha with ⟨h2, ha⟩ | ⟨h2, ha⟩
      · have e : p = cs.length - 1 := by omega
        rw [e, hl] at ha
        cases ha
        rw [hb]
        exact hy
      · omega

/-- from a to b by links, never up behind a link down -/
structure WayOk (G : Int → List Int) (S : Int → Int) (a b : Int) (way : List Int) : Prop where
  first : way[0]? = some a
  pos : 0 < way.length
  last : way[way.length - 1]? = some b
  lk : ∀ (p : Nat) (x y : Int), way[p]? = some x → way[p + 1]? = some y → y ∈ G x
  ud : ∀ (p : Nat) (x y z : Int), way[p]? = some x → way[p + 1]? = some y → way[p + 2]? = some z → upB S x y = true ∨ upB S y z = false
theorem map_ix {cs : List UN} {p : Nat} {x : Int} (h : (cs.map (·.1))[p]? = some x) : ∃ r, cs[p]? = some (x, r) := by
  rw [List.getElem?_map] at h
  cases e : cs[p]? with
  | none => rw [e] at h; cases h
  | some u =>
    rw [e] at h
    cases h
    exact ⟨u.2, rfl⟩
theorem way_of {G : Int → List Int} {S : Int → Int} {a b : Int} {r r' : Bool} {cs : List UN} (P : Path (scU G S) (a, r) cs (b, r')) : WayOk G S a b (cs.map (·.1)) := by
  obtain ⟨h0, hp, hl, hc⟩ := path_ix P
  refine ⟨by rw [List.getElem?_map, h0]; rfl, by simpa using hp, by rw [List.length_map, List.getElem?_map, hl]; rfl, fun p x y hx hy => ?_, fun p x y z hx hy hz => ?_⟩
  · obtain ⟨u, hu⟩ := map_ix hx
    obtain ⟨v, hv⟩ := map_ix hy
    exact (mem_scU.mp (hc p _ _ hu hv)).1
  · obtain ⟨u, hu⟩ := map_ix hx
    obtain ⟨v, hv⟩ := map_ix hy
    obtain ⟨t, ht⟩ := map_ix hz
    have h1 := (mem_scU.mp (hc p _ _ hu hv)).2.2
    have h2 := (mem_scU.mp (hc (p + 1) _ _ hv ht)).2.1
    rw [← h1]
    exact h2
theorem way_in {G : Int → List Int} {root : Int} {C : List Int} {S : Int → Int} (L : Lv G root C S) {a b : Int} {way : List Int} (W : WayOk G S a b way) (ha : a ∈ C) : ∀ (p : Nat) (x : Int), way[p]? = some x → x ∈ C := by
  intro p
  induction p with
  | zero =>
    intro x h
    rw [W.first] at h
    cases h
    exact ha
  | succ p ih =>
    intro x h
    have hp : p < way.length := by
      have := (List.getElem?_eq_some_iff.mp h).1
      omega
    have h1 := List.getElem?_eq_getElem hp
    exact (L.cl _ (ih _ h1) _ (W.lk p _ _ h1 h)).1

/-! ### links that wait: a number that rises along all waits -/
abbrev LK := Int × Int
def keyN (S : Int → Int) (x : Int) : Int := S x * 64 + x
def rkL (S : Int → Int) (l : LK) : Int := if upB S l.1 l.2 = true then -(keyN S l.2) else keyN S l.2 + 1
theorem key_lt {S : Int → Int} {a b : Int} (ha : 0 ≤ a ∧ a < 64) (hb : 0 ≤ b ∧ b < 64) : lesB S a b = true ↔ keyN S a < keyN S b := by
  rw [lesB_iff]
  unfold keyN
  omega
theorem rk_rise {S : Int → Int} {x y z : Int} (hx : 0 ≤ x ∧ x < 64) (hy : 0 ≤ y ∧ y < 64) (hz : 0 ≤ z ∧ z < 64) (ny : 0 ≤ S y) (nz : 0 ≤ S z) (ne : y ≠ z) (h : upB S x y = true ∨ upB S y z = false) : rkL S (x, y) < rkL S (y, z) := by
  unfold rkL
  show (if upB S x y = true then -(keyN S y) else keyN S y + 1) < (if upB S y z = true then -(keyN S z) else keyN S z + 1)
  have k1 : 0 ≤ keyN S y := by unfold keyN; omega
  have k2 : 0 ≤ keyN S z := by unfold keyN; omega
  have k3 : keyN S y ≠ keyN S z := by unfold keyN; omega
  have u1 : upB S y z = true ↔ keyN S z < keyN S y := key_lt hz hy
  cases e1 : upB S x y with
  | true =>
    cases e2 : upB S y z with
    | true =>
      have := u1.mp e2
      simp only [if_true]
      omega
    | false =>
      simp
      omega
  | false =>
    rw [e1] at h
    have e2 : upB S y z = false := by
      rcases h with h | h
      · cases h
      · exact h
    rw [e2]
    have : ¬ keyN S z < keyN S y := fun q => by
      rw [u1.mpr q] at e2
      cases e2
    simp
    omega

/-- the pairs of links, one behind the other, of a way -/
def TriOf (ways : List (List Int)) (p : LK × LK) : Prop := ∃ w ∈ ways, ∃ (i : Nat) (x y z : Int), w[i]? = some x ∧ w[i + 1]? = some y ∧ w[i + 2]? = some z ∧ p = ((x, y), (y, z))

/-! ### the numbers -/
structure Nb (pairs : List (LK × LK)) (fs left : List LK) : Prop where
  nd : (fs ++ left).Nodup
  mem : ∀ (b a : LK), (b, a) ∈ pairs → (b ∈ fs ∨ b ∈ left) ∧ (a ∈ fs ∨ a ∈ left)
  ord : ∀ (b a : LK), (b, a) ∈ pairs → ∀ (j : Nat), fs[j]? = some a → ∃ i, i < j ∧ fs[i]? = some b
/-- no link that is left waits for it -/
def goodB (pairs : List (LK × LK)) (left : List LK) (l : LK) : Bool := !pairs.any fun p => decide (p.2 = l) && left.contains p.1
def goodL (pairs : List (LK × LK)) (left : List LK) : List LK := left.filter (goodB pairs left)
def restL (good left : List LK) : List LK := left.filter fun l => !good.contains l
theorem goodB_iff {pairs : List (LK × LK)} {left : List LK} {l : LK} : goodB pairs left l = true ↔ ∀ b, (b, l) ∈ pairs → b ∉ left := by
  unfold goodB
  simp only [Bool.not_eq_true', List.any_eq_false, Bool.and_eq_true, decide_eq_true_eq, List.contains_iff_mem, not_and]
  constructor
  · intro h b hb
    exact h (b, l) hb rfl
  · intro h p hp e
    have : (p.1, l) ∈ pairs := by rw [← e]; exact hp
    exact h p.1 this
theorem nb_start {pairs : List (LK × LK)} {all : List LK} (h1 : all.Nodup) (h2 : ∀ (b a : LK), (b, a) ∈ pairs → b ∈ all ∧ a ∈ all) : Nb pairs [] all :=
  ⟨by simpa using h1, fun b a h => ⟨.inr (h2 b a h).1, .inr (h2 b a h).2⟩, fun b a _ j h => by simp at h⟩
theorem nb_next {pairs : List (LK × LK)} {fs left : List LK} (N : Nb pairs fs left) : Nb pairs (fs ++ goodL pairs left) (restL (goodL pairs left) left) := by
  have hnd := List.nodup_append.mp N.nd
  have mg : ∀ {l : LK}, l ∈ goodL pairs left ↔ l ∈ left ∧ goodB pairs left l = true := fun {l} => by
    unfold goodL
    rw [List.mem_filter]
  have mr : ∀ {l : LK}, l ∈ restL (goodL pairs left) left ↔ l ∈ left ∧ l ∉ goodL pairs left := fun {l} => by
    unfold restL
    rw [List.mem_filter]
    simp
  refine ⟨?_, fun b a h => ?_, fun b a h j hj => ?_⟩
  · rw [List.nodup_append, List.nodup_append]
    refine ⟨⟨hnd.1, hnd.2.1.sublist List.filter_sublist, fun x hx y hy => hnd.2.2 x hx y (mg.mp hy).1⟩, hnd.2.1.sublist List.filter_sublist, fun x hx y hy e => ?_⟩
    subst e
    rcases List.mem_append.mp hx with q | q
    · exact hnd.2.2 x q x (mr.mp hy).1 rfl
    · exact (mr.mp hy).2 q
  · have tell : ∀ {l : LK}, (l ∈ fs ∨ l ∈ left) → l ∈ fs ++ goodL pairs left ∨ l ∈ restL (goodL pairs left) left := fun {l} q => by
      rcases q with q | q
      · exact .inl (List.mem_append_left _ q)
      · by_cases z : l ∈ goodL pairs left
        · exact .inl (List.mem_append_right _ z)
        · exact .inr (mr.mpr ⟨q, z⟩)
    exact ⟨tell (N.mem b a h).1, tell (N.mem b a h).2⟩
  · by_cases hjl : j < fs.length
    · rw [List.getElem?_append_left hjl] at hj
      obtain ⟨i, h1, h2⟩ := N.ord b a h j hj
      exact ⟨i, h1, by rw [List.getElem?_append_left (by omega)]; exact h2⟩
    · rw [List.getElem?_append_right (by omega)] at hj
      have ha := mg.mp (List.mem_of_getElem? hj)
      have hb : b ∉ left := goodB_iff.mp ha.2 b h
      rcases (N.mem b a h).1 with q | q
      · obtain ⟨i, hi⟩ := List.mem_iff_getElem?.mp q
        have hil := (List.getElem?_eq_some_iff.mp hi).1
        exact ⟨i, by omega, by rw [List.getElem?_append_left hil]; exact hi⟩
      · exact absurd q hb
theorem least_mem {α : Type} (r : α → Int) : ∀ (l : List α), l ≠ [] → ∃ x ∈ l, ∀ y ∈ l, r x ≤ r y
  | [], h => absurd rfl h
  | [a], _ => ⟨a, by simp, fun y hy => by simp at hy; rw [hy]; exact Int.le_refl _⟩
  | a :: b :: t, _ => by
    obtain ⟨x, hx, hm⟩ := least_mem r (b :: t) (by simp)
    by_cases h : r a ≤ r x
    · refine ⟨a, by simp, fun y hy => ?_⟩
      rcases List.mem_cons.mp hy with e | hy
      · rw [e]; exact Int.le_refl _
      · exact Int.le_trans h (hm y hy)
    · refine ⟨x, List.mem_cons_of_mem _ hx, fun y hy => ?_⟩
      rcases List.mem_cons.mp hy with e | hy
      · rw [e]; omega
      · exact hm y hy
theorem nb_good {pairs : List (LK × LK)} {left : List LK} (r : LK → Int) (hr : ∀ (b a : LK), (b, a) ∈ pairs → r b < r a) (hl : left ≠ []) : goodL pairs left ≠ [] := by
  obtain ⟨x, hx, hm⟩ := least_mem r left hl
  have : x ∈ goodL pairs left := by
    unfold goodL
    rw [List.mem_filter]
    refine ⟨hx, goodB_iff.mpr fun b hb hbl => ?_⟩
    have h1 := hr b x hb
    have h2 := hm b hbl
    omega
  intro e
  rw [e] at this
  cases this
theorem nb_less {pairs : List (LK × LK)} {left : List LK} (hg : goodL pairs left ≠ []) : (restL (goodL pairs left) left).length < left.length := by
  obtain ⟨x, hx⟩ := List.exists_mem_of_ne_nil _ hg
  have hl : x ∈ left := by
    unfold goodL at hx
    exact (List.mem_filter.mp hx).1
  unfold restL
  apply Nat.lt_of_le_of_ne (List.length_filter_le _ _)
  intro e
  have := List.length_filter_eq_length_iff.mp e x hl
  simp at this
  exact this hx
end KM
/-! Plain law, part 3: the drawn graph, one table of levels alone, the test of a way. -/
namespace KM
set_option autoImplicit false

theorem wk_in {dm : List Int} {G : Int → List Int} (g : Gr dm G) {a b : Int} (ha : a ∈ dm) {n : Nat} (w : Wk G a n b) : b ∈ dm := by
  induction w with
  | zero => exact ha
  | step _ hy ih => exact g.cl _ ih _ hy
theorem wk_back {dm : List Int} {G : Int → List Int} (g : Gr dm G) {a b : Int} (ha : a ∈ dm) {n : Nat} (w : Wk G a n b) : Wk G b n a := by
  induction w with
  | zero => exact .zero
  | step w hy ih => exact Wk.pre (g.sy _ (wk_in g ha w) _ hy) ih
theorem wk_mono {G G' : Int → List Int} (h : ∀ x y, y ∈ G x → y ∈ G' x) {a b : Int} {n : Nat} (w : Wk G a n b) : Wk G' a n b := by
  induction w with
  | zero => exact .zero
  | step _ hy ih => exact .step ih (h _ _ hy)

/-- a link more -/
def addE (G : Int → List Int) (k j : Int) : Int → List Int := fun x => if x = j then G j ++ [k] else if x = k then G k ++ [j] else G x
theorem mem_addE {G : Int → List Int} {k j x y : Int} (hne : j ≠ k) : y ∈ addE G k j x ↔ y ∈ G x ∨ (x = k ∧ y = j) ∨ (x = j ∧ y = k) := by
  unfold addE
  by_cases h1 : x = j
  · subst h1
    rw [if_pos rfl, List.mem_append, List.mem_singleton]
    constructor
    · rintro (h | h)
      · exact .inl h
      · exact .inr (.inr ⟨rfl, h⟩)
    · rintro (h | h | h)
      · exact .inl h
      · exact absurd h.1 hne
      · exact .inr h.2
  · rw [if_neg h1]
    by_cases h2 : x = k
    · subst h2
      rw [if_pos rfl, List.mem_append, List.mem_singleton]
      constructor
      · rintro (h | h)
        · exact .inl h
        · exact .inr (.inl ⟨rfl, h⟩)
      · rintro (h | h | h)
        · exact .inl h
        · exact .inr h.2
        · exact absurd h.1 h1
    · rw [if_neg h2]
      constructor
      · exact fun h => .inl h
      · rintro (h | h | h)
        · exact h
        · exact absurd h.1 h2
        · exact absurd h.1 h1
theorem addE_len {G : Int → List Int} {k j : Int} {t : Nat} (h : ∀ x, (G x).length ≤ t) (x : Int) : (addE G k j x).length ≤ t + 1 := by
  unfold addE
  have a := h x
  have b := h j
  have c := h k
  split
  · simp; exact b
  · split
    · simp; exact c
    · omega
theorem gr_nil (dm : List Int) : Gr dm (fun _ => []) := ⟨fun _ _ _ h => (nomatch h), fun _ _ _ h => (nomatch h), fun _ _ h => (nomatch h)⟩
theorem gr_add {dm : List Int} {G : Int → List Int} (g : Gr dm G) {k j : Int} (hk : k ∈ dm) (hj : j ∈ dm) (hne : j ≠ k) : Gr dm (addE G k j) := by
  refine ⟨fun x hx y hy => ?_, fun x hx y hy => ?_, fun x hx hm => ?_⟩
  · rcases (mem_addE hne).mp hy with h | h | h
    · exact g.cl x hx y h
    · rw [h.2]; exact hj
    · rw [h.2]; exact hk
  · rcases (mem_addE hne).mp hy with h | h | h
    · exact (mem_addE hne).mpr (.inl (g.sy x hx y h))
    · exact (mem_addE hne).mpr (.inr (.inr ⟨h.2, h.1⟩))
    · exact (mem_addE hne).mpr (.inr (.inl ⟨h.2, h.1⟩))
  · rcases (mem_addE hne).mp hm with h | h | h
    · exact g.ir x hx h
    · exact hne (h.2.symm.trans h.1)
    · exact hne (h.1.symm.trans h.2)
theorem gr_same {dm : List Int} {G G' : Int → List Int} (g : Gr dm G) (h : ∀ x ∈ dm, ∀ y, y ∈ G' x ↔ y ∈ G x) : Gr dm G' :=
  ⟨fun x hx y hy => g.cl x hx y ((h x hx y).mp hy), fun x hx y hy => (h y (g.cl x hx y ((h x hx y).mp hy)) x).mpr (g.sy x hx y ((h x hx y).mp hy)), fun x hx hm => g.ir x hx ((h x hx x).mp hm)⟩
theorem wk_same {dm : List Int} {G G' : Int → List Int} (g : Gr dm G) (h : ∀ x ∈ dm, ∀ y, y ∈ G' x ↔ y ∈ G x) {a b : Int} (ha : a ∈ dm) {n : Nat} (w : Wk G a n b) : Wk G' a n b := by
  induction w with
  | zero => exact .zero
  | step w hy ih => exact .step ih ((h _ (wk_in g ha w) _).mpr hy)
/-- the first m nodes hang together -/
def Hang (G : Int → List Int) (m : Int) : Prop := ∀ k, 0 ≤ k → k < m → ∃ n, Wk G 0 n k
theorem hang_one (G : Int → List Int) : Hang G 1 := fun k h0 h1 => by
  have : k = 0 := by omega
  subst this
  exact ⟨0, .zero⟩
theorem hang_add {G : Int → List Int} {m k j : Int} (hne : j ≠ k) (h : Hang G m) : Hang (addE G k j) m := fun x h0 h1 => by
  obtain ⟨n, w⟩ := h x h0 h1
  exact ⟨n, wk_mono (fun x y hy => (mem_addE hne).mpr (.inl hy)) w⟩
theorem hang_tree {G : Int → List Int} {m j : Int} (h : Hang G m) (h0 : 0 ≤ j) (h1 : j < m) : Hang (addE G m j) (m + 1) := fun x hx0 hx1 => by
  have hne : j ≠ m := by omega
  by_cases e : x = m
  · subst e
    obtain ⟨n, w⟩ := h j h0 h1
    exact ⟨n + 1, .step (wk_mono (fun x y hy => (mem_addE hne).mpr (.inl hy)) w) ((mem_addE hne).mpr (.inr (.inr ⟨rfl, rfl⟩)))⟩
  · exact hang_add hne h x hx0 (by omega)
/-- all is reached from any root -/
theorem hang_all {dm : List Int} {G : Int → List Int} (g : Gr dm G) {m : Int} (h : Hang G m) (hd : ∀ k, k ∈ dm ↔ 0 ≤ k ∧ k < m) {r k : Int} (hr : r ∈ dm) (hk : k ∈ dm) : ∃ n, Wk G r n k := by
  obtain ⟨h1, h2⟩ := (hd r).mp hr
  obtain ⟨h3, h4⟩ := (hd k).mp hk
  obtain ⟨n, w⟩ := h r h1 h2
  obtain ⟨n', w'⟩ := h k h3 h4
  exact ⟨n + n', Wk.app (wk_back g ((hd 0).mpr ⟨Int.le_refl _, by omega⟩) w) w'⟩

/-! ### levels are told by the graph alone -/
theorem lv_sub {dm : List Int} {G : Int → List Int} {root : Int} {C : List Int} {S : Int → Int} (g : Gr dm G) (hr : root ∈ dm) (L : Lv G root C S) : ∀ k ∈ C, k ∈ dm := fun k hk => by
  obtain ⟨n, w⟩ := L.re k hk
  exact wk_in g hr w
theorem lv_le {G : Int → List Int} {root : Int} {C : List Int} {S : Int → Int} (L : Lv G root C S) {n : Nat} {k : Int} (w : Wk G root n k) : S k ≤ n := by
  induction w with
  | zero => rw [L.z]; exact Int.le_refl _
  | step w hy ih =>
    have := (L.cl _ (lv_all L w) _ hy).2
    omega
theorem lv_wk {G : Int → List Int} {root : Int} {C : List Int} {S : Int → Int} (L : Lv G root C S) : ∀ (d : Nat) (k : Int), k ∈ C → S k = d → Wk G root d k := by
  intro d
  induction d with
  | zero =>
    intro k hk hd
    by_cases hr : k = root
    · subst hr; exact .zero
    · obtain ⟨j, hj, _, h2⟩ := L.pa k hk hr
      have := L.nn j hj
      omega
  | succ d ih =>
    intro k hk hd
    by_cases hr : k = root
    · subst hr
      rw [L.z] at hd
      omega
    · obtain ⟨j, hj, h1, h2⟩ := L.pa k hk hr
      exact .step (ih j hj (by omega)) h1
theorem lv_one {G : Int → List Int} {root : Int} {C C' : List Int} {S S' : Int → Int} (L : Lv G root C S) (L' : Lv G root C' S') {k : Int} (hk : k ∈ C) : k ∈ C' ∧ S k = S' k := by
  have h0 := L.nn k hk
  have w := lv_wk L (S k).toNat k hk (by omega)
  have hk' := lv_all L' w
  have h1 := L'.nn k hk'
  have w' := lv_wk L' (S' k).toNat k hk' (by omega)
  have a := lv_le L w'
  have b := lv_le L' w
  exact ⟨hk', by omega⟩
theorem upB_one {G : Int → List Int} {root : Int} {C C' : List Int} {S S' : Int → Int} (L : Lv G root C S) (L' : Lv G root C' S') {x y : Int} (hx : x ∈ C) (hy : y ∈ C) : upB S x y = upB S' x y := by
  unfold upB lesB
  rw [(lv_one L L' hx).2, (lv_one L L' hy).2]
theorem scU_one {G : Int → List Int} {root : Int} {C C' : List Int} {S S' : Int → Int} (L : Lv G root C S) (L' : Lv G root C' S') {x y : UN} (hx : x.1 ∈ C) : y ∈ scU G S x ↔ y ∈ scU G S' x := by
  rw [mem_scU, mem_scU]
  constructor
  · rintro ⟨h1, h2, h3⟩
    rw [upB_one L L' hx (L.cl _ hx _ h1).1] at h2 h3
    exact ⟨h1, h2, h3⟩
  · rintro ⟨h1, h2, h3⟩
    rw [← upB_one L L' hx (L.cl _ hx _ h1).1] at h2 h3
    exact ⟨h1, h2, h3⟩
theorem wkU_one {G : Int → List Int} {root : Int} {C C' : List Int} {S S' : Int → Int} (L : Lv G root C S) (L' : Lv G root C' S') {a : Int} {r : Bool} (ha : a ∈ C) {n : Nat} {y : UN} (w : Wk (scU G S) (a, r) n y) : Wk (scU G S') (a, r) n y := by
  induction w with
  | zero => exact .zero
  | step w hy ih => exact .step ih ((scU_one L L' (ud_in L ha w)).mp hy)
theorem least_one {G : Int → List Int} {root : Int} {C C' : List Int} {S S' : Int → Int} (L : Lv G root C S) (L' : Lv G root C' S') {a : Int} {r : Bool} (ha : a ∈ C) {P : UN → Prop} {n : Nat} (h : Least (scU G S) (a, r) P n) : Least (scU G S') (a, r) P n := by
  obtain ⟨⟨x, px, w⟩, h2⟩ := h
  exact ⟨⟨x, px, wkU_one L L' ha w⟩, fun k y w py => h2 k y (wkU_one L' L (lv_one L L' ha).1 w) py⟩
theorem wayok_one {G : Int → List Int} {root : Int} {C C' : List Int} {S S' : Int → Int} (L : Lv G root C S) (L' : Lv G root C' S') {a b : Int} (ha : a ∈ C) {way : List Int} (W : WayOk G S a b way) : WayOk G S' a b way := by
  refine ⟨W.first, W.pos, W.last, W.lk, fun p x y z hx hy hz => ?_⟩
  rw [← upB_one L L' (way_in L W ha _ _ hx) (way_in L W ha _ _ hy), ← upB_one L L' (way_in L W ha _ _ hy) (way_in L W ha _ _ hz)]
  exact W.ud p x y z hx hy hz

/-! ### the test of a way -/
/-- place p of the way is reached with this 'fallen' -/
def udB (G : Int → List Int) (S : Int → Int) : Bool → List Int → Bool
  | _, [] => true
  | _, [_] => true
  | f, h :: n :: t => if (!(G h).contains n) || (upB S h n && f) then false else udB G S (f || !upB S h n) (n :: t)
theorem udB_two {G : Int → List Int} {S : Int → Int} {f : Bool} {h n : Int} {t : List Int} : udB G S f (h :: n :: t) = if (!(G h).contains n) || (upB S h n && f) then false else udB G S (f || !upB S h n) (n :: t) := by rw [udB]
theorem udB_ok {G : Int → List Int} {S : Int → Int} : ∀ (way : List Int) (f : Bool), (∀ (p : Nat) (x y : Int), way[p]? = some x → way[p + 1]? = some y → y ∈ G x) →
    (∀ (p : Nat) (x y z : Int), way[p]? = some x → way[p + 1]? = some y → way[p + 2]? = some z → upB S x y = true ∨ upB S y z = false) →
    (∀ (x y : Int), way[0]? = some x → way[1]? = some y → f = true → upB S x y = false) → udB G S f way = true
  | [], _, _, _, _ => by rw [udB]
  | [_], _, _, _, _ => by rw [udB]
  | h :: n :: t, f, hl, hu, hf => by
    have h1 : n ∈ G h := hl 0 h n rfl rfl
    have h2 : f = true → upB S h n = false := hf h n rfl rfl
    rw [udB_two, if_neg (by
      cases f with
      | false => simp [h1]
      | true => simp [h1, h2 rfl])]
    refine udB_ok (n :: t) _ (fun p x y hx hy => hl (p + 1) x y hx hy) (fun p x y z hx hy hz => hu (p + 1) x y z hx hy hz) fun x y hx hy e => ?_
    have e1 : n = x := by simpa using hx
    subst e1
    cases eu : upB S h n with
    | true =>
      rw [eu] at e
      cases f with
      | true => rw [h2 rfl] at eu; cases eu
      | false => simp at e
    | false =>
      rcases hu 0 h n y rfl rfl (by simpa using hy) with q | q
      · rw [eu] at q; cases q
      · exact q
theorem udB_way {G : Int → List Int} {S : Int → Int} {a b : Int} {way : List Int} (W : WayOk G S a b way) : udB G S false way = true :=
  udB_ok way false W.lk W.ud fun _ _ _ _ e => by cases e
/-- down, then up again: told apart -/
theorem udB_no {G : Int → List Int} {root : Int} {C : List Int} {S : Int → Int} (L : Lv G root C S) {x : Int} (hx : x ∈ G root) (hr : root ∈ G x) (hne : x ≠ root) : udB G S false [root, x, root] = false := by
  obtain ⟨hxC, _⟩ := L.cl _ L.rt _ hx
  obtain ⟨j, hj, _, h2⟩ := L.pa x hxC hne
  have h0 := L.z
  have hn := L.nn j hj
  have u1 : upB S root x = false := by
    cases e : upB S root x with
    | false => rfl
    | true =>
      have := lesB_iff.mp e
      omega
  have u2 : upB S x root = true := lesB_iff.mpr (.inl (by omega))
  rw [udB_two, if_neg (by simp [hx, u1]), udB_two, u1, u2]
  simp
end KM
set_option maxRecDepth 100000
set_option maxHeartbeats 4000000
/-! Rules of our own: dicts whose keys are tuples, nested, told by the items that the tuples stand for. -/
namespace KR
open PySem PySem.Spec PyProof.Rows L2

mutual
/-- the value v of the abstract heap is the key k: its tuples are tracked -/
inductive Nk (H : Hp) : V → NestedKey → Prop
  | int (i : Int) : Nk H (.int i) (.num i)
  | bl (b : Bool) : Nk H (.bl b) (.num (if b = true then 1 else 0))
  | tup {a : Addr} {xs : List V} {ks : List NestedKey} : H a = some (.tup xs) → NkAll H xs ks → Nk H (.ref a) (.tup ks)
inductive NkAll (H : Hp) : List V → List NestedKey → Prop
  | nil : NkAll H [] []
  | cons {v : V} {vs : List V} {k : NestedKey} {ks : List NestedKey} : Nk H v k → NkAll H vs ks → NkAll H (v :: vs) (k :: ks)
end
mutual
theorem nk_is {P : Program} {w : World} {H : Hp} {h : Heap} (ok : HOk P w H h) : ∀ (k : NestedKey) (v : V) (u : Value), Nk H v k → RelV v u → NestedIs h k u
  | .none, _, _, x, _ => by cases x
  | .num i, _, _, x, r => by
    cases x with
    | int _ =>
      obtain ⟨t, rfl⟩ := r
      exact .int _ _
    | bl b =>
      obtain rfl : _ = Value.bool b := r
      exact .bool rfl
  | .text x, _, _, y, _ => by cases y
  | .tup ks, _, _, x, r => by
    cases x with
    | @tup a xs _ e t =>
      obtain rfl : _ = Value.ref a := r
      obtain ⟨_, its, rv, o, ho, hc, n, hd⟩ := ok a _ e
      exact .tup ho hc hd (nk_all ok ks xs its.toArray.toList t (by simpa using rv))
theorem nk_all {P : Program} {w : World} {H : Hp} {h : Heap} (ok : HOk P w H h) : ∀ (ks : List NestedKey) (vs : List V) (us : List Value), NkAll H vs ks → Vals vs us → NestedAll h ks us
  | [], _, _, x, r => by
    cases x
    cases r
    exact .nil
  | k :: ks, _, _, x, r => by
    cases x with
    | cons x1 x2 =>
      cases r with
      | cons r1 r2 => exact .cons (nk_is ok k _ _ x1 r1) (nk_all ok ks _ _ x2 r2)
end
mutual
theorem Nk.mono {H H' : Hp} (e : ∀ p xs, H p = some (.tup xs) → H' p = some (.tup xs)) : ∀ (k : NestedKey) (v : V), Nk H v k → Nk H' v k
  | .none, _, x => by cases x
  | .num i, _, x => by
    cases x with
    | int _ => exact .int _
    | bl b => exact .bl b
  | .text _, _, x => by cases x
  | .tup ks, _, x => by
    cases x with
    | tup a t => exact .tup (e _ _ a) (NkAll.mono e ks _ t)
theorem NkAll.mono {H H' : Hp} (e : ∀ p xs, H p = some (.tup xs) → H' p = some (.tup xs)) : ∀ (ks : List NestedKey) (vs : List V), NkAll H vs ks → NkAll H' vs ks
  | [], _, x => by cases x; exact .nil
  | k :: ks, _, x => by
    cases x with
    | cons x1 x2 => exact .cons (Nk.mono e k _ x1) (NkAll.mono e ks _ x2)
end
/-- the tuples stay -/
def TupX (H H' : Hp) : Prop := ∀ p xs, H p = some (.tup xs) → H' p = some (.tup xs)

/-- items that stand in the heap as tuples -/
structure Enc (α : Type) [DecidableEq α] where
  At : Hp → V → α → Prop
  key : α → NestedKey
  dat : α → PyData
  isRef : ∀ {H v a}, At H v a → ∃ p xs, v = .ref p ∧ H p = some (.tup xs)
  nk : ∀ {H v a}, At H v a → Nk H v (key a)
  dp : ∀ {K H v a}, At H v a → Dp K H v (dat a)
  inj : ∀ {a b}, key a = key b → a = b
  dep : ∀ a, (key a).depth ≤ 8
  eqv : ∀ a b, PyData.eqv (dat a) (dat b) = decide (a = b)
  lay : ∀ a, (dat a).canLay0 = true
  ddep : ∀ a, (dat a).depth ≤ 3
  alk : ∀ a b, PySem.W.alike (dat a) (dat b) = true
  tup : ∀ a, ∃ x r, dat a = .tuple (x :: r)
  mono : ∀ {H H' v a}, TupX H H' → At H v a → At H' v a
  noL : ∀ {h v a as}, Reads h v (dat a) as → as = []

/-- (node, rising) -/
def StAt (H : Hp) (v : V) (x : Int × Bool) : Prop := ∃ p, v = .ref p ∧ H p = some (.tup [.int x.1, .bl x.2])
/-- (here, node) -/
def LkAt (H : Hp) (v : V) (x : Int × Int) : Prop := ∃ p, v = .ref p ∧ H p = some (.tup [.int x.1, .int x.2])
/-- (link, next link) -/
def PrAt (H : Hp) (v : V) (x : (Int × Int) × (Int × Int)) : Prop := ∃ p u w, v = .ref p ∧ H p = some (.tup [u, w]) ∧ LkAt H u x.1 ∧ LkAt H w x.2
theorem LkAt.mono {H H' : Hp} {v : V} {x : Int × Int} (e : TupX H H') (h : LkAt H v x) : LkAt H' v x := let ⟨p, h1, h2⟩ := h; ⟨p, h1, e _ _ h2⟩
theorem b01 {b c : Bool} (h : (if b = true then (1 : Int) else 0) = if c = true then 1 else 0) : b = c := by
  cases b <;> cases c <;> simp at h <;> rfl
theorem eqv_int_int (i j : Int) : PyData.eqv (.int i) (.int j) = decide (i = j) := by
  simp [PyData.eqv]
  try (by_cases h : i = j <;> simp [h])
def stEnc : Enc (Int × Bool) where
  At := StAt
  key := fun x => .tup [.num x.1, .num (if x.2 = true then 1 else 0)]
  dat := fun x => .tuple [.int x.1, .bool x.2]
  isRef := fun h => let ⟨p, h1, h2⟩ := h; ⟨p, _, h1, h2⟩
  nk := fun h => by
    obtain ⟨p, rfl, h2⟩ := h
    exact .tup h2 (.cons (.int _) (.cons (.bl _) .nil))
  dp := fun h => by
    obtain ⟨p, rfl, h2⟩ := h
    exact .tup (SqT.of h2) (.cons (.int _) (.cons (.bl _) .nil))
  inj := fun {a b} h => by
    simp only [NestedKey.tup.injEq, List.cons.injEq, NestedKey.num.injEq, and_true] at h
    exact Prod.ext h.1 (b01 h.2)
  dep := fun a => by simp [NestedKey.depth, NestedKey.depthAll]
  eqv := fun a b => by
    obtain ⟨a1, a2⟩ := a
    obtain ⟨b1, b2⟩ := b
    simp [PyData.eqv, PyData.eqvAll, Prod.ext_iff]
    try (by_cases h : a1 = b1 <;> cases a2 <;> cases b2 <;> simp [h])
  lay := fun a => by simp [PyData.canLay0, PyData.canLayAll0]
  ddep := fun a => by simp [PyData.depth, PyData.depthAll]
  alk := fun a b => by simp [PySem.W.alike, PySem.W.alikeAll]
  tup := fun a => ⟨_, _, rfl⟩
  mono := fun e h => let ⟨p, h1, h2⟩ := h; ⟨p, h1, e _ _ h2⟩
  noL := fun r => by
    cases r with
    | @tuple _ _ vs _ _ _ _ _ _ t =>
      generalize vs.toList = l at t
      cases t with
      | cons a t =>
        cases a
        cases t with
        | cons a t =>
          cases a
          cases t
          rfl
theorem lk_noL {h : Heap} {v : Value} {i j : Int} {as : List Addr} (r : Reads h v (.tuple [.int i, .int j]) as) : as = [] := by
  cases r with
  | @tuple _ _ vs _ _ _ _ _ _ t =>
    generalize vs.toList = l at t
    cases t with
    | cons a t =>
      cases a
      cases t with
      | cons a t =>
        cases a
        cases t
        rfl
theorem lk_nk {H : Hp} {v : V} {x : Int × Int} (h : LkAt H v x) : Nk H v (.tup [.num x.1, .num x.2]) := by
  obtain ⟨p, rfl, h2⟩ := h
  exact .tup h2 (.cons (.int _) (.cons (.int _) .nil))
theorem lk_dp {K : PySem.W.Frag} {H : Hp} {v : V} {x : Int × Int} (h : LkAt H v x) : Dp K H v (.tuple [.int x.1, .int x.2]) := by
  obtain ⟨p, rfl, h2⟩ := h
  exact .tup (SqT.of h2) (.cons (.int _) (.cons (.int _) .nil))
def lkEnc : Enc (Int × Int) where
  At := LkAt
  key := fun x => .tup [.num x.1, .num x.2]
  dat := fun x => .tuple [.int x.1, .int x.2]
  isRef := fun h => let ⟨p, h1, h2⟩ := h; ⟨p, _, h1, h2⟩
  nk := lk_nk
  dp := lk_dp
  inj := fun {a b} h => by
    simp only [NestedKey.tup.injEq, List.cons.injEq, NestedKey.num.injEq, and_true] at h
    exact Prod.ext h.1 h.2
  dep := fun a => by simp [NestedKey.depth, NestedKey.depthAll]
  eqv := fun a b => by
    obtain ⟨a1, a2⟩ := a
    obtain ⟨b1, b2⟩ := b
    simp [PyData.eqv, PyData.eqvAll, Prod.ext_iff]
    try (by_cases h : a1 = b1 <;> by_cases h2 : a2 = b2 <;> simp [h, h2])
  lay := fun a => by simp [PyData.canLay0, PyData.canLayAll0]
  ddep := fun a => by simp [PyData.depth, PyData.depthAll]
  alk := fun a b => by simp [PySem.W.alike, PySem.W.alikeAll]
  tup := fun a => ⟨_, _, rfl⟩
  mono := fun e h => h.mono e
  noL := lk_noL
def prEnc : Enc ((Int × Int) × (Int × Int)) where
  At := PrAt
  key := fun x => .tup [.tup [.num x.1.1, .num x.1.2], .tup [.num x.2.1, .num x.2.2]]
  dat := fun x => .tuple [.tuple [.int x.1.1, .int x.1.2], .tuple [.int x.2.1, .int x.2.2]]
  isRef := fun h => let ⟨p, u, w, h1, h2, _⟩ := h; ⟨p, _, h1, h2⟩
  nk := fun h => by
    obtain ⟨p, u, w, rfl, h2, h3, h4⟩ := h
    exact .tup h2 (.cons (lk_nk h3) (.cons (lk_nk h4) .nil))
  dp := fun h => by
    obtain ⟨p, u, w, rfl, h2, h3, h4⟩ := h
    exact .tup (SqT.of h2) (.cons (lk_dp h3) (.cons (lk_dp h4) .nil))
  inj := fun {a b} h => by
    simp only [NestedKey.tup.injEq, List.cons.injEq, NestedKey.num.injEq, and_true] at h
    exact Prod.ext (Prod.ext h.1.1 h.1.2) (Prod.ext h.2.1 h.2.2)
  dep := fun a => by simp [NestedKey.depth, NestedKey.depthAll]
  eqv := fun a b => by
    obtain ⟨⟨a1, a2⟩, a3, a4⟩ := a
    obtain ⟨⟨b1, b2⟩, b3, b4⟩ := b
    simp [PyData.eqv, PyData.eqvAll, Prod.ext_iff]
    try (by_cases h : a1 = b1 <;> by_cases h2 : a2 = b2 <;> by_cases h3 : a3 = b3 <;> by_cases h4 : a4 = b4 <;> simp [h, h2, h3, h4])
  lay := fun a => by simp [PyData.canLay0, PyData.canLayAll0]
  ddep := fun a => by simp [PyData.depth, PyData.depthAll]
  alk := fun a b => by simp [PySem.W.alike, PySem.W.alikeAll]
  tup := fun a => ⟨_, _, rfl⟩
  mono := fun e h => let ⟨p, u, w, h1, h2, h3, h4⟩ := h; ⟨p, u, w, h1, e _ _ h2, h3.mono e, h4.mono e⟩
  noL := fun r => by
    cases r with
    | @tuple _ _ vs _ _ _ _ _ _ t =>
      generalize vs.toList = l at t
      cases t with
      | cons a t =>
        cases t with
        | cons b t =>
          cases t
          rw [lk_noL a, lk_noL b]
          rfl

/-! ### dicts of such keys -/
abbrev XV := List (NestedKey × Addr × V)
def XRel : XV → List (NestedKey × Addr × Value) → Prop := Paired fun p q => p.1 = q.1 ∧ p.2.1 = q.2.1 ∧ RelV p.2.2 q.2.2
/-- what is true of the one object of such a dict -/
def dnO (P : Program) (w : World) (d : Addr) (xs : XV) : HO := .ext fun h => (d == sysModules) = false ∧ xs.length ≤ sizeLine ∧ ∃ vs, XRel xs vs ∧
  ∃ o es ep, h.get? d = some o ∧ o.ExactDict ∧ o.data = .dict es ep ∧ es.toList = vs.map (entryOfKey (nestedKind P w)) ∧ (vs.map (·.1)).Nodup
theorem dn_ok {P : Program} {w : World} {H : Hp} {h : Heap} {d : Addr} {xs : XV} {vs : List (NestedKey × Addr × Value)} (hd : (d == sysModules) = false) (hz : xs.length ≤ sizeLine) (hr : XRel xs vs) {o : Obj} {es : Array DictEntry} {ep : Nat}
    (h1 : h.get? d = some o) (h2 : o.ExactDict) (h3 : o.data = .dict es ep) (h4 : es.toList = vs.map (entryOfKey (nestedKind P w))) (h5 : (vs.map (·.1)).Nodup) : ObjOk P w H h d (dnO P w d xs) :=
  ⟨⟨hd, hz, vs, hr, o, es, ep, h1, h2, h3, h4, h5⟩, ⟨o, h1⟩, fun _ _ ⟨a, b, vs, c, o, es, ep, h1, r⟩ st => ⟨a, b, vs, c, o, es, ep, st o h1, r⟩⟩
section
variable {α : Type} [DecidableEq α]
/-- at d stands a dict with the keys and values kvs -/
def DE (E : Enc α) (P : Program) (w : World) (H : Hp) (d : Addr) (kvs : List (α × V)) : Prop :=
  ∃ xs : XV, H d = some (dnO P w d xs) ∧ Paired (fun (kv : α × V) x => x.1 = E.key kv.1 ∧ E.At H (.ref x.2.1) kv.1 ∧ x.2.2 = kv.2) kvs xs
theorem DE.mono {E : Enc α} {P : Program} {w : World} {H H' : Hp} {d : Addr} {kvs : List (α × V)} (h : DE E P w H d kvs) (hd : H' d = H d) (e : TupX H H') : DE E P w H' d kvs := by
  obtain ⟨xs, h1, h2⟩ := h
  exact ⟨xs, hd.trans h1, Paired.mapP h2 fun p q z => ⟨z.1, E.mono e z.2.1, z.2.2⟩⟩
theorem DE.same {E : Enc α} {P : Program} {w : World} {H H' : Hp} {d : Addr} {kvs : List (α × V)} (h : DE E P w H d kvs) (e : Same H H') : DE E P w H' d kvs := by
  obtain ⟨xs, h1, h2⟩ := h
  exact ⟨xs, e _ _ h1, Paired.mapP h2 fun p q z => ⟨z.1, E.mono (fun _ _ q => e _ _ q) z.2.1, z.2.2⟩⟩
theorem DE.nil {E : Enc α} {P : Program} {w : World} {H : Hp} {d : Addr} (h : H d = some (dnO P w d [])) : DE E P w H d [] := ⟨[], h, .nil⟩
theorem DE.some {E : Enc α} {P : Program} {w : World} {H : Hp} {d : Addr} {kvs : List (α × V)} (h : DE E P w H d kvs) : ∃ φ, H d = some (.ext φ) := let ⟨_, h1, _⟩ := h; ⟨_, h1⟩
variable {X : Cx} {E : Enc α} {pins : List (Addr × Obj)} {σ : L2.St} {H : Hp} {s : Shared} {d : Addr} {kvs : List (α × V)}
theorem key_is {P : Program} {w : World} {h : Heap} (ok : HOk P w H h) {p : Addr} {a : α} (x : E.At H (.ref p) a) : (nestedKind P w).is h (E.key a) p := ⟨nk_is ok _ _ _ (E.nk x) rfl, E.dep a⟩
/-- the dict in the heap -/
theorem de_heap (I : Inv X pins σ H s) (h : DE E X.prog X.w H d kvs) : (d == sysModules) = false ∧ kvs.length ≤ sizeLine ∧ ∃ xs vs, H d = some (dnO X.prog X.w d xs) ∧ XRel xs vs ∧
    Paired (fun (kv : α × V) x => x.1 = E.key kv.1 ∧ E.At H (.ref x.2.1) kv.1 ∧ x.2.2 = kv.2) kvs xs ∧ s.heap.DictOfH (nestedKind X.prog X.w) d vs := by
  obtain ⟨xs, h1, h2⟩ := h
  obtain ⟨⟨hd, hz, vs, hr, o, es, ep, e1, e2, e3, e4, e5⟩, _, _⟩ := I.hok d _ h1
  refine ⟨hd, by rw [Paired.length h2]; exact hz, xs, vs, h1, hr, h2, o, es, ep, e1, e2, e3, e4, ?_, e5⟩
  have all : ∀ {ks : List (α × V)} {xs : XV} {vs : List (NestedKey × Addr × Value)}, Paired (fun (kv : α × V) x => x.1 = E.key kv.1 ∧ E.At H (.ref x.2.1) kv.1 ∧ x.2.2 = kv.2) ks xs → XRel xs vs → ∀ x ∈ vs, (nestedKind X.prog X.w).is s.heap x.1 x.2.1 := by
    intro ks xs vs p
    induction p generalizing vs with
    | nil =>
      intro r x hx
      cases r
      cases hx
    | cons h t ih =>
      intro r x hx
      cases r with
      | cons r1 r2 =>
        rcases List.mem_cons.mp hx with e | hx
        · rw [e, ← r1.1, ← r1.2.1, h.1]
          exact key_is I.hok h.2.1
        · exact ih r2 x hx
  exact all h2 hr
/-- what is found -/
theorem de_val : ∀ {ks : List (α × V)} {xs : XV} {vs : List (NestedKey × Addr × Value)}, Paired (fun (kv : α × V) x => x.1 = E.key kv.1 ∧ E.At H (.ref x.2.1) kv.1 ∧ x.2.2 = kv.2) ks xs → XRel xs vs → ∀ a : α, RelO (valV ks a) ((atKey vs (E.key a)).map (·.2)) := by
  intro ks xs vs p
  induction p generalizing vs with
  | nil =>
    intro r a
    cases r
    exact trivial
  | @cons kv x ks xs h t ih =>
    intro r a
    cases r with
    | @cons _ q _ vs r1 r2 =>
      by_cases e : kv.1 = a
      · rw [valV_pos e]
        have hq : q.1 = E.key a := by rw [← r1.1, h.1, e]
        have : atKey (q :: vs) (E.key a) = some q.2 := by simp [atKey, hq]
        rw [this]
        show RelV kv.2 q.2.2
        rw [← h.2.2]
        exact r1.2.2
      · rw [valV_neg e]
        have hq : ¬ q.1 = E.key a := fun z => e (E.inj (by rw [← h.1, r1.1, z]))
        have : atKey (q :: vs) (E.key a) = atKey vs (E.key a) := by simp [atKey, hq]
        rw [this]
        exact ih r2 a
theorem room_of (hu : X.A.units + 9 < cLine) : (nestedKind X.prog X.w).room X.A.in1 := by
  show X.A.units + 1 + 8 < cLine
  omega
/-- k in d -/
theorem op_inN (E : Enc α) (hu : X.A.units + 9 < cLine) : OpR X (compareOp .In) (fun x y H Q => ∃ a d kvs, y = .ref d ∧ E.At H x a ∧ DE E X.prog X.w H d kvs ∧ Q (.bl (valV kvs a).isSome) H) := by
  intro pins s σ H x y v u Q I rx ry h
  obtain ⟨a, d, kvs, rfl, ha, hd, q⟩ := h
  obtain ⟨p, xs, rfl, _⟩ := E.isRef ha
  obtain rfl : v = Value.ref p := rx
  obtain rfl : u = Value.ref d := ry
  obtain ⟨h1, h2, xs, vs, h3, h4, h5, h6⟩ := de_heap I hd
  refine wpAny_in_heap (room_of hu) (key_is I.hok ha) h1 h6 ?_
  have e := (de_val h5 h4 a).isSome_eq
  rw [Option.isSome_map] at e
  rw [← e]
  exact ⟨.bl _, H, I.tok _, rfl, q⟩
theorem op_notInN (E : Enc α) (hu : X.A.units + 9 < cLine) : OpR X (compareOp .NotIn) (fun x y H Q => ∃ a d kvs, y = .ref d ∧ E.At H x a ∧ DE E X.prog X.w H d kvs ∧ Q (.bl (!(valV kvs a).isSome)) H) := by
  intro pins s σ H x y v u Q I rx ry h
  obtain ⟨a, d, kvs, rfl, ha, hd, q⟩ := h
  obtain ⟨p, xs, rfl, _⟩ := E.isRef ha
  obtain rfl : v = Value.ref p := rx
  obtain rfl : u = Value.ref d := ry
  obtain ⟨h1, h2, xs, vs, h3, h4, h5, h6⟩ := de_heap I hd
  refine wpAny_notIn_heap (room_of hu) (key_is I.hok ha) h1 h6 ?_
  have e := (de_val h5 h4 a).isSome_eq
  rw [Option.isSome_map] at e
  rw [← e]
  exact ⟨.bl _, H, I.tok _, rfl, q⟩
/-- d[k] -/
def tGetN (E : Enc α) (P : Program) (w : World) (td ty : TE) : TE := fun σ H Q => td σ H fun x H1 => ty σ H1 fun y H2 => ∃ d kvs a v, x = .ref d ∧ DE E P w H2 d kvs ∧ E.At H2 y a ∧ valV kvs a = some v ∧ Q v H2
theorem pe_getN (E : Enc α) {o i : Expr} {pos : Pos} {td ty : TE} (hu : X.A.units + 9 < cLine) (ho : PE X o td) (hi : PE X i ty) (hs : NoSl i) : PE X (.Subscript o i pos) (tGetN E X.prog X.w td ty) := by
  refine ⟨fun pins s σ H Q I h => ?_⟩
  refine subD_of PySem.F.slot_dict_getitem.lookup hs (thn (ho.run pins s σ H _ I h) fun u s1 ⟨x, H1, I1, rx, q1⟩ => thn (hi.run pins s1 σ H1 _ I1 q1) fun iv s2 ⟨y, H2, I2, ry, d, kvs, a, v, ex, hd, ha, hv, q2⟩ => ?_)
  subst ex
  obtain rfl : u = Value.ref d := rx
  obtain ⟨p, xs, rfl, _⟩ := E.isRef ha
  obtain rfl : iv = Value.ref p := ry
  obtain ⟨h1, h2, xs, vs, h3, h4, h5, h6⟩ := de_heap I2 hd
  obtain ⟨w', hw, rw'⟩ := RelO.some_of (v := v) (o := (atKey vs (E.key a)).map (·.2)) (by rw [← hv]; exact de_val h5 h4 a)
  obtain ⟨q, hq, hq2⟩ := Option.map_eq_some_iff.mp hw
  refine ⟨h6.typeIs, wpAny_getItem_heap (room_of hu) (key_is I2.hok ha) h6 hq ?_⟩
  rw [hq2]
  exact ⟨v, H2, I2.tok _, rw', q2⟩
/-- the entries behind a store -/
def stX (xs : XV) (k : NestedKey) (p : Addr) (v : V) : XV := if (xs.any fun x => decide (x.1 = k)) = true then xs.map (fun x => if x.1 = k then (x.1, x.2.1, v) else x) else xs ++ [(k, p, v)]
theorem xrel_any {xs : XV} {vs : List (NestedKey × Addr × Value)} (r : XRel xs vs) (k : NestedKey) : (xs.any fun x => decide (x.1 = k)) = (atKey vs k).isSome := by
  induction r with
  | nil => rfl
  | @cons p q _ _ h t ih =>
    by_cases e : q.1 = k
    · have e' : p.1 = k := by rw [h.1]; exact e
      simp [atKey, e, e']
    · have e' : ¬ p.1 = k := by rw [h.1]; exact e
      simp only [List.any_cons, e', decide_false, Bool.false_or]
      rw [ih]
      simp [atKey, e]
theorem xrel_map {xs : XV} {vs : List (NestedKey × Addr × Value)} (r : XRel xs vs) (k : NestedKey) {v : V} {u : Value} (rv : RelV v u) : XRel (xs.map (fun x => if x.1 = k then (x.1, x.2.1, v) else x)) (vs.map (putAt k u)) := by
  induction r with
  | nil => exact .nil
  | @cons a b _ _ h t ih =>
    rw [List.map_cons, List.map_cons]
    refine .cons ?_ ih
    unfold putAt
    by_cases e : b.1 = k
    · have e' : a.1 = k := by rw [h.1]; exact e
      rw [if_pos e, if_pos e']
      exact ⟨h.1, h.2.1, rv⟩
    · have e' : ¬ a.1 = k := by rw [h.1]; exact e
      rw [if_neg e, if_neg e']
      exact h
theorem xrel_snoc {xs : XV} {vs : List (NestedKey × Addr × Value)} (r : XRel xs vs) (k : NestedKey) (p : Addr) {v : V} {u : Value} (rv : RelV v u) : XRel (xs ++ [(k, p, v)]) (vs ++ [(k, p, u)]) := by
  induction r with
  | nil => exact .cons ⟨rfl, rfl, rv⟩ .nil
  | cons h t ih => exact .cons h ih
theorem xrel_st {xs : XV} {vs : List (NestedKey × Addr × Value)} (r : XRel xs vs) (k : NestedKey) (p : Addr) {v : V} {u : Value} (rv : RelV v u) : XRel (stX xs k p v) (storedH vs k p u) := by
  unfold stX storedH
  rw [xrel_any r k]
  split
  · exact xrel_map r k rv
  · exact xrel_snoc r k p rv
/-- the pairs and the entries -/
abbrev PD (E : Enc α) (H : Hp) : List (α × V) → XV → Prop := Paired (fun (kv : α × V) x => x.1 = E.key kv.1 ∧ E.At H (.ref x.2.1) kv.1 ∧ x.2.2 = kv.2)
theorem pd_any {xs : XV} (r : PD E H kvs xs) (a : α) : (xs.any fun x => decide (x.1 = E.key a)) = (kvs.any fun kv => decide (kv.1 = a)) := by
  induction r with
  | nil => rfl
  | @cons kv x _ _ h t ih =>
    rw [List.any_cons, List.any_cons, ih]
    congr 1
    by_cases e : kv.1 = a
    · simp [h.1, e]
    · have : ¬ x.1 = E.key a := fun z => e (E.inj (by rw [← h.1]; exact z))
      simp [e, this]
theorem pd_map {H' : Hp} {xs : XV} (r : PD E H kvs xs) (e : TupX H H') {a : α} {v : V} : PD E H' (kvs.map fun kv => if kv.1 = a then (kv.1, v) else kv) (xs.map (fun x => if x.1 = E.key a then (x.1, x.2.1, v) else x)) := by
  induction r with
  | nil => exact .nil
  | @cons kv x _ _ h t ih =>
    rw [List.map_cons, List.map_cons]
    refine .cons ?_ ih
    by_cases z : kv.1 = a
    · have z' : x.1 = E.key a := by rw [h.1, z]
      rw [if_pos z, if_pos z']
      exact ⟨h.1, E.mono e h.2.1, rfl⟩
    · have z' : ¬ x.1 = E.key a := fun q => z (E.inj (by rw [← h.1]; exact q))
      rw [if_neg z, if_neg z']
      exact ⟨h.1, E.mono e h.2.1, h.2.2⟩
theorem pd_snoc {H' : Hp} {xs : XV} (r : PD E H kvs xs) (e : TupX H H') {a : α} {p : Addr} {v : V} (ha : E.At H (.ref p) a) : PD E H' (kvs ++ [(a, v)]) (xs ++ [(E.key a, p, v)]) := by
  induction r with
  | nil => exact .cons ⟨rfl, E.mono e ha, rfl⟩ .nil
  | cons h t ih => exact .cons ⟨h.1, E.mono e h.2.1, h.2.2⟩ ih
theorem de_st {H' : Hp} {xs : XV} (r : PD E H kvs xs) (e : TupX H H') {a : α} {p : Addr} {v : V} (ha : E.At H (.ref p) a) : PD E H' (putK kvs a v) (stX xs (E.key a) p v) := by
  unfold putK stX
  rw [pd_any r a]
  split
  · exact pd_map r e
  · exact pd_snoc r e ha
theorem stX_len (xs : XV) (k : NestedKey) (p : Addr) (v : V) : (stX xs k p v).length ≤ xs.length + 1 := by
  unfold stX
  split
  · rw [List.length_map]; omega
  · rw [List.length_append]; exact Nat.le_refl _
theorem tupX_upd {H : Hp} {d : Addr} {o u : HO} (h : H d = some u) (hu : ∀ xs, u ≠ .tup xs) : TupX H (upd H d o) := fun p xs q => by
  rw [upd_ne]
  · exact q
  · rintro rfl
    rw [h] at q
    cases q
    exact hu xs rfl
theorem tupX_same {H H' : Hp} (e : Same H H') : TupX H H' := fun _ _ q => e _ _ q
/-- d[k] = v -/
theorem set_N (E : Enc α) (hu : X.A.units + 9 < cLine) : PSet X (fun o i v H Q => ∃ d kvs a, o = .ref d ∧ DE E X.prog X.w H d kvs ∧ E.At H i a ∧ kvs.length < sizeLine ∧ ∀ xs, DE E X.prog X.w (upd H d (dnO X.prog X.w d xs)) d (putK kvs a v) → Q (upd H d (dnO X.prog X.w d xs))) := by
  intro pins s σ H o i v ov iv u Q I ro ri rv h
  obtain ⟨d, kvs, a, rfl, hd, ha, hz, q⟩ := h
  obtain ⟨p, ys, rfl, _⟩ := E.isRef ha
  obtain rfl : ov = Value.ref d := ro
  obtain rfl : iv = Value.ref p := ri
  obtain ⟨h1, h2, xs, vs, h3, h4, h5, h6⟩ := de_heap I hd
  have hl : kvs.length = vs.length := (Paired.length h5).trans (Paired.length h4)
  refine wpAny_setItem_heap (hsz := by omega) (room_of hu) (key_is I.hok ha) h6 fun h' hm' hs => ?_
  obtain ⟨o, es, ep, e1, e2, e3, e4, _, e5⟩ := hm'
  have hx : (stX xs (E.key a) p v).length ≤ sizeLine := by
    have := stX_len xs (E.key a) p v
    have := Paired.length h5
    omega
  have te : TupX H (upd H d (dnO X.prog X.w d (stX xs (E.key a) p v))) := tupX_upd h3 (fun xs z => by cases z)
  refine ⟨_, d_write I (by rw [h3]; exact True.intro) hs ⟨o, e1⟩ (dn_ok h1 hx (xrel_st h4 (E.key a) p rv) e1 e2 e3 e4 e5), q _ ⟨_, upd_same, de_st h5 te ha⟩⟩
/-- {} -/
def tNewN (P : Program) (w : World) : TE := fun _ H Q => ∀ p, H p = none → Q (.ref p) (upd H p (dnO P w p []))
theorem dn_empty {P : Program} {w : World} {H : Hp} (h : Heap) (hb : sysModules < h.objs.size) : ObjOk P w H (h.push { cls := .type "dict", data := .dict #[] }) h.objs.size (dnO P w h.objs.size []) :=
  dn_ok (vs := []) (es := #[]) (ep := 0) (beq_eq_false_iff_ne.mpr (Ne.symm (Nat.ne_of_lt hb))) (Nat.zero_le _) .nil (Heap.get?_push_size _ rfl) ⟨rfl, rfl, rfl⟩ rfl rfl List.nodup_nil
theorem pe_newN {pos : Pos} : PE X (.Dict [] [] pos) (tNewN X.prog X.w) := ⟨fun pins s σ H Q I h =>
  wpAny_Dict_empty ⟨.ref s.heap.objs.size, _, I.laid (a := s.heap.objs.size) (o := dnO X.prog X.w s.heap.objs.size []) (t' := s.toks) (fun _ _ q => Heap.get?_push_of_some _ q) (Nat.le_refl _) (dn_empty s.heap I.big), rfl, h _ (I.hok.fresh (Nat.le_refl _))⟩⟩
/-- len(d) -/
theorem call_lenN (E : Enc α) : CallR X (.builtin "len") (fun xs H Q => ∃ d kvs, xs = [.ref d] ∧ DE E X.prog X.w H d kvs ∧ Q (.int kvs.length) H) := by
  intro pins s σ H xs us Q I r q
  obtain ⟨d, kvs, rfl, hd, q⟩ := q
  obtain ⟨u, rfl, rx⟩ := vals1 r
  obtain rfl : u = Value.ref d := rx
  obtain ⟨h1, h2, xs, vs, h3, h4, h5, h6⟩ := de_heap I hd
  have hl : kvs.length = vs.length := (Paired.length h5).trans (Paired.length h4)
  have hm : s.heap.DictKeyed (nestedKind X.prog X.w) d (pairsH vs) := ⟨vs, h6, rfl⟩
  have hp : (pairsH vs).length = kvs.length := by rw [pairsH_length, hl]
  have hzz := sizeLine_eq
  refine PyProof.Rows.call_len_slot (n := (pairsH vs).length) hm.typeIs PySem.F.slot_dict_len (fun Q' hq => len_keyed h1 hm hq) (by omega) (by omega) ?_
  rw [hp]
  exact ⟨.int _, H, I.tok _, ⟨_, rfl⟩, q⟩
end
end KR
set_option maxRecDepth 100000
set_option maxHeartbeats 4000000
/-! sorted(d), dict(pairs) and {k: v} where keys are tuples. -/
namespace KR
open PySem PySem.Spec PyProof.Rows L2
section
variable {α : Type} [DecidableEq α] {X : Cx} {E : Enc α} {pins : List (Addr × Obj)} {σ : L2.St} {H : Hp} {s : Shared} {d : Addr} {kvs : List (α × V)}
/-- a row of items -/
def Ats (E : Enc α) (H : Hp) : List V → List α → Prop := Paired fun v a => E.At H v a
theorem Ats.mono {E : Enc α} {H H' : Hp} (e : TupX H H') {vs : List V} {as : List α} (h : Ats E H vs as) : Ats E H' vs as := Paired.mapP h fun _ _ z => E.mono e z
theorem Ats.get {E : Enc α} {H : Hp} : ∀ {vs : List V} {as : List α} {i : Nat} {v : V}, Ats E H vs as → vs[i]? = some v → ∃ a, as[i]? = some a ∧ E.At H v a
  | _, _, _, _, .nil, e => by simp at e
  | _, _, 0, _, .cons r _, e => by
    simp at e
    subst e
    exact ⟨_, rfl, r⟩
  | _, _, i + 1, v, .cons _ t, e => by
    obtain ⟨a, h1, h2⟩ := Ats.get (i := i) (v := v) t (by simpa using e)
    exact ⟨a, by simpa using h1, h2⟩
theorem Ats.app {E : Enc α} {H : Hp} {vs ws : List V} {as bs : List α} (h : Ats E H vs as) (h' : Ats E H ws bs) : Ats E H (vs ++ ws) (as ++ bs) := by
  induction h with
  | nil => exact h'
  | cons r _ ih => exact .cons r ih
theorem Ats.len {E : Enc α} {H : Hp} {vs : List V} {as : List α} (h : Ats E H vs as) : vs.length = as.length := Paired.length h
theorem Ats.dps {K : PySem.W.Frag} {E : Enc α} {H : Hp} {vs : List V} {as : List α} (h : Ats E H vs as) : DpAll K H vs (as.map E.dat) := by
  induction h with
  | nil => exact .nil
  | cons r _ ih => exact .cons (E.dp r) ih
/-- the tuples that are keys, in order -/
theorem pd_keys {xs : XV} {vs : List (NestedKey × Addr × Value)} (h : PD E H kvs xs) (r : XRel xs vs) : Ats E H (vs.map fun q => V.ref q.2.1) (kvs.map (·.1)) := by
  induction h generalizing vs with
  | nil =>
    cases r
    exact .nil
  | cons a t ih =>
    cases r with
    | cons r1 r2 =>
      refine .cons ?_ (ih r2)
      show E.At H (.ref _) _
      rw [← r1.2.1]
      exact a.2.1
theorem sizeOf_it {A : Type} {xs : List A} {n : Nat} (h : xs.length = n) : xs.length = n := h
/-- sorted(d): the keys in some order -/
theorem call_sortedN (E : Enc α) (hc : X.calm = true) (hu : X.A.units + 9 < cLine) : CallR X (.builtin "sorted") (fun xs H Q => ∃ d kvs, xs = [.ref d] ∧ DE E X.prog X.w H d kvs ∧
    ∀ p ys as, H p = none → as.Perm (kvs.map (·.1)) → Ats E H ys as → Q (.ref p) (upd H p (.lst ys))) := by
  intro pins s σ H xs us Q I r q
  obtain ⟨d, kvs, rfl, hd, q⟩ := q
  obtain ⟨u, rfl, rx⟩ := vals1 r
  obtain rfl : u = Value.ref d := rx
  obtain ⟨h1, h2, xs, vs, h3, h4, h5, o, es, ep, e1, e2, e3, e4, e5, e6⟩ := de_heap I hd
  have l1 : es.size = vs.length := size_of_entries e4
  have l2 : kvs.length = vs.length := (Paired.length h5).trans (Paired.length h4)
  have h16 : es.size ≤ sizeLine := by omega
  refine Calls.call_function_entry PyProof.Rows.kind_sorted PyProof.Rows.plain_sorted PyProof.Rows.entry_sorted (PyProof.Rows.args_sorted1 _) ?_
  unfold Builtin.«sorted»
  refine wpAny_bind (m := checkCount "sorted" 1 1 _) (wpAny_pure ?_)
  refine wpAny_bind (PySem.W.kdu_collect (A := X.A.in1) (kdl_raw h1 e2 e3) (I.ok.hd hc) e1 h16 fun h' tk acc hk hacc => ?_)
  have eb : acc.toList = vs.map fun x => Value.ref x.2.1 := by
    have hl : acc.toList.length = vs.length := by rw [Array.length_toList, hacc.1]; exact l1
    apply List.ext_getElem?
    intro j
    rw [List.getElem?_map]
    cases hj : acc.toList[j]? with
    | none =>
      have h1 := List.getElem?_eq_none_iff.mp hj
      rw [List.getElem?_eq_none (by omega)]
      all_goals rfl
    | some v =>
      obtain ⟨en, hen, hv⟩ := hacc.2 j v (by rw [← Array.getElem?_toList]; exact hj)
      have qe := entry_at e4 j
      rw [hen] at qe
      cases hb : vs[j]? with
      | none =>
        rw [hb] at qe
        exact nomatch (show some en = none from qe)
      | some b =>
        rw [hb] at qe
        have e2 : en = entryOfKey (nestedKind X.prog X.w) b := Option.some.inj qe
        rw [hv, e2]
        all_goals rfl
  have I1 : Inv X pins σ H { s with heap := h', toks := tk } := I.kept hk
  have hal : acc.toList.length = vs.length := by rw [eb, List.length_map]
  refine wpAny_bind (wpAny_newList ?_ (by omega))
  have hoL : (h'.push (seqObj "list" acc.toList.toArray 0)).get? h'.objs.size = some (seqObj "list" acc.toList.toArray 0) := Heap.get?_push_size _ rfl
  have I2 : Inv X pins σ H { s with heap := h'.push (seqObj "list" acc.toList.toArray 0), toks := tk } := I1.kept fun b o e => Heap.get?_push_of_some _ e
  show wpAny _ _ _ _ _ { s with heap := h'.push (seqObj "list" acc.toList.toArray 0), toks := tk }
  have at1 := pd_keys h5 h4
  have each : ∀ {bs : List (NestedKey × Addr × Value)} {as : List α}, Ats E H (bs.map fun q => V.ref q.2.1) as → PySem.W.EachIs (fun (v : Value) (a : α) => ∃ p, v = .ref p ∧ E.At H (.ref p) a) (bs.map fun x => Value.ref x.2.1) as := by
    intro bs
    induction bs with
    | nil =>
      intro as h
      cases h
      exact .nil
    | cons b bs ih =>
      intro as h
      cases h with
      | cons h1 h2 => exact .cons ⟨_, rfl, h1⟩ (ih h2)
  have ea := each at1
  rw [← eb] at ea
  have er : PySem.W.EachIs (fun (v : Value) (a : α) => ∃ as, Reads (h'.push (seqObj "list" acc.toList.toArray 0)) v (E.dat a) as ∧ h'.objs.size ∉ as) acc.toList (kvs.map (·.1)) := ea.mono fun v a ⟨p, hv, ha⟩ => by
    obtain ⟨as, hr⟩ := Dp.reads I2 (E.dat a) (.ref p) v (E.dp ha) hv
    exact ⟨as, hr, by rw [E.noL hr]; exact fun z => nomatch z⟩
  refine wpAny_bind (wpAny_holding (PySem.W.list_sort_data (enc := E.dat) (R := fun (v : Value) (a : α) => ∃ p, v = .ref p ∧ E.At H (.ref p) a) hoL ea er (PySem.W.AllAlike.of E.alk) (PySem.W.Sortable.tuples E.tup) (by rw [List.length_map]; exact h2)
    (fun b _ => by
      have := E.ddep b
      show X.A.units + 1 + 1 + (E.dat b).depth < cLine
      omega) fun out hl eo => ?_))
  obtain ⟨e', he'⟩ := PyProof.Rows.sortedHeap_at (vs := acc.toList) (out := out.toArray) hoL
  have mk : ∀ {out : List Value} {as : List α}, PySem.W.EachIs (fun (v : Value) (a : α) => ∃ p, v = .ref p ∧ E.At H (.ref p) a) out as → ∃ ys, Vals ys out ∧ Ats E H ys as := by
    intro out as h
    induction h with
    | nil => exact ⟨[], .nil, .nil⟩
    | cons h t ih =>
      obtain ⟨ys, r1, r2⟩ := ih
      obtain ⟨p, rfl, ha⟩ := h
      exact ⟨.ref p :: ys, .cons rfl r1, .cons ha r2⟩
  obtain ⟨ys, rv, ra⟩ := mk eo
  have hz : ys.length ≤ sizeLine := by
    rw [ra.len, List.length_mergeSort, List.length_map]
    exact h2
  have hq := q h'.objs.size ys _ (I1.hok.fresh (Nat.le_refl _)) (List.mergeSort_perm _ _) ra
  refine wpAny_pure ⟨_, rfl, .ref h'.objs.size, upd H h'.objs.size (.lst ys), I1.laid (t' := tk) (fun b u e => ?_) (Nat.le_refl _) (show ObjOk X.prog X.w _ _ _ (.lst ys) from ⟨hz, out, e', rv, he'⟩), rfl, hq⟩
  have hb : b < h'.objs.size := Heap.lt_size e
  rw [PyProof.Rows.sortedHeap_old (Nat.ne_of_lt hb) (by rw [size_push']; exact Nat.lt_succ_of_lt hb)]
  exact Heap.get?_push_of_some _ e

/-! ### dict(pairs) -/
def mrg (acc more : List (α × V)) : List (α × V) := more.foldl (fun acc kv => putK acc kv.1 kv.2) acc
theorem mrg_len : ∀ (more acc : List (α × V)), (mrg acc more).length ≤ acc.length + more.length
  | [], acc => Nat.le_refl _
  | kv :: more, acc => by
    have h1 := mrg_len more (putK acc kv.1 kv.2)
    have h2 := length_putK acc kv.1 kv.2
    show (mrg (putK acc kv.1 kv.2) more).length ≤ acc.length + (more.length + 1)
    omega
/-- the pairs of the list -/
abbrev PL (E : Enc α) (H : Hp) : List Addr → List (α × V) → Prop := Paired fun t kv => ∃ p, H t = some (.tup [.ref p, kv.2]) ∧ E.At H (.ref p) kv.1
theorem pl_heap (I : Inv X pins σ H s) : ∀ {ts : List Addr} {kvs : List (α × V)}, PL E H ts kvs → ∃ ps : List (NestedKey × Addr × Value), ps.length = ts.length ∧ kvs.length = ts.length ∧
    (∀ (j : Nat) (q : NestedKey × Addr × Value), ps[j]? = some q → ∃ t, ts[j]? = some t ∧ s.heap.IsTuple t #[.ref q.2.1, q.2.2]) ∧ (∀ q ∈ ps, (nestedKind X.prog X.w).is s.heap q.1 q.2.1) ∧
    ∀ {acc : List (α × V)} {xs : XV} {vs : List (NestedKey × Addr × Value)}, PD E H acc xs → XRel xs vs → ∃ xs', PD E H (mrg acc kvs) xs' ∧ XRel xs' (storedAllH vs ps)
  | _, _, .nil => ⟨[], rfl, rfl, fun j q e => by simp at e, (fun _ h => nomatch h), fun a b => ⟨_, a, b⟩⟩
  | _, _, .cons (a := t) (b := kv) h r => by
    obtain ⟨ps, l1, l2, p1, p2, p3⟩ := pl_heap I r
    obtain ⟨p, ht, ha⟩ := h
    obtain ⟨_, its, rv, o, ho, hc, n, hd⟩ := I.hok t _ ht
    obtain ⟨u, y, rfl, ru, ry⟩ := vals2 rv
    obtain rfl : u = Value.ref p := ru
    refine ⟨(E.key kv.1, p, y) :: ps, by simp [l1], by simp [l2], fun j q e => ?_, fun q hq => ?_, fun a b => ?_⟩
    · cases j with
      | zero =>
        simp at e
        subst e
        exact ⟨t, rfl, o, ho, hc, n, hd⟩
      | succ j =>
        obtain ⟨t', h1, h2⟩ := p1 j q (by simpa using e)
        exact ⟨t', by simpa using h1, h2⟩
    · rcases List.mem_cons.mp hq with e | hq
      · rw [e]
        exact key_is I.hok ha
      · exact p2 q hq
    · exact p3 (de_st a (fun _ _ z => z) ha) (xrel_st b (E.key kv.1) p ry)
theorem call_dictN (E : Enc α) (hc : X.calm = true) (hu : X.A.units + 10 < cLine) : CallR X (.type "dict") (fun xs H Q => ∃ a ts kvs, xs = [.ref a] ∧ H a = some (.lst (ts.map V.ref)) ∧ PL E H ts kvs ∧
    ∀ p xs, H p = none → DE E X.prog X.w (upd H p (dnO X.prog X.w p xs)) p (mrg [] kvs) → Q (.ref p) (upd H p (dnO X.prog X.w p xs))) := by
  intro pins s σ H xs us Q I r q
  obtain ⟨a, ts, kvs, rfl, hl, hp, q⟩ := q
  obtain ⟨u, rfl, rx⟩ := vals1 r
  obtain rfl : u = Value.ref a := rx
  obtain ⟨ps, l1, l2, p1, p2, p3⟩ := pl_heap I hp
  obtain ⟨hz, its, n, rv, ho⟩ := I.hok a _ hl
  have ei := refs_at rv
  subst ei
  rw [List.length_map] at hz
  have P := PySem.PairArg.list (prog := X.prog) (w := X.w) a (ts.map Value.ref).toArray (fun j => (ts[j]?).getD 0) (ps.map fun q => (Value.ref q.2.1, q.2.2))
  refine PySem.call_dict_pairsH (knd := nestedKind X.prog X.w) (ps := ps) P (I.ok.hd hc) (by show X.A.units + 1 + 1 + 8 < cLine; omega) ⟨⟨_, n, ho, rfl, rfl, rfl⟩, by simp [l1], fun j k v hj => ?_⟩ ⟨by simp, fun i key v hi => ?_⟩ (fun h' hk x hx => ?_) (by simp only [List.length_map]; omega) fun h' tk hd' hk => ?_
  · rw [List.getElem?_map] at hj
    cases e : ps[j]? with
    | none => rw [e] at hj; cases hj
    | some x =>
      rw [e] at hj
      cases hj
      obtain ⟨t, h1, h2⟩ := p1 j x e
      refine ⟨by simp [h1], .inl ?_⟩
      show s.heap.IsTuple ((ts[j]?).getD 0) _
      rw [h1]
      exact h2
  · have hi : (ps.map fun q => (Value.ref q.2.1, q.2.2))[i]? = some (key, v) := hi
    rw [List.getElem?_map] at hi
    cases e : ps[i]? with
    | none => rw [e] at hi; cases hi
    | some x =>
      rw [e] at hi
      cases hi
      exact ⟨x.1, x.2.1, rfl, rfl⟩
  · refine nestedKind_stays.stays (fun b o vs m e _ => hk b o (Nat.ne_of_lt (Heap.lt_size e)) (fun z => nomatch z) e) (p2 x hx)
  · obtain ⟨xs', r1, r2⟩ := p3 (acc := []) (xs := []) (vs := []) .nil .nil
    obtain ⟨o, es, ep, e1, e2, e3, e4, _, e5⟩ := hd'
    have hm : (s.heap.objs.size == sysModules) = false := beq_eq_false_iff_ne.mpr (Nat.ne_of_gt I.big)
    have hx : xs'.length ≤ sizeLine := by
      have h1 := Paired.length r1
      have h2 := mrg_len kvs []
      simp only [List.length_nil] at h2
      omega
    have fr := I.hok.fresh (Nat.le_refl s.heap.objs.size)
    refine ⟨.ref s.heap.objs.size, upd H s.heap.objs.size (dnO X.prog X.w s.heap.objs.size xs'), I.laid (t' := tk) (fun b u e => hk b u (fun z => nomatch z) e) (Nat.le_refl _) (dn_ok hm hx r2 e1 e2 e3 e4 e5), rfl, q _ _ fr ⟨xs', upd_same, Paired.mapP r1 fun _ _ z => ⟨z.1, E.mono (fun p xs e => ?_) z.2.1, z.2.2⟩⟩⟩
    rw [upd_ne (ne_of_none e fr)]
    exact e

/-! ### {k: v} -/
def tDisp1 (E : Enc α) (P : Program) (w : World) (tk tv : TE) : TE := fun σ H Q => ∀ p, H p = none → tk σ (upd H p (dnO P w p [])) fun x H1 => tv σ H1 fun y H2 => H2 p = some (dnO P w p []) ∧ ∃ a, E.At H2 x a ∧
  ∀ xs, DE E P w (upd H2 p (dnO P w p xs)) p [(a, y)] → Q (.ref p) (upd H2 p (dnO P w p xs))
theorem pe_disp1 (E : Enc α) {k v : Expr} {pos : Pos} {tk tv : TE} (hu : X.A.units + 9 < cLine) (hk : PE X k tk) (hv : PE X v tv) : PE X (.Dict [some k] [v] pos) (tDisp1 E X.prog X.w tk tv) := by
  refine ⟨fun pins s σ H Q I h => ?_⟩
  have hn := I.hok.fresh (Nat.le_refl s.heap.objs.size)
  have I1 := I.laid (a := s.heap.objs.size) (o := dnO X.prog X.w s.heap.objs.size []) (h' := s.heap.push { cls := .type "dict", data := .dict #[] }) (t' := s.toks) (fun _ _ q => Heap.get?_push_of_some _ q) (Nat.le_refl _) (dn_empty s.heap I.big)
  have pp := (pps_cons hk hv (pps_nil (X := X) (pos := pos))).run pins _ σ _ (fun ps H2 => match ps with | [(x, y)] => H2 s.heap.objs.size = some (dnO X.prog X.w s.heap.objs.size []) ∧ ∃ a, E.At H2 x a ∧ ∀ xs, DE E X.prog X.w (upd H2 s.heap.objs.size (dnO X.prog X.w s.heap.objs.size xs)) s.heap.objs.size [(a, y)] → Q (.ref s.heap.objs.size) (upd H2 s.heap.objs.size (dnO X.prog X.w s.heap.objs.size xs)) | _ => False) I1 (h _ hn)
  · have hshape : (evalEachOpt [some k] X.env).zip ((evalEach [v] X.env).map fun v => do let x ← v; standAt pos; pure x) = [((eval k X.env), (do let x ← eval v X.env; standAt pos; pure x))].map fun (p : Sem Value × Sem Value) => (some p.1, p.2) := by rfl
    rw [arm_eval_Dict, hshape, dictDisplay_pairs _ (by simp) (by simp)]
    refine wpAny_bind (wpAny_standAt (wpAny_bind (wpAny_subDictH (knd := nestedKind X.prog X.w) (Q := fun d s' => wpAny (model X.prog X.w) X.A (pure (Value.ref d)) (EP X pins σ Q) X.xe s') (by show X.A.units + 8 < cLine; omega) (by simp) (thn pp fun ws s2 hh => ?_))))
    obtain ⟨ps, H2, I2, rel, hq⟩ := hh
    obtain ⟨x, y, rfl⟩ : ∃ x y, ps = [(x, y)] := by
      match ps, hq with
      | [(x, y)], _ => exact ⟨x, y, rfl⟩
    obtain ⟨hd, a, ha, q⟩ := hq
    cases rel with
    | @cons _ wv _ _ r1 r2 =>
      cases r2
      obtain ⟨u1, u2⟩ := wv
      obtain ⟨p, ys, rfl, _⟩ := E.isRef ha
      obtain rfl : u1 = Value.ref p := r1.1
      have hde : DE E X.prog X.w H2 s.heap.objs.size [] := DE.nil hd
      obtain ⟨h1, h2, xs, vs, h3, h4, h5, h6⟩ := de_heap I2 hde
      cases h5
      cases h4
      refine ⟨[(E.key a, p, u2)], ⟨rfl, rfl, key_is I2.hok ha, trivial⟩, h6, fun h' tk hd' hs => wpAny_pure ?_⟩
      have hd2 : h'.DictOfH (nestedKind X.prog X.w) s.heap.objs.size [(E.key a, p, u2)] := hd'
      obtain ⟨o, es, ep, e1, e2, e3, e4, _, e5⟩ := hd2
      have te : TupX H2 (upd H2 s.heap.objs.size (dnO X.prog X.w s.heap.objs.size [(E.key a, p, y)])) := tupX_upd h3 (fun xs z => by cases z)
      refine ⟨.ref s.heap.objs.size, _, d_write I2 (by rw [h3]; exact True.intro) hs ⟨o, e1⟩ (dn_ok (xs := [(E.key a, p, y)]) (vs := [(E.key a, p, u2)]) h1 (by rw [sizeLine_eq]; show 1 ≤ 16777216; decide) (.cons ⟨rfl, rfl, r1.2⟩ .nil) e1 e2 e3 e4 e5), rfl, q _ ⟨_, upd_same, .cons ⟨rfl, E.mono te ha, rfl⟩ .nil⟩⟩
end
end KR
set_option maxRecDepth 100000
set_option maxHeartbeats 4000000
/-! The text by places; what a caller knows of a def; small lemmas on heaps. -/
namespace KT
open PySem PySem.Spec PyProof.Rows L2 KR
def topS (i : Nat) : Stmt := PySem.Challenge.pw_crossloom_k20_up_and_down.main.body.getD i (.Pass ⟨0, 0, 0, 0⟩)
abbrev sLinks : Stmt := topS 12
abbrev sWaits : Stmt := topS 13
abbrev sNumbered : Stmt := topS 14
abbrev sCheck : Stmt := topS 15
abbrev sBack : Stmt := topS 16
abbrev sLevels : Stmt := topS 17
abbrev sGoes : Stmt := topS 18
abbrev sUp : Stmt := topS 19
abbrev sIs : Stmt := topS 20
abbrev sFlat : Stmt := topS 22
abbrev sDice : Stmt := topS 23
abbrev sRoll : Stmt := topS 24
abbrev sRounds : Stmt := topS 25
abbrev sTold : Stmt := topS 26
abbrev sWays : Stmt := topS 27
abbrev sLaw : Stmt := topS 28
/-- what a caller knows of a def -/
structure Cal (P : Program) (w : World) (K : PySem.W.Frag) (mg : Str → Option Value) (base : Heap) (CX : CXT) (k : Nat) (x : Str) (ps : List Str) (sp : Sp) (f : Addr) (fd : FuncData) : Prop where
  ok : FnOk P w K mg base CX k f fd ps sp
  mg : mg x = some (.ref f)
  kp : PySem.W.keepIn K (.ref f) = true
  bd : Binds K fd ps []
theorem same_upd {H : Hp} {p : Addr} {o : HO} (h : H p = none) : Same H (upd H p o) := fun b x e => by
  rw [upd_ne (ne_of_none e h)]
  exact e
/-- all stands as it stood but what lies at p -/
def But (p : Addr) (H H' : Hp) : Prop := ∀ b o, b ≠ p → H b = some o → H' b = some o
theorem But.of {p : Addr} {H H' : Hp} (e : Same H H') : But p H H' := fun b o _ h => e b o h
theorem But.trans {p : Addr} {H H1 H2 : Hp} (a : But p H H1) (b : But p H1 H2) : But p H H2 := fun c o n h => b c o n (a c o n h)
theorem But.upd {p : Addr} {H : Hp} {o : HO} : But p H (upd H p o) := fun b x n e => by
  rw [upd_ne n]
  exact e
theorem But.new {p q : Addr} {H : Hp} {o : HO} (h : H q = none) : But p H (L2.upd H q o) := But.of (same_upd h)
/-- changed at a new place alone -/
theorem But.same {p : Addr} {H H' : Hp} (a : But p H H') (h : H p = none) : Same H H' := fun b o e => a b o (ne_of_none e h) e
/-- ints in a row -/
theorem ints_get {ns : List Int} {i : Nat} {z : Int} (h : ns[i]? = some z) : (ns.map V.int)[i]? = some (.int z) := by
  rw [List.getElem?_map, h]
  rfl
theorem ints_of {ns : List Int} {i : Nat} {v : V} (h : (ns.map V.int)[i]? = some v) : ∃ z, v = .int z ∧ ns[i]? = some z := by
  rw [List.getElem?_map] at h
  cases e : ns[i]? with
  | none => rw [e] at h; cases h
  | some z =>
    rw [e] at h
    cases h
    exact ⟨z, rfl, rfl⟩
theorem small {n : Nat} (h : n ≤ 100000) : n < sizeLine := Nat.lt_of_le_of_lt h (by decide)
theorem small' {n : Nat} (h : n ≤ 100000) : n ≤ sizeLine := Nat.le_of_lt (small h)
/-- a table of ints to ints: levels -/
def StepsAt (H : Hp) (d : Addr) (C : List Int) (S : Int → Int) : Prop := H d = some (.dK (C.map fun k => (Sum.inl k, V.int (S k))))
theorem valV_ints {C : List Int} {f : Int → V} {k : Int} : valV (C.map fun k => ((Sum.inl k : Key), f k)) (Sum.inl k) = if k ∈ C then some (f k) else none := by
  induction C with
  | nil => rfl
  | cons c C ih =>
    rw [List.map_cons]
    by_cases h : c = k
    · subst h
      rw [valV_pos rfl, if_pos (by simp)]
    · rw [valV_neg (fun e => h (by cases e; rfl)), ih]
      by_cases hk : k ∈ C
      · rw [if_pos hk, if_pos (List.mem_cons_of_mem _ hk)]
      · rw [if_neg hk, if_neg (by simp only [List.mem_cons, not_or]; exact ⟨fun e => h e.symm, hk⟩)]
theorem dget_ints {H : Hp} {d : Addr} {C : List Int} {f : Int → V} {k : Int} (h : H d = some (.dK (C.map fun k => (Sum.inl k, f k)))) (hk : k ∈ C) : DGet H d (.int k) (some (f k)) := by
  have := DGet.k (k := Sum.inl k) h
  rw [valV_ints, if_pos hk] at this
  exact this
/-- a table of nodes to their rows of neighbours -/
def NearAt (H : Hp) (d : Addr) (dm : List Int) (G : Int → List Int) : Prop := ∃ p : Int → Addr, H d = some (.dK (dm.map fun k => (Sum.inl k, V.ref (p k)))) ∧ ∀ k ∈ dm, H (p k) = some (.lst ((G k).map V.int))
theorem NearAt.same {H H' : Hp} {d : Addr} {dm : List Int} {G : Int → List Int} (h : NearAt H d dm G) (e : Same H H') : NearAt H' d dm G := let ⟨p, h1, h2⟩ := h; ⟨p, e _ _ h1, fun k hk => e _ _ (h2 k hk)⟩
end KT
set_option maxRecDepth 100000
set_option maxHeartbeats 4000000
/-! goes_up, links_of, back_from -/
namespace KT
open PySem PySem.Spec PyProof.Rows L2 KR KM
section
variable {P : Program} {w : World} {K : PySem.W.Frag} {mg : Str → Option Value} {base : Heap}
theorem le2 : (2 : Nat) ≤ sizeLine := by decide
theorem lex_up (S : Int → Int) (a b : Int) : HT.lexLt [S b, b] [S a, a] = upB S a b := by
  rw [HT.lexLt_cons, HT.lexLt_cons, HT.lexLt_nil_nil]
  unfold upB lesB
  by_cases h1 : S b = S a
  · rw [if_pos h1]
    by_cases h2 : b = a
    · rw [if_pos h2]
      subst h2
      simp
    · rw [if_neg h2]
      simp [h1]
  · rw [if_neg h1]
    simp [h1]
theorem scG : FnScope ["levels_of", "one", "other"] ["levels_of", "one", "other"] (defScope sGoes) := ⟨rfl, rfl, rfl, by decide +kernel, rfl, by decide +kernel, by decide +kernel⟩
def spGoes : Sp := fun vs H Q _ => ∃ (d : Addr) (C : List Int) (S : Int → Int) (a b : Int), vs = [.ref d, .int a, .int b] ∧ StepsAt H d C S ∧ a ∈ C ∧ b ∈ C ∧ ∀ H', Same H H' → Q (.bl (upB S a b)) H'
theorem ok_goes {f : Addr} {fd : FuncData} (F : Fun K "goes_up" "goes_up" sGoes f fd) : FnOk P w K mg base CX0 1 f fd ["levels_of", "one", "other"] spGoes := by
  refine F.ok scG (fun vs H Q E h => ?_) (fun cdv A outer s H vs Q E hr h => ?_)
  · obtain ⟨d, C, S, a, b, rfl, _⟩ := h
    rfl
  · obtain ⟨d, C, S, a, b, rfl, hS, ha, hb, q⟩ := h
    have hu := hu_of hr
    refine ⟨_, pss_one (ps_ret (pe_cmpR (op_ltT hr.units0) (pe_tup (pa_cons (pe_dget hu (pv 0) (pv 2) (fun _ _ => rfl)) (pa_cons (pv 2) pa_nil))) (pe_tup (pa_cons (pe_dget hu (pv 0) (pv 1) (fun _ _ => rfl)) (pa_cons (pv 1) pa_nil))) (nomark _))), ?_⟩
    refine ⟨.ref d, rfl, .int b, rfl, d, .int (S b), rfl, dget_ints hS hb, .int b, rfl, le2, fun p np => ?_⟩
    have s1 : Same H (upd H p (.tup [.int (S b), .int b])) := same_upd np
    refine ⟨.ref d, rfl, .int a, rfl, d, .int (S a), rfl, dget_ints (s1 _ _ hS) ha, .int a, rfl, le2, fun p' np' => ?_⟩
    have s2 := same_upd (o := .tup [.int (S a), .int a]) np'
    refine ⟨p, p', [S b, b], [S a, a], rfl, rfl, SqT.of (s2 _ _ upd_same), SqT.of upd_same, ?_⟩
    rw [lex_up]
    exact q _ (s1.trans s2)
/-- the links of a way -/
def lkL (ns : List Int) : List LK := ns.zip (ns.drop 1)
theorem lkL_len (ns : List Int) : (lkL ns).length = ns.length - 1 := by
  unfold lkL
  rw [List.length_zip, List.length_drop]
  omega
theorem lkL_get {ns : List Int} {i : Nat} {x y : Int} (h1 : ns[i]? = some x) (h2 : ns[i + 1]? = some y) : (lkL ns)[i]? = some (x, y) := by
  unfold lkL
  rw [List.getElem?_zip_eq_some]
  exact ⟨h1, by rw [List.getElem?_drop, Nat.add_comm]; exact h2⟩
theorem lkL_of {ns : List Int} {i : Nat} {l : LK} (h : (lkL ns)[i]? = some l) : ns[i]? = some l.1 ∧ ns[i + 1]? = some l.2 := by
  unfold lkL at h
  rw [List.getElem?_zip_eq_some] at h
  obtain ⟨h1, h2⟩ := h
  rw [List.getElem?_drop, Nat.add_comm] at h2
  exact ⟨h1, h2⟩
theorem ats_snoc {α : Type} [DecidableEq α] {E : Enc α} {H : Hp} {ys : List V} {as : List α} {i : Nat} {v : V} {a : α} (h : Ats E H ys (as.take i)) (ha : as[i]? = some a) (hv : E.At H v a) : Ats E H (ys ++ [v]) (as.take (i + 1)) := by
  rw [List.take_add_one, ha]
  exact h.app (.cons hv .nil)
theorem scK : FnScope ["way", "place"] ["way"] (defScope sLinks) := ⟨rfl, rfl, rfl, by decide +kernel, rfl, by decide +kernel, by decide +kernel⟩
def spLinks : Sp := fun vs H Q _ => ∃ (a : Addr) (ns : List Int), vs = [.ref a] ∧ H a = some (.tup (ns.map V.int)) ∧ ns.length ≤ 1000 ∧ ∀ H' t ys, Same H H' → H' t = some (.tup ys) → Ats lkEnc H' ys (lkL ns) → Q (.ref t) H'
theorem ok_links {f : Addr} {fd : FuncData} (F : Fun K "links_of" "links_of" sLinks f fd) (mT : mg "tuple" = none) (mR : mg "range" = none) (mL : mg "len" = none) : FnOk P w K mg base CX0 1 f fd ["way"] spLinks := by
  refine F.ok scK (fun vs H Q E h => ?_) (fun cdv A outer s H vs Q E hr h => ?_)
  · obtain ⟨a, ns, rfl, _⟩ := h
    rfl
  · obtain ⟨a, ns, rfl, ha, hl, q⟩ := h
    refine ⟨_, pss_one (ps_ret (pe_callTy call_tuple_of (by rfl) mT (by decide +kernel) (pa_cons (pe_lc (own := [("place", 1)]) (g := gName 1) (tt := tYes) rfl scK.nd
      (pi_range1 rfl mR (pa_cons (pe_op op_sub (pe_callB call_len_seq (by rfl) mL PySem.boot_len (pa_cons (pv 0) pa_nil)) pe_int) pa_nil))
      (blkOk_by (own := [("place", 1)]) (N := ["way", "place"]) (sc := defScope sLinks) (by decide +kernel))
      (fun _ _ _ _ _ => pg_name (i := 1) scK.nd rfl (Or.inl rfl)) (fun _ _ _ _ _ => pts_nil)
      (fun _ _ _ _ _ => pe_tup (pa_cons (pe_ix (r := rIxT K) ix_tup (pv 0) (pv 1) (fun _ _ => rfl)) (pa_cons (pe_ix (r := rIxT K) ix_tup (pv 0) (pe_op op_add (pv 1) pe_int) (fun _ _ => rfl)) pa_nil)))) pa_nil))), ?_⟩
    -- len(way) - 1
    refine ⟨.ref a, rfl, a, _, rfl, .inr (SqT.of ha), _, _, rfl, rfl, _, rfl, ?_, ?_, fun D nD => ?_⟩
    · rw [List.length_map]; omega
    · rw [List.length_map]; omega
    have e0 : (((ns.map V.int).length : Int) - 1).toNat = (lkL ns).length := by
      rw [lkL_len, List.length_map]; omega
    rw [e0]
    have sD : Same H (upd H D (.lst [])) := same_upd nD
    refine lc_range (lo := 0) (n := (lkL ns).length) (fun i H3 => Same H H3 ∧ ∃ ys, H3 D = some (.lst ys) ∧ Ats lkEnc H3 ys ((lkL ns).take i)) ⟨sD, [], upd_same, .nil⟩ ?_ ?_
    · rintro i H3 hi ⟨s3, ys, hD, hys⟩
      have hi' : i + 1 < ns.length := by rw [lkL_len] at hi; omega
      have g1 : ns[i]? = some (ns[i]'(by omega)) := List.getElem?_eq_getElem _
      have g2 : ns[i + 1]? = some ns[i + 1] := List.getElem?_eq_getElem _
      refine ⟨rfl, ?_⟩
      refine ⟨.ref a, rfl, .int (0 + (i : Int)), rfl, a, _, _, .int (ns[i]'(by omega)), rfl, rfl, SqT.of (s3 _ _ ha), at_of (by omega) (ints_get g1), .ref a, rfl, .int (0 + (i : Int)), rfl, _, _, rfl, rfl, a, _, _, .int ns[i + 1], rfl, rfl, SqT.of (s3 _ _ ha), at_of (j := i + 1) (by omega) (ints_get g2), le2, fun p np => ?_⟩
      have s4 := same_upd (o := .tup [.int (ns[i]'(by omega)), .int ns[i + 1]]) np
      refine ⟨ys, s4 _ _ hD, ?_, ?_, ys ++ [.ref p], upd_same, ?_⟩
      · have := hys.len
        rw [List.length_take] at this
        exact small (by rw [lkL_len] at this; omega)
      · intro b o hb
        rw [upd_ne (ne_of_none hb nD)]
        exact s4 _ _ (s3 _ _ hb)
      · have te : TupX (upd H3 p (.tup [.int (ns[i]'(by omega)), .int ns[i + 1]])) (upd (upd H3 p (.tup [.int (ns[i]'(by omega)), .int ns[i + 1]])) D (.lst (ys ++ [.ref p]))) := tupX_upd (s4 _ _ hD) (fun xs z => by cases z)
        exact ats_snoc ((hys.mono (tupX_same s4)).mono te) (lkL_get g1 g2) ⟨p, rfl, te _ _ upd_same⟩
    · rintro H3 ⟨s3, ys, hD, hys⟩
      rw [List.take_length] at hys
      refine ⟨D, ys, rfl, .inl ⟨SqL.of hD, fun l nl => ?_⟩⟩
      have s4 := same_upd (o := .tup ys) nl
      exact q _ l ys (s3.trans s4) upd_same (hys.mono (tupX_same s4))
end
end KT
set_option maxRecDepth 100000
set_option maxHeartbeats 4000000
/-! back_from -/
namespace KT
open PySem PySem.Spec PyProof.Rows L2 KR KM
section
variable {P : Program} {w : World} {K : PySem.W.Frag} {mg : Str → Option Value} {base : Heap}
theorem units9 {k : Nat} {A : Around} (r : Room k A) : A.units + 9 < cLine := by have := r.units; omega
theorem units10 {k : Nat} {A : Around} (r : Room k A) : A.units + 10 < cLine := by have := r.units; omega
/-- what the table of parents holds at y -/
def ParAt (H : Hp) (kvs : List (UN × V)) (pr : UN → Option UN) (y : UN) : Prop := ∃ v, valV kvs y = some v ∧ match pr y with | none => v = .non | some x => StAt H v x
theorem ParAt.same {H H' : Hp} {kvs : List (UN × V)} {pr : UN → Option UN} {y : UN} (h : ParAt H kvs pr y) (e : TupX H H') : ParAt H' kvs pr y := by
  obtain ⟨v, h1, h2⟩ := h
  refine ⟨v, h1, ?_⟩
  cases q : pr y with
  | none => rw [q] at h2; exact h2
  | some x =>
    rw [q] at h2
    exact stEnc.mono e h2
theorem scB : FnScope ["came", "last", "found", "here"] ["came", "last"] (defScope sBack) := ⟨rfl, rfl, rfl, by decide +kernel, rfl, by decide +kernel, by decide +kernel⟩
def spBack (P : Program) (w : World) : Sp := fun vs H Q _ => ∃ (d : Addr) (kvs : List (UN × V)) (v : V) (y : UN) (pr : UN → Option UN) (cs : List UN), vs = [.ref d, v] ∧ DE stEnc P w H d kvs ∧ StAt H v y ∧ Chain pr y cs ∧ (∀ z ∈ cs, ParAt H kvs pr z) ∧ cs.length ≤ 1000 ∧
  ∀ H' t ys, Same H H' → H' t = some (.tup ys) → Ats stEnc H' ys cs → Q (.ref t) H'
/-- here stands for the rest of the way back, or is None -/
def HereAt (H : Hp) (pr : UN → Option UN) (v : V) (cs : List UN) : Prop := (v = .non ∧ cs = []) ∨ ∃ y, StAt H v y ∧ Chain pr y cs
theorem ats_rev {α : Type} [DecidableEq α] {E : Enc α} {H : Hp} {ys : List V} {as : List α} (h : Ats E H ys as) : Ats E H ys.reverse as.reverse := by
  induction h with
  | nil => exact .nil
  | cons r _ ih =>
    rw [List.reverse_cons, List.reverse_cons]
    exact ih.app (.cons r .nil)
theorem ok_back {f : Addr} {fd : FuncData} (F : Fun K "back_from" "back_from" sBack f fd) (mT : mg "tuple" = none) (mR : mg "reversed" = none) : FnOk P w K mg base CX0 1 f fd ["came", "last"] (spBack P w) := by
  refine F.ok scB (fun vs H Q E h => ?_) (fun cdv A outer s H vs Q E hr h => ?_)
  · obtain ⟨d, kvs, v, y, pr, cs, rfl, _⟩ := h
    rfl
  · obtain ⟨d, kvs, v, y, pr, cs, rfl, hd, hv, hc, hp, hl, q⟩ := h
    refine ⟨_, pss_cons (ps_par (i := 2) (j := 3) rfl scB.nd rfl rfl (by decide) rfl rfl (pa_cons (pe_lst pa_nil) (pa_cons (pv 1) pa_nil)) (by rfl))
      (pss_cons (ps_while PassesOwn.never (pt_cmpR op_notN (pv 3) pe_non (nomark _))
        (pss_cons (ps_expr (pe_bm PySem.F.plainAttrs_list PySem.F.slot_list_append PySem.F.type_list_append mt_append (pv 2) (pa_cons (pv 3) pa_nil)))
        (pss_one (ps_set (i := 3) scB.nd rfl (.inl rfl) (pe_getN stEnc (units9 hr) (pv 0) (pv 3) (fun _ _ => rfl))))))
      (pss_one (ps_ret (RT.pe_tupRev rfl (by rfl) mT (by rfl) mR (pv 2))))), ?_⟩
    -- found, here = [], last
    refine ⟨Nat.zero_le _, fun l nl => ⟨v, rfl, .ref l, v, rfl, ?_⟩⟩
    have s1 : Same H (upd H l (.lst [])) := same_upd nl
    refine ⟨fun m σ H3 => ∃ here cs1 cs2 ws, σ = [some (.ref d), some v, some (.ref l), some here] ∧ m = cs1.length ∧ Same H H3 ∧ cs = cs1 ++ cs2 ∧ HereAt H3 pr here cs1 ∧ H3 l = some (.lst ws) ∧ Ats stEnc H3 ws cs2.reverse,
      ⟨cs.length, v, cs, [], [], rfl, rfl, s1, by simp, .inr ⟨y, stEnc.mono (tupX_same s1) hv, hc⟩, upd_same, .nil⟩, ?_⟩
    rintro m σ H3 ⟨here, cs1, cs2, ws, rfl, rfl, s3, ecs, hh, hw, ha⟩
    refine ⟨here, rfl, rfl, _, rfl, ?_⟩
    rcases hh with ⟨rfl, rfl⟩ | ⟨y1, hy1, hc1⟩
    · -- the end
      refine ⟨.ref l, rfl, l, ws, rfl, SqL.of hw, fun t nt => ?_⟩
      have s4 := same_upd (o := .tup ws.reverse) nt
      have : cs = cs2 := by simpa using ecs
      subst this
      have hr2 := ats_rev ha
      rw [List.reverse_reverse] at hr2
      exact q _ t ws.reverse (s3.trans s4) upd_same (hr2.mono (tupX_same s4))
    · obtain ⟨p, rfl, hpp⟩ := id hy1
      -- found.append(here); here = came[here]
      obtain ⟨cs0, rfl⟩ : ∃ cs0, cs1 = cs0 ++ [y1] := by
        cases hc1 with
        | root _ => exact ⟨[], rfl⟩
        | link _ _ => exact ⟨_, rfl⟩
      have hwl : ws.length ≤ 1000 := by
        have h1 := ha.len
        rw [List.length_reverse] at h1
        have h2 := congrArg List.length ecs
        simp only [List.length_append] at h2
        omega
      refine ⟨_, fun σ' H' z => z, .ref l, rfl, .inl ⟨rfl, _, SqL.of hw⟩, .ref p, rfl, l, ws, .ref p, rfl, rfl, hw, small (by omega), ?_⟩
      have te : TupX H3 (upd H3 l (.lst (ws ++ [.ref p]))) := tupX_upd hw (fun xs z => by cases z)
      have s4 : Same H (upd H3 l (.lst (ws ++ [.ref p]))) := fun b o hb => by
        rw [upd_ne (ne_of_none hb nl)]
        exact s3 _ _ hb
      have hmem : y1 ∈ cs := by rw [ecs]; simp
      obtain ⟨pv', hpv, hpr⟩ := (hp y1 hmem).same (tupX_same s4)
      refine ⟨.ref d, rfl, .ref p, rfl, d, kvs, y1, pv', rfl, hd.same s4, stEnc.mono te hy1, hpv, ?_⟩
      refine ⟨cs0.length, by simp, pv', cs0, y1 :: cs2, ws ++ [.ref p], rfl, rfl, s4, by rw [ecs]; simp, ?_, upd_same, ?_⟩
      · cases hc1' : pr y1 with
        | none =>
          rw [hc1'] at hpr
          refine .inl ⟨hpr, ?_⟩
          generalize hcs : cs0 ++ [y1] = l0 at hc1
          cases hc1 with
          | root _ =>
            cases cs0 with
            | nil => rfl
            | cons a t =>
              have := congrArg List.length hcs
              simp at this
          | link h1 _ => rw [hc1'] at h1; cases h1
        | some x =>
          rw [hc1'] at hpr
          refine .inr ⟨x, hpr, ?_⟩
          generalize hcs : cs0 ++ [y1] = l0 at hc1
          cases hc1 with
          | root h1 => rw [hc1'] at h1; cases h1
          | link h1 h2 =>
            rw [hc1'] at h1
            cases h1
            have := List.append_inj_left' hcs rfl
            rw [this]
            exact h2
      · rw [List.reverse_cons]
        exact (ha.mono te).app (.cons (stEnc.mono te hy1) .nil)
end
end KT
set_option maxRecDepth 100000
set_option maxHeartbeats 4000000
/-! xs != [], xs == []; x in xs over items that are tuples -/
namespace KR
open PySem PySem.Spec PyProof.Rows L2
/-- the items read as data, now and behind -/
def Lst (K : PySem.W.Frag) (H : Hp) (xs : List V) : Prop := ∀ H', Same H H' → ∃ ds, DpAll K H' xs ds ∧ SeqAt.shaped (.list ds) = true
theorem ints_dp {K : PySem.W.Frag} {H : Hp} : ∀ ns : List Int, DpAll K H (ns.map V.int) (ns.map PyData.int)
  | [] => .nil
  | n :: ns => .cons (.int n) (ints_dp ns)
theorem shaped_of {ds : List PyData} (h : ∀ d ∈ ds, d.canLay0 = true ∧ d.depth ≤ 3) : SeqAt.shaped (.list ds) = true := by
  have a : PyData.canLayAll0 ds = true ∧ PyData.depthAll ds ≤ 3 := by
    induction ds with
    | nil => simp [PyData.canLayAll0, PyData.depthAll]
    | cons d ds ih =>
      obtain ⟨h1, h2⟩ := h d List.mem_cons_self
      obtain ⟨h3, h4⟩ := ih fun x hx => h x (List.mem_cons_of_mem _ hx)
      constructor
      · rw [PyData.canLayAll0, h1, h3]
        rfl
      · rw [PyData.depthAll]
        omega
  have h1 : (PyData.list ds).canLay0 = true := by rw [PyData.canLay0]; exact a.1
  have h2 : (PyData.list ds).depth ≤ 64 := by
    rw [PyData.depth]
    have := a.2
    omega
  unfold SeqAt.shaped
  rw [h1, decide_eq_true h2]
  rfl
theorem lst_ints (K : PySem.W.Frag) (H : Hp) (ns : List Int) : Lst K H (ns.map V.int) := fun H' _ => ⟨ns.map PyData.int, ints_dp ns, shaped_of fun d hd => by
  obtain ⟨n, _, rfl⟩ := List.mem_map.mp hd
  simp [PyData.canLay0, PyData.depth]⟩
theorem lst_ats {α : Type} [DecidableEq α] {E : Enc α} (K : PySem.W.Frag) {H : Hp} {xs : List V} {as : List α} (h : Ats E H xs as) : Lst K H xs := fun H' e => ⟨as.map E.dat, (h.mono (KR.tupX_same e)).dps, shaped_of fun d hd => by
  obtain ⟨n, _, rfl⟩ := List.mem_map.mp hd
  exact ⟨E.lay n, E.ddep n⟩⟩
theorem eqv_nil (ds : List PyData) : PyData.eqv (.list ds) (.list []) = ds.isEmpty := by
  cases ds <;> simp [PyData.eqv, PyData.eqvAll]
theorem dps_empty {K : PySem.W.Frag} {H : Hp} {xs : List V} {ds : List PyData} (h : DpAll K H xs ds) : ds.isEmpty = xs.isEmpty := by
  cases h <;> rfl
theorem shaped_nil : SeqAt.shaped (.list []) = true := shaped_of fun d hd => nomatch hd
section
variable {X : Cx} {a : Expr} {ta : TE} {pos p2 : Pos}
def tNilT (K : PySem.W.Frag) (b : Bool) (ta : TE) : TT := fun σ H Q => ta σ H fun x H1 => ∃ l xs, x = .ref l ∧ SqL K H1 l xs ∧ Lst K H1 xs ∧ ∀ p, H1 p = none → Q (if xs = [] then !b else b) (upd H1 p (.lst []))
theorem sqL_same {K : PySem.W.Frag} {H H' : Hp} {l : Addr} {xs : List V} (h : SqL K H l xs) (e : Same H H') : SqL K H' l xs := e.seq h
/-- xs != [] -/
theorem pt_neNil (hu : X.A.units + 64 < cLine) (ha : PE X a ta) : PT X (.Compare a [.NotEq] [.List [] p2] pos) (tNilT X.K true ta) := by
  refine ⟨fun pins s σ H Q I h => ?_⟩
  let R1 : V → Hp → Prop := fun x H1 => ∃ l xs, x = .ref l ∧ SqL X.K H1 l xs ∧ Lst X.K H1 xs ∧ ∀ p, H1 p = none → Q (if xs = [] then !true else true) (upd H1 p (.lst []))
  have key := (pt_cmpR (pos := pos) (op_neD hu) (⟨fun pins s σ H Q' I (h' : ta σ H R1 ∧ ∀ x H1, R1 x H1 → Q' x H1) => thn (ha.run pins s σ H R1 I h'.1) fun v s1 ⟨x, H1, I1, r1, q1⟩ => ⟨x, H1, I1, r1, h'.2 x H1 q1⟩⟩ : PE X a fun σ H Q' => ta σ H R1 ∧ ∀ x H1, R1 x H1 → Q' x H1) (pe_lst (X := X) (pos := p2) pa_nil) (nomark _)).run pins s σ H Q I
  refine key ⟨h, fun x H1 q1 => ⟨Nat.zero_le _, fun p np => ?_⟩⟩
  obtain ⟨l, xs, rfl, hl, hL, q⟩ := q1
  have s1 : Same H1 (upd H1 p (.lst [])) := fun b o e => by
    rw [upd_ne (ne_of_none e np)]
    exact e
  obtain ⟨ds, hd, hs⟩ := hL _ s1
  refine ⟨.list ds, .list [], .lst (s1.seq hl) hd, .lst (SqL.of upd_same) .nil, hs, shaped_nil, _, rfl, ?_⟩
  rw [eqv_nil, dps_empty hd]
  have := q p np
  cases xs with
  | nil => exact this
  | cons _ _ => exact this
theorem pt_eqNil (hu : X.A.units + 64 < cLine) (ha : PE X a ta) : PT X (.Compare a [.Eq] [.List [] p2] pos) (tNilT X.K false ta) := by
  refine ⟨fun pins s σ H Q I h => ?_⟩
  let R1 : V → Hp → Prop := fun x H1 => ∃ l xs, x = .ref l ∧ SqL X.K H1 l xs ∧ Lst X.K H1 xs ∧ ∀ p, H1 p = none → Q (if xs = [] then !false else false) (upd H1 p (.lst []))
  have key := (pt_cmpR (pos := pos) (op_eqD hu) (⟨fun pins s σ H Q' I (h' : ta σ H R1 ∧ ∀ x H1, R1 x H1 → Q' x H1) => thn (ha.run pins s σ H R1 I h'.1) fun v s1 ⟨x, H1, I1, r1, q1⟩ => ⟨x, H1, I1, r1, h'.2 x H1 q1⟩⟩ : PE X a fun σ H Q' => ta σ H R1 ∧ ∀ x H1, R1 x H1 → Q' x H1) (pe_lst (X := X) (pos := p2) pa_nil) (nomark _)).run pins s σ H Q I
  refine key ⟨h, fun x H1 q1 => ⟨Nat.zero_le _, fun p np => ?_⟩⟩
  obtain ⟨l, xs, rfl, hl, hL, q⟩ := q1
  have s1 : Same H1 (upd H1 p (.lst [])) := fun b o e => by
    rw [upd_ne (ne_of_none e np)]
    exact e
  obtain ⟨ds, hd, hs⟩ := hL _ s1
  refine ⟨.list ds, .list [], .lst (s1.seq hl) hd, .lst (SqL.of upd_same) .nil, hs, shaped_nil, _, rfl, ?_⟩
  rw [eqv_nil, dps_empty hd]
  have := q p np
  cases xs with
  | nil => exact this
  | cons _ _ => exact this
/-- x in xs, items that stand for something -/
theorem any_eqv {α : Type} [DecidableEq α] (E : Enc α) (a : α) (as : List α) : ((as.map E.dat).any fun z => PyData.eqv z (E.dat a)) = decide (a ∈ as) := by
  rw [List.any_map]
  rw [Bool.eq_iff_iff, List.any_eq_true, decide_eq_true_eq]
  constructor
  · rintro ⟨x, hx, h⟩
    have : decide (x = a) = true := by rw [← E.eqv]; exact h
    rw [← of_decide_eq_true this]
    exact hx
  · intro h
    exact ⟨a, h, by show PyData.eqv (E.dat a) (E.dat a) = true; rw [E.eqv]; simp⟩
theorem shaped_one {α : Type} [DecidableEq α] (E : Enc α) (a : α) : SeqAt.shaped (E.dat a) = true := by
  unfold SeqAt.shaped
  rw [E.lay a]
  simp only [Bool.true_and, decide_eq_true_eq]
  have := E.ddep a
  omega
theorem op_inE {α : Type} [DecidableEq α] (E : Enc α) (hu : X.A.units + 65 < cLine) : OpR X (compareOp .In) (fun x y H Q => ∃ a l xs as, E.At H x a ∧ y = .ref l ∧ SqL X.K H l xs ∧ Ats E H xs as ∧ ∃ b : Bool, (b = true ↔ a ∈ as) ∧ Q (.bl b) H) := by
  intro pins s σ H x y v u Q I rx ry h
  obtain ⟨a, l, xs, as, ha, rfl, hl, hx, b, hb, q⟩ := h
  have eb : decide (a ∈ as) = b := by
    cases b with
    | true => exact decide_eq_true (hb.mp rfl)
    | false => exact decide_eq_false fun z => by cases hb.mpr z
  refine op_inD hu pins s σ H x (.ref l) v u Q I rx ry ⟨E.dat a, as.map E.dat, E.dp ha, .lst hl hx.dps, shaped_one E a, shaped_of (fun d hd => by
    obtain ⟨n, _, rfl⟩ := List.mem_map.mp hd
    exact ⟨E.lay n, E.ddep n⟩), ?_⟩
  rw [any_eqv, eb]
  exact q
theorem op_notInE {α : Type} [DecidableEq α] (E : Enc α) (hu : X.A.units + 65 < cLine) : OpR X (compareOp .NotIn) (fun x y H Q => ∃ a l xs as, E.At H x a ∧ y = .ref l ∧ SqL X.K H l xs ∧ Ats E H xs as ∧ ∃ b : Bool, (b = true ↔ a ∈ as) ∧ Q (.bl (!b)) H) := by
  intro pins s σ H x y v u Q I rx ry h
  obtain ⟨a, l, xs, as, ha, rfl, hl, hx, b, hb, q⟩ := h
  have eb : decide (a ∈ as) = b := by
    cases b with
    | true => exact decide_eq_true (hb.mp rfl)
    | false => exact decide_eq_false fun z => by cases hb.mpr z
  refine op_notInD hu pins s σ H x (.ref l) v u Q I rx ry ⟨E.dat a, as.map E.dat, E.dp ha, .lst hl hx.dps, shaped_one E a, shaped_of (fun d hd => by
    obtain ⟨n, _, rfl⟩ := List.mem_map.mp hd
    exact ⟨E.lay n, E.ddep n⟩), ?_⟩
  rw [any_eqv, eb]
  exact q
end
/-! the same, the program and the world told -/
section
variable {α : Type} [DecidableEq α] {X : Cx} {P : Program} {w : World}
theorem op_inP (E : Enc α) (hP : X.prog = P) (hw : X.w = w) (hu : X.A.units + 9 < cLine) : OpR X (compareOp .In) (fun x y H Q => ∃ a d kvs, y = .ref d ∧ E.At H x a ∧ DE E P w H d kvs ∧ Q (.bl (valV kvs a).isSome) H) := by
  subst hP hw
  exact op_inN E hu
theorem op_notInP (E : Enc α) (hP : X.prog = P) (hw : X.w = w) (hu : X.A.units + 9 < cLine) : OpR X (compareOp .NotIn) (fun x y H Q => ∃ a d kvs, y = .ref d ∧ E.At H x a ∧ DE E P w H d kvs ∧ Q (.bl (!(valV kvs a).isSome)) H) := by
  subst hP hw
  exact op_notInN E hu
theorem pe_getP (E : Enc α) {o i : Expr} {pos : Pos} {td ty : TE} (hP : X.prog = P) (hw : X.w = w) (hu : X.A.units + 9 < cLine) (ho : PE X o td) (hi : PE X i ty) (hs : NoSl i) : PE X (.Subscript o i pos) (tGetN E P w td ty) := by
  subst hP hw
  exact pe_getN E hu ho hi hs
theorem set_P (E : Enc α) (hP : X.prog = P) (hw : X.w = w) (hu : X.A.units + 9 < cLine) : PSet X (fun o i v H Q => ∃ d kvs a, o = .ref d ∧ DE E P w H d kvs ∧ E.At H i a ∧ kvs.length < sizeLine ∧ ∀ xs, DE E P w (upd H d (dnO P w d xs)) d (putK kvs a v) → Q (upd H d (dnO P w d xs))) := by
  subst hP hw
  exact set_N E hu
theorem pe_newP {pos : Pos} (hP : X.prog = P) (hw : X.w = w) : PE X (.Dict [] [] pos) (tNewN P w) := by
  subst hP hw
  exact pe_newN
theorem call_lenP (E : Enc α) (hP : X.prog = P) (hw : X.w = w) : CallR X (.builtin "len") (fun xs H Q => ∃ d kvs, xs = [.ref d] ∧ DE E P w H d kvs ∧ Q (.int kvs.length) H) := by
  subst hP hw
  exact call_lenN E
theorem call_sortedP (E : Enc α) (hP : X.prog = P) (hw : X.w = w) (hc : X.calm = true) (hu : X.A.units + 9 < cLine) : CallR X (.builtin "sorted") (fun xs H Q => ∃ d kvs, xs = [.ref d] ∧ DE E P w H d kvs ∧
    ∀ p ys as, H p = none → as.Perm (kvs.map (·.1)) → Ats E H ys as → Q (.ref p) (upd H p (.lst ys))) := by
  subst hP hw
  exact call_sortedN E hc hu
theorem call_dictP (E : Enc α) (hP : X.prog = P) (hw : X.w = w) (hc : X.calm = true) (hu : X.A.units + 10 < cLine) : CallR X (.type "dict") (fun xs H Q => ∃ a ts kvs, xs = [.ref a] ∧ H a = some (.lst (ts.map V.ref)) ∧ PL E H ts kvs ∧
    ∀ p xs, H p = none → DE E P w (upd H p (dnO P w p xs)) p (mrg [] kvs) → Q (.ref p) (upd H p (dnO P w p xs))) := by
  subst hP hw
  exact call_dictN E hc hu
theorem pe_dispP (E : Enc α) {k v : Expr} {pos : Pos} {tk tv : TE} (hP : X.prog = P) (hw : X.w = w) (hu : X.A.units + 9 < cLine) (hk : PE X k tk) (hv : PE X v tv) : PE X (.Dict [some k] [v] pos) (tDisp1 E P w tk tv) := by
  subst hP hw
  exact pe_disp1 E hu hk hv
end
end KR
set_option maxRecDepth 100000
set_option maxHeartbeats 4000000
/-! levels -/
namespace KT
open PySem PySem.Spec PyProof.Rows L2 KR KM
section
variable {P : Program} {w : World} {K : PySem.W.Frag} {mg : Str → Option Value} {base : Heap}
theorem units64 {k : Nat} {A : Around} (r : Room k A) : A.units + 64 < cLine := r.units
theorem units65 {k : Nat} {A : Around} (r : Room k A) : A.units + 65 < cLine := by have := r.un; omega
theorem scV : FnScope ["near", "root", "found", "left", "here", "node"] ["near", "root"] (defScope sLevels) := ⟨rfl, rfl, rfl, by decide +kernel, rfl, by decide +kernel, by decide +kernel⟩
def spLevels : Sp := fun vs H Q _ => ∃ (nr : Addr) (dm : List Int) (G : Int → List Int) (root : Int), vs = [.ref nr, .int root] ∧ NearAt H nr dm G ∧ (∀ k ∈ dm, ∀ j ∈ G k, j ∈ dm) ∧ root ∈ dm ∧ dm.length ≤ 1000 ∧
  ∀ H' d C S, Same H H' → StepsAt H' d C S → H d = none → Lv G root C S → (∀ k ∈ C, k ∈ dm) → Q (.ref d) H'
/-- the tables of the search -/
structure LvAt (H H3 : Hp) (d l : Addr) (dm : List Int) (G : Int → List Int) (root : Int) (seen : List Int) (i : Nat) (dp : Int → Nat) (left : List Int) : Prop where
  same : Same H H3
  st : H3 d = some (.dK (seen.map fun k => (Sum.inl k, V.int (dp k))))
  lf : H3 l = some (.lst (left.map V.int))
  sub : ∀ k ∈ seen, k ∈ dm
theorem drop_cons {α : Type} {l : List α} {i : Nat} {x : α} (h : l[i]? = some x) : l.drop i = x :: l.drop (i + 1) := by
  obtain ⟨hi, e⟩ := List.getElem?_eq_some_iff.mp h
  rw [List.drop_eq_getElem_cons hi, e]
theorem put_steps {seen : List Int} {dp : Int → Nat} {y : Int} {v : Nat} (h : y ∉ seen) : putK (seen.map fun k => ((Sum.inl k : Key), V.int (dp k))) (Sum.inl y) (.int (v : Int)) = (seen ++ [y]).map fun k => ((Sum.inl k : Key), V.int (Nat.cast (updF dp y v k))) := by
  rw [putK_new]
  · rw [List.map_append]
    congr 1
    · refine List.map_congr_left fun k hk => ?_
      rw [updF_ne _ _ (fun e => h (by rw [← e]; exact hk))]
    · simp [updF_same]
  · rw [valV_ints (f := fun k => V.int (dp k)), if_neg h]
theorem ok_levels {f : Addr} {fd : FuncData} (F : Fun K "levels" "levels" sLevels f fd) : FnOk P w K mg base CX0 1 f fd ["near", "root"] spLevels := by
  refine F.ok scV (fun vs H Q E h => ?_) (fun cdv A outer s H vs Q E hr h => ?_)
  · obtain ⟨nr, dm, G, root, rfl, _⟩ := h
    rfl
  · obtain ⟨nr, dm, G, root, rfl, hN, hcl, hroot, hlen, q⟩ := h
    have hu := hu_of hr
    refine ⟨_, pss_cons (ps_par (i := 2) (j := 3) rfl scV.nd rfl rfl (by decide) rfl rfl (pa_cons (pe_disp (pps_cons (pv 1) pe_int pps_nil) rfl rfl (by simp) (by decide)) (pa_cons (pe_lst (pa_cons (pv 1) pa_nil)) pa_nil)) (by rfl))
      (pss_cons (ps_while PassesOwn.never (pt_neNil (units64 hr) (pv 3))
        (pss_cons (ps_set (i := 4) scV.nd rfl (.inl rfl) (pe_bm PySem.F.plainAttrs_list PySem.F.slot_list_pop PySem.F.type_list_pop mt_popAt (pv 3) (pa_cons pe_int pa_nil)))
        (pss_one (ps_for PassesOwn.never rfl (pi_list (pe_dget hu (pv 0) (pv 4) (fun _ _ => rfl))) (pg_name (i := 5) scV.nd rfl (.inl rfl))
          (pss_one (ps_if (pt_cmp (pc_dnotin hu (pv 5) (pv 2)))
            (pss_cons (ps_dput hu (pv 2) (pv 5) (pe_op op_add (pe_dget hu (pv 2) (pv 4) (fun _ _ => rfl)) pe_int) rfl)
            (pss_one (ps_expr (pe_bm PySem.F.plainAttrs_list PySem.F.slot_list_append PySem.F.type_list_append mt_append (pv 3) (pa_cons (pv 5) pa_nil)))))
            pss_nil))))))
      (pss_one (ps_ret (pv 2)))), ?_⟩
    -- found, left = {root: 0}, [root]
    refine fun d nd => ⟨.int root, rfl, upd_same, [(Sum.inl root, .int 0)], rfl, by show 1 ≤ 15; decide, .int root, rfl, by show 1 ≤ sizeLine; decide, fun l nl => ⟨.ref d, .ref l, rfl, ?_⟩⟩
    have nl' : H l = none := by
      rw [upd_ne] at nl
      · rw [upd_ne] at nl
        · exact nl
        · rintro rfl; rw [upd_same] at nl; cases nl
      · rintro rfl; rw [upd_same] at nl; cases nl
    have ndl : d ≠ l := fun e => by
      rw [← e, upd_same] at nl
      cases nl
    have s1 : Same H (upd (upd (upd H d (.dK [])) d (.dK (mergeK [] [(Sum.inl root, .int 0)]))) l (.lst [.int root])) := fun b o e => by
      rw [upd_ne (ne_of_none e nl'), upd_ne (ne_of_none e nd), upd_ne (ne_of_none e nd)]
      exact e
    refine ⟨fun m σ H3 => ∃ y4 y5 seen i dp pr, σ = [some (.ref nr), some (.int root), some (.ref d), some (.ref l), y4, y5] ∧ m = dm.length - i ∧ LvAt H H3 d l dm G root seen i dp (seen.drop i) ∧ Bfs G root seen i dp pr [],
      ⟨dm.length, none, none, [root], 0, fun _ => 0, fun _ => none, rfl, by simp, ⟨s1, by rw [upd_ne ndl, upd_same]; rfl, upd_same, by simpa using hroot⟩, bfs_start G root⟩, ?_⟩
    rintro m σ H3 ⟨y4, y5, seen, i, dp, pr, rfl, rfl, T, B⟩
    refine ⟨.ref l, rfl, l, _, rfl, SqL.of T.lf, lst_ints _ _ _, fun e ne => ?_⟩
    have sE : Same H3 (upd H3 e (.lst [])) := same_upd ne
    have T1 : LvAt H (upd H3 e (.lst [])) d l dm G root seen i dp (seen.drop i) := ⟨T.same.trans sE, sE _ _ T.st, sE _ _ T.lf, T.sub⟩
    generalize upd H3 e (.lst []) = H4 at T1
    obtain ⟨p, hp1, hp2⟩ := hN
    by_cases hi : seen.length ≤ i
    · -- the end
      have : (seen.drop i).map V.int = [] := by rw [List.drop_of_length_le hi]; rfl
      rw [if_pos this]
      exact ⟨.ref d, rfl, q H4 d seen (fun k => (dp k : Int)) T1.same T1.st nd (lv_of B hi) T1.sub⟩
    · obtain ⟨here, hh⟩ : ∃ here, seen[i]? = some here := ⟨_, List.getElem?_eq_getElem (by omega)⟩
      have hdrop := drop_cons hh
      have hne : (seen.drop i).map V.int ≠ [] := by rw [hdrop]; simp
      rw [if_neg hne]
      have hsl : seen.length ≤ dm.length := B.nodup.length_le_of_subset T1.sub
      refine ⟨_, fun σ' H' z => z, ?_⟩
      -- here = left.pop(0)
      have hlf := T1.lf
      rw [hdrop] at hlf
      refine ⟨.ref l, rfl, .inl ⟨rfl, _, SqL.of hlf⟩, l, _, 0, 0, .int here, rfl, rfl, hlf, by decide, by decide, seqIndex_of (Int.le_refl 0) (by simp), rfl, ?_⟩
      have hereC : here ∈ dm := T1.sub _ (List.mem_of_getElem? hh)
      have bl : ∀ {b : Addr} {o : HO}, H b = some o → b ≠ l := fun e => ne_of_none e nl'
      have bd : ∀ {b : Addr} {o : HO}, H b = some o → b ≠ d := fun e => ne_of_none e nd
      have T5 : LvAt H (upd H4 l (HO.lst ((List.map V.int (here :: List.drop (i + 1) seen)).eraseIdx 0))) d l dm G root seen i dp (seen.drop (i + 1)) := ⟨fun b o e => by
        rw [upd_ne (bl e)]
        exact T1.same _ _ e, by rw [upd_ne ndl]; exact T1.st, upd_same, T1.sub⟩
      revert T5
      generalize upd H4 l (HO.lst ((List.map V.int (here :: List.drop (i + 1) seen)).eraseIdx 0)) = H5
      intro T5
      have nrAt : ∀ {H' : Hp}, Same H H' → DGet H' nr (.int here) (some (.ref (p here))) := fun e => dget_ints (f := fun k => V.ref (p k)) (e _ _ hp1) hereC
      refine ⟨.ref nr, rfl, .int here, rfl, nr, _, rfl, nrAt T5.same, p here, rfl, ⟨_, SqL.of (T5.same _ _ (hp2 here hereC))⟩, for_list (xs := (G here).map V.int)
        (fun j σ H6 => ∃ y5 seen dp pr, σ = [some (.ref nr), some (.int root), some (.ref d), some (.ref l), some (.int here), y5] ∧ seen[i]? = some here ∧ LvAt H H6 d l dm G root seen i dp (seen.drop (i + 1)) ∧ Bfs G root seen i dp pr ((G here).take j))
        ⟨y5, seen, dp, pr, rfl, hh, T5, B⟩ (fun j σ H6 _ ⟨_, _, _, _, _, _, T6, _⟩ => SqL.of (T6.same _ _ (hp2 here hereC))) ?_ ?_⟩
      · -- a neighbour
        rintro j x σ H6 hx ⟨y5, seen, dp, pr, rfl, hh, T6, B6⟩
        obtain ⟨n, rfl, hn⟩ := ints_of hx
        have hnG : n ∈ G here := List.mem_of_getElem? hn
        have hnd : n ∈ dm := hcl here hereC n hnG
        refine ⟨.int n, rfl, .ref d, rfl, d, _, rfl, DGet.k (k := Sum.inl n) T6.st, _, rfl, ?_⟩
        rw [valV_ints (f := fun k => V.int (dp k))]
        have hpre : (G here).take (j + 1) = (G here).take j ++ [n] := by rw [List.take_add_one, hn]; rfl
        by_cases hs : n ∈ seen
        · rw [if_pos hs]
          refine ⟨_, seen, dp, pr, rfl, hh, T6, ?_⟩
          rw [hpre]
          exact bfs_old B6 hs
        · rw [if_neg hs]
          have hi' : i < seen.length := (List.getElem?_eq_some_iff.mp hh).1
          have hsl : seen.length ≤ dm.length := B6.nodup.length_le_of_subset T6.sub
          have put : DPut H6 d (.int n) (.int ((dp here : Int) + 1)) (upd H6 d (.dK ((seen ++ [n]).map fun k => ((Sum.inl k : Key), V.int (Nat.cast (updF dp n (dp here + 1) k)))))) := by
            have h := DPut.k (k := Sum.inl n) (v := .int ((dp here : Int) + 1)) T6.st (small (by rw [List.length_map]; omega))
            have e1 : ((dp here : Int) + 1) = ((dp here + 1 : Nat) : Int) := by omega
            rw [e1, put_steps hs] at h
            rw [e1]
            exact h
          refine ⟨.ref d, rfl, .int here, rfl, d, _, rfl, dget_ints (f := fun k => V.int (dp k)) T6.st (List.mem_of_getElem? hh), _, _, rfl, rfl, .ref d, rfl, .int n, rfl, d, _, rfl, put, ?_⟩
          refine ⟨.ref l, rfl, .inl ⟨rfl, _, SqL.of (by rw [upd_ne ndl.symm]; exact T6.lf)⟩, .int n, rfl, l, _, _, rfl, rfl, (by rw [upd_ne ndl.symm]; exact T6.lf), small (by rw [List.length_map, List.length_drop]; omega), ?_⟩
          refine ⟨_, seen ++ [n], updF dp n (dp here + 1), updF pr n (some here), rfl, getElem?_snoc_old hh, ⟨fun b o e => ?_, by rw [upd_ne ndl, upd_same], ?_, fun k hk => ?_⟩, ?_⟩
          · rw [upd_ne (bl e), upd_ne (bd e)]
            exact T6.same _ _ e
          · rw [upd_same, List.drop_append_of_le_length (by omega), List.map_append]
            rfl
          · rcases List.mem_append.mp hk with h | h
            · exact T6.sub k h
            · rw [List.mem_singleton] at h
              rw [h]
              exact hnd
          · rw [hpre]
            exact bfs_new B6 hh hnG hs
      · rintro σ H6 ⟨y5, seen, dp, pr, rfl, hh, T6, B6⟩
        have hi' : i < seen.length := (List.getElem?_eq_some_iff.mp hh).1
        have hsl : seen.length ≤ dm.length := B6.nodup.length_le_of_subset T6.sub
        refine ⟨dm.length - (i + 1), by omega, _, y5, seen, i + 1, dp, pr, rfl, rfl, ⟨T6.same, T6.st, T6.lf, T6.sub⟩, bfs_next B6 hh fun y hy => ?_⟩
        rw [List.length_map, List.take_length]
        exact hy
end
end KT
set_option maxRecDepth 100000
set_option maxHeartbeats 4000000
/-! up_and_down -/
namespace KT
open PySem PySem.Spec PyProof.Rows L2 KR KM
section
variable {P : Program} {w : World} {K : PySem.W.Frag} {mg : Str → Option Value} {base : Heap}
theorem valV_some {α : Type} [DecidableEq α] (kvs : List (α × V)) (k : α) : (valV kvs k).isSome = decide (k ∈ kvs.map (·.1)) := by
  induction kvs with
  | nil => rfl
  | cons kv kvs ih =>
    by_cases h : kv.1 = k
    · rw [valV_pos h]
      simp [h]
    · rw [valV_neg h, ih, List.map_cons]
      have : ¬ k = kv.1 := fun e => h e.symm
      simp only [List.mem_cons, this, false_or]
theorem valV_mem {α : Type} [DecidableEq α] {kvs : List (α × V)} {k : α} (h : k ∈ kvs.map (·.1)) : (valV kvs k).isSome = true := by
  rw [valV_some]
  exact decide_eq_true h
theorem valV_out {α : Type} [DecidableEq α] {kvs : List (α × V)} {k : α} (h : k ∉ kvs.map (·.1)) : valV kvs k = none := by
  have q := valV_some kvs k
  rw [decide_eq_false h] at q
  cases e : valV kvs k with
  | none => rfl
  | some v => rw [e] at q; cases q
/-- an exception's class that the text made -/
structure ExcT (K : PySem.W.Frag) (mg : Str → Option Value) (x : Str) (C : Addr) : Prop where
  g : mg x = some (.ref C)
  ex : PySem.W.excIn K C [.type "ValueError", .type "Exception", .type "BaseException", .type "object"] "ValueError.__new__" = true
  kp : PySem.W.keepIn K (.ref C) = true
  sb : PySem.W.subIn K (.ref C) (.type "BaseException") = some true
  ty : PySem.W.typeIn K (.ref C) = some (.type "type")
theorem scU' : FnScope ["near", "root", "one", "other", "steps", "came", "left", "here", "rising", "node", "up"] ["near", "root", "one", "other"] (defScope sUp) := ⟨rfl, rfl, rfl, by decide +kernel, rfl, by decide +kernel, by decide +kernel⟩
def spUp (CN : Addr) : Sp := fun vs H Q E => ∃ (nr : Addr) (dm : List Int) (G : Int → List Int) (root one other : Int), vs = [.ref nr, .int root, .int one, .int other] ∧ NearAt H nr dm G ∧ Gr dm G ∧ root ∈ dm ∧ dm.length ≤ 300 ∧ (∃ n, Wk G root n one) ∧
  (∀ H' t way C S, Same H H' → H' t = some (.tup (way.map V.int)) → Lv G root C S → one ∈ C → other ∈ C → WayOk G S one other way → Least (scU G S) (one, true) (fun y => y.1 = other) (way.length - 1) → way.length ≤ 1000 → Q (.ref t) H') ∧
  (∀ H', Same H H' → (∀ n, ¬ Wk G root n other) → E (.ref CN) none H')
/-- all states over the nodes -/
def univ (C : List Int) : List UN := C.flatMap fun k => [(k, true), (k, false)]
theorem univ_len (C : List Int) : (univ C).length = 2 * C.length := by
  unfold univ
  induction C with
  | nil => rfl
  | cons k C ih =>
    rw [List.flatMap_cons, List.length_append, ih, List.length_cons]
    show 2 + 2 * C.length = 2 * (C.length + 1)
    omega
theorem mem_univ {C : List Int} {y : UN} (h : y.1 ∈ C) : y ∈ univ C := by
  unfold univ
  rw [List.mem_flatMap]
  refine ⟨y.1, h, ?_⟩
  obtain ⟨k, b⟩ := y
  cases b <;> simp
/-- the tables of the search -/
structure UpAt (P : Program) (w : World) (H H3 : Hp) (sd d l : Addr) (C : List Int) (S : Int → Int) (seen : List UN) (pr : UN → Option UN) (left : List UN) : Prop where
  same : Same H H3
  stp : StepsAt H3 sd C S
  came : ∃ kvs, DE stEnc P w H3 d kvs ∧ kvs.map (·.1) = seen ∧ ∀ y ∈ seen, ParAt H3 kvs pr y
  lf : ∃ ws, H3 l = some (.lst ws) ∧ Ats stEnc H3 ws left
  sub : ∀ y ∈ seen, y.1 ∈ C
theorem UpAt.ext {P : Program} {w : World} {H H3 H4 : Hp} {sd d l : Addr} {C : List Int} {S : Int → Int} {seen left : List UN} {pr : UN → Option UN} (T : UpAt P w H H3 sd d l C S seen pr left) (e : Same H3 H4) : UpAt P w H H4 sd d l C S seen pr left := by
  obtain ⟨kvs, k1, k2, k3⟩ := T.came
  obtain ⟨ws, w1, w2⟩ := T.lf
  exact ⟨T.same.trans e, e _ _ T.stp, ⟨kvs, k1.same e, k2, fun y hy => (k3 y hy).same (tupX_same e)⟩, ⟨ws, e _ _ w1, w2.mono (tupX_same e)⟩, T.sub⟩
theorem PT.imp {X : Cx} {e : Expr} {t t' : TT} (h : PT X e t) (f : ∀ σ H Q, t' σ H Q → t σ H Q) : PT X e t' := ⟨fun pins s σ H Q I q => h.run pins s σ H Q I (f σ H Q q)⟩
/-- (rising or not up) and .. -/
def tRise (i j : Nat) (tc : TT) : TT := fun σ H Q => ∃ r u, σ[i]? = some (some (.bl r)) ∧ σ[j]? = some (some (.bl u)) ∧ if (r || !u) = true then tc σ H Q else Q false H
theorem rise_of {i j : Nat} {tc : TT} (σ : L2.St) (H : Hp) (Q : Bool → Hp → Prop) (h : tRise i j tc σ H Q) : tAnd (tOr (tB (tVar i)) (tNot (tB (tVar j)))) tc σ H Q := by
  obtain ⟨r, u, h1, h2, h3⟩ := h
  refine ⟨.bl r, h1, r, rfl, ?_⟩
  cases r with
  | true => exact h3
  | false =>
    refine ⟨.bl u, h2, u, rfl, ?_⟩
    cases u with
    | true => exact h3
    | false => exact h3
theorem mem_take_filter {α β : Type} {f : α → Option β} {l : List α} {j : Nat} {n : α} (h : l[j]? = some n) : (l.take (j + 1)).filterMap f = (l.take j).filterMap f ++ (match f n with | some y => [y] | none => []) := by
  rw [List.take_add_one, h, List.filterMap_append]
  congr 1
  show List.filterMap f [n] = _
  cases e : f n with
  | none => simp [e]
  | some y => simp [e]
theorem ats_cons {α : Type} [DecidableEq α] {E : Enc α} {H : Hp} {ws : List V} {a : α} {as : List α} (h : Ats E H ws (a :: as)) : ∃ v ws', ws = v :: ws' ∧ E.At H v a ∧ Ats E H ws' as := by
  cases h with
  | cons h1 h2 => exact ⟨_, _, rfl, h1, h2⟩
theorem ok_up {f fL fB fG CN : Addr} {fd fdL fdB fdG : FuncData} (F : Fun K "up_and_down" "up_and_down" sUp f fd) (L : Cal P w K mg base CX0 1 "levels" ["near", "root"] spLevels fL fdL) (B : Cal P w K mg base CX0 1 "back_from" ["came", "last"] (spBack P w) fB fdB)
    (GU : Cal P w K mg base CX0 1 "goes_up" ["levels_of", "one", "other"] spGoes fG fdG) (N : ExcT K mg "NoSuch" CN) (mT : mg "tuple" = none) : FnOk P w K mg base (L2.CX P w) 2 f fd ["near", "root", "one", "other"] (spUp CN) := by
  refine F.okX scU' (fun vs H Q E h => ?_) (fun cdv A outer s H vs Q E hr h => ?_)
  · obtain ⟨nr, dm, G, root, one, other, rfl, _⟩ := h
    rfl
  · obtain ⟨nr, dm, G, root, one, other, rfl, hN, hG, hroot, hlen, ⟨n0, hone⟩, qv, qe⟩ := h
    have hu := hu_of hr
    refine ⟨_, pss_cons (ps_set (i := 4) scU'.nd rfl (.inl rfl) (pe_call L.ok hr (by rfl) L.mg L.kp L.bd .nil pass0 (pa_cons (pv 0) (pa_cons (pv 1) pa_nil))))
      (pss_cons (ps_par (i := 5) (j := 6) rfl scU'.nd rfl rfl (by decide) rfl rfl (pa_cons (pe_dispP (P := P) (w := w) stEnc rfl rfl (units9 hr) (pe_tup (pa_cons (pv 2) (pa_cons pe_bl pa_nil))) pe_non) (pa_cons (pe_lst (pa_cons (pe_tup (pa_cons (pv 2) (pa_cons pe_bl pa_nil))) pa_nil)) pa_nil)) (by rfl))
      (pss_cons (ps_while (passes_of rfl) (pt_neNil (units64 hr) (pv 6))
        (pss_cons (ps_asg (pe_bm PySem.F.plainAttrs_list PySem.F.slot_list_pop PySem.F.type_list_pop mt_popAt (pv 6) (pa_cons pe_int pa_nil)) (pg_tup rfl (pgs_cons (pg_name (i := 7) scU'.nd rfl (.inl rfl)) (pgs_cons (pg_name (i := 8) scU'.nd rfl (.inl rfl)) pgs_nil))))
        (pss_cons (ps_if (pt_cmpR op_eq (pv 7) (pv 3) (nomark _))
          (pss_one (ps_ret (pe_callTy call_tuple_of (by rfl) mT (by decide +kernel) (pa_cons (pe_lc (own := [("node", 9), ("up", 10)]) (g := gTup K 2 (gCons (gName 9) (gCons (gName 10) gNil))) (tt := tYes) rfl scU'.nd
            (pi_tup (pe_call B.ok hr (by rfl) B.mg B.kp B.bd .nil pass0 (pa_cons (pv 5) (pa_cons (pe_tup (pa_cons (pv 7) (pa_cons (pv 8) pa_nil))) pa_nil))))
            (blkOk_by (own := [("node", 9), ("up", 10)]) (N := ["near", "root", "one", "other", "steps", "came", "left", "here", "rising", "node", "up"]) (sc := defScope sUp) (by decide +kernel))
            (fun _ _ _ _ _ => pg_tup rfl (pgs_cons (pg_name (i := 9) scU'.nd rfl (Or.inl rfl)) (pgs_cons (pg_name (i := 10) scU'.nd rfl (Or.inl rfl)) pgs_nil))) (fun _ _ _ _ _ => pts_nil) (fun _ _ _ _ _ => pv 9)) pa_nil)))) pss_nil)
        (pss_one (ps_for (passes_of rfl) rfl (pi_list (pe_dget hu (pv 0) (pv 7) (fun _ _ => rfl))) (pg_name (i := 9) scU'.nd rfl (.inl rfl))
          (pss_cons (ps_set (i := 10) scU'.nd rfl (.inl rfl) (pe_call GU.ok hr (by rfl) GU.mg GU.kp GU.bd .nil pass0 (pa_cons (pv 4) (pa_cons (pv 7) (pa_cons (pv 9) pa_nil)))))
          (pss_one (ps_if (PT.imp (PW.pt (pw_and (PW.pt (pw_or (pt_val (pv 8)) (pw_or1 (pt_not (pt_val (pv 10)))))) (pw_and1 (pt_cmpR (op_notInP (P := P) (w := w) stEnc rfl rfl (units9 hr)) (pe_tup (pa_cons (pv 9) (pa_cons (pv 10) pa_nil))) (pv 5) (by rfl))))) rise_of)
            (pss_cons (ps_asg (pe_tup (pa_cons (pv 7) (pa_cons (pv 8) pa_nil))) (pg_sub (pv 5) (pe_tup (pa_cons (pv 9) (pa_cons (pv 10) pa_nil))) (set_P (P := P) (w := w) stEnc rfl rfl (units9 hr))))
            (pss_one (ps_expr (pe_bm PySem.F.plainAttrs_list PySem.F.slot_list_append PySem.F.type_list_append mt_append (pv 6) (pa_cons (pe_tup (pa_cons (pv 9) (pa_cons (pv 10) pa_nil))) pa_nil))))) pss_nil))))))))
      (pss_one (ps_raise rfl (takes_of rfl rfl rfl rfl) (pmk_own PySem.F.excBase_ValueError N.ex N.g N.kp (raises_own N.sb N.ty) rfl))))), ?_⟩
    -- steps = levels(near, root)
    refine ⟨.ref nr, rfl, .int root, rfl, nr, dm, G, root, rfl, hN, hG.cl, hroot, by omega, fun H1 sd C S s1 hsd nsd hL hC => ?_⟩
    have oneC : one ∈ C := lv_all hL hone
    have hCl : C.length ≤ 300 := Nat.le_trans (hL.nd.length_le_of_subset hC) hlen
    -- came, left = {(one, True): None}, [(one, True)]
    refine fun d nd => ⟨.int one, rfl, le2, fun p1 np1 => ?_⟩
    have dp1 : d ≠ p1 := fun e => by rw [← e, upd_same] at np1; cases np1
    have np1' : H1 p1 = none := by rw [upd_ne dp1.symm] at np1; exact np1
    refine ⟨by rw [upd_ne dp1, upd_same], (one, true), ⟨p1, rfl, upd_same⟩, fun xs hde => ?_⟩
    refine ⟨.int one, rfl, le2, fun p2 np2 => ⟨by show 1 ≤ sizeLine; decide, fun l nl => ⟨.ref d, .ref l, rfl, ?_⟩⟩⟩
    have s2 : Same H1 (upd (upd (upd H1 d (dnO P w d [])) p1 (.tup [.int one, .bl true])) d (dnO P w d xs)) := fun b o e => by
      rw [upd_ne (ne_of_none e nd), upd_ne (ne_of_none e np1'), upd_ne (ne_of_none e nd)]
      exact e
    revert hde np2 nl s2
    generalize upd (upd (upd H1 d (dnO P w d [])) p1 (.tup [.int one, .bl true])) d (dnO P w d xs) = H2
    intro hde np2 nl s2
    have s3 : Same H2 (upd (upd H2 p2 (.tup [.int one, .bl true])) l (.lst [.ref p2])) := (same_upd np2).trans (same_upd nl)
    have nd' : H d = none := s1.free nd
    have nl' : H l = none := (s1.trans (s2.trans (same_upd np2))).free nl
    obtain ⟨φ, hφ⟩ := hde.some
    have ndl : d ≠ l := fun e => by
      have := (same_upd (o := .tup [.int one, .bl true]) np2) d _ hφ
      rw [e, nl] at this
      cases this
    have T0 : UpAt P w H (upd (upd H2 p2 (.tup [.int one, .bl true])) l (.lst [.ref p2])) sd d l C S [(one, true)] (fun _ => none) [(one, true)] := by
      refine ⟨s1.trans (s2.trans s3), s3 _ _ (s2 _ _ hsd), ⟨_, hde.same s3, rfl, fun y hy => ?_⟩, ⟨[.ref p2], upd_same, .cons ⟨p2, rfl, ?_⟩ .nil⟩, fun y hy => ?_⟩
      · rw [List.mem_singleton] at hy
        subst hy
        exact ⟨.non, by rw [valV_pos rfl], rfl⟩
      · exact same_upd nl _ _ upd_same
      · rw [List.mem_singleton] at hy
        subst hy
        exact oneC
    revert T0
    generalize upd (upd H2 p2 (.tup [.int one, .bl true])) l (.lst [.ref p2]) = H3
    intro T0
    clear hde np2 nl s2 s3 hφ
    refine ⟨fun m σ H6 => ∃ y7 y8 y9 y10 seen i dp pr, σ = [some (.ref nr), some (.int root), some (.int one), some (.int other), some (.ref sd), some (.ref d), some (.ref l), y7, y8, y9, y10] ∧ m = 2 * C.length - i ∧
        UpAt P w H H6 sd d l C S seen pr (seen.drop i) ∧ Bfs (scU G S) (one, true) seen i dp pr [] ∧ (∀ (j : Nat) (x : UN), j < i → seen[j]? = some x → ¬ x.1 = other),
      ⟨2 * C.length, none, none, none, none, [(one, true)], 0, fun _ => 0, fun _ => none, rfl, by simp, T0, bfs_start _ _, fun j x hj => by omega⟩, ?_⟩
    clear T0
    rintro m σ H4 ⟨y7, y8, y9, y10, seen, i, dp, pr, rfl, rfl, T, Bf, hno⟩
    obtain ⟨ws, hl, hws⟩ := T.lf
    refine ⟨.ref l, rfl, l, ws, rfl, SqL.of hl, lst_ats _ hws, fun e ne => ?_⟩
    have sE : Same H4 (upd H4 e (.lst [])) := same_upd ne
    have T1 := T.ext sE
    have hl1 := sE _ _ hl
    have hws1 := hws.mono (tupX_same sE)
    revert T1 hl1 hws1
    generalize upd H4 e (.lst []) = H5
    intro T1 hl1 hws1
    clear sE T hl hws
    by_cases hi : seen.length ≤ i
    · -- the end: no way
      have : ws = [] := by
        have h1 := hws1.len
        rw [List.drop_of_length_le hi] at h1
        exact List.eq_nil_of_length_eq_zero h1
      rw [if_pos this]
      refine qe H5 T1.same fun n wn => ?_
      obtain ⟨m, r, wm⟩ := ud_reach hG hL hC oneC (lv_all hL wn)
      obtain ⟨hs, _⟩ := bfs_done Bf hi wm
      obtain ⟨j, hj⟩ := List.mem_iff_getElem?.mp hs
      exact hno j _ (by have := (List.getElem?_eq_some_iff.mp hj).1; omega) hj rfl
    · obtain ⟨hs, hh⟩ : ∃ hs, seen[i]? = some hs := ⟨_, List.getElem?_eq_getElem (by omega)⟩
      obtain ⟨h, r⟩ := hs
      have hdrop := drop_cons hh
      rw [hdrop] at hws1
      obtain ⟨v0, ws', rfl, ⟨p0, rfl, hp0⟩, hws'⟩ := ats_cons hws1
      rw [if_neg (by simp)]
      have hsl : seen.length ≤ 2 * C.length := by
        have := Bf.nodup.length_le_of_subset (fun y hy => mem_univ (T1.sub y hy))
        rw [univ_len] at this
        exact this
      refine ⟨_, fun σ' H' z => z, ?_⟩
      -- here, rising = left.pop(0)
      refine ⟨.ref l, rfl, .inl ⟨rfl, _, SqL.of hl1⟩, l, _, 0, 0, .ref p0, rfl, rfl, hl1, by decide, by decide, seqIndex_of (Int.le_refl 0) (by simp), rfl, ?_⟩
      have hC' : h ∈ C := T1.sub _ (List.mem_of_getElem? hh)
      have hdm : h ∈ dm := hC _ hC'
      have te : TupX H5 (upd H5 l (HO.lst ((V.ref p0 :: ws').eraseIdx 0))) := tupX_upd hl1 (fun xs z => by cases z)
      have T5 : UpAt P w H (upd H5 l (HO.lst ((V.ref p0 :: ws').eraseIdx 0))) sd d l C S seen pr (seen.drop (i + 1)) := by
        have bl : ∀ {b : Addr} {o : HO}, H b = some o → b ≠ l := fun e => ne_of_none e nl'
        obtain ⟨kvs, k1, k2, k3⟩ := T1.came
        refine ⟨fun b o e => by rw [upd_ne (bl e)]; exact T1.same _ _ e, ?_, ⟨kvs, k1.mono (upd_ne ndl) te, k2, fun y hy => (k3 y hy).same te⟩, ⟨ws', upd_same, hws'.mono te⟩, T1.sub⟩
        show upd H5 l _ sd = _
        rw [upd_ne (fun e => by
          have := T1.stp
          unfold StepsAt at this
          rw [e, hl1] at this
          cases this)]
        exact T1.stp
      have hp5 := te _ _ hp0
      revert T5 hp5
      generalize upd H5 l (HO.lst ((V.ref p0 :: ws').eraseIdx 0)) = H6
      intro T5 hp5
      clear te hws1 hws' hl1 hp0 T1
      refine ⟨p0, [.int h, .bl r], rfl, SqT.of hp5, rfl, .int h, [.bl r], rfl, .bl r, [], rfl, rfl, ?_⟩
      -- if here == other
      refine ⟨.int h, rfl, .int other, rfl, rfl, _, rfl, ?_⟩
      by_cases hg : h = other
      · rw [decide_eq_true (by rw [hg])]
        obtain ⟨cs, c1, c2, c3, c4⟩ := bfs_chain Bf i _ hh
        have hcl : cs.length ≤ 1000 := by
          have h1 := bfs_depth Bf i _ hh
          omega
        obtain ⟨kvs, k1, k2, k3⟩ := T5.came
        have otC : other ∈ C := by rw [← hg]; exact hC'
        -- back_from(came, (here, rising))
        refine ⟨.ref d, rfl, .int h, rfl, .bl r, rfl, le2, fun p3 np3 => ?_⟩
        have s7 := same_upd (o := .tup [.int h, .bl r]) np3
        refine ⟨d, kvs, .ref p3, (h, r), pr, cs, rfl, k1.same s7, ⟨p3, rfl, upd_same⟩, c1, fun z hz => (k3 z (c4 z hz)).same (tupX_same s7), hcl, fun H8 t ys s8 ht hys => ?_⟩
        refine ⟨t, rfl, ⟨_, SqT.of ht⟩, fun D nD => ?_⟩
        have sb : Same H H8 := T5.same.trans (s7.trans s8)
        refine lc_tup (K := K) (a := t) (xs := ys) (fun j H9 => Same H8 H9 ∧ H9 D = some (.lst (((cs.map (·.1)).take j).map V.int))) ⟨same_upd nD, upd_same⟩ (fun j H9 _ q => SqT.of (q.1 _ _ ht)) ?_ ?_
        · rintro j x H9 hx ⟨s9, hD⟩
          obtain ⟨⟨k, b⟩, hk, p4, rfl, hp4⟩ := hys.get hx
          refine ⟨p4, [.int k, .bl b], rfl, SqT.of (s9 _ _ hp4), rfl, .int k, [.bl b], rfl, .bl b, [], rfl, rfl, rfl, .int k, rfl, _, hD, ?_, fun b' o e => ?_, ?_⟩
          · refine small ?_
            rw [List.length_map, List.length_take, List.length_map]
            omega
          · rw [upd_ne (ne_of_none e nD)]
            exact s9 _ _ e
          · rw [upd_same, List.take_add_one, List.getElem?_map, hk, List.map_append]
            rfl
        · rintro H9 ⟨s9, hD⟩
          have hyl := hys.len
          rw [hyl, List.take_of_length_le (by simp)] at hD
          refine ⟨D, _, rfl, .inl ⟨SqL.of hD, fun t2 nt2 => ?_⟩⟩
          have hlen' : (cs.map (·.1)).length - 1 = dp (h, r) := by rw [List.length_map, c3]; omega
          have hw : WayOk G S one other (cs.map (·.1)) := by
            rw [← hg]
            exact way_of c2
          refine qv _ t2 (cs.map (·.1)) C S (sb.trans (s9.trans (same_upd nt2))) upd_same hL oneC otC hw ?_ (by rw [List.length_map]; exact hcl)
          rw [hlen']
          exact ⟨⟨(h, r), hg, bfs_walk Bf i _ hh⟩, fun k x wx px => bfs_first Bf hh (fun y => y.1 = other) hno wx px⟩
      · rw [decide_eq_false (by intro z; cases z; exact hg rfl)]
        obtain ⟨p, hp1, hp2⟩ := hN
        have nrAt : ∀ {H' : Hp}, Same H H' → DGet H' nr (.int h) (some (.ref (p h))) := fun e => dget_ints (f := fun k => V.ref (p k)) (e _ _ hp1) hdm
        refine ⟨.ref nr, rfl, .int h, rfl, nr, _, rfl, nrAt T5.same, p h, rfl, ⟨_, SqL.of (T5.same _ _ (hp2 h hdm))⟩, for_list (xs := (G h).map V.int)
          (fun j σ H6 => ∃ y9 y10 seen dp pr, σ = [some (.ref nr), some (.int root), some (.int one), some (.int other), some (.ref sd), some (.ref d), some (.ref l), some (.int h), some (.bl r), y9, y10] ∧ seen[i]? = some (h, r) ∧
            UpAt P w H H6 sd d l C S seen pr (seen.drop (i + 1)) ∧ Bfs (scU G S) (one, true) seen i dp pr (((G h).take j).filterMap (stepU S (h, r))) ∧ (∀ (j : Nat) (x : UN), j < i → seen[j]? = some x → ¬ x.1 = other))
          ⟨_, _, seen, dp, pr, rfl, hh, T5, Bf, hno⟩ (fun j σ H6 _ ⟨_, _, _, _, _, _, _, T6, _⟩ => SqL.of (T6.same _ _ (hp2 h hdm))) ?_ ?_⟩
        · -- a neighbour
          rintro j x σ H7 hx ⟨y9, y10, seen, dp, pr, rfl, hh, T6, B6, hno⟩
          obtain ⟨n, rfl, hn⟩ := ints_of hx
          have hnG : n ∈ G h := List.mem_of_getElem? hn
          have hnC : n ∈ C := (hL.cl h hC' n hnG).1
          have hi' : i < seen.length := (List.getElem?_eq_some_iff.mp hh).1
          refine ⟨.ref sd, rfl, .int h, rfl, .int n, rfl, sd, C, S, h, n, rfl, T6.stp, hC', hnC, fun H8 s8 => ?_⟩
          have T7 := T6.ext s8
          refine ⟨r, upB S h n, rfl, rfl, ?_⟩
          have hst : stepU S (h, r) n = if (r || !upB S h n) = true then some (n, upB S h n) else none := rfl
          by_cases hc : (r || !upB S h n) = true
          · rw [if_pos hc]
            rw [if_pos hc] at hst
            have hy : (n, upB S h n) ∈ scU G S (h, r) := List.mem_filterMap.mpr ⟨n, hnG, hst⟩
            have hpre : ((G h).take (j + 1)).filterMap (stepU S (h, r)) = ((G h).take j).filterMap (stepU S (h, r)) ++ [(n, upB S h n)] := by rw [mem_take_filter hn, hst]
            obtain ⟨kvs, k1, k2, k3⟩ := T7.came
            refine ⟨.int n, rfl, .bl (upB S h n), rfl, le2, fun p4 np4 => ?_⟩
            have s9 := same_upd (o := .tup [.int n, .bl (upB S h n)]) np4
            refine ⟨.ref d, rfl, (n, upB S h n), d, kvs, rfl, ⟨p4, rfl, upd_same⟩, k1.same s9, _, rfl, ?_⟩
            have T9 := T7.ext s9
            by_cases hm : (n, upB S h n) ∈ seen
            · have hv : (valV kvs (n, upB S h n)).isSome = true := by
                refine valV_mem ?_
                rw [k2]
                exact hm
              rw [hv]
              refine ⟨_, _, seen, dp, pr, rfl, hh, T9, ?_, hno⟩
              rw [hpre]
              exact bfs_old B6 hm
            · have hv : (valV kvs (n, upB S h n)).isSome = false := by
                rw [valV_out (by rw [k2]; exact hm)]
                rfl
              rw [hv]
              -- came[node, up] = (here, rising)
              obtain ⟨kvs, k1, k2, k3⟩ := T9.came
              have hsl : seen.length ≤ 2 * C.length := by
                have := B6.nodup.length_le_of_subset (fun y hy => mem_univ (T6.sub y hy))
                rw [univ_len] at this
                exact this
              have hkl : kvs.length = seen.length := by rw [← k2, List.length_map]
              revert T9 k1 k3
              generalize upd H8 p4 (.tup [.int n, .bl (upB S h n)]) = H9
              intro T9 k1 k3
              refine ⟨.int h, rfl, .bl r, rfl, le2, fun p5 np5 => ⟨.ref d, rfl, .int n, rfl, .bl (upB S h n), rfl, le2, fun p6 np6 => ?_⟩⟩
              have s10 := (same_upd (o := .tup [.int h, .bl r]) np5).trans (same_upd (o := .tup [.int n, .bl (upB S h n)]) np6)
              have hp5' : upd (upd H9 p5 (.tup [.int h, .bl r])) p6 (.tup [.int n, .bl (upB S h n)]) p5 = some (.tup [.int h, .bl r]) := same_upd np6 _ _ upd_same
              have hp6' : upd (upd H9 p5 (.tup [.int h, .bl r])) p6 (.tup [.int n, .bl (upB S h n)]) p6 = some (.tup [.int n, .bl (upB S h n)]) := upd_same
              revert s10 hp5' hp6'
              generalize upd (upd H9 p5 (.tup [.int h, .bl r])) p6 (.tup [.int n, .bl (upB S h n)]) = H10
              intro s10 hp5' hp6'
              have T10 := T9.ext s10
              obtain ⟨φ, hφ⟩ := (k1.same s10).some
              refine ⟨d, kvs, (n, upB S h n), rfl, k1.same s10, ⟨p6, rfl, hp6'⟩, small (by omega), fun xs hde => ?_⟩
              have te : TupX H10 (upd H10 d (dnO P w d xs)) := tupX_upd hφ (fun xs z => by cases z)
              obtain ⟨ws, w1, w2⟩ := T10.lf
              have w1' : upd H10 d (dnO P w d xs) l = some (.lst ws) := by rw [upd_ne ndl.symm]; exact w1
              -- left.append((node, up))
              refine ⟨.ref l, rfl, .inl ⟨rfl, _, SqL.of w1'⟩, .int n, rfl, .bl (upB S h n), rfl, le2, fun p7 np7 => ?_⟩
              have s11 := same_upd (o := .tup [.int n, .bl (upB S h n)]) np7
              have hp7 : upd (upd H10 d (dnO P w d xs)) p7 (.tup [.int n, .bl (upB S h n)]) p7 = some (.tup [.int n, .bl (upB S h n)]) := upd_same
              have w1'' := s11 _ _ w1'
              have sd' : ∀ b o, H b = some o → upd (upd H10 d (dnO P w d xs)) p7 (.tup [.int n, .bl (upB S h n)]) b = some o := fun b o e => s11 _ _ (by rw [upd_ne (ne_of_none e nd')]; exact T10.same _ _ e)
              have stp' : StepsAt (upd (upd H10 d (dnO P w d xs)) p7 (.tup [.int n, .bl (upB S h n)])) sd C S := s11 _ _ (by
                rw [upd_ne (fun e => by
                  have := T10.stp
                  unfold StepsAt at this
                  rw [e, hφ] at this
                  cases this)]
                exact T10.stp)
              have te' : TupX H10 (upd (upd H10 d (dnO P w d xs)) p7 (.tup [.int n, .bl (upB S h n)])) := fun p ys e => s11 _ _ (te _ _ e)
              have hde' := hde.same s11
              revert w1'' sd' stp' te' hde' hp7
              generalize upd (upd H10 d (dnO P w d xs)) p7 (.tup [.int n, .bl (upB S h n)]) = H11
              intro hp7 w1'' sd' stp' te' hde'
              have hwl : ws.length ≤ 1000 := by
                have := w2.len
                rw [List.length_drop] at this
                omega
              refine ⟨l, ws, .ref p7, rfl, rfl, w1'', small (by omega), ?_⟩
              have te2 : TupX H11 (upd H11 l (.lst (ws ++ [.ref p7]))) := tupX_upd w1'' (fun xs z => by cases z)
              have te3 : TupX H10 (upd H11 l (.lst (ws ++ [.ref p7]))) := fun p ys e => te2 _ _ (te' _ _ e)
              have hnv : valV kvs (n, upB S h n) = none := valV_out (by rw [k2]; exact hm)
              rw [putK_new _ hnv] at hde'
              have neY : ∀ {y : UN}, y ∈ seen → y ≠ (n, upB S h n) := fun hy e => hm (by rw [← e]; exact hy)
              refine ⟨_, _, seen ++ [(n, upB S h n)], updF dp (n, upB S h n) (dp (h, r) + 1), updF pr (n, upB S h n) (some (h, r)), rfl, getElem?_snoc_old hh, ⟨fun b o e => ?_, ?_, ⟨kvs ++ [((n, upB S h n), .ref p5)], hde'.mono (upd_ne ndl) te2, ?_, fun y hy => ?_⟩, ⟨ws ++ [.ref p7], upd_same, ?_⟩, fun y hy => ?_⟩, ?_, fun j x hj hx => ?_⟩
              · rw [upd_ne (ne_of_none e nl')]
                exact sd' _ _ e
              · show upd H11 l _ sd = _
                rw [upd_ne (fun e => by
                  unfold StepsAt at stp'
                  rw [e, w1''] at stp'
                  cases stp')]
                exact stp'
              · rw [List.map_append, k2]
                rfl
              · rcases List.mem_append.mp hy with q | q
                · obtain ⟨v, v1, v2⟩ := (k3 y q).same (tupX_same s10)
                  refine ⟨v, ?_, ?_⟩
                  · rw [valV_snoc _ _ _ _ hnv, if_neg (neY q)]
                    exact v1
                  · rw [updF_ne _ _ (neY q)]
                    cases e : pr y with
                    | none => rw [e] at v2; exact v2
                    | some x =>
                      rw [e] at v2
                      exact stEnc.mono te3 v2
                · rw [List.mem_singleton] at q
                  subst q
                  refine ⟨.ref p5, by rw [valV_snoc _ _ _ _ hnv, if_pos rfl], ?_⟩
                  rw [updF_same]
                  exact ⟨p5, rfl, te3 _ _ hp5'⟩
              · rw [List.drop_append_of_le_length (by omega)]
                exact ((w2.mono te').mono te2).app (.cons ⟨p7, rfl, te2 _ _ hp7⟩ .nil)
              · rcases List.mem_append.mp hy with q | q
                · exact T6.sub y q
                · rw [List.mem_singleton] at q
                  subst q
                  exact hnC
              · rw [hpre]
                exact bfs_new B6 hh hy hm
              · rcases getElem?_snoc hx with ⟨_, q⟩ | ⟨e, _⟩
                · exact hno j x hj q
                · omega
          · rw [if_neg hc]
            rw [if_neg hc] at hst
            refine ⟨_, _, seen, dp, pr, rfl, hh, T7, ?_, hno⟩
            rw [mem_take_filter hn, hst, List.append_nil]
            exact B6
        · rintro σ H7 ⟨y9, y10, seen, dp, pr, rfl, hh, T6, B6, hno⟩
          have hi' : i < seen.length := (List.getElem?_eq_some_iff.mp hh).1
          have hsl : seen.length ≤ 2 * C.length := by
            have := B6.nodup.length_le_of_subset (fun y hy => mem_univ (T6.sub y hy))
            rw [univ_len] at this
            exact this
          refine ⟨2 * C.length - (i + 1), by omega, _, _, y9, y10, seen, i + 1, dp, pr, rfl, rfl, T6, bfs_next B6 hh fun y hy => ?_, fun j x hj hx => ?_⟩
          · rw [List.length_map, List.take_length]
            exact hy
          · by_cases e : j = i
            · subst e
              rw [hh] at hx
              cases hx
              exact hg
            · exact hno j x (by omega) hx
end
end KT
set_option maxRecDepth 100000
set_option maxHeartbeats 4000000
/-! is_up_and_down -/
namespace KT
open PySem PySem.Spec PyProof.Rows L2 KR KM
section
variable {P : Program} {w : World} {K : PySem.W.Frag} {mg : Str → Option Value} {base : Heap}
theorem inV_ints (n : Int) (ns : List Int) : inV (.int n) (ns.map V.int) = ns.contains n := by
  unfold inV
  rw [List.any_map, Bool.eq_iff_iff, List.any_eq_true, List.contains_iff_mem]
  constructor
  · rintro ⟨x, hx, h⟩
    have h : eqV (.int x) (.int n) = true := h
    have : x = n := by
      unfold eqV at h
      simpa using h
    rw [← this]
    exact hx
  · intro h
    refine ⟨n, h, ?_⟩
    show eqV (.int n) (.int n) = true
    unfold eqV
    simp
theorem flat_ints (ns : List Int) : (ns.map V.int).all flatV = true := by
  rw [List.all_map, List.all_eq_true]
  intro x _
  rfl
theorem scI : FnScope ["near", "root", "way", "steps", "fallen", "one", "other", "up"] ["near", "root", "way"] (defScope sIs) := ⟨rfl, rfl, rfl, by decide +kernel, rfl, by decide +kernel, by decide +kernel⟩
def spIs : Sp := fun vs H Q _ => ∃ (nr : Addr) (dm : List Int) (G : Int → List Int) (root : Int) (wa : Addr) (way : List Int), vs = [.ref nr, .int root, .ref wa] ∧ NearAt H nr dm G ∧ Gr dm G ∧ root ∈ dm ∧ dm.length ≤ 300 ∧ H wa = some (.tup (way.map V.int)) ∧ way.length ≤ 1000 ∧
  (∀ k ∈ way, ∃ n, Wk G root n k) ∧ ∀ H' C S, Same H H' → Lv G root C S → Q (.bl (udB G S false way)) H'
theorem ok_is {f fL fK fG : Addr} {fd fdL fdK fdG : FuncData} (F : Fun K "is_up_and_down" "is_up_and_down" sIs f fd) (L : Cal P w K mg base CX0 1 "levels" ["near", "root"] spLevels fL fdL) (LK : Cal P w K mg base CX0 1 "links_of" ["way"] spLinks fK fdK)
    (GU : Cal P w K mg base CX0 1 "goes_up" ["levels_of", "one", "other"] spGoes fG fdG) : FnOk P w K mg base CX0 2 f fd ["near", "root", "way"] spIs := by
  refine F.ok scI (fun vs H Q E h => ?_) (fun cdv A outer s H vs Q E hr h => ?_)
  · obtain ⟨nr, dm, G, root, wa, way, rfl, _⟩ := h
    rfl
  · obtain ⟨nr, dm, G, root, wa, way, rfl, hN, hG, hroot, hlen, hwa, hwl, hre, q⟩ := h
    have hu := hu_of hr
    refine ⟨_, pss_cons (ps_par (i := 3) (j := 4) rfl scI.nd rfl rfl (by decide) rfl rfl (pa_cons (pe_call L.ok hr (by rfl) L.mg L.kp L.bd .nil pass0 (pa_cons (pv 0) (pa_cons (pv 1) pa_nil))) (pa_cons pe_bl pa_nil)) (by rfl))
      (pss_cons (ps_for PassesOwn.never rfl (pi_tup (pe_call LK.ok hr (by rfl) LK.mg LK.kp LK.bd .nil pass0 (pa_cons (pv 2) pa_nil))) (pg_tup rfl (pgs_cons (pg_name (i := 5) scI.nd rfl (.inl rfl)) (pgs_cons (pg_name (i := 6) scI.nd rfl (.inl rfl)) pgs_nil)))
        (pss_cons (ps_set (i := 7) scI.nd rfl (.inl rfl) (pe_call GU.ok hr (by rfl) GU.mg GU.kp GU.bd .nil pass0 (pa_cons (pv 3) (pa_cons (pv 5) (pa_cons (pv 6) pa_nil)))))
        (pss_cons (ps_if (PW.pt (pw_or (pt_cmpR op_notIn_seq (pv 6) (pe_dget hu (pv 0) (pv 5) (fun _ _ => rfl)) (by rfl)) (pw_or1 (PW.pt (pw_and (pt_val (pv 7)) (pw_and1 (pt_val (pv 4)))))))) (pss_one (ps_ret pe_bl)) pss_nil)
        (pss_one (ps_set (i := 4) scI.nd rfl (.inl rfl) (pe_or (pv 4) (pe_one (pe_not (pv 7)))))))))
      (pss_one (ps_ret pe_bl))), ?_⟩
    -- steps, fallen = levels(near, root), False
    refine ⟨.ref nr, rfl, .int root, rfl, nr, dm, G, root, rfl, hN, hG.cl, hroot, by omega, fun H1 sd C S s1 hsd nsd hL hC => ⟨.ref sd, .bl false, rfl, ?_⟩⟩
    have hwC : ∀ k ∈ way, k ∈ C := fun k hk => let ⟨n, wn⟩ := hre k hk; lv_all hL wn
    -- links_of(way)
    refine ⟨.ref wa, rfl, wa, way, rfl, s1 _ _ hwa, hwl, fun H2 t ys s2 ht hys => ⟨t, rfl, ⟨_, SqT.of ht⟩, ?_⟩⟩
    obtain ⟨p, hp1, hp2⟩ := hN
    have s12 := s1.trans s2
    refine for_tup (xs := ys) (fun i σ H3 => ∃ f y5 y6 y7, σ = [some (.ref nr), some (.int root), some (.ref wa), some (.ref sd), some (.bl f), y5, y6, y7] ∧ Same H2 H3 ∧ udB G S f (way.drop i) = udB G S false way)
      ⟨false, none, none, none, rfl, Same.refl _, rfl⟩ (fun i σ H3 _ ⟨_, _, _, _, _, s3, _⟩ => SqT.of (s3 _ _ ht)) ?_ ?_
    · rintro i x σ H3 hx ⟨f, y5, y6, y7, rfl, s3, hf⟩
      obtain ⟨⟨a, b⟩, hab, p0, rfl, hp0⟩ := hys.get hx
      obtain ⟨ha, hb⟩ := lkL_of hab
      have aC := hwC a (List.mem_of_getElem? ha)
      have bC := hwC b (List.mem_of_getElem? hb)
      have adm := hC a aC
      refine ⟨p0, [.int a, .int b], rfl, SqT.of (s3 _ _ hp0), rfl, .int a, [.int b], rfl, .int b, [], rfl, rfl, ?_⟩
      refine ⟨.ref sd, rfl, .int a, rfl, .int b, rfl, sd, C, S, a, b, rfl, s3 _ _ (s2 _ _ hsd), aC, bC, fun H4 s4 => ?_⟩
      have sH : Same H H4 := s12.trans (s3.trans s4)
      rw [drop_cons ha, drop_cons hb, udB_two] at hf
      refine ⟨.int b, rfl, .ref nr, rfl, .int a, rfl, nr, _, rfl, dget_ints (f := fun k => V.ref (p k)) (sH _ _ hp1) adm, p a, _, rfl, .inl (SqL.of (sH _ _ (hp2 a adm))), rfl, flat_ints _, _, rfl, ?_⟩
      rw [inV_ints]
      cases hc : (G a).contains b with
      | false =>
        rw [hc] at hf
        have : udB G S false way = false := by rw [← hf]; rfl
        have hq := q H4 C S sH hL
        rw [this] at hq
        exact hq
      | true =>
        rw [hc] at hf
        refine ⟨.bl (upB S a b), rfl, _, rfl, ?_⟩
        cases hu' : upB S a b with
        | false =>
          rw [hu'] at hf
          refine ⟨.bl f, rfl, _, rfl, ?_⟩
          have hf : udB G S (f || true) (b :: way.drop (i + 1 + 1)) = udB G S false way := by
            rw [← hf]
            simp
          have hd := drop_cons hb
          rw [← hd] at hf
          cases f with
          | true => exact ⟨true, _, _, _, rfl, s3.trans s4, hf⟩
          | false => exact ⟨.bl false, rfl, _, rfl, true, _, _, _, rfl, s3.trans s4, hf⟩
        | true =>
          rw [hu'] at hf
          refine ⟨.bl f, rfl, _, rfl, ?_⟩
          cases f with
          | true =>
            have : udB G S false way = false := by rw [← hf]; rfl
            have hq := q H4 C S sH hL
            rw [this] at hq
            exact hq
          | false =>
            have hf : udB G S false (b :: way.drop (i + 1 + 1)) = udB G S false way := by
              rw [← hf]
              simp
            have hd := drop_cons hb
            rw [← hd] at hf
            exact ⟨.bl false, rfl, _, rfl, .bl true, rfl, _, rfl, false, _, _, _, rfl, s3.trans s4, hf⟩
    · rintro σ H3 ⟨f, y5, y6, y7, rfl, s3, hf⟩
      have hl : (way.drop ys.length).length ≤ 1 := by
        rw [hys.len, lkL_len, List.length_drop]
        omega
      have : udB G S false way = true := by
        rw [← hf]
        match way.drop ys.length, hl with
        | [], _ => rw [udB]
        | [_], _ => rw [udB]
      have hq := q H3 C S (s12.trans s3) hL
      rw [this] at hq
      exact hq
end
end KT
set_option maxRecDepth 100000
set_option maxHeartbeats 4000000
/-! _law_ways -/
namespace KT
open PySem PySem.Spec PyProof.Rows L2 KR KM
section
variable {P : Program} {w : World} {K : PySem.W.Frag} {mg : Str → Option Value} {base : Heap}
abbrev nmWays : List Str := ["_law_near", "_law_steps", "_law_one", "_law_other", "_law_left", "_law_seen", "_law_length", "_law_node", "_law_rising", "_law_fresh", "_law_here", "_law_up"]
theorem scW : FnScope nmWays ["_law_near", "_law_steps", "_law_one", "_law_other"] (defScope sWays) := ⟨rfl, rfl, rfl, by decide +kernel, rfl, by decide +kernel, by decide +kernel⟩
def spWays : Sp := fun vs H Q _ => ∃ (nr sd : Addr) (dm : List Int) (G : Int → List Int) (C : List Int) (S : Int → Int) (root one other : Int), vs = [.ref nr, .ref sd, .int one, .int other] ∧ NearAt H nr dm G ∧ StepsAt H sd C S ∧ Gr dm G ∧ Lv G root C S ∧ (∀ k ∈ C, k ∈ dm) ∧ C.length ≤ 300 ∧ one ∈ C ∧ other ∈ C ∧
  ∀ H' n, Same H H' → Least (scU G S) (one, true) (fun y => y.1 = other) n → Q (.int (n : Nat)) H'
/-- the rows of the search by layers -/
structure LyAt (H H3 : Hp) (ll ls : Addr) (C : List Int) (seen left : List UN) : Prop where
  same : Same H H3
  lf : ∃ ws, H3 ll = some (.lst ws) ∧ Ats stEnc H3 ws left
  sn : ∃ ws, H3 ls = some (.lst ws) ∧ Ats stEnc H3 ws seen
  sub : ∀ y ∈ seen, y.1 ∈ C
theorem LyAt.ext {H H3 H4 : Hp} {ll ls : Addr} {C : List Int} {seen left : List UN} (T : LyAt H H3 ll ls C seen left) (e : Same H3 H4) : LyAt H H4 ll ls C seen left := by
  obtain ⟨ws, w1, w2⟩ := T.lf
  obtain ⟨zs, z1, z2⟩ := T.sn
  exact ⟨T.same.trans e, ⟨ws, e _ _ w1, w2.mono (tupX_same e)⟩, ⟨zs, e _ _ z1, z2.mono (tupX_same e)⟩, T.sub⟩
/-- the nodes of left that are the goal -/
theorem goal_iff {left : List UN} {other : Int} : ((left.filter fun y => decide (y.1 = other)).map fun _ => (1 : Int)) = [] ↔ ∀ x ∈ left, ¬ x.1 = other := by
  rw [List.map_eq_nil_iff, List.filter_eq_nil_iff]
  simp
theorem ok_ways {f : Addr} {fd : FuncData} (F : Fun K "_law_ways" "_law_ways" sWays f fd) : FnOk P w K mg base CX0 1 f fd ["_law_near", "_law_steps", "_law_one", "_law_other"] spWays := by
  refine F.ok scW (fun vs H Q E h => ?_) (fun cdv A outer s H vs Q E hr h => ?_)
  · obtain ⟨nr, sd, dm, G, C, S, root, one, other, rfl, _⟩ := h
    rfl
  · obtain ⟨nr, sd, dm, G, C, S, root, one, other, rfl, hN, hS, hG, hL, hC, hCl, h1C, h2C, q⟩ := h
    have hu := hu_of hr
    refine ⟨_, pss_cons (ps_par3 (i := 4) (j := 5) (l := 6) rfl scW.nd rfl rfl rfl (by decide) (by decide) (by decide) rfl rfl rfl
        (pa_cons (pe_lst (pa_cons (pe_tup (pa_cons (pv 2) (pa_cons pe_bl pa_nil))) pa_nil)) (pa_cons (pe_lst (pa_cons (pe_tup (pa_cons (pv 2) (pa_cons pe_bl pa_nil))) pa_nil)) (pa_cons pe_int pa_nil))) (by rfl))
      (pss_cons (ps_while PassesOwn.never (pt_neNil (units64 hr) (pv 4))
        (pss_cons (ps_if (pt_neNil (units64 hr) (pe_lc (own := [("_law_node", 7), ("_law_rising", 8)]) (g := gTup K 2 (gCons (gName 7) (gCons (gName 8) gNil))) (tt := tTest (tOp rEq (tVar 7) (tVar 3))) rfl scW.nd
            (pi_list (pv 4)) (blkOk_by (own := [("_law_node", 7), ("_law_rising", 8)]) (N := nmWays) (sc := defScope sWays) (by decide +kernel))
            (fun _ _ _ _ _ => pg_tup rfl (pgs_cons (pg_name (i := 7) scW.nd rfl (Or.inl rfl)) (pgs_cons (pg_name (i := 8) scW.nd rfl (Or.inl rfl)) pgs_nil))) (fun _ _ _ _ _ => pts_one (pt_cmpR op_eq (pv 7) (pv 3) (nomark _))) (fun _ _ _ _ _ => pe_int)))
          (pss_one (ps_ret (pv 6))) pss_nil)
        (pss_cons (ps_set (i := 9) scW.nd rfl (.inl rfl) (pe_lst pa_nil))
        (pss_cons (ps_for PassesOwn.never rfl (pi_list (pv 4)) (pg_tup rfl (pgs_cons (pg_name (i := 10) scW.nd rfl (.inl rfl)) (pgs_cons (pg_name (i := 8) scW.nd rfl (.inl rfl)) pgs_nil)))
          (pss_one (ps_for PassesOwn.never rfl (pi_list (pe_dget hu (pv 0) (pv 10) (fun _ _ => rfl))) (pg_name (i := 7) scW.nd rfl (.inl rfl))
            (pss_cons (ps_set (i := 11) scW.nd rfl (.inl rfl) (pe_cmpR (op_ltT hr.units0) (pe_tup (pa_cons (pe_dget hu (pv 1) (pv 7) (fun _ _ => rfl)) (pa_cons (pv 7) pa_nil))) (pe_tup (pa_cons (pe_dget hu (pv 1) (pv 10) (fun _ _ => rfl)) (pa_cons (pv 10) pa_nil))) (nomark _)))
            (pss_one (ps_if (PT.imp (PW.pt (pw_and (PW.pt (pw_or (pt_val (pv 8)) (pw_or1 (pt_not (pt_val (pv 11)))))) (pw_and1 (pt_cmpR (op_notInE stEnc (units65 hr)) (pe_tup (pa_cons (pv 7) (pa_cons (pv 11) pa_nil))) (pe_op op_cat (pv 5) (pv 9)) (by rfl))))) rise_of)
              (pss_one (ps_expr (pe_bm PySem.F.plainAttrs_list PySem.F.slot_list_append PySem.F.type_list_append mt_append (pv 9) (pa_cons (pe_tup (pa_cons (pv 7) (pa_cons (pv 11) pa_nil))) pa_nil)))) pss_nil))))))
        (pss_one (ps_par3 (i := 5) (j := 4) (l := 6) rfl scW.nd rfl rfl rfl (by decide) (by decide) (by decide) rfl rfl rfl (pa_cons (pe_op op_cat (pv 5) (pv 9)) (pa_cons (pv 9) (pa_cons (pe_op op_add (pv 6) pe_int) pa_nil))) (by rfl)))))))
      (pss_one (ps_ret pe_non))), ?_⟩
    obtain ⟨nP, hp1, hp2⟩ := hN
    -- left, seen, length = [(one, True)], [(one, True)], 0
    refine ⟨.int one, rfl, le2, fun p1 np1 => ⟨by show 1 ≤ sizeLine; decide, fun l1 nl1 => ⟨.int one, rfl, le2, fun p2 np2 => ⟨by show 1 ≤ sizeLine; decide, fun l2 nl2 => ⟨.ref l1, .ref l2, .int 0, rfl, ?_⟩⟩⟩⟩⟩
    have a1 := same_upd (o := .tup [.int one, .bl true]) np1
    have a2 := same_upd (o := .lst [.ref p1]) nl1
    have a3 := same_upd (o := .tup [.int one, .bl true]) np2
    have a4 := same_upd (o := .lst [.ref p2]) nl2
    have T0 : LyAt H (upd (upd (upd (upd H p1 (.tup [.int one, .bl true])) l1 (.lst [.ref p1])) p2 (.tup [.int one, .bl true])) l2 (.lst [.ref p2])) l1 l2 C [(one, true)] [(one, true)] := by
      refine ⟨a1.trans (a2.trans (a3.trans a4)), ⟨[.ref p1], a4 _ _ (a3 _ _ upd_same), .cons ⟨p1, rfl, a4 _ _ (a3 _ _ (a2 _ _ upd_same))⟩ .nil⟩, ⟨[.ref p2], upd_same, .cons ⟨p2, rfl, a4 _ _ upd_same⟩ .nil⟩, fun y hy => ?_⟩
      rw [List.mem_singleton] at hy
      subst hy
      exact h1C
    revert T0
    generalize upd (upd (upd (upd H p1 (.tup [.int one, .bl true])) l1 (.lst [.ref p1])) p2 (.tup [.int one, .bl true])) l2 (.lst [.ref p2]) = H1
    intro T0
    clear a1 a2 a3 a4
    refine ⟨fun m σ H3 => ∃ ll ls n y7 y8 y9 y10 y11 seen left, σ = [some (.ref nr), some (.ref sd), some (.int one), some (.int other), some (.ref ll), some (.ref ls), some (.int (n : Nat)), y7, y8, y9, y10, y11] ∧
        m = 2 * C.length - seen.length + (if left = [] then 0 else 1) ∧ LyAt H H3 ll ls C seen left ∧ Lay (scU G S) (one, true) (fun y => y.1 = other) seen left n,
      ⟨_, l1, l2, 0, none, none, none, none, none, [(one, true)], [(one, true)], rfl, rfl, T0, lay_start _ _ _⟩, ?_⟩
    clear T0
    rintro m σ H3 ⟨ll, ls, n, y7, y8, y9, y10, y11, seen, left, rfl, rfl, T, Ly⟩
    obtain ⟨ws, hl, hws⟩ := T.lf
    refine ⟨.ref ll, rfl, ll, ws, rfl, SqL.of hl, lst_ats _ hws, fun e ne => ?_⟩
    have sE := same_upd (o := .lst []) ne
    have T1 := T.ext sE
    replace hl := sE _ _ hl
    replace hws := hws.mono (tupX_same sE)
    revert T1 hl hws
    generalize upd H3 e (.lst []) = H4
    intro T1 hl hws
    clear T sE
    have hwl := hws.len
    have hbound : ∀ {l : List UN}, l.Nodup → (∀ y ∈ l, y.1 ∈ C) → l.length ≤ 2 * C.length := fun {l} hn hs => by
      have := hn.length_le_of_subset (fun y hy => mem_univ (hs y hy))
      rw [univ_len] at this
      exact this
    by_cases hne : left = []
    · exfalso
      subst hne
      obtain ⟨m, r, wm⟩ := ud_reach hG hL hC h1C h2C
      exact lay_end Ly wm rfl
    · have hw0 : ws ≠ [] := fun e => hne (List.eq_nil_of_length_eq_zero (by rw [← hwl, e]; rfl))
      rw [if_neg hw0]
      have hsn : seen.length ≤ 2 * C.length := hbound Ly.nodup T1.sub
      have hll : left.length ≤ 100000 := by
        have := hbound Ly.lnd (fun y hy => T1.sub y (Ly.sub y hy))
        omega
      refine ⟨_, fun σ' H' z => z, ?_⟩
      -- if [1 for node, rising in left if node == other] != []
      refine ⟨.ref ll, rfl, ll, rfl, ⟨_, SqL.of hl⟩, fun D nD => ?_⟩
      refine lc_list (K := K) (a := ll) (xs := ws) (fun i H5 => Same H4 H5 ∧ H5 D = some (.lst ((((left.take i).filter fun y => decide (y.1 = other)).map fun _ => (1 : Int)).map V.int))) ⟨same_upd nD, upd_same⟩ (fun i H5 _ z => SqL.of (z.1 _ _ hl)) ?_ ?_
      · rintro i x H5 hx ⟨s5, hD⟩
        obtain ⟨⟨k, b⟩, hk, p, rfl, hp⟩ := hws.get hx
        refine ⟨p, [.int k, .bl b], rfl, SqT.of (s5 _ _ hp), rfl, .int k, [.bl b], rfl, .bl b, [], rfl, rfl, rfl, .int k, rfl, .int other, rfl, rfl, _, rfl, ?_⟩
        have ht : left.take (i + 1) = left.take i ++ [(k, b)] := by rw [List.take_add_one, hk]; rfl
        by_cases hg : k = other
        · rw [decide_eq_true (by rw [hg])]
          refine ⟨_, hD, ?_, fun b' o e => by rw [upd_ne (ne_of_none e nD)]; exact s5 _ _ e, ?_⟩
          · refine small ?_
            rw [List.length_map, List.length_map]
            have := List.length_filter_le (fun y : UN => decide (y.1 = other)) (left.take i)
            rw [List.length_take] at this
            omega
          · rw [upd_same, ht, List.filter_append, List.map_append, List.map_append]
            simp [hg]
        · rw [decide_eq_false (by intro z; cases z; exact hg rfl)]
          refine ⟨s5, ?_⟩
          rw [hD, ht, List.filter_append]
          simp [hg]
      · rintro H5 ⟨s5, hD⟩
        rw [hwl, List.take_length] at hD
        refine ⟨D, _, rfl, SqL.of hD, lst_ints _ _ _, fun e ne => ?_⟩
        have T5 := (T1.ext s5).ext (same_upd (o := .lst []) ne)
        have s6 := s5.trans (same_upd (o := .lst []) ne)
        revert T5 s6
        generalize upd H5 e (.lst []) = H6
        intro T5 s6
        by_cases hgo : ∀ x ∈ left, ¬ x.1 = other
        · have hnil := goal_iff.mpr hgo
          rw [if_pos (show ((left.filter fun y => decide (y.1 = other)).map fun _ => (1 : Int)).map V.int = [] by rw [hnil]; rfl)]
          -- fresh = []
          refine ⟨Nat.zero_le _, fun fr nfr => ?_⟩
          have hl6 := s6 _ _ hl
          have hws6 := hws.mono (tupX_same s6)
          obtain ⟨zs, hls, hzs⟩ := T5.sn
          refine ⟨.ref ll, rfl, ll, rfl, ⟨_, SqL.of (same_upd nfr _ _ hl6)⟩, for_list (xs := ws)
            (fun i σ H7 => ∃ y7 y8 y10 y11 fresh wf pre, σ = [some (.ref nr), some (.ref sd), some (.int one), some (.int other), some (.ref ll), some (.ref ls), some (.int (n : Nat)), y7, y8, some (.ref fr), y10, y11] ∧ Same H6 H7 ∧ H7 fr = some (.lst wf) ∧ Ats stEnc H7 wf fresh ∧
              LayIn (scU G S) (one, true) (fun y => y.1 = other) seen left n pre fresh ∧ (∀ x ∈ left.take i, ∀ y ∈ scU G S x, y ∈ pre) ∧ (∀ y ∈ fresh, y.1 ∈ C))
            ⟨y7, y8, y10, y11, [], [], [], rfl, same_upd nfr, upd_same, .nil, lay_in Ly, by simp, by simp⟩ (fun i σ H7 _ ⟨_, _, _, _, _, _, _, _, s7, _⟩ => SqL.of (s7 _ _ hl6)) ?_ ?_⟩
          · rintro i x σ H7 hx ⟨y7, y8, y10, y11, fresh, wf, pre, rfl, s7, hfr, hwf, Li, hpre, hfC⟩
            obtain ⟨⟨h, r⟩, hk, p, rfl, hp⟩ := hws6.get hx
            have hmem : (h, r) ∈ left := List.mem_of_getElem? hk
            have hhC : h ∈ C := T5.sub _ (Ly.sub _ hmem)
            have hhd : h ∈ dm := hC _ hhC
            have sH7 : Same H H7 := T5.same.trans s7
            refine ⟨p, [.int h, .bl r], rfl, SqT.of (s7 _ _ hp), rfl, .int h, [.bl r], rfl, .bl r, [], rfl, rfl, ?_⟩
            refine ⟨.ref nr, rfl, .int h, rfl, nr, _, rfl, dget_ints (f := fun k => V.ref (nP k)) (sH7 _ _ hp1) hhd, nP h, rfl, ⟨_, SqL.of (sH7 _ _ (hp2 h hhd))⟩, for_list (xs := (G h).map V.int)
              (fun j σ H8 => ∃ y7 y11 fresh wf pre, σ = [some (.ref nr), some (.ref sd), some (.int one), some (.int other), some (.ref ll), some (.ref ls), some (.int (n : Nat)), y7, some (.bl r), some (.ref fr), some (.int h), y11] ∧ Same H6 H8 ∧ H8 fr = some (.lst wf) ∧ Ats stEnc H8 wf fresh ∧
                LayIn (scU G S) (one, true) (fun y => y.1 = other) seen left n pre fresh ∧ (∀ x ∈ left.take i, ∀ y ∈ scU G S x, y ∈ pre) ∧ (∀ y ∈ fresh, y.1 ∈ C) ∧ ∀ y ∈ ((G h).take j).filterMap (stepU S (h, r)), y ∈ pre)
              ⟨y7, y11, fresh, wf, pre, rfl, s7, hfr, hwf, Li, hpre, hfC, by simp⟩ (fun j σ H8 _ ⟨_, _, _, _, _, _, s8, _⟩ => SqL.of (s8 _ _ (T5.same _ _ (hp2 h hhd)))) ?_ ?_⟩
            · clear hfr hwf Li hpre hfC s7 sH7 pre wf fresh
              rintro j x σ H8 hx ⟨y7, y11, fresh, wf, pre, rfl, s8, hfr, hwf, Li, hpre, hfC, hpj⟩
              obtain ⟨n', rfl, hn⟩ := ints_of hx
              have hnG : n' ∈ G h := List.mem_of_getElem? hn
              have hnC : n' ∈ C := (hL.cl h hhC n' hnG).1
              have sH8 : Same H H8 := T5.same.trans s8
              refine ⟨.ref sd, rfl, .int n', rfl, sd, .int (S n'), rfl, dget_ints (sH8 _ _ hS) hnC, .int n', rfl, le2, fun p1 np1 => ?_⟩
              have b1 := same_upd (o := .tup [.int (S n'), .int n']) np1
              refine ⟨.ref sd, rfl, .int h, rfl, sd, .int (S h), rfl, dget_ints (b1 _ _ (sH8 _ _ hS)) hhC, .int h, rfl, le2, fun p2 np2 => ?_⟩
              have b2 := same_upd (o := .tup [.int (S h), .int h]) np2
              refine ⟨p1, p2, [S n', n'], [S h, h], rfl, rfl, SqT.of (b2 _ _ upd_same), SqT.of upd_same, ?_⟩
              have b12 := b1.trans b2
              revert b12
              generalize upd (upd H8 p1 (.tup [.int (S n'), .int n'])) p2 (.tup [.int (S h), .int h]) = H9
              intro b12
              clear b1 b2
              rw [lex_up]
              refine ⟨r, upB S h n', rfl, rfl, ?_⟩
              have hst : stepU S (h, r) n' = if (r || !upB S h n') = true then some (n', upB S h n') else none := rfl
              have s9 := s8.trans b12
              replace hfr := b12 _ _ hfr
              replace hwf := hwf.mono (tupX_same b12)
              by_cases hc : (r || !upB S h n') = true
              · rw [if_pos hc]
                rw [if_pos hc] at hst
                have hy : (n', upB S h n') ∈ scU G S (h, r) := List.mem_filterMap.mpr ⟨n', hnG, hst⟩
                have htk : ((G h).take (j + 1)).filterMap (stepU S (h, r)) = ((G h).take j).filterMap (stepU S (h, r)) ++ [(n', upB S h n')] := by rw [mem_take_filter hn, hst]
                have hsf : seen.length + fresh.length ≤ 2 * C.length := by
                  rw [← List.length_append]
                  exact hbound Li.nodup fun y hy => by
                    rcases List.mem_append.mp hy with z | z
                    · exact T5.sub y z
                    · exact hfC y z
                have hzl := hzs.len
                have hfl := hwf.len
                have hsz := sizeLine_eq
                refine ⟨.int n', rfl, .bl (upB S h n'), rfl, le2, fun p4 np4 => ?_⟩
                have c1 := same_upd (o := .tup [.int n', .bl (upB S h n')]) np4
                refine ⟨.ref ls, rfl, .ref fr, rfl, ls, fr, zs, wf, rfl, rfl, c1 _ _ (s9 _ _ hls), c1 _ _ hfr, by omega, fun p5 np5 => ?_⟩
                have c2 := same_upd (o := .lst (zs ++ wf)) np5
                have hkey : StAt (upd (upd H9 p4 (.tup [.int n', .bl (upB S h n')])) p5 (.lst (zs ++ wf))) (.ref p4) (n', upB S h n') := ⟨p4, rfl, c2 _ _ upd_same⟩
                have hrow : Ats stEnc (upd (upd H9 p4 (.tup [.int n', .bl (upB S h n')])) p5 (.lst (zs ++ wf))) (zs ++ wf) (seen ++ fresh) := Ats.app (hzs.mono (tupX_same (s9.trans (c1.trans c2)))) (hwf.mono (tupX_same (c1.trans c2)))
                have hp5 : upd (upd H9 p4 (.tup [.int n', .bl (upB S h n')])) p5 (.lst (zs ++ wf)) p5 = some (.lst (zs ++ wf)) := upd_same
                have c12 := c1.trans c2
                revert hkey hrow hp5 c12
                generalize upd (upd H9 p4 (.tup [.int n', .bl (upB S h n')])) p5 (.lst (zs ++ wf)) = H10
                intro hkey hrow hp5 c12
                have s10 := s9.trans c12
                replace hfr := c12 _ _ hfr
                replace hwf := hwf.mono (tupX_same c12)
                by_cases hm : (n', upB S h n') ∈ seen ++ fresh
                · refine ⟨(n', upB S h n'), p5, zs ++ wf, seen ++ fresh, hkey, rfl, SqL.of hp5, hrow, true, ⟨fun _ => hm, fun _ => rfl⟩, _, rfl, ?_⟩
                  refine ⟨_, _, fresh, wf, pre ++ [(n', upB S h n')], rfl, s10, hfr, hwf, lay_old Li hm, fun x hx y hy => List.mem_append_left _ (hpre x hx y hy), hfC, fun y hy => ?_⟩
                  rw [htk] at hy
                  rcases List.mem_append.mp hy with z | z
                  · exact List.mem_append_left _ (hpj y z)
                  · exact List.mem_append_right _ z
                · refine ⟨(n', upB S h n'), p5, zs ++ wf, seen ++ fresh, hkey, rfl, SqL.of hp5, hrow, false, ⟨fun z => (nomatch z), fun z => absurd z hm⟩, _, rfl, ?_⟩
                  refine ⟨.ref fr, rfl, .inl ⟨rfl, _, SqL.of hfr⟩, .int n', rfl, .bl (upB S h n'), rfl, le2, fun p6 np6 => ?_⟩
                  have c3 := same_upd (o := .tup [.int n', .bl (upB S h n')]) np6
                  have hfr3 := c3 _ _ hfr
                  refine ⟨fr, wf, .ref p6, rfl, rfl, hfr3, small (by omega), ?_⟩
                  have te := tupX_upd (o := .lst (wf ++ [.ref p6])) hfr3 (fun xs z => by cases z)
                  refine ⟨_, _, fresh ++ [(n', upB S h n')], wf ++ [.ref p6], pre ++ [(n', upB S h n')], rfl, fun b o e => ?_, upd_same, ((hwf.mono (tupX_same c3)).mono te).app (.cons ⟨p6, rfl, te _ _ upd_same⟩ .nil), lay_new Li hmem hy hm, fun x hx y hy => List.mem_append_left _ (hpre x hx y hy), fun y hy => ?_, fun y hy => ?_⟩
                  · rw [upd_ne (ne_of_none e nfr)]
                    exact c3 _ _ (s10 _ _ e)
                  · rcases List.mem_append.mp hy with z | z
                    · exact hfC y z
                    · rw [List.mem_singleton] at z
                      rw [z]
                      exact hnC
                  · rw [htk] at hy
                    rcases List.mem_append.mp hy with z | z
                    · exact List.mem_append_left _ (hpj y z)
                    · exact List.mem_append_right _ z
              · rw [if_neg hc]
                rw [if_neg hc] at hst
                refine ⟨_, _, fresh, wf, pre, rfl, s9, hfr, hwf, Li, hpre, hfC, ?_⟩
                rw [mem_take_filter hn, hst, List.append_nil]
                exact hpj
            · clear hfr hwf Li hpre hfC s7 sH7 pre wf fresh
              rintro σ H8 ⟨y7, y11, fresh, wf, pre, rfl, s8, hfr, hwf, Li, hpre, hfC, hpj⟩
              refine ⟨_, _, _, _, fresh, wf, pre, rfl, s8, hfr, hwf, Li, fun x hx y hy => ?_, hfC⟩
              have ht : left.take (i + 1) = left.take i ++ [(h, r)] := by rw [List.take_add_one, hk]; rfl
              rw [ht] at hx
              rcases List.mem_append.mp hx with z | z
              · exact hpre x z y hy
              · rw [List.mem_singleton] at z
                subst z
                rw [List.length_map, List.take_length] at hpj
                exact hpj y hy
          · rintro σ H7 ⟨y7, y8, y10, y11, fresh, wf, pre, rfl, s7, hfr, hwf, Li, hpre, hfC⟩
            rw [hwl, List.take_length] at hpre
            have hsf : seen.length + fresh.length ≤ 2 * C.length := by
              rw [← List.length_append]
              exact hbound Li.nodup fun y hy => by
                rcases List.mem_append.mp hy with z | z
                · exact T5.sub y z
                · exact hfC y z
            have hzl := hzs.len
            have hfl := hwf.len
            have hsz := sizeLine_eq
            refine ⟨.ref ls, rfl, .ref fr, rfl, ls, fr, zs, wf, rfl, rfl, s7 _ _ hls, hfr, by omega, fun p np => ⟨.ref fr, rfl, .int (n : Nat), rfl, _, _, rfl, rfl, .ref p, .ref fr, .int ((n : Int) + 1), rfl, ?_⟩⟩
            have c1 := same_upd (o := .lst (zs ++ wf)) np
            refine ⟨2 * C.length - (seen ++ fresh).length + (if fresh = [] then 0 else 1), ?_, fr, p, n + 1, _, _, _, _, _, seen ++ fresh, fresh, rfl, rfl, ⟨T5.same.trans (s7.trans c1), ⟨wf, c1 _ _ hfr, hwf.mono (tupX_same c1)⟩, ⟨zs ++ wf, upd_same, Ats.app (hzs.mono (tupX_same (s7.trans c1))) (hwf.mono (tupX_same c1))⟩, fun y hy => ?_⟩, lay_next Li hpre hgo⟩
            · rw [if_neg hne, List.length_append]
              cases fresh with
              | nil => simp
              | cons a t =>
                rw [if_neg (by simp)]
                simp only [List.length_cons] at hsf ⊢
                omega
            · rcases List.mem_append.mp hy with z | z
              · exact T5.sub y z
              · exact hfC y z
        · obtain ⟨x, hx⟩ := Classical.not_forall.mp hgo
          obtain ⟨hxl, hxo⟩ := Classical.not_imp.mp hx
          have hnn : ((left.filter fun y => decide (y.1 = other)).map fun _ => (1 : Int)) ≠ [] := fun z => hgo (goal_iff.mp z)
          rw [if_neg (show ¬ ((left.filter fun y => decide (y.1 = other)).map fun _ => (1 : Int)).map V.int = [] from fun z => hnn (List.map_eq_nil_iff.mp z))]
          refine ⟨.int (n : Nat), rfl, q H6 n T5.same (lay_goal Ly hxl (Classical.not_not.mp hxo))⟩
end
end KT
set_option maxRecDepth 100000
set_option maxHeartbeats 4000000
/-! _law_flat, _law_dice, _law_roll, _law_rounds -/
namespace KT
open PySem PySem.Spec PyProof.Rows L2 KR KM
section
variable {P : Program} {w : World} {K : PySem.W.Frag} {mg : Str → Option Value} {base : Heap}
theorem scF : FnScope ["_law_rows", "_law_found", "_law_row"] ["_law_rows"] (defScope sFlat) := ⟨rfl, rfl, rfl, by decide +kernel, rfl, by decide +kernel, by decide +kernel⟩
def spFlat : Sp := fun vs H Q _ => ∃ (a : Addr) (ts : List Addr), vs = [.ref a] ∧ H a = some (.lst (ts.map V.ref)) ∧ (∀ t ∈ ts, H t = some (.lst [])) ∧ ∀ H' l, Same H H' → H' l = some (.lst []) → Q (.ref l) H'
theorem ok_flat {f : Addr} {fd : FuncData} (F : Fun K "_law_flat" "_law_flat" sFlat f fd) : FnOk P w K mg base CX0 1 f fd ["_law_rows"] spFlat := by
  refine F.ok scF (fun vs H Q E h => ?_) (fun cdv A outer s H vs Q E hr h => ?_)
  · obtain ⟨a, ts, rfl, _⟩ := h
    rfl
  · obtain ⟨a, ts, rfl, ha, ht, q⟩ := h
    refine ⟨_, pss_cons (ps_set (i := 1) scF.nd rfl (.inl rfl) (pe_lst pa_nil))
      (pss_cons (ps_for PassesOwn.never rfl (pi_list (pv 0)) (pg_name (i := 2) scF.nd rfl (.inl rfl)) (pss_one (ps_set (i := 1) scF.nd rfl (.inl rfl) (pe_op op_cat (pv 1) (pv 2)))))
      (pss_one (ps_ret (pv 1)))), ?_⟩
    refine ⟨Nat.zero_le _, fun l nl => ?_⟩
    have s1 := same_upd (o := .lst []) nl
    refine ⟨.ref a, rfl, a, rfl, ⟨_, SqL.of (s1 _ _ ha)⟩, for_list (xs := ts.map V.ref) (fun i σ H2 => ∃ l y2, σ = [some (.ref a), some (.ref l), y2] ∧ Same H H2 ∧ H2 l = some (.lst []))
      ⟨l, none, rfl, s1, upd_same⟩ (fun i σ H2 _ ⟨_, _, _, s2, _⟩ => SqL.of (s2 _ _ ha)) ?_ ?_⟩
    · rintro i x σ H2 hx ⟨l, y2, rfl, s2, hl⟩
      rw [List.getElem?_map] at hx
      cases e : ts[i]? with
      | none => rw [e] at hx; cases hx
      | some t =>
        rw [e] at hx
        cases hx
        refine ⟨.ref l, rfl, .ref t, rfl, l, t, [], [], rfl, rfl, hl, s2 _ _ (ht t (List.mem_of_getElem? e)), Nat.zero_le _, fun p np => ?_⟩
        exact ⟨p, _, rfl, s2.trans (same_upd np), upd_same⟩
    · rintro σ H2 ⟨l, y2, rfl, s2, hl⟩
      exact ⟨.ref l, rfl, q H2 l s2 hl⟩
theorem le3 : (3 : Nat) ≤ sizeLine := by decide
theorem scD : FnScope ["_law_cell"] ["_law_cell"] (defScope sDice) := ⟨rfl, rfl, rfl, by decide +kernel, rfl, by decide +kernel, by decide +kernel⟩
def spDice : Sp := fun vs H Q _ => ∃ (z : Int), vs = [.int z] ∧ ∀ p (a b c : Int), H p = none → Q (.ref p) (upd H p (.lst [.int a, .int b, .int c]))
theorem ok_dice {f : Addr} {fd : FuncData} (F : Fun K "_law_dice" "_law_dice" sDice f fd) (mA : mg "abs" = none) (mI : mg "int" = none) : FnOk P w K mg base CX0 1 f fd ["_law_cell"] spDice := by
  refine F.ok scD (fun vs H Q E h => ?_) (fun cdv A outer s H vs Q E hr h => ?_)
  · obtain ⟨z, rfl, _⟩ := h
    rfl
  · obtain ⟨z, rfl, q⟩ := h
    refine ⟨_, pss_cons (ps_if (pt_chain op_lt op_lt (pe_op op_sub pe_int pe_int) (pv 0) pe_int) (pss_one (ps_ret (pe_lst (pa_cons (pe_callB call_abs (by rfl) mA (by decide +kernel) (pa_cons (pv 0) pa_nil)) (pa_cons pe_int (pa_cons pe_int pa_nil)))))) pss_nil)
      (pss_one (ps_ret (pe_lst (pa_cons (pv 0) (pa_cons (pe_op op_add pe_int (pe_op op_mod (pe_callTy call_int1 (by rfl) mI (by decide +kernel) (pa_cons (pv 0) pa_nil)) pe_int))
        (pa_cons (pe_callTy call_int1 (by rfl) mI (by decide +kernel) (pa_cons (pe_cmpR op_ge (pv 0) (pe_op op_pow pe_int pe_int) (nomark _)) pa_nil)) pa_nil)))))), ?_⟩
    refine ⟨_, _, rfl, rfl, .int z, rfl, _, _, rfl, rfl, _, rfl, ?_⟩
    have pw : CPow 10 18 := ⟨by decide, by decide, by decide⟩
    refine ite2 (fun h1 => ?_) (fun h1 => ?_)
    · refine ⟨_, _, rfl, rfl, _, rfl, ?_⟩
      refine ite2 (fun h2 => ?_) (fun h2 => ?_)
      · exact ⟨.int z, rfl, z, rfl, le3, fun p np => q p _ 0 2 np⟩
      · exact ⟨.int z, rfl, .int z, rfl, .inl ⟨z, rfl, _, _, rfl, rfl, (by show (0 : Int) < 1009; decide), _, _, rfl, rfl, .int z, rfl, _, _, rfl, rfl, pw, _, _, rfl, rfl, .inr ⟨_, rfl, le3, fun p np => q p _ _ _ np⟩⟩⟩
    · exact ⟨_, rfl, .int z, rfl, .int z, rfl, .inl ⟨z, rfl, _, _, rfl, rfl, (by show (0 : Int) < 1009; decide), _, _, rfl, rfl, .int z, rfl, _, _, rfl, rfl, pw, _, _, rfl, rfl, .inr ⟨_, rfl, le3, fun p np => q p _ _ _ np⟩⟩⟩
theorem scR : FnScope ["_law_dice_here", "_law_many", "_law_found"] ["_law_dice_here", "_law_many"] (defScope sRoll) := ⟨rfl, rfl, rfl, by decide +kernel, rfl, by decide +kernel, by decide +kernel⟩
def spRoll : Sp := fun vs H Q _ => ∃ (p : Addr) (a b c m : Int), vs = [.ref p, .int m] ∧ H p = some (.lst [.int a, .int b, .int c]) ∧ 0 < m ∧ m < 1000 ∧ ∀ H' (r a' b' c' : Int), But p H H' → H' p = some (.lst [.int a', .int b', .int c']) → 0 ≤ r → r < m → Q (.int r) H'
theorem roll_test {σ : L2.St} {H : Hp} {Q : Bool → Hp → Prop} (h : ∃ p a b c, σ[0]? = some (some (.ref p)) ∧ H p = some (.lst [.int a, .int b, .int c]) ∧ Q true H ∧ Q false H) :
    tOr (tTest (tOp rEq (tOp (rIxL K) (tVar 0) (tC (.int 2))) (tC (.int 2)))) (tAnd (tTest (tOp rEq (tOp (rIxL K) (tVar 0) (tC (.int 2))) (tC (.int 1)))) (tTest (tOp (rI0 fun i j => .bl (decide (j < i))) (tOp (rIxL K) (tVar 0) (tC (.int 0))) (tC (.int 0))))) σ H Q := by
  obtain ⟨p, a, b, c, h0, hp, qt, qf⟩ := h
  refine ⟨.ref p, h0, p, _, _, .int c, rfl, rfl, SqL.of hp, at_of (j := 2) rfl rfl, rfl, _, rfl, ?_⟩
  refine ite2 (fun _ => qt) (fun _ => ?_)
  refine ⟨.ref p, h0, p, _, _, .int c, rfl, rfl, SqL.of hp, at_of (j := 2) rfl rfl, rfl, _, rfl, ?_⟩
  refine ite2 (fun _ => ?_) (fun _ => qf)
  refine ⟨.ref p, h0, p, _, _, .int a, rfl, rfl, SqL.of hp, at_of (j := 0) rfl rfl, _, _, rfl, rfl, _, rfl, ?_⟩
  show Q (decide (0 < a)) H
  cases decide (0 < a) with
  | true => exact qt
  | false => exact qf
theorem ok_roll {f : Addr} {fd : FuncData} (F : Fun K "_law_roll" "_law_roll" sRoll f fd) (mI : mg "int" = none) : FnOk P w K mg base CX0 1 f fd ["_law_dice_here", "_law_many"] spRoll := by
  refine F.ok scR (fun vs H Q E h => ?_) (fun cdv A outer s H vs Q E hr h => ?_)
  · obtain ⟨p, a, b, c, m, rfl, _⟩ := h
    rfl
  · obtain ⟨p, a, b, c, m, rfl, hp, h0, h1, q⟩ := h
    refine ⟨_, pss_cons (ps_if (PT.imp (t' := fun σ H Q => ∃ p a b c, σ[0]? = some (some (.ref p)) ∧ H p = some (.lst [.int a, .int b, .int c]) ∧ Q true H ∧ Q false H) (PW.pt (pw_or (pt_cmpR op_eq (pe_ix ix_list (pv 0) pe_int (fun _ _ => rfl)) pe_int (nomark _)) (pw_or1 (PW.pt (pw_and (pt_cmpR op_eq (pe_ix ix_list (pv 0) pe_int (fun _ _ => rfl)) pe_int (nomark _)) (pw_and1 (pt_cmpR op_gt (pe_ix ix_list (pv 0) pe_int (fun _ _ => rfl)) pe_int (nomark _)))))))) (fun σ H Q h => roll_test h))
        (pss_cons (ps_set (i := 2) scR.nd rfl (.inl rfl) (pe_op op_mod (pe_callTy call_int1 (by rfl) mI (by decide +kernel) (pa_cons (pe_ix ix_list (pv 0) pe_int (fun _ _ => rfl)) pa_nil)) (pv 1)))
        (pss_cons (ps_asg (pe_op op_fdiv (pe_ix ix_list (pv 0) pe_int (fun _ _ => rfl)) (pv 1)) (pg_sub (pv 0) pe_int set_list))
        (pss_one (ps_ret (pv 2))))) pss_nil)
      (pss_cons (ps_asg pe_int (pg_sub (pv 0) pe_int set_list))
      (pss_cons (ps_asg (pe_op op_mod (pe_callTy call_int1 (by rfl) mI (by decide +kernel) (pa_cons (pe_op op_add (pe_op op_add (pe_op op_mul (pe_ix ix_list (pv 0) pe_int (fun _ _ => rfl)) pe_int) (pe_op op_mul (pe_ix ix_list (pv 0) pe_int (fun _ _ => rfl)) pe_int)) pe_int) pa_nil)) pe_int) (pg_sub (pv 0) pe_int set_list))
      (pss_cons (ps_asg (pe_op op_add (pe_ix ix_list (pv 0) pe_int (fun _ _ => rfl)) pe_int) (pg_sub (pv 0) pe_int set_list))
      (pss_one (ps_ret (pe_op op_mod (pe_callTy call_int1 (by rfl) mI (by decide +kernel) (pa_cons (pe_op op_add (pe_op op_fdiv (pe_ix ix_list (pv 0) pe_int (fun _ _ => rfl)) pe_int) (pe_ix ix_list (pv 0) pe_int (fun _ _ => rfl))) pa_nil)) (pv 1))))))), ?_⟩
    have hE : ∀ z : Int, 0 ≤ z % m ∧ z % m < m := fun z => ⟨Int.emod_nonneg z (by omega), Int.emod_lt_of_pos z h0⟩
    have cd : CDiv a m := ⟨h0, by show m < 1073741824; omega⟩
    have hm : a.natAbs < 0 ∨ True := .inr trivial
    refine ⟨p, a, b, c, rfl, hp, ?_, ?_⟩
    · -- found = int(dice[0]) % many; dice[0] = dice[0] // many
      refine ⟨.ref p, rfl, p, _, _, .int a, rfl, rfl, SqL.of hp, at_of (j := 0) rfl rfl, .inl ⟨a, rfl, .int m, rfl, _, _, rfl, rfl, h0, ?_⟩⟩
      refine ⟨.ref p, rfl, p, _, _, .int a, rfl, rfl, SqL.of hp, at_of (j := 0) rfl rfl, .int m, rfl, _, _, rfl, rfl, cd, .ref p, rfl, p, _, _, 0, rfl, rfl, hp, rfl, ?_⟩
      exact ⟨.int (a % m), rfl, q _ (a % m) _ _ _ But.upd upd_same (hE a).1 (hE a).2⟩
    · have c7 : ∀ z : Int, CDiv z 7 := fun z => ⟨by decide, by decide⟩
      -- dice[2] = 0
      refine ⟨.ref p, rfl, p, _, _, 2, rfl, rfl, hp, rfl, ?_⟩
      have e1 : (upd H p (.lst [.int a, .int b, .int 0])) p = some (.lst [.int a, .int b, .int 0]) := upd_same
      -- dice[0] = int(dice[0] * 48271 + dice[1] * 69621 + 11) % 2147483647
      refine ⟨.ref p, rfl, p, _, _, .int a, rfl, rfl, SqL.of e1, at_of (j := 0) rfl rfl, _, _, rfl, rfl, .inr ⟨by decide, by decide⟩, .ref p, rfl, p, _, _, .int b, rfl, rfl, SqL.of e1, at_of (j := 1) rfl rfl, _, _, rfl, rfl, .inr ⟨by decide, by decide⟩, _, _, rfl, rfl, _, _, rfl, rfl,
        .inl ⟨_, rfl, _, _, rfl, rfl, (by show (0 : Int) < 2147483647; decide), .ref p, rfl, p, _, _, 0, rfl, rfl, e1, rfl, ?_⟩⟩
      have e2 : (upd (upd H p (.lst [.int a, .int b, .int 0])) p (.lst ([V.int a, .int b, .int 0].set 0 (.int ((a * 48271 + b * 69621 + 11) % 2147483647))))) p = some (.lst [.int ((a * 48271 + b * 69621 + 11) % 2147483647), .int b, .int 0]) := upd_same
      -- dice[1] = dice[1] + 1
      refine ⟨.ref p, rfl, p, _, _, .int b, rfl, rfl, SqL.of e2, at_of (j := 1) rfl rfl, _, _, rfl, rfl, .ref p, rfl, p, _, _, 1, rfl, rfl, e2, rfl, ?_⟩
      -- return int(dice[0] // 7 + dice[0]) % many
      refine ⟨.ref p, rfl, p, _, _, .int ((a * 48271 + b * 69621 + 11) % 2147483647), rfl, rfl, SqL.of upd_same, at_of (j := 0) rfl rfl, _, _, rfl, rfl, c7 _, .ref p, rfl, p, _, _, .int ((a * 48271 + b * 69621 + 11) % 2147483647), rfl, rfl, SqL.of upd_same, at_of (j := 0) rfl rfl, _, _, rfl, rfl, .inl ⟨_, rfl, .int m, rfl, _, _, rfl, rfl, h0, ?_⟩⟩
      exact q _ _ _ _ _ (But.upd.trans (But.upd.trans But.upd)) upd_same (hE _).1 (hE _).2
theorem scO : FnScope ["_law_script", "_law_most", "_law_cells", "_law_cell"] ["_law_script", "_law_most"] (defScope sRounds) := ⟨rfl, rfl, rfl, by decide +kernel, rfl, by decide +kernel, by decide +kernel⟩
def spRounds (K : PySem.W.Frag) : Sp := fun vs H Q _ => ∃ (a : Addr) (ns : List Int), vs = [.ref a, .int 1] ∧ SqL K H a (ns.map V.int) ∧ ∀ H' l p (a b c : Int), Same H H' → H' l = some (.lst [.ref p]) → H' p = some (.lst [.int a, .int b, .int c]) → H p = none → Q (.ref l) H'
theorem ok_rounds {f fD : Addr} {fd fdD : FuncData} (F : Fun K "_law_rounds" "_law_rounds" sRounds f fd) (D : Cal P w K mg base CX0 1 "_law_dice" ["_law_cell"] spDice fD fdD) : FnOk P w K mg base CX0 2 f fd ["_law_script", "_law_most"] (spRounds K) := by
  refine F.ok scO (fun vs H Q E h => ?_) (fun cdv A outer s H vs Q E hr h => ?_)
  · obtain ⟨a, ns, rfl, _⟩ := h
    rfl
  · obtain ⟨a, ns, rfl, ha, q⟩ := h
    refine ⟨_, pss_cons (ps_set (i := 2) scO.nd rfl (.inl rfl) (pe_slice sl_list (pv 0) po_none (po_some (pv 1))))
      (pss_cons (ps_if (pt_eqNil (units64 hr) (pv 2)) (pss_one (ps_set (i := 2) scO.nd rfl (.inl rfl) (pe_lst (pa_cons pe_int pa_nil)))) pss_nil)
      (pss_one (ps_ret (pe_lc (own := [("_law_cell", 3)]) (g := gName 3) (tt := tYes) rfl scO.nd (pi_list (pv 2)) (blkOk_by (own := [("_law_cell", 3)]) (N := ["_law_script", "_law_most", "_law_cells", "_law_cell"]) (sc := defScope sRounds) (by decide +kernel))
        (fun _ _ _ _ _ => pg_name (i := 3) scO.nd rfl (Or.inl rfl)) (fun _ _ _ _ _ => pts_nil) (fun _ _ _ _ _ => pe_call D.ok hr (by rfl) D.mg D.kp D.bd .nil pass0 (pa_cons (pv 3) pa_nil)))))), ?_⟩
    refine ⟨.ref a, rfl, .int 1, rfl, 1, rfl, a, _, rfl, ha, fun l nl => ?_⟩
    have s1 := same_upd (o := .lst (cutV (ns.map V.int) none (some 1))) nl
    have hc : cutV (ns.map V.int) none (some 1) = (ns.take 1).map V.int := by
      unfold cutV
      rw [HT.sIx_none, show HT.sIx (ns.map V.int).length (ns.map V.int).length (some 1) = min 1 (ns.map V.int).length from HT.sIx_nat _ _ 1, List.drop_zero, Nat.sub_zero, List.map_take, List.take_eq_take_iff]
      omega
    have hl : upd H l (.lst (cutV (ns.map V.int) none (some 1))) l = some (.lst ((ns.take 1).map V.int)) := by rw [upd_same, hc]
    revert s1 hl
    generalize upd H l (.lst (cutV (ns.map V.int) none (some 1))) = H1
    intro s1 hl
    refine ⟨.ref l, rfl, l, _, rfl, SqL.of hl, lst_ints _ _ _, fun e ne => ?_⟩
    have s2 := same_upd (o := .lst []) ne
    replace s1 := s1.trans s2
    replace hl := s2 _ _ hl
    revert s1 hl
    generalize upd H1 e (.lst []) = H2
    intro s1 hl
    -- the rest, for any one cell
    have fin : ∀ (H3 : Hp) (l : Addr) (z : Int) (σ : L2.St), Same H H3 → H3 l = some (.lst [.int z]) → σ = [some (.ref a), some (.int 1), some (.ref l), none] →
        tLc (iList K (tVar 2)) (gName 3) tYes (tCall spDice [] E0 (tCons (tVar 3) tNil)) [3] σ H3 Q := by
      rintro H3 l z σ s3 hl rfl
      refine ⟨.ref l, rfl, l, rfl, ⟨_, SqL.of hl⟩, fun D nD => ?_⟩
      refine lc_list (K := K) (a := l) (xs := [.int z]) (fun i H4 => Same H3 H4 ∧ ((i = 0 ∧ H4 D = some (.lst [])) ∨ (i = 1 ∧ ∃ (p : Addr) (a b c : Int), H4 D = some (.lst [.ref p]) ∧ H4 p = some (.lst [.int a, .int b, .int c]) ∧ H3 p = none))) ⟨same_upd nD, .inl ⟨rfl, upd_same⟩⟩ (fun i H4 _ z => SqL.of (z.1 _ _ hl)) ?_ ?_
      · rintro i x H4 hx ⟨s4, hD⟩
        have hi : i = 0 := by
          cases i with
          | zero => rfl
          | succ i => simp at hx
        subst hi
        obtain rfl : V.int z = x := by simpa using hx
        have hD : H4 D = some (.lst []) := by
          rcases hD with h | h
          · exact h.2
          · exact absurd h.1 (by decide)
        refine ⟨rfl, .int z, rfl, z, rfl, fun p a' b' c' np => ?_⟩
        have s5 := same_upd (o := .lst [.int a', .int b', .int c']) np
        refine ⟨[], s5 _ _ hD, by decide, fun b o e => ?_, .inr ⟨rfl, p, a', b', c', upd_same, ?_, s4.free np⟩⟩
        · rw [upd_ne (ne_of_none e nD)]
          exact s5 _ _ (s4 _ _ e)
        · rw [upd_ne (fun e => by rw [e] at np; rw [np] at hD; cases hD), upd_same]
      · rintro H4 ⟨s4, hD⟩
        rcases hD with h | ⟨_, p, a', b', c', h1, h2, h3⟩
        · exact absurd h.1 (by simp)
        · exact q H4 D p a' b' c' (s3.trans s4) h1 h2 (s3.free h3)
    cases ns with
    | nil =>
      refine ⟨by decide, fun l2 nl2 => ?_⟩
      exact fin _ l2 0 _ (s1.trans (same_upd nl2)) upd_same rfl
    | cons z r => exact fin _ l z _ s1 hl rfl
end
end KT
set_option maxRecDepth 100000
set_option maxHeartbeats 4000000
/-! waits -/
namespace KT
open PySem PySem.Spec PyProof.Rows L2 KR KM
/-- pairs of links, one behind the other -/
def prL (ls : List LK) : List (LK × LK) := ls.zip (ls.drop 1)
theorem prL_len (ls : List LK) : (prL ls).length = ls.length - 1 := by
  unfold prL
  rw [List.length_zip, List.length_drop]
  omega
theorem prL_get {ls : List LK} {i : Nat} {x y : LK} (h1 : ls[i]? = some x) (h2 : ls[i + 1]? = some y) : (prL ls)[i]? = some (x, y) := by
  unfold prL
  rw [List.getElem?_zip_eq_some]
  exact ⟨h1, by rw [List.getElem?_drop, Nat.add_comm]; exact h2⟩
theorem prL_of {ls : List LK} {i : Nat} {p : LK × LK} (h : (prL ls)[i]? = some p) : ls[i]? = some p.1 ∧ ls[i + 1]? = some p.2 := by
  unfold prL at h
  rw [List.getElem?_zip_eq_some] at h
  obtain ⟨h1, h2⟩ := h
  rw [List.getElem?_drop, Nat.add_comm] at h2
  exact ⟨h1, h2⟩
theorem mem_prL {w : List Int} {p : LK × LK} : p ∈ prL (lkL w) ↔ ∃ (i : Nat) (x y z : Int), w[i]? = some x ∧ w[i + 1]? = some y ∧ w[i + 2]? = some z ∧ p = ((x, y), (y, z)) := by
  constructor
  · intro h
    obtain ⟨i, hi⟩ := List.mem_iff_getElem?.mp h
    obtain ⟨h1, h2⟩ := prL_of hi
    obtain ⟨a1, a2⟩ := lkL_of h1
    obtain ⟨b1, b2⟩ := lkL_of h2
    have e : p.2.1 = p.1.2 := by
      rw [a2] at b1
      exact (Option.some.inj b1).symm
    exact ⟨i, p.1.1, p.1.2, p.2.2, a1, a2, b2, Prod.ext rfl (Prod.ext e rfl)⟩
  · rintro ⟨i, x, y, z, h1, h2, h3, rfl⟩
    exact List.mem_iff_getElem?.mpr ⟨i, prL_get (lkL_get h1 h2) (lkL_get h2 h3)⟩
theorem tri_snoc {ways : List (List Int)} {i : Nat} {w : List Int} (h : ways[i]? = some w) (p : LK × LK) : TriOf (ways.take (i + 1)) p ↔ TriOf (ways.take i) p ∨ p ∈ prL (lkL w) := by
  rw [mem_prL, List.take_add_one, h]
  unfold TriOf
  constructor
  · rintro ⟨u, hu, r⟩
    rcases List.mem_append.mp hu with q | q
    · exact .inl ⟨u, q, r⟩
    · have : u = w := by simpa using q
      subst this
      exact .inr r
  · rintro (⟨u, hu, r⟩ | r)
    · exact ⟨u, List.mem_append_left _ hu, r⟩
    · exact ⟨w, List.mem_append_right _ (by simp), r⟩
theorem keys_put {α : Type} [DecidableEq α] {kvs : List (α × V)} {k j : α} {v : V} : j ∈ (putK kvs k v).map (·.1) ↔ j ∈ kvs.map (·.1) ∨ j = k := by
  have e : ∀ (l : List (α × V)) (x : α), (valV l x).isSome = true ↔ x ∈ l.map (·.1) := fun l x => by
    rw [valV_some]
    exact decide_eq_true_iff
  rw [← e, ← e, valV_put]
  by_cases h : j = k
  · rw [if_pos h]
    simp [h]
  · rw [if_neg h]
    simp [h]
section
variable {P : Program} {w : World} {K : PySem.W.Frag} {mg : Str → Option Value} {base : Heap}
theorem scY : FnScope ["ways", "found", "way", "row", "place"] ["ways"] (defScope sWaits) := ⟨rfl, rfl, rfl, by decide +kernel, rfl, by decide +kernel, by decide +kernel⟩
def spWaits : Sp := fun vs H Q _ => ∃ (a : Addr) (ts : List Addr) (ways : List (List Int)), vs = [.ref a] ∧ H a = some (.lst (ts.map V.ref)) ∧ Paired (fun t (u : List Int) => H t = some (.tup (u.map V.int)) ∧ u.length ≤ 1000) ts ways ∧ ways.length ≤ 100 ∧
  ∀ H' t ys ps, Same H H' → H' t = some (.tup ys) → Ats prEnc H' ys ps → (∀ p, p ∈ ps ↔ TriOf ways p) → ps.length ≤ 100000 → Q (.ref t) H'
theorem paired_at {α β : Type} {R : α → β → Prop} : ∀ {xs : List α} {ys : List β} {i : Nat} {x : α}, Paired R xs ys → xs[i]? = some x → ∃ y, ys[i]? = some y ∧ R x y
  | _, _, _, _, .nil, e => by simp at e
  | _, _, 0, _, .cons r _, e => by
    simp at e
    subst e
    exact ⟨_, rfl, r⟩
  | _, _, i + 1, x, .cons _ t, e => by
    obtain ⟨a, h1, h2⟩ := paired_at (i := i) (x := x) t (by simpa using e)
    exact ⟨a, by simpa using h1, h2⟩
theorem ok_waits {f fK : Addr} {fd fdK : FuncData} (F : Fun K "waits" "waits" sWaits f fd) (LK : Cal P w K mg base CX0 1 "links_of" ["way"] spLinks fK fdK) (mR : mg "range" = none) (mL : mg "len" = none) (mT : mg "tuple" = none) (mS : mg "sorted" = none) : FnOk P w K mg base CX0 2 f fd ["ways"] spWaits := by
  refine F.ok scY (fun vs H Q E h => ?_) (fun cdv A outer s H vs Q E hr h => ?_)
  · obtain ⟨a, ts, ways, rfl, _⟩ := h
    rfl
  · obtain ⟨a, ts, ways, rfl, ha, hts, hwl, q⟩ := h
    refine ⟨_, pss_cons (ps_set (i := 1) scY.nd rfl (.inl rfl) (pe_newP (P := P) (w := w) rfl rfl))
      (pss_cons (ps_for PassesOwn.never rfl (pi_list (pv 0)) (pg_name (i := 2) scY.nd rfl (.inl rfl))
        (pss_cons (ps_set (i := 3) scY.nd rfl (.inl rfl) (pe_call LK.ok hr (by rfl) LK.mg LK.kp LK.bd .nil pass0 (pa_cons (pv 2) pa_nil)))
        (pss_one (ps_for PassesOwn.never rfl (pi_range1 (by rfl) mR (pa_cons (pe_op op_sub (pe_callB call_len_seq (by rfl) mL PySem.boot_len (pa_cons (pv 3) pa_nil)) pe_int) pa_nil)) (pg_name (i := 4) scY.nd rfl (.inl rfl))
          (pss_one (ps_asg pe_int (pg_sub (pv 1) (pe_tup (pa_cons (pe_ix ix_tup (pv 3) (pv 4) (fun _ _ => rfl)) (pa_cons (pe_ix ix_tup (pv 3) (pe_op op_add (pv 4) pe_int) (fun _ _ => rfl)) pa_nil))) (set_P (P := P) (w := w) prEnc rfl rfl (units9 hr)))))))))
      (pss_one (ps_ret (pe_callTy call_tuple_of (by rfl) mT (by decide +kernel) (pa_cons (pe_callB (call_sortedP (P := P) (w := w) prEnc rfl rfl rfl (units9 hr)) (by rfl) mS (by decide +kernel) (pa_cons (pv 1) pa_nil)) pa_nil))))), ?_⟩
    refine fun d nd => ?_
    have hlen : ts.length = ways.length := Paired.length hts
    have bd : ∀ {b : Addr} {o : HO}, H b = some o → b ≠ d := fun e => ne_of_none e nd
    refine ⟨.ref a, rfl, a, rfl, ⟨_, SqL.of (same_upd nd _ _ ha)⟩, for_list (xs := ts.map V.ref)
      (fun i σ H2 => ∃ y2 y3 y4 kvs, σ = [some (.ref a), some (.ref d), y2, y3, y4] ∧ Same H H2 ∧ DE prEnc P w H2 d kvs ∧ (∀ p, p ∈ kvs.map (·.1) ↔ TriOf (ways.take i) p) ∧ kvs.length ≤ 1000 * i)
      ⟨none, none, none, [], rfl, same_upd nd, DE.nil upd_same, fun p => by simp [TriOf], by simp⟩ (fun i σ H2 _ ⟨_, _, _, _, _, s2, _⟩ => SqL.of (s2 _ _ ha)) ?_ ?_⟩
    · rintro i x σ H2 hx ⟨y2, y3, y4, kvs, rfl, s2, hde, hk, hkl⟩
      rw [List.getElem?_map] at hx
      cases e : ts[i]? with
      | none => rw [e] at hx; cases hx
      | some t =>
        rw [e] at hx
        cases hx
        obtain ⟨u, hu, htu, hul⟩ := paired_at hts e
        have hi : i < ways.length := (List.getElem?_eq_some_iff.mp hu).1
        -- row = links_of(way)
        refine ⟨.ref t, rfl, t, u, rfl, s2 _ _ htu, hul, fun H3 r ys s3 hr hys => ?_⟩
        have hyl : ys.length = u.length - 1 := by rw [hys.len, lkL_len]
        refine ⟨.ref r, rfl, r, ys, rfl, .inr (SqT.of hr), _, _, rfl, rfl, _, rfl, by omega, by omega, ?_⟩
        have e0 : ((ys.length : Int) - 1).toNat = (prL (lkL u)).length := by rw [prL_len, lkL_len]; omega
        rw [e0]
        refine for_range (lo := 0) (n := (prL (lkL u)).length)
          (fun j σ H4 => ∃ y4 kvs, σ = [some (.ref a), some (.ref d), some (.ref t), some (.ref r), y4] ∧ Same H H4 ∧ (∀ p zs, H3 p = some (.tup zs) → H4 p = some (.tup zs)) ∧ DE prEnc P w H4 d kvs ∧ (∀ p, p ∈ kvs.map (·.1) ↔ TriOf (ways.take i) p ∨ p ∈ (prL (lkL u)).take j) ∧ kvs.length ≤ 1000 * i + j)
          ⟨y4, kvs, rfl, s2.trans s3, fun _ _ z => z, hde.same s3, fun p => by rw [hk p]; simp, by omega⟩ ?_ ?_
        · rintro j σ H4 hj ⟨y4, kvs, rfl, s4, t4, hde, hk, hkl⟩
          rw [prL_len, lkL_len] at hj
          have g1 : ys[j]? = some (ys[j]'(by omega)) := List.getElem?_eq_getElem _
          have g2 : ys[j + 1]? = some (ys[j + 1]'(by omega)) := List.getElem?_eq_getElem _
          obtain ⟨l1, hl1, at1⟩ := hys.get g1
          obtain ⟨l2, hl2, at2⟩ := hys.get g2
          refine ⟨.ref d, rfl, .ref r, rfl, .int (0 + (j : Int)), rfl, r, _, _, _, rfl, rfl, SqT.of (t4 _ _ hr), at_of (by omega) g1, .ref r, rfl, .int (0 + (j : Int)), rfl, _, _, rfl, rfl, r, _, _, _, rfl, rfl, SqT.of (t4 _ _ hr), at_of (j := j + 1) (by omega) g2, le2, fun p np => ?_⟩
          have s5 := same_upd (o := .tup [ys[j]'(by omega), ys[j + 1]'(by omega)]) np
          have a1 : LkAt (upd H4 p (.tup [ys[j]'(by omega), ys[j + 1]'(by omega)])) (ys[j]'(by omega)) l1 := at1.mono fun b zs z => s5 _ _ (t4 _ _ z)
          have a2 : LkAt (upd H4 p (.tup [ys[j]'(by omega), ys[j + 1]'(by omega)])) (ys[j + 1]'(by omega)) l2 := at2.mono fun b zs z => s5 _ _ (t4 _ _ z)
          refine ⟨d, kvs, (l1, l2), rfl, hde.same s5, ⟨p, _, _, rfl, upd_same, a1, a2⟩, small (by omega), fun xs hde' => ?_⟩
          obtain ⟨φ, hφ⟩ := (hde.same s5).some
          have te := tupX_upd (o := dnO P w d xs) hφ (fun xs z => by cases z)
          have hz := length_putK kvs (l1, l2) (V.int 1)
          refine ⟨_, _, rfl, fun b o e => ?_, fun b zs z => te _ _ (s5 _ _ (t4 _ _ z)), hde', fun p' => ?_, by omega⟩
          · rw [upd_ne (bd e)]
            exact s5 _ _ (s4 _ _ e)
          · rw [keys_put, hk p', List.take_add_one, prL_get hl1 hl2, List.mem_append]
            simp [or_assoc]
        · rintro σ H4 ⟨y4, kvs, rfl, s4, t4, hde, hk, hkl⟩
          rw [List.take_length] at hk
          have hj : (prL (lkL u)).length ≤ 1000 := by rw [prL_len, lkL_len]; omega
          exact ⟨_, _, _, kvs, rfl, s4, hde, fun p => by rw [hk p, tri_snoc hu], by omega⟩
    · rintro σ H2 ⟨y2, y3, y4, kvs, rfl, s2, hde, hk, hkl⟩
      rw [List.length_map, hlen, List.take_length] at hk
      rw [List.length_map, hlen] at hkl
      refine ⟨.ref d, rfl, d, kvs, rfl, hde, fun p ys as np hp hy => ⟨p, ys, rfl, .inl ⟨SqL.of upd_same, fun t nt => ?_⟩⟩⟩
      have s3 := (same_upd (o := .lst ys) np).trans (same_upd (o := .tup ys) nt)
      refine q _ t ys as (s2.trans s3) upd_same (hy.mono (tupX_same s3)) (fun p' => ?_) ?_
      · rw [hp.mem_iff]
        exact hk p'
      · rw [hp.length_eq, List.length_map]
        omega
end
end KT
set_option maxRecDepth 100000
set_option maxHeartbeats 4000000
/-! check_numbers -/
namespace KT
open PySem PySem.Spec PyProof.Rows L2 KR KM
section
variable {P : Program} {w : World} {K : PySem.W.Frag} {mg : Str → Option Value} {base : Heap}
theorem scC : FnScope ["pairs", "numbers", "before", "after"] ["pairs", "numbers"] (defScope sCheck) := ⟨rfl, rfl, rfl, by decide +kernel, rfl, by decide +kernel, by decide +kernel⟩
def spCheck (P : Program) (w : World) : Sp := fun vs H Q _ => ∃ (t : Addr) (ys : List V) (ps : List (LK × LK)) (d : Addr) (kvs : List (LK × V)), vs = [.ref t, .ref d] ∧ H t = some (.tup ys) ∧ Ats prEnc H ys ps ∧ DE lkEnc P w H d kvs ∧
  (∀ b a, (b, a) ∈ ps → ∃ i j : Nat, valV kvs b = some (.int i) ∧ valV kvs a = some (.int j) ∧ i < j) ∧ ∀ H', Same H H' → Q (.bl true) H'
theorem ok_check {f : Addr} {fd : FuncData} (F : Fun K "check_numbers" "check_numbers" sCheck f fd) : FnOk P w K mg base CX0 1 f fd ["pairs", "numbers"] (spCheck P w) := by
  refine F.ok scC (fun vs H Q E h => ?_) (fun cdv A outer s H vs Q E hr h => ?_)
  · obtain ⟨t, ys, ps, d, kvs, rfl, _⟩ := h
    rfl
  · obtain ⟨t, ys, ps, d, kvs, rfl, ht, hys, hd, hn, q⟩ := h
    refine ⟨_, pss_cons (ps_for PassesOwn.never rfl (pi_tup (pv 0)) (pg_tup rfl (pgs_cons (pg_name (i := 2) scC.nd rfl (.inl rfl)) (pgs_cons (pg_name (i := 3) scC.nd rfl (.inl rfl)) pgs_nil)))
        (pss_one (ps_if (PW.pt (pw_or (pt_cmpR (op_notInP (P := P) (w := w) lkEnc rfl rfl (units9 hr)) (pv 2) (pv 1) (by rfl)) (pw_or (pt_cmpR (op_notInP (P := P) (w := w) lkEnc rfl rfl (units9 hr)) (pv 3) (pv 1) (by rfl))
          (pw_or1 (pt_cmpR op_ge (pe_getP (P := P) (w := w) lkEnc rfl rfl (units9 hr) (pv 1) (pv 2) (fun _ _ => rfl)) (pe_getP (P := P) (w := w) lkEnc rfl rfl (units9 hr) (pv 1) (pv 3) (fun _ _ => rfl)) (nomark _)))))) (pss_one ps_never) pss_nil)))
      (pss_one (ps_ret pe_bl)), ?_⟩
    refine ⟨.ref t, rfl, t, rfl, ⟨_, SqT.of ht⟩, for_tup (xs := ys) (fun i σ H2 => ∃ y2 y3, σ = [some (.ref t), some (.ref d), y2, y3] ∧ Same H H2) ⟨none, none, rfl, Same.refl _⟩ (fun i σ H2 _ ⟨_, _, _, s2⟩ => SqT.of (s2 _ _ ht)) ?_ ?_⟩
    · rintro i x σ H2 hx ⟨y2, y3, rfl, s2⟩
      obtain ⟨⟨b, a⟩, hba, p, u, v, rfl, hp, hu, hv⟩ := hys.get hx
      obtain ⟨m, n, hm, hn', hlt⟩ := hn b a (List.mem_of_getElem? hba)
      have te := tupX_same s2
      have hd2 := hd.same s2
      refine ⟨p, [u, v], rfl, SqT.of (s2 _ _ hp), rfl, u, [v], rfl, v, [], rfl, rfl, ?_⟩
      refine ⟨u, rfl, .ref d, rfl, b, d, kvs, rfl, hu.mono te, hd2, _, rfl, ?_⟩
      rw [hm]
      refine ⟨v, rfl, .ref d, rfl, a, d, kvs, rfl, hv.mono te, hd2, _, rfl, ?_⟩
      rw [hn']
      refine ⟨.ref d, rfl, u, rfl, d, kvs, b, _, rfl, hd2, hu.mono te, hm, .ref d, rfl, v, rfl, d, kvs, a, _, rfl, hd2, hv.mono te, hn', _, _, rfl, rfl, _, rfl, ?_⟩
      rw [decide_eq_false (by omega)]
      exact ⟨_, _, rfl, s2⟩
    · rintro σ H2 ⟨y2, y3, rfl, s2⟩
      exact q H2 s2
end
end KT
set_option maxRecDepth 100000
set_option maxHeartbeats 4000000
/-! any(after == link and before in left for before, after in pairs), pairs a tuple of pairs of links.
The generator's walk, its element and the growth of the code table are told apart, then joined. -/
namespace KR
open PySem PySem.Spec PyProof.Rows L2
/-! ### the walk: a tuple of pairs -/
/-- its: the outer tuple's items, each the tuple at T j of the values V j; the iterator stands at j -/
structure PairsAt (I t : Addr) (its : Array Value) (T : Nat → Addr) (V : Nat → Array Value) (j : Nat) (h : Heap) : Prop where
  it : h.IsTupleIter I t j
  row : h.IsTuple t its
  each : ∀ k, k < its.size → h.IsTuple (T k) (V k)
/-- what the walk looks at -/
def pairsFp (I t : Addr) (its : Array Value) (T : Nat → Addr) : List Addr := I :: t :: (List.range its.size).map T
section
variable {I t : Addr} {its : Array Value} {T : Nat → Addr} {V : Nat → Array Value}
theorem fp_cases {b : Addr} (h : b ∈ pairsFp I t its T) : b = I ∨ b = t ∨ ∃ k, k < its.size ∧ T k = b := by
  unfold pairsFp at h
  simp only [List.mem_cons, List.mem_map, List.mem_range] at h
  exact h
theorem fp_each {k : Nat} (h : k < its.size) : T k ∈ pairsFp I t its T := by
  unfold pairsFp
  simp only [List.mem_cons, List.mem_map, List.mem_range]
  exact .inr (.inr ⟨k, h, rfl⟩)
theorem PairsAt.on {j : Nat} {h h' : Heap} (p : PairsAt I t its T V j h) (k : ∀ b ∈ pairsFp I t its T, ∀ o, h.get? b = some o → h'.get? b = some o) : PairsAt I t its T V j h' :=
  ⟨p.it.at (k I (.head _)), p.row.at (k t (.tail _ (.head _))), fun i hi => (p.each i hi).at (k (T i) (fp_each hi))⟩
/-- the iterator alone is another -/
theorem PairsAt.next {j : Nat} {h h' : Heap} (p : PairsAt I t its T V j h) (n1 : t ≠ I) (n2 : ∀ k, k < its.size → T k ≠ I) (s : Heap.SameBut I h h') (e : h'.IsTupleIter I t (j + 1)) : PairsAt I t its T V (j + 1) h' :=
  ⟨e, p.row.extBut s.extBut n1, fun i hi => (p.each i hi).extBut s.extBut (n2 i hi)⟩
theorem not_owner : (["enumerate", "zip", "dict_itemiterator", "dict_reverseitemiterator", "odict_iterator", "itertools.zip_longest", "itertools.pairwise"].contains "tuple_iterator") = false := by decide
theorem goes_free {prog : Program} {w : World} {A : Around} {E : Value → Shared → Prop} {s : Shared} {tg : List Expr} {k : Nat} {p : Pos} {a : Addr} {j : Nat} {Q : Unit → Shared → Prop} (h : s.heap.IsTupleIter I t j) (q : Q () s) :
    wpAny (model prog w) A (letOwnedTupleGo (.Tuple tg k p) (.ref I) (.ref a)) Q E s := by
  obtain ⟨ob, e, ec, ed⟩ := h
  unfold letOwnedTupleGo
  refine wpAny_bind (wpAny_load e ?_)
  simp only [ec, ed, not_owner, Bool.false_and, Bool.false_eq_true, if_false]
  exact wpAny_pure q
theorem walk_pairs {prog : Program} {w : World} {A : Around} (hA : A.handled = none) (n1 : t ≠ I) (n2 : ∀ k, k < its.size → T k ≠ I) (hT : ∀ k, k < its.size → its[k]? = some (.ref (T k))) :
    WalksU prog w A I (pairsFp I t its T) [I] its.size (fun k v => v = V k) (PairsAt I t its T V) (fun k a h => (k < its.size ∧ a = T k) ∧ PairsAt I t its T V (k + 1) h) := by
  have one : ∀ {b : Addr}, b ∉ [I] → b ≠ I := fun h z => h (by rw [z]; exact .head _)
  refine ⟨fun b hb => ?_, fun k h h' p e => p.on e, fun k s Q E hk p q => ?_, fun tg k2 pos k a s Q E m q => ?_, fun k a h m z => ?_, fun s Q E p q => ?_, fun k s Q E p q => wpAny_pyIter_tupleiter p.it q⟩
  · rw [List.mem_singleton] at hb
    rw [hb]
    exact .head _
  · refine wpAny_pyNext_tuple_item p.it p.row (hT k hk) fun h' e sb => ?_
    have p' := p.next n1 n2 sb e
    exact q (T k) (V k) h' s.toks rfl (p'.each k hk) ⟨⟨hk, rfl⟩, p'⟩ fun b o nb => sb.extBut b o (one nb)
  · exact goes_free m.2.it (q s.heap m.2 fun _ _ _ e => e)
  · rw [List.mem_singleton, m.1.2] at z
    exact n2 k m.1.1 z
  · exact wpAny_pyNext_tuple_end hA p.it p.row (by simp) fun h' e => q h' s.toks fun b o nb => e b o (one nb)
end
/-! ### the answers in a row -/
def ansAt {α : Type} (f : α → Bool) (l : List α) (j : Nat) : Bool := ((l[j]?).map f).getD false
theorem ansAt_of {α : Type} {f : α → Bool} {l : List α} {j : Nat} {x : α} (h : l[j]? = some x) : ansAt f l j = f x := by
  unfold ansAt
  rw [h]
  rfl
theorem any_ansAt {α : Type} (f : α → Bool) : ∀ l : List α, (List.range l.length).any (ansAt f l) = l.any f
  | [] => rfl
  | x :: l => by
    have ih := any_ansAt f l
    have e : (ansAt f (x :: l)) ∘ Nat.succ = ansAt f l := by
      funext j
      unfold ansAt
      rfl
    rw [List.length_cons, List.range_succ_eq_map, List.any_cons, List.any_map, List.any_cons, e, ih]
    rfl
/-! ### the code table may grow -/
/-- h' is h but for the table at P, which holds what it held and more -/
structure Grown (P : Addr) (tb : Array Value) (h h' : Heap) : Prop where
  but : Heap.ExtBut P h h'
  size : h.objs.size ≤ h'.objs.size
  tab : ∃ more : Array Value, h'.get? P = some { cls := .none, data := .fields (tb ++ more) } ∧ TriplesOk (tb ++ more).toList
theorem code_grown {prog : Program} {w : World} {A : Around} {E : Value → Shared → Prop} {s : Shared} {env : Env} {c P : Addr} {tb : Array Value} {gpos : Pos} {q : Str} {scope : Scope} {Q : Value → Shared → Prop} (hc : env.code = .ref c) (C : PySem.W.CodeHd s.heap c P)
    (hP : s.heap.get? P = some { cls := .none, data := .fields tb }) (ok : TriplesOk tb.toList) (k : ∀ code h' tk, Grown P tb s.heap h' → Q code { s with heap := h', toks := tk }) : wpAny (model prog w) A (genexprCode env gpos q scope) Q E s := by
  cases e : codeAmong gpos tb.toList with
  | some cv => exact wpAny_genexprCode_hit hc (C.code hP ok) e (k cv s.heap s.toks ⟨Heap.ExtBut.refl _ _, Nat.le_refl _, #[], by simpa using hP, by simpa using ok⟩)
  | none =>
    refine wpAny_genexprCodeX hc (C.code hP ok) (C.tab hP) e fun c' h' tk b1 b2 b3 b4 _ b6 _ => k _ h' tk ⟨b1, Nat.le_trans b2 (Nat.le_of_lt b3), _, b6.2, ?_⟩
    obtain ⟨_, _, _, _, _, _, _, _, _, _, _, _, _, _, _, _, _, _, _, h, _⟩ := b4
    exact h
theorem units74 {k : Nat} {A : Around} (r : Room k A) : A.units + 74 < cLine := by have := r.un; omega
theorem keeps_id (s : Shared) : Keeps s s := ⟨s.heap, s.toks, rfl, fun _ _ e => e⟩
abbrev LKK := Int × Int
/-- the test of a pair -/
def hitP (left : List LKK) (x : LKK) (p : LKK × LKK) : Bool := decide (p.2 = x) && left.contains p.1
def genNs : List (Str × NameKind) := [((".0" : Str), NameKind.local), (("before" : Str), NameKind.local), (("after" : Str), NameKind.local), (("left" : Str), NameKind.free), (("link" : Str), NameKind.free)]
/-- the generator's own scope -/
structure GenN (scope : Scope) : Prop where
  kind : scope.kind = .function
  co : scope.isCoroutine = false
  names : scope.names = genNs
/-- the element -/
abbrev eltN (p1 p2 p3 p4 p5 p6 p7 : Pos) : Expr := .BoolOp .And [.Compare (.Name "after" p1) [.Eq] [.Name "link" p2] p3, .Compare (.Name "before" p4) [.In] [.Name "left" p5] p6] p7
/-- the generator expression -/
abbrev genX (p1 p2 p3 p4 p5 p6 p7 pa pb pt gpos : Pos) (kt : Nat) (iter : Expr) (scope : Scope) : Expr := .GeneratorExp (eltN p1 p2 p3 p4 p5 p6 p7) [⟨.Tuple [.Name "before" pb, .Name "after" pa] kt pt, iter, [], 0⟩] scope gpos
/-- what the generator knows: the pairs, the link, the links left -/
def NbAt (K : PySem.W.Frag) (σ : L2.St) (H : Hp) (il ig : Nat) (ps : List (LKK × LKK)) (x : LKK) (left : List LKK) (t : Addr) : Prop :=
  ∃ (ys : List V) (lv : V) (ll : Addr) (xs : List V), H t = some (.tup ys) ∧ Ats prEnc H ys ps ∧ σ[il]? = some (some lv) ∧ LkAt H lv x ∧ σ[ig]? = some (some (.ref ll)) ∧ SqL K H ll xs ∧ Ats lkEnc H xs left
/-- the names that the generator takes from the def -/
structure Takes2 (X : Cx) (il ig : Nat) : Prop where
  nl : X.N[il]? = some "link"
  ng : X.N[ig]? = some "left"
  kl : X.env.kindOf "link" = some .cell ∨ X.env.kindOf "link" = some .free
  kg : X.env.kindOf "left" = some .cell ∨ X.env.kindOf "left" = some .free
section
variable {X : Cx} {pins : List (Addr × Obj)} {σ : L2.St} {H : Hp}
/-- a captured name's cell and what it holds, by the slot -/
theorem cell_at {s1 : Shared} {y : Str} {i : Nat} {v : V} (I : Inv X pins σ H s1) (n : X.N[i]? = some y) (k : X.env.kindOf y = some .cell ∨ X.env.kindOf y = some .free) (h : σ[i]? = some (some v)) : ∃ (u : Value) (c : Addr), RelV v u ∧ X.env.cells.lookup y = some c ∧ s1.heap.IsCell c (some u) := by
  obtain ⟨m, _, look⟩ := I.loc
  obtain ⟨u, r, q⟩ := look i y v n h (.inr k)
  rcases q with ⟨z, _⟩ | ⟨_, c, e1, e2⟩
  · rcases k with k | k <;> rw [k] at z <;> cases z
  · exact ⟨u, c, r, e1, e2⟩
theorem shaped_list {left : List LKK} : SeqAt.shaped (.list (left.map lkEnc.dat)) = true := shaped_of (fun d hd => by
  obtain ⟨n, _, rfl⟩ := List.mem_map.mp hd
  exact ⟨lkEnc.lay n, lkEnc.ddep n⟩)
/-- one test, at a state in which all that was known stands -/
theorem elt_hit {il ig : Nat} {scope : Scope} {c1 : Addr} {code : Value} {bi : Addr} {p1 p2 p3 p4 p5 p6 p7 : Pos} {s₂ : Shared} {m₂ : Str → Option Value} {A' : Around} {E' : Value → Shared → Prop} {x : LKK} {left : List LKK} {lv u v : V} {ll : Addr} {xs : List V} {b a : LKK} {va vb : Value} {s1 : Shared}
    (I : Inv X pins σ H s1) (hs : s1.heap = s₂.heap) (hu : A'.units + 65 < cLine) (S : GenN scope) (T2 : Takes2 X il ig)
    (h1 : σ[il]? = some (some lv)) (h2 : LkAt H lv x) (h3 : σ[ig]? = some (some (.ref ll))) (h4 : SqL X.K H ll xs) (h5 : Ats lkEnc H xs left) (h6 : LkAt H u b) (h7 : RelV u va) (h8 : LkAt H v a) (h9 : RelV v vb)
    (hn : s₂.heap.Ns c1 m₂) (hb : m₂ "before" = some va) (ha : m₂ "after" = some vb) :
    wpAny (model X.prog X.w) A' (eval (eltN p1 p2 p3 p4 p5 p6 p7) (genEnv scope (cloFrom X.env.cells scope.names []) c1 code bi X.env)) (fun y s₃ => y = .bool (hitP left x (b, a)) ∧ Keeps s₂ s₃) E' s₂ := by
  obtain ⟨ul, cl, rl, el, zl⟩ := cell_at I T2.nl T2.kl h1
  obtain ⟨ug, cg, rg, eg, zg⟩ := cell_at I T2.ng T2.kg h3
  have clo : cloFrom X.env.cells scope.names [] = [(("link" : Str), cl), (("left" : Str), cg)] := by
    rw [S.names]
    show [(("link" : Str), (X.env.cells.lookup ("link" : Str)).getD 0), (("left" : Str), (X.env.cells.lookup ("left" : Str)).getD 0)] = _
    rw [el, eg]
    rfl
  rw [clo]
  obtain ⟨_, r1⟩ := Dp.reads I _ v vb (lkEnc.dp h8) h9
  obtain ⟨_, r2⟩ := Dp.reads I _ lv ul (lkEnc.dp h2) rl
  obtain ⟨_, r3⟩ := Dp.reads I _ u va (lkEnc.dp h6) h7
  obtain ⟨_, r4⟩ := Dp.reads I (.list (left.map lkEnc.dat)) (.ref ll) ug (.lst h4 h5.dps) rg
  rw [hs] at r1 r2 r3 r4 zl zg
  have kn : ∀ {y : Str} {k : NameKind}, genNs.lookup y = some k → (genEnv scope [(("link" : Str), cl), (("left" : Str), cg)] c1 code bi X.env).kindOf y = some k := fun {y k} e => by
    show scope.names.lookup y = some k
    rw [S.names]
    exact e
  refine BoolOp_and (wpAny_Compare1 (wpAny_Name (wpAny_loadName_local S.kind (kn (k := .local) (by decide +kernel)) hn ha ?_)))
  refine wpAny_Name (wpAny_loadName_free S.kind (kn (k := .free) (by decide +kernel)) (c := cl) (by rfl) zl ?_)
  refine SeqAt.compareEq_shaped r1 r2 (shaped_one lkEnc a) (shaped_one lkEnc x) (by omega) (wpAny_truthy_bool ?_)
  rw [lkEnc.eqv]
  by_cases hax : a = x
  · rw [if_pos (decide_eq_true hax)]
    refine BoolOp_one (wpAny_Compare1 (wpAny_Name (wpAny_loadName_local S.kind (kn (k := .local) (by decide +kernel)) hn hb ?_)))
    refine wpAny_Name (wpAny_loadName_free S.kind (kn (k := .free) (by decide +kernel)) (c := cg) (by rfl) zg ?_)
    refine SeqAt.in_list_reads r4 r3 (SeqAt.canLay_of_shaped shaped_list) (SeqAt.canLay_of_shaped (shaped_one lkEnc b)) (room_in_shaped (shaped_one lkEnc b) hu) ⟨?_, keeps_id _⟩
    rw [any_eqv]
    unfold hitP
    simp [hax]
  · rw [if_neg (by simpa using hax)]
    unfold hitP
    exact ⟨by simp [hax], keeps_id _⟩
/-- the items of a tuple of pairs, as the heap has them -/
theorem pairs_there {s1 : Shared} {t : Addr} {ys : List V} {ps : List (LKK × LKK)} (I : Inv X pins σ H s1) (ht : H t = some (.tup ys)) (hy : Ats prEnc H ys ps) : ∃ (its : Array Value) (T : Nat → Addr) (va vb : Nat → Value),
    s1.heap.IsTuple t its ∧ its.size = ps.length ∧ ∀ k, k < its.size → its[k]? = some (.ref (T k)) ∧ s1.heap.IsTuple (T k) #[va k, vb k] ∧ ∃ b a u v, ps[k]? = some (b, a) ∧ LkAt H u b ∧ RelV u (va k) ∧ LkAt H v a ∧ RelV v (vb k) := by
  obtain ⟨its, rv, row, _⟩ := I.tuple (SqT.of ht)
  have each : ∀ k : Nat, ∃ y : Addr × Value × Value, k < its.toArray.size → its.toArray[k]? = some (.ref y.1) ∧ s1.heap.IsTuple y.1 #[y.2.1, y.2.2] ∧ ∃ b a u v, ps[k]? = some (b, a) ∧ LkAt H u b ∧ RelV u y.2.1 ∧ LkAt H v a ∧ RelV v y.2.2 := fun k => by
    by_cases hk : k < its.toArray.size
    · have hky : k < ys.length := by rw [Vals.length rv]; simpa using hk
      obtain ⟨⟨b, a⟩, hba, p, u, v, e1, e2, e3, e4⟩ := hy.get (List.getElem?_eq_getElem hky)
      obtain ⟨w1, hw1, rw1⟩ := Vals.get rv (List.getElem?_eq_getElem hky)
      rw [e1] at rw1
      obtain rfl : w1 = Value.ref p := rw1
      obtain ⟨_, rv2, pair, _⟩ := I.tuple (SqT.of e2)
      cases rv2 with
      | cons ra rt =>
        cases rt with
        | cons rb rt =>
          cases rt
          exact ⟨(p, _, _), fun _ => ⟨by rw [List.getElem?_toArray]; exact hw1, pair, b, a, u, v, hba, e3, ra, e4, rb⟩⟩
    · exact ⟨(0, .none, .none), fun z => absurd z hk⟩
  obtain ⟨f, hf⟩ := Classical.skolem.mp each
  exact ⟨its.toArray, fun k => (f k).1, fun k => (f k).2.1, fun k => (f k).2.2, row, by rw [← hy.len, Vals.length rv]; simp, hf⟩
/-- behind a walk of the generator at g the def's table may have grown, and nothing else -/
def Walked (X : Cx) (pins : List (Addr × Obj)) (σ : L2.St) (H1 : Hp) (P : Addr) (ps : List (LKK × LKK)) (x : LKK) (left : List LKK) (g : Addr) (s5 : Shared) : Prop :=
  ∃ fp wr G F St, WalksS X.prog X.w X.A.in1 g fp wr G ps.length F St ∧ St 0 s5 ∧ TruthOf X.prog X.w X.A.in1 F (ansAt (hitP left x) ps) ∧ ∀ s6, Moved wr G s5 s6 → ∃ H2, GxR.Tabbed P H1 H2 ∧ Inv X pins σ H2 s6
theorem gen_hit {s : Shared} {il ig : Nat} {c P : Addr} {iter : Expr} {scope : Scope} {p1 p2 p3 p4 p5 p6 p7 pa pb pt gpos : Pos} {kt : Nat} {te : TE} {k : Nat} {Q' : Value → Shared → Prop} {R : List (LKK × LKK) → LKK → List LKK → Hp → Prop}
    (hr : Room k X.A) (TB : GxR.TabB X.base X.mg c P) (hcode : X.env.code = .ref c) (S : GenN scope) (T2 : Takes2 X il ig)
    (hi : PE X iter te) (hs : ∀ v, genFold iter X.env v = pure v) (I : Inv X pins σ H s) (h : te σ H fun v H1 => ∃ t ps x left, v = .ref t ∧ GxR.TabG H1 P ∧ NbAt X.K σ H1 il ig ps x left t ∧ R ps x left H1)
    (hQ : ∀ ps x left H1 g s5, R ps x left H1 → Walked X pins σ H1 P ps x left g s5 → Q' (.ref g) s5) :
    wpAny (model X.prog X.w) X.A (eval (genX p1 p2 p3 p4 p5 p6 p7 pa pb pt gpos kt iter scope) X.env) Q' X.xe s := by
  have kinds : ∀ y ∈ scope.names, (y.2 = .local ∨ y.1 = "left" ∨ y.1 = "link") ∧ y.2 ≠ .cell := fun y hy => by
    rw [S.names] at hy
    unfold genNs at hy
    simp only [List.mem_cons, List.not_mem_nil, or_false] at hy
    rcases hy with e | e | e | e | e <;> rw [e]
    · exact ⟨.inl rfl, fun z => nomatch z⟩
    · exact ⟨.inl rfl, fun z => nomatch z⟩
    · exact ⟨.inl rfl, fun z => nomatch z⟩
    · exact ⟨.inr (.inl rfl), fun z => nomatch z⟩
    · exact ⟨.inr (.inr rfl), fun z => nomatch z⟩
  have clo := closure_ok (scope := scope) (env := X.env) fun y hy e => by
    rcases (kinds y hy).1 with z | z | z
    · rw [e] at z
      cases z
    · exact I.ok.has _ (by rw [z]; exact T2.kg)
    · exact I.ok.has _ (by rw [z]; exact T2.kl)
  have nm : ∀ {y : Str}, genNs.lookup y = some .local → scope.names.lookup y = some NameKind.local := fun e => by
    rw [S.names]
    exact e
  refine wpAny_GeneratorExp_walksQTD hr.hd S.co clo (fun y hy => (kinds y hy).2) (nm (by decide +kernel)) (nm (by decide +kernel)) (nm (by decide +kernel)) (by decide +kernel) S.kind (by have := hr.dp; omega) ?_ hs
  refine thn (hi.run pins s σ H _ I h) fun _ s1 hx => ?_
  obtain ⟨_, H1, J, rel, t, ps, x, left, rfl, ⟨tb, hP, ok⟩, nb, r⟩ := hx
  cases rel
  obtain ⟨ys, lv, ll, xs, hty, hys, hlv, hlx, hll, hls, hlf⟩ := nb
  obtain ⟨its, T, va, vb, row, len, each⟩ := pairs_there J hty hys
  refine wpAny_pyIter_tuple row ?_
  -- the heap so far: the iterator is new at z
  generalize hz : s1.heap.objs.size = z
  have old : ∀ {b : Addr} {o : Obj}, s1.heap.get? b = some o → b < z := fun e => by rw [← hz]; exact Heap.lt_size e
  have tabAt : s1.heap.get? P = some { cls := .none, data := .fields tb } := J.hok P _ hP
  have rowLt : t < z := let ⟨_, e, _⟩ := row; old e
  have eachLt : ∀ k, k < its.size → T k < z := fun k hk => let ⟨_, ⟨_, e, _⟩, _⟩ := each k hk; old e
  have noTup : ∀ {b : Addr} {vs : Array Value}, s1.heap.IsTuple b vs → b ≠ P := fun {b vs} ⟨_, e, ec, _⟩ q => by
    rw [q, tabAt] at e
    cases e
    cases ec
  have stP : cStatics ≠ P ∧ cStatics < z := by
    obtain ⟨_, ns, _⟩ := J.nolimit
    refine ⟨fun q => ?_, by rw [← hz]; exact ns.lt⟩
    obtain ⟨_, _, _, e, ed, _⟩ := ns
    rw [q, tabAt] at e
    cases e
    cases ed
  -- all that was known, at any later heap in which the table alone has grown
  have later : ∀ (more : Array Value) (s' : Shared), s'.os = s1.os → AllBare s'.gens → s'.heap.get? P = some { cls := .none, data := .fields (tb ++ more) } → (∀ b o, b ≠ P → s1.heap.get? b = some o → s'.heap.get? b = some o) →
      Inv X pins σ (upd H1 P (.tbl (tb ++ more))) s' := fun more s' eo eg eP ek => by
    have q := GxR.inv_tab (d' := s'.drawn) (t' := s'.toks) J hP ek eP eg
    rwa [GxR.sh_eta s1 s' eo] at q
  have apart : ∀ {b : Addr} {o : HO}, H1 b = some o → (∀ q, o ≠ .tbl q) → b ≠ P := fun e n q => by
    rw [q, hP] at e
    exact n tb (Option.some.inj e).symm
  have tupK : ∀ more : Array Value, TupX H1 (upd H1 P (.tbl (tb ++ more))) := fun more p zs e => by
    rw [upd_ne (apart e (fun _ q => nomatch q))]
    exact e
  have lstK : ∀ more : Array Value, SqL X.K (upd H1 P (.tbl (tb ++ more))) ll xs := fun more => by
    rcases hls with (e | ⟨o, e⟩) | e
    · exact .inl (.inl (by rw [upd_ne (apart e (fun _ q => nomatch q))]; exact e))
    · exact .inl (.inr ⟨o, by rw [upd_ne (apart e (fun _ q => nomatch q))]; exact e⟩)
    · exact .inr e
  have pushed : ∀ {b : Addr} {o : Obj}, s1.heap.get? b = some o → (s1.heap.push { cls := .type "tuple_iterator", data := .fields #[.ref t, .int 0 0] }).get? b = some o := fun e => Heap.get?_push_of_some _ e
  refine ⟨J.nolimit.push _, code_grown (tb := tb) hcode (TB.code.keeps fun b o e => pushed (J.bk b o e)) (pushed tabAt) ok fun code h3 tk g => ?_⟩
  have g1 := g.but
  have g2 := g.size
  obtain ⟨more, gP, gok⟩ := g.tab
  rw [Heap.size_push, hz] at g2
  have keep : ∀ b o, b ≠ P → s1.heap.get? b = some o → h3.get? b = some o := fun b o n e => g1 b o n (pushed e)
  have zlt : (z : Nat) < h3.objs.size := g2
  obtain ⟨bm, ob, e1, e2, e3, e4, e5, e6, e7, e8⟩ := id TB.bm
  refine wpAny_builtinsFor (m := X.mg) (by rw [J.ok.glob]; exact ((J.mod.glob.keeps J.bk).push _).extBut g1 TB.gP) e1 e2 (keep _ _ e4 (J.bk _ _ e5)) e6 e7 e8 ?_
  refine ⟨z, _, _, _, _, _, _, fun _ => true, fun i y => ∃ p, ps[i]? = some p ∧ y = .bool (hitP left x p), rfl, fun A' hA => (walk_pairs (V := fun k => #[va k, vb k]) (prog := X.prog) (w := X.w) hA (Nat.ne_of_lt rowLt) (fun k hk => Nat.ne_of_lt (eachLt k hk)) fun k hk => (each k hk).1).bound, ?_, ?_, ?_, ?_, ?_, ?_, ?_⟩
  · rintro i _ ⟨_, rfl⟩
    exact ⟨_, _, rfl⟩
  · refine ⟨⟨_, g1 z _ (Nat.ne_of_gt (old tabAt)) (by rw [← hz]; exact Heap.get?_push_size _ rfl), rfl, rfl⟩, ?_, fun k hk => ?_⟩
    · obtain ⟨o, e, q⟩ := row
      exact ⟨o, keep t o (noTup ⟨o, e, q⟩) e, q⟩
    · obtain ⟨o, e, q⟩ := (each k hk).2.1
      exact ⟨o, keep _ o (noTup ⟨o, e, q⟩) e, q⟩
  · intro b hb
    have : ∀ {b : Addr}, b < z → b < h3.objs.size := fun q => Nat.lt_trans q zlt
    rcases fp_cases hb with e | e | ⟨k, hk, e⟩
    · rw [e]
      exact zlt
    · rw [e]
      exact this rowLt
    · rw [← e]
      exact this (eachLt k hk)
  · exact (J.nolimit.push _).extBut g1 stP.1
  · intro q
    exact Nat.ne_of_lt stP.2 (List.mem_singleton.mp q)
  · -- the element
    intro href hhref
    have through : ∀ {h2 : Heap} {b : Addr} {o : Obj}, (∀ b ∈ List.range h3.objs.size, b ∉ [z] → ∀ o, href.get? b = some o → h2.get? b = some o) → b < z → h3.get? b = some o → h2.get? b = some o := fun {h2 b o} hk hb e =>
      hk b (List.mem_range.mpr (Heap.lt_size e)) (fun q => Nat.ne_of_lt hb (List.mem_singleton.mp q)) o (hhref b o e)
    refine ⟨fun A' E' i v1 v2 s₂ m₂ _ _ _ _ _ _ _ _ => ?_, fun A' E' i v1 v2 s₂ m₂ _ _ hU hv _ hn ha hb hk => ?_⟩
    · rw [List.forIn_nil]
      exact wpAny_pure ⟨rfl, keeps_id _⟩
    · obtain ⟨hi2, hv⟩ := hv
      obtain ⟨_, _, b, a, u, v, hps, hu, ru, hv2, rv⟩ := each i hi2
      obtain ⟨rfl, rfl⟩ : v1 = va i ∧ v2 = vb i := by simpa using hv
      have J2 := later more { s1 with heap := s₂.heap } rfl J.bare (through hk (old tabAt) gP) fun b o n e => through hk (old e) (keep b o n e)
      refine wpAny_mono (elt_hit J2 rfl (by have := units74 hr; omega) S T2 hlv (hlx.mono (tupK more)) hll (lstK more) (hlf.mono (tupK more)) (hu.mono (tupK more)) ru (hv2.mono (tupK more)) rv hn ha hb) (fun y s3 q => ⟨⟨_, hps, q.1⟩, q.2⟩) fun _ _ e => e
  · -- the generator stands
    intro a h5 tk5 gs bare lt sz k5 W at0
    rw [GxR.passing_true] at W
    rw [List.length_range, len] at W
    rw [len] at at0
    refine hQ ps x left H1 a _ r ⟨_, _, _, _, _, W.in4_1, at0, ?_, fun s6 mv => ?_⟩
    · rintro j _ s7 Q7 E7 ⟨i, hij, p, hp, rfl⟩ q7
      have ei : i = j := by
        rw [List.getElem?_range (by
          have := (List.getElem?_eq_some_iff.mp hij).1
          rw [List.length_range] at this
          exact this)] at hij
        exact (Option.some.inj hij).symm
      rw [ei] at hp
      rw [ansAt_of hp] at q7
      exact wpAny_truthy_bool q7
    · have free : ∀ {b : Addr} {o : Obj}, s1.heap.get? b = some o → b ∉ [(h3.objs.size : Addr), z] := fun {b o} e q => by
        have hb : (b : Nat) < z := old e
        simp only [List.mem_cons, List.not_mem_nil, or_false] at q
        rcases q with q | q
        · rw [q] at hb
          exact Nat.lt_irrefl _ (Nat.lt_trans hb zlt)
        · rw [q] at hb
          exact Nat.lt_irrefl _ hb
      refine ⟨upd H1 P (.tbl (tb ++ more)), ⟨⟨_, upd_same, gok⟩, fun b n => upd_ne n⟩, later more s6 mv.os (AllBare.movedS (J.bare.push bare) mv) (mv.heap P _ (free tabAt) (k5 P _ gP)) fun b o n e => mv.heap b o (free e) (k5 b o (keep b o n e))⟩
/-- any(after == link and before in left for before, after in e); behind it the def's table may have grown -/
def tAnyN (K : PySem.W.Frag) (P : Addr) (il ig : Nat) (te : TE) : TE := fun σ H Q => te σ H fun v H1 => ∃ t ps x left, v = .ref t ∧ GxR.TabG H1 P ∧ NbAt K σ H1 il ig ps x left t ∧ ∀ H2, GxR.Tabbed P H1 H2 → Q (.bl (ps.any (hitP left x))) H2
theorem pe_anyN {il ig : Nat} {c P : Addr} {iter : Expr} {scope : Scope} {p0 p1 p2 p3 p4 p5 p6 p7 pa pb pt gpos pos : Pos} {kt : Nat} {te : TE} {k : Nat}
    (hr : Room k X.A) (hgl : Gl X "any") (hm : X.mg "any" = none) (TB : GxR.TabB X.base X.mg c P) (hcode : X.env.code = .ref c) (S : GenN scope) (T2 : Takes2 X il ig) (hi : PE X iter te) (hs : ∀ v, genFold iter X.env v = pure v) :
    PE X (.Call (.Name "any" p0) [genX p1 p2 p3 p4 p5 p6 p7 pa pb pt gpos kt iter scope] [] pos) (tAnyN X.K P il ig te) := by
  constructor
  intro pins s σ H Q I h
  have args : starEach [genX p1 p2 p3 p4 p5 p6 p7 pa pb pt gpos kt iter scope] X.env = (false, eval (genX p1 p2 p3 p4 p5 p6 p7 pa pb pt gpos kt iter scope) X.env) :: starEach [] X.env := by rfl
  refine wpAny_Call_Name_kw (ld_blt I hgl hm boot_any (PyProof.Rows.callWith_builtin1 ?_ args (by rfl)))
  rw [args]
  show wpAny _ _ (spliced ((false, eval (genX p1 p2 p3 p4 p5 p6 p7 pa pb pt gpos kt iter scope) X.env) :: backTo pos (starEach [] X.env))) _ _ s
  refine Calls.spliced_cons (gen_hit (R := fun ps x left H1 => ∀ H2, GxR.Tabbed P H1 H2 → Q (.bl (ps.any (hitP left x))) H2) hr TB hcode S T2 hi hs I h fun ps x left H1 g s5 r wk => Calls.spliced_nil ?_)
  obtain ⟨fp, wr, Gn, F, St, W, st, tr, back⟩ := wk
  refine call_any_walkS (W.self 0 _ _ _ st ⟨g, fp, wr, Gn, _, F, St, _, rfl, W, st, tr, fun s6 mv => ?_⟩)
  obtain ⟨H2, tabbed, J⟩ := back s6 mv
  rw [any_ansAt]
  exact ⟨.bl _, H2, J, rfl, r H2 tabbed⟩
end
end KR
set_option maxRecDepth 100000
set_option maxHeartbeats 4000000
/-! numbered -/
namespace KT
open PySem PySem.Spec PyProof.Rows L2 KR KM GxR
section
variable {P : Program} {w : World} {K : PySem.W.Frag} {mg : Str → Option Value} {base : Heap}
/-- a def of the text, its code object told -/
structure FunC (K : PySem.W.Frag) (x qual : Str) (st : Stmt) (c : Addr) (f : Addr) (fd : FuncData) : Prop where
  ex : ∃ (oc : Value) (od : Option Addr) (kV doc pm : Value) (an : Option Addr) (ct : Value) (osl : Array (Option Value)),
    fd = PySem.W.fnOf x qual (defArgs st) (defBody st) (defScope st) .none kV doc pm an (.ref c) ct ∧ K.lookup f = some ⟨oc, od, .func fd, osl⟩ ∧ PySem.W.codeIn K (.ref c) qual = true
  kp : PySem.W.keepIn K (.ref f) = true
theorem FunC.fn {x qual : Str} {st : Stmt} {c f : Addr} {fd : FuncData} (F : FunC K x qual st c f fd) : Fun K x qual st f fd := by
  obtain ⟨oc, od, kV, doc, pm, an, ct, osl, h1, h2, h3⟩ := F.ex
  exact ⟨⟨oc, od, kV, doc, pm, an, .ref c, ct, osl, h1, h2, h3⟩, F.kp⟩
theorem FunC.ok {x qual : Str} {st : Stmt} {c f : Addr} {fd : FuncData} {N ps : List Str} {k : Nat} {sp : Sp} (F : FunC K x qual st c f fd) (S : FnScope N ps (defScope st)) (len : ∀ vs H Q E, sp vs H Q E → vs.length = ps.length)
    (hbody : ∀ (A : Around) (outer : List Env) (s : Shared) (H : Hp) (vs : List V) (Q : VK) (E : XK), Room k (A.deeper (envOfC qual (defScope st) s.heap.objs.size f (.ref c))) → sp vs H Q E →
      ∃ t, PSs (cxOf CX0 P w K mg base N qual (defScope st) f (.ref c) A outer s H E).nox (defBody st) t ∧ t { nx := fun _ H' => Q .non H', rt := Q } (start N vs) H) : FnOk P w K mg base CX0 (k + 1) f fd ps sp := by
  obtain ⟨oc, od, kV, doc, pm, an, ct, osl, rfl, lk, hcd⟩ := F.ex
  refine fn_of lk hcd S len fun A outer s H vs Q E hr hsp => ?_
  obtain ⟨t, h, q⟩ := hbody A outer s H vs Q E hr hsp
  exact ⟨t, h.nox, q⟩
theorem FunC.okX {x qual : Str} {st : Stmt} {c f : Addr} {fd : FuncData} {N ps : List Str} {k : Nat} {sp : Sp} {CX : CXT} (F : FunC K x qual st c f fd) (S : FnScope N ps (defScope st)) (len : ∀ vs H Q E, sp vs H Q E → vs.length = ps.length)
    (hbody : ∀ (A : Around) (outer : List Env) (s : Shared) (H : Hp) (vs : List V) (Q : VK) (E : XK), Room k (A.deeper (envOfC qual (defScope st) s.heap.objs.size f (.ref c))) → sp vs H Q E →
      ∃ t, PSs (cxOf CX P w K mg base N qual (defScope st) f (.ref c) A outer s H E) (defBody st) t ∧ t { nx := fun _ H' => Q .non H', rt := Q } (start N vs) H) : FnOk P w K mg base CX (k + 1) f fd ps sp := by
  obtain ⟨oc, od, kV, doc, pm, an, ct, osl, rfl, lk, hcd⟩ := F.ex
  exact fn_of lk hcd S len fun A outer s H vs Q E hr hsp => hbody A outer s H vs Q E hr hsp
end
theorem ite_pos' {b : Bool} {A B : Prop} (h : b = true) (a : A) : if b = true then A else B := by
  rw [if_pos h]
  exact a
theorem ite_neg' {b : Bool} {A B : Prop} (h : ¬ b = true) (a : B) : if b = true then A else B := by
  rw [if_neg h]
  exact a
theorem small2 {n : Nat} (h : n ≤ 1000000) : n < sizeLine := by
  rw [sizeLine_eq]
  omega
theorem nd_take {α : Type} {as bs : List α} {j : Nat} {l : α} (h : (as ++ bs).Nodup) (hl : bs[j]? = some l) : l ∉ as ++ bs.take j := by
  have hj := (List.getElem?_eq_some_iff.mp hl).1
  have e : bs = bs.take j ++ l :: bs.drop (j + 1) := by
    have e2 : l = bs[j] := by
      rw [List.getElem?_eq_getElem hj] at hl
      exact (Option.some.inj hl).symm
    rw [e2, ← List.drop_eq_getElem_cons hj, List.take_append_drop]
  rw [e, ← List.append_assoc] at h
  intro hm
  exact (List.nodup_append.mp h).2.2 l hm l (by simp) rfl
/-- over a tuple, any work at each item -/
theorem wk_tup2 {K : PySem.W.Frag} {a : Addr} {xs : List V} {F : V → Hp → (Hp → Prop) → Prop} {H0 : Hp} {Qd : Hp → Prop} (Pv : Nat → Hp → Prop) (h0 : Pv 0 H0) (hl : ∀ i H, i ≤ xs.length → Pv i H → SqT K H a xs)
    (hs : ∀ i x H, xs[i]? = some x → Pv i H → F x H (Pv (i + 1))) (hd : ∀ H, Pv xs.length H → Qd H) :
    ∃ W : Nat → Nat → Hp → Prop, (∃ m, W 0 m H0) ∧ ∀ i m H, W i m H →
      ((Itt K a).stop i H ∧ Qd H) ∨ ((Itt K a).go i H ∧ ∃ Nx : Hp → Prop, (∀ H', Nx H' → ∃ m', m' < m ∧ W (i + 1) m' H') ∧ ∀ x H', (Itt K a).yld i H x H' → F x H' Nx) := by
  refine ⟨fun i m H => m + i = xs.length ∧ Pv i H, ⟨xs.length, rfl, h0⟩, fun i m H ⟨e, p⟩ => ?_⟩
  cases m with
  | zero =>
    obtain rfl : i = xs.length := by omega
    exact .inl ⟨⟨xs, hl _ H (Nat.le_refl _) p, Nat.le_refl _⟩, hd H p⟩
  | succ m =>
    have lt : i < xs.length := by omega
    have there := hl i H (Nat.le_of_lt lt) p
    refine .inr ⟨⟨xs, _, there, List.getElem?_eq_getElem lt⟩, Pv (i + 1), fun H2 p2 => ⟨m, Nat.lt_succ_self m, by omega, p2⟩, fun x H2 y => ?_⟩
    obtain ⟨rfl, gives⟩ := y
    exact hs i x _ (gives xs there) p
/-- the links of the pairs -/
def linksOf (ps : List (LK × LK)) : List LK := ps.flatMap fun p => [p.1, p.2]
theorem linksOf_len (ps : List (LK × LK)) : (linksOf ps).length = 2 * ps.length := by
  unfold linksOf
  induction ps with
  | nil => rfl
  | cons p t ih => rw [List.flatMap_cons, List.length_append, ih]; simp; omega
theorem linksOf_take {ps : List (LK × LK)} {i : Nat} {p : LK × LK} (h : ps[i]? = some p) : linksOf (ps.take (i + 1)) = linksOf (ps.take i) ++ [p.1, p.2] := by
  unfold linksOf
  rw [List.take_add_one, h, List.flatMap_append]
  rfl
theorem mem_linksOf {ps : List (LK × LK)} {b a : LK} (h : (b, a) ∈ ps) : b ∈ linksOf ps ∧ a ∈ linksOf ps := by
  unfold linksOf
  constructor
  · exact List.mem_flatMap.mpr ⟨(b, a), h, by simp⟩
  · exact List.mem_flatMap.mpr ⟨(b, a), h, by simp⟩
/-- each link with its 1 -/
def onesOf (ls : List LK) : List (LK × V) := ls.map fun l => (l, V.int 1)
theorem keys_nodup_put {α : Type} [DecidableEq α] {kvs : List (α × V)} {k : α} {v : V} (h : (kvs.map (·.1)).Nodup) : ((putK kvs k v).map (·.1)).Nodup := by
  unfold putK
  by_cases e : (kvs.any fun kv => decide (kv.1 = k)) = true
  · rw [if_pos e]
    have : (kvs.map fun kv => if kv.1 = k then (kv.1, v) else kv).map (·.1) = kvs.map (·.1) := by
      rw [List.map_map]
      apply List.map_congr_left
      intro kv _
      show (if kv.1 = k then (kv.1, v) else kv).1 = kv.1
      by_cases h : kv.1 = k
      · rw [if_pos h]
      · rw [if_neg h]
    rw [this]
    exact h
  · rw [if_neg e, List.map_append]
    rw [List.nodup_append]
    refine ⟨h, by simp, fun x hx y hy z => e ?_⟩
    obtain ⟨kv, h1, h2⟩ := List.mem_map.mp hx
    rw [List.any_eq_true]
    refine ⟨kv, h1, ?_⟩
    simp at hy
    rw [decide_eq_true_eq, h2, z, hy]
theorem mrg_nodup {α : Type} [DecidableEq α] : ∀ (more acc : List (α × V)), (acc.map (·.1)).Nodup → ((mrg acc more).map (·.1)).Nodup
  | [], _, h => h
  | kv :: more, acc, h => mrg_nodup more (putK acc kv.1 kv.2) (keys_nodup_put h)
theorem mrg_keys {α : Type} [DecidableEq α] {k : α} : ∀ (more acc : List (α × V)), k ∈ (mrg acc more).map (·.1) ↔ k ∈ acc.map (·.1) ∨ k ∈ more.map (·.1)
  | [], acc => by
    show k ∈ acc.map (·.1) ↔ _
    simp
  | kv :: more, acc => by
    have h := mrg_keys (k := k) more (putK acc kv.1 kv.2)
    show k ∈ (mrg (putK acc kv.1 kv.2) more).map (·.1) ↔ _
    rw [h, keys_put, List.map_cons, List.mem_cons, or_assoc]
theorem ones_keys (ls : List LK) : (onesOf ls).map (·.1) = ls := by
  unfold onesOf
  rw [List.map_map]
  exact List.map_id' ls
/-- the numbers given so far -/
structure Nums (kvs : List (LK × V)) (fs : List LK) : Prop where
  len : kvs.length = fs.length
  no : ∀ l, l ∉ fs → valV kvs l = none
  at_ : ∀ (i : Nat) l, fs[i]? = some l → valV kvs l = some (.int i)
theorem nums_nil : Nums [] [] := ⟨rfl, fun _ _ => rfl, fun i l h => by simp at h⟩
theorem nums_snoc {kvs : List (LK × V)} {fs : List LK} {l : LK} (N : Nums kvs fs) (h : l ∉ fs) : Nums (putK kvs l (.int kvs.length)) (fs ++ [l]) := by
  refine ⟨?_, fun x hx => ?_, fun i x hx => ?_⟩
  · rw [putK_new _ (N.no l h), List.length_append, List.length_append, N.len]
    rfl
  · simp only [List.mem_append, List.mem_singleton, not_or] at hx
    rw [valV_put, if_neg hx.2]
    exact N.no x hx.1
  · rw [valV_put]
    by_cases hi : i < fs.length
    · rw [List.getElem?_append_left hi] at hx
      have : x ≠ l := fun e => h (by rw [← e]; exact List.mem_of_getElem? hx)
      rw [if_neg this]
      exact N.at_ i x hx
    · rw [List.getElem?_append_right (by omega)] at hx
      have h0 : i - fs.length = 0 := by
        rcases Nat.eq_zero_or_pos (i - fs.length) with z | z
        · exact z
        · rw [List.getElem?_eq_none (by simp; omega)] at hx
          cases hx
      rw [h0] at hx
      cases hx
      rw [if_pos rfl, N.len]
      congr 2
      omega
def rNotE {α : Type} [DecidableEq α] (K : PySem.W.Frag) (E : Enc α) : R2 := fun x y H Q => ∃ a l xs as, E.At H x a ∧ y = .ref l ∧ SqL K H l xs ∧ Ats E H xs as ∧ ∃ b : Bool, (b = true ↔ a ∈ as) ∧ Q (.bl (!b)) H
section
variable {P : Program} {w : World} {K : PySem.W.Frag} {mg : Str → Option Value} {base : Heap}
theorem scN : FnScope ["pairs", "link", "found", "good", "left", "pair"] ["pairs"] (defScope sNumbered) := ⟨rfl, rfl, rfl, by decide +kernel, rfl, by decide +kernel, by decide +kernel⟩
def spNumbered (P : Program) (w : World) (T : Addr) : Sp := fun vs H Q _ => ∃ (t : Addr) (ys : List V) (ps : List (LK × LK)) (r : LK → Int), vs = [.ref t] ∧ H t = some (.tup ys) ∧ Ats prEnc H ys ps ∧ ps.length ≤ 100000 ∧ (∀ b a, (b, a) ∈ ps → r b < r a) ∧ TabG H T ∧
  ∀ H' d kvs, But T H H' → TabG H' T → DE lkEnc P w H' d kvs → (∀ b a, (b, a) ∈ ps → ∃ i j : Nat, valV kvs b = some (.int i) ∧ valV kvs a = some (.int j) ∧ i < j) → Q (.ref d) H'
theorem ok_numbered {c f T : Addr} {fd : FuncData} (F : FunC K "numbered" "numbered" sNumbered c f fd) (TB : GxR.TabB base mg c T) (mS : mg "sorted" = none) (mD : mg "dict" = none) (mL : mg "len" = none) (mA : mg "any" = none) : FnOk P w K mg base CX0 1 f fd ["pairs"] (spNumbered P w T) := by
  refine F.ok scN (fun vs H Q E h => ?_) (fun A outer s H vs Q E hr h => ?_)
  · obtain ⟨t, ys, ps, r, rfl, _⟩ := h
    rfl
  · obtain ⟨t, ys, ps, r, rfl, ht, hys, hpl, hr2, hT, q⟩ := h
    refine ⟨_, pss_cons (ps_set (i := 4) scN.nd rfl (.inr rfl) (pe_callB (call_sortedP (P := P) (w := w) lkEnc rfl rfl rfl (units9 hr)) (by rfl) mS (by decide +kernel) (pa_cons
        (pe_callTy (call_dictP (P := P) (w := w) lkEnc rfl rfl rfl (units10 hr)) (by rfl) mD (by decide +kernel) (pa_cons
          (pe_lc2 (own := [("pair", 5), ("link", 1)]) (vs1 := [1]) (g := gName 5) (tt := tYes) (wi1 := iTup K (tVar 5)) (g1 := gName 1) (tt1 := tYes) rfl scN.nd (pi_tup (pv 0))
            (blkOk_by (own := [("pair", 5), ("link", 1)]) (N := ["pairs", "link", "found", "good", "left", "pair"]) (sc := defScope sNumbered) (by decide +kernel)) (by decide)
            (fun _ _ _ _ _ => pg_name (i := 5) scN.nd rfl (Or.inl rfl)) (fun _ _ _ _ _ => pts_nil) (fun _ _ _ _ _ => pi_tup (pv 5))
            (fun _ _ _ _ _ => pg_name (i := 1) scN.nd rfl (Or.inl rfl)) (fun _ _ _ _ _ => pts_nil) (fun _ _ _ _ _ => pe_tup (pa_cons (pv 1) (pa_cons pe_int pa_nil)))) pa_nil)) pa_nil)))
      (pss_cons (ps_set (i := 2) scN.nd rfl (.inl rfl) (pe_newP (P := P) (w := w) rfl rfl))
      (pss_cons (ps_while PassesOwn.never (pt_neNil (units64 hr) (pv 4))
        (pss_cons (ps_set (i := 3) scN.nd rfl (.inr rfl) (pe_lc (own := [("link", 1)]) (g := gName 1) (tt := tNot (tB (tAnyN K T 1 4 (tVar 0)))) rfl scN.nd (pi_list (pv 4))
            (blkOk_by (own := [("link", 1)]) (N := ["pairs", "link", "found", "good", "left", "pair"]) (sc := defScope sNumbered) (by decide +kernel))
            (fun _ _ _ _ _ => pg_name (i := 1) scN.nd rfl (Or.inr rfl)) (fun _ _ _ _ _ => pts_one (pt_not (pt_val (pe_anyN hr (by rfl) mA TB rfl ⟨rfl, rfl, rfl⟩ ⟨rfl, rfl, .inl rfl, .inl rfl⟩ (pv 0) (fun _ => rfl))))) (fun _ _ _ _ _ => pv 1)))
        (pss_cons (ps_if (pt_eqNil (units64 hr) (pv 3)) (pss_one (ps_ret pe_non)) pss_nil)
        (pss_cons (ps_for PassesOwn.never rfl (pi_list (pv 3)) (pg_name (i := 1) scN.nd rfl (.inl rfl))
          (pss_one (ps_asg (pe_callB (call_lenP (P := P) (w := w) lkEnc rfl rfl) (by rfl) mL PySem.boot_len (pa_cons (pv 2) pa_nil)) (pg_sub (pv 2) (pv 1) (set_P (P := P) (w := w) lkEnc rfl rfl (units9 hr))))))
        (pss_one (ps_set (i := 4) scN.nd rfl (.inr rfl) (pe_lc (own := [("link", 1)]) (g := gName 1) (tt := tTest (tOp (rNotE K lkEnc) (tVar 1) (tVar 3))) rfl scN.nd (pi_list (pv 4))
            (blkOk_by (own := [("link", 1)]) (N := ["pairs", "link", "found", "good", "left", "pair"]) (sc := defScope sNumbered) (by decide +kernel))
            (fun _ _ _ _ _ => pg_name (i := 1) scN.nd rfl (Or.inl rfl)) (fun _ _ _ _ _ => pts_one (pt_cmpR (op_notInE lkEnc (units65 hr)) (pv 1) (pv 3) (by rfl))) (fun _ _ _ _ _ => pv 1))))))))
      (pss_one (ps_ret (pv 2))))), ?_⟩
    -- left = sorted(dict(..))
    have tT : t ≠ T := fun e => by
      obtain ⟨tb, z, _⟩ := hT
      rw [e, z] at ht
      cases ht
    refine ⟨.ref t, rfl, t, rfl, ⟨_, SqT.of ht⟩, fun D nD => ?_⟩
    have hyl := hys.len
    have sD : Same H (upd H D (.lst [])) := same_upd nD
    refine wk_tup2 (K := K) (a := t) (xs := ys) (fun i H2 => Same H H2 ∧ ∃ ts : List Addr, H2 D = some (.lst (ts.map V.ref)) ∧ PL lkEnc H2 ts (onesOf (linksOf (ps.take i)))) ⟨sD, [], upd_same, .nil⟩ (fun i H2 _ z => SqT.of (z.1 _ _ ht)) ?_ ?_
    · rintro i x H2 hx ⟨s2, ts, hD, hpl2⟩
      obtain ⟨⟨b, a⟩, hba, p, u, v, rfl, hp, hu, hv⟩ := hys.get hx
      have hi : i < ps.length := (List.getElem?_eq_some_iff.mp hba).1
      refine ⟨rfl, .ref p, rfl, p, rfl, ⟨_, SqT.of (s2 _ _ hp)⟩, ?_⟩
      refine wk_tup2 (K := K) (a := p) (xs := [u, v]) (fun j H3 => Same H H3 ∧ ∃ ts : List Addr, H3 D = some (.lst (ts.map V.ref)) ∧ PL lkEnc H3 ts (onesOf (linksOf (ps.take i) ++ [b, a].take j))) ⟨s2, ts, hD, by rw [List.take_zero, List.append_nil]; exact hpl2⟩ (fun j H3 _ z => SqT.of (z.1 _ _ hp)) ?_ ?_
      · rintro j y H3 hy ⟨s3, ts, hD, hpl3⟩
        have hy2 : ∃ l, ([b, a] : List LK)[j]? = some l ∧ LkAt H y l := by
          match j, hy with
          | 0, hy =>
            cases hy
            exact ⟨b, rfl, hu⟩
          | 1, hy =>
            cases hy
            exact ⟨a, rfl, hv⟩
          | j + 2, hy => simp at hy
        obtain ⟨l, hl, hly⟩ := hy2
        have hj : j < 2 := (List.getElem?_eq_some_iff.mp hl).1
        refine ⟨rfl, y, rfl, le2, fun p2 np2 => ⟨ts.map V.ref, ?_, ?_, ?_, ts ++ [p2], ?_, ?_⟩⟩
        · rw [upd_ne (ne_of_none hD np2)]
          exact hD
        · refine small2 ?_
          have := Paired.length hpl3
          rw [List.length_map, this]
          unfold onesOf
          rw [List.length_map, List.length_append, linksOf_len, List.length_take, List.length_take]
          simp only [List.length_cons, List.length_nil]
          omega
        · intro b' o' e
          rw [upd_ne (ne_of_none e nD), upd_ne (ne_of_none (s3 _ _ e) np2)]
          exact s3 _ _ e
        · rw [upd_same, List.map_append]
          rfl
        · have s4 := same_upd (o := .tup [y, .int 1]) np2
          have hD4 := s4 _ _ hD
          have te : TupX (upd H3 p2 (.tup [y, .int 1])) (upd (upd H3 p2 (.tup [y, .int 1])) D (.lst (ts.map V.ref ++ [.ref p2]))) := tupX_upd hD4 (fun xs z => by cases z)
          have t34 := tupX_same s4
          obtain ⟨py, e1, e2⟩ := hly
          have hk : (onesOf (linksOf (ps.take i) ++ ([b, a] : List LK).take (j + 1))) = onesOf (linksOf (ps.take i) ++ ([b, a] : List LK).take j) ++ [(l, V.int 1)] := by
            rw [List.take_add_one, hl]
            unfold onesOf
            simp
          rw [hk]
          have app : ∀ {as bs : List Addr} {xs zs : List (LK × V)} {H : Hp}, PL lkEnc H as xs → PL lkEnc H bs zs → PL lkEnc H (as ++ bs) (xs ++ zs) := fun {as bs xs zs H} h1 h2 => by
            induction h1 with
            | nil => exact h2
            | cons r _ ih => exact .cons r ih
          refine app (Paired.mapP hpl3 fun x kv ⟨q, h1, h2⟩ => ⟨q, te _ _ (t34 _ _ h1), lkEnc.mono te (lkEnc.mono t34 h2)⟩) (.cons ⟨py, ?_, ?_⟩ .nil)
          · rw [← e1]
            exact te _ _ upd_same
          · exact ⟨py, rfl, te _ _ (t34 _ _ (s3 _ _ e2))⟩
      · rintro H3 ⟨s3, ts, hD, hpl3⟩
        refine ⟨s3, ts, hD, ?_⟩
        rw [linksOf_take hba]
        exact hpl3
    · rintro H2 ⟨s2, ts, hD, hpl2⟩
      rw [hyl, List.take_length] at hpl2
      refine ⟨D, ts, _, rfl, hD, hpl2, fun d1 xs1 nd1 hde1 => ⟨d1, _, rfl, hde1, fun p ys1 all np hperm hall => ?_⟩⟩
      have s3 := s2.trans ((same_upd (o := dnO P w d1 xs1) nd1).trans (same_upd (o := .lst ys1) np))
      have hlp : upd (upd H2 d1 (dnO P w d1 xs1)) p (.lst ys1) p = some (.lst ys1) := upd_same
      replace hall := hall.mono (tupX_same (same_upd (o := .lst ys1) np))
      revert s3 hlp hall
      generalize upd (upd H2 d1 (dnO P w d1 xs1)) p (.lst ys1) = H3
      intro s3 hlp hall
      have hmemA : ∀ l, l ∈ all ↔ l ∈ linksOf ps := fun l => by
        rw [hperm.mem_iff, mrg_keys, ones_keys]
        simp
      have hndA : all.Nodup := hperm.nodup_iff.mpr (mrg_nodup _ _ (by simp))
      have hlA : all.length ≤ 200000 := by
        have h1 := hndA.length_le_of_subset (fun l hl => (hmemA l).mp hl)
        rw [linksOf_len] at h1
        omega
      have Nb0 : Nb ps [] all := nb_start hndA fun b a h => ⟨(hmemA b).mpr (mem_linksOf h).1, (hmemA a).mpr (mem_linksOf h).2⟩
      have hT3 : TabG H3 T := by
        obtain ⟨tb, z1, z2⟩ := hT
        exact ⟨tb, s3 _ _ z1, z2⟩
      -- found = {}
      refine fun d nd => ?_
      have s4 := same_upd (o := dnO P w d []) nd
      have hde : DE lkEnc P w (upd H3 d (dnO P w d [])) d [] := DE.nil upd_same
      have hdT : d ≠ T := fun e => by
        obtain ⟨tb, z, _⟩ := hT3
        rw [e, z] at nd
        cases nd
      have hdn : H d = none := by
        cases e : H d with
        | none => rfl
        | some o =>
          rw [s3 _ _ e] at nd
          cases nd
      refine ⟨fun m σ H5 => ∃ y1 y3 y5 ll xs left fs kvs, σ = [some (.ref t), y1, some (.ref d), y3, some (.ref ll), y5] ∧ m = left.length ∧ But T H H5 ∧ TabG H5 T ∧ DE lkEnc P w H5 d kvs ∧ Nums kvs fs ∧ H5 ll = some (.lst xs) ∧ Ats lkEnc H5 xs left ∧ Nb ps fs left ∧ fs.length + left.length ≤ 200000,
        ⟨_, none, none, none, p, ys1, all, [], [], rfl, rfl, But.of (s3.trans s4), ?_, hde, nums_nil, s4 _ _ hlp, hall.mono (tupX_same s4), Nb0, by simpa using hlA⟩, ?_⟩
      · obtain ⟨tb, z1, z2⟩ := hT3
        exact ⟨tb, s4 _ _ z1, z2⟩
      clear hlp hall hde hT3 s4 hpl2 hD s3 s2
      rintro m σ H5 ⟨y1, y3, y5, ll, xs, left, fs, kvs, rfl, rfl, b5, hT5, hde, hnum, hll, hxs, hNb, hsz⟩
      have hxl := hxs.len
      refine ⟨.ref ll, rfl, ll, xs, rfl, SqL.of hll, lst_ats _ hxs, fun e ne => ?_⟩
      have sE := same_upd (o := .lst []) ne
      have b6 := b5.trans (But.of (p := T) sE)
      replace hde := hde.same sE
      replace hll := sE _ _ hll
      replace hxs := hxs.mono (tupX_same sE)
      replace hT5 : TabG (upd H5 e (.lst [])) T := by
        obtain ⟨tb, z1, z2⟩ := hT5
        exact ⟨tb, sE _ _ z1, z2⟩
      revert b6 hde hll hxs hT5
      generalize upd H5 e (.lst []) = H6
      intro b6 hde hll hxs hT6
      clear b5 sE
      by_cases hne : left = []
      · -- the end
        subst hne
        have : xs = [] := List.eq_nil_of_length_eq_zero (by rw [hxl]; rfl)
        rw [if_pos this]
        refine ⟨.ref d, rfl, q H6 d kvs b6 hT6 hde fun b a hba => ?_⟩
        obtain ⟨hb, ha⟩ := hNb.mem b a hba
        have hb : b ∈ fs := hb.elim id fun z => nomatch z
        have ha : a ∈ fs := ha.elim id fun z => nomatch z
        obtain ⟨j, hj⟩ := List.mem_iff_getElem?.mp ha
        obtain ⟨i, hij, hi⟩ := hNb.ord b a hba j hj
        exact ⟨i, j, hnum.at_ i b hi, hnum.at_ j a hj, hij⟩
      · have hx0 : xs ≠ [] := fun z => hne (List.eq_nil_of_length_eq_zero (by rw [← hxl, z]; rfl))
        rw [if_neg hx0]
        refine ⟨_, fun σ' H' z => z, ?_⟩
        have lT : ll ≠ T := fun e => by
          obtain ⟨tb, z, _⟩ := hT6
          rw [e, z] at hll
          cases hll
        -- good
        refine ⟨.ref ll, rfl, ll, rfl, ⟨_, SqL.of hll⟩, fun D2 nD2 => ?_⟩
        have dT : D2 ≠ T := fun e => by
          obtain ⟨tb, z, _⟩ := hT6
          rw [e, z] at nD2
          cases nD2
        have tup6 : ∀ {H7 : Hp}, But T H6 H7 → TupX H6 H7 := fun {H7} b p zs z => b p _ (fun e => by
          obtain ⟨tb, z2, _⟩ := hT6
          rw [e, z2] at z
          cases z) z
        have tupH : ∀ {H7 : Hp}, But T H H7 → TupX H H7 := fun {H7} b p zs z => b p _ (fun e => by
          obtain ⟨tb, z2, _⟩ := hT
          rw [e, z2] at z
          cases z) z
        have deB : ∀ {H7 : Hp}, But T H6 H7 → DE lkEnc P w H7 d kvs := fun {H7} b => by
          obtain ⟨φ, hφ⟩ := hde.some
          obtain ⟨xs2, z1, z2⟩ := hde
          exact ⟨xs2, b _ _ hdT z1, Paired.mapP z2 fun _ _ z => ⟨z.1, lkEnc.mono (tup6 b) z.2.1, z.2.2⟩⟩
        have tab7 : ∀ {H7 H8 : Hp}, TabG H7 T → (H8 T = H7 T) → TabG H8 T := fun {H7 H8} h e => by
          obtain ⟨tb, z1, z2⟩ := h
          exact ⟨tb, by rw [e]; exact z1, z2⟩
        refine lc_list (K := K) (a := ll) (xs := xs) (fun i H7 => But T H6 H7 ∧ TabG H7 T ∧ ∃ zs, H7 D2 = some (.lst zs) ∧ Ats lkEnc H7 zs ((left.take i).filter (goodB ps left))) ⟨But.of (same_upd nD2), tab7 hT6 (upd_ne dT.symm), [], upd_same, .nil⟩ (fun i H7 _ z => SqL.of (z.1 _ _ lT hll)) ?_ ?_
        · rintro i x H7 hx ⟨b7, hT7, zs, hD7, hzs⟩
          obtain ⟨l, hl, hlx⟩ := hxs.get hx
          refine ⟨rfl, .ref t, rfl, t, ps, l, left, rfl, hT7, ⟨ys, x, ll, xs, b7 _ _ tT (b6 _ _ tT ht), hys.mono (tupH (b6.trans b7)), rfl, lkEnc.mono (tup6 b7) hlx, rfl, SqL.of (b7 _ _ lT hll), hxs.mono (tup6 b7)⟩, fun H8 hT8 => ⟨_, rfl, ?_⟩⟩
          have b78 : But T H7 H8 := fun b' o' hb e' => by rw [hT8.2 b' hb]; exact e'
          have b8 := b7.trans b78
          have hD8 := b78 _ _ dT hD7
          have tu : TupX H7 H8 := fun p' us z => b78 p' _ (fun e => by
            obtain ⟨tb, z2, _⟩ := hT7
            rw [e, z2] at z
            cases z) z
          have htk : left.take (i + 1) = left.take i ++ [l] := by rw [List.take_add_one, hl]; rfl
          by_cases hg : goodB ps left l = true
          · refine ite_pos' (b := !ps.any (hitP left l)) hg ?_
            refine ⟨x, rfl, zs, hD8, ?_, ?_, tab7 hT8.1 (upd_ne dT.symm), zs ++ [x], upd_same, ?_⟩
            · refine small2 ?_
              rw [hzs.len]
              have h1 := List.length_filter_le (goodB ps left) (left.take i)
              rw [List.length_take] at h1
              omega
            · intro b' o' hb e'
              rw [upd_ne (ne_of_none e' nD2)]
              exact b8 _ _ hb e'
            · have te : TupX H8 (upd H8 D2 (.lst (zs ++ [x]))) := tupX_upd hD8 (fun xs z => by cases z)
              rw [htk, List.filter_append]
              have e1 : [l].filter (goodB ps left) = [l] := by simp [hg]
              rw [e1]
              exact ((hzs.mono tu).mono te).app (.cons (lkEnc.mono te (lkEnc.mono (tup6 b8) hlx)) .nil)
          · refine ite_neg' (b := !ps.any (hitP left l)) hg ?_
            refine ⟨b8, hT8.1, zs, hD8, ?_⟩
            rw [htk, List.filter_append]
            have e1 : [l].filter (goodB ps left) = [] := by simp [hg]
            rw [e1, List.append_nil]
            exact hzs.mono tu
        · rintro H7 ⟨b7, hT7, zs, hD7, hzs⟩
          have hzs : Ats lkEnc H7 zs (goodL ps left) := by
            rw [hxl, List.take_length] at hzs
            exact hzs
          have hgn : goodL ps left ≠ [] := nb_good r hr2 hne
          have hz0 : zs ≠ [] := fun z => hgn (List.eq_nil_of_length_eq_zero (by rw [← hzs.len, z]; rfl))
          have Nb2 := nb_next hNb
          have hnd := (List.nodup_append.mp Nb2.nd).1
          have hszg : fs.length + (goodL ps left).length ≤ 200000 := by
            have h1 := List.length_filter_le (goodB ps left) left
            have h2 : (goodL ps left).length = (left.filter (goodB ps left)).length := rfl
            omega
          -- if good == []
          refine ⟨.ref D2, rfl, D2, zs, rfl, SqL.of hD7, lst_ats _ hzs, fun e2 ne2 => ?_⟩
          rw [if_neg hz0]
          have hde7 := deB b7
          have hll7 := b7 _ _ lT hll
          have hxs7 := hxs.mono (tup6 b7)
          have b7' := b6.trans b7
          have sE := same_upd (o := .lst []) ne2
          have b9 : But T H (upd H7 e2 (.lst [])) := b7'.trans (But.of sE)
          have hT9 : TabG (upd H7 e2 (.lst [])) T := by
            obtain ⟨tb, z1, z2⟩ := hT7
            exact ⟨tb, sE _ _ z1, z2⟩
          have hde9 := hde7.same sE
          have hll9 := sE _ _ hll7
          have hxs9 := hxs7.mono (tupX_same sE)
          have hD9 := sE _ _ hD7
          have hzs9 := hzs.mono (tupX_same sE)
          revert b9 hT9 hde9 hll9 hxs9 hD9 hzs9
          generalize upd H7 e2 (.lst []) = H9
          intro b9 hT9 hde9 hll9 hxs9 hD9 hzs9
          clear hde7 hll7 hxs7 b7' sE hzs hD7 hT7 b7
          have hzl := hzs9.len
          refine ⟨.ref D2, rfl, D2, rfl, ⟨_, SqL.of hD9⟩, for_list (xs := zs)
            (fun j σ H8 => ∃ y1 kvs, σ = [some (.ref t), y1, some (.ref d), some (.ref D2), some (.ref ll), y5] ∧ But T H H8 ∧ TabG H8 T ∧ DE lkEnc P w H8 d kvs ∧ Nums kvs (fs ++ (goodL ps left).take j) ∧ H8 ll = some (.lst xs) ∧ Ats lkEnc H8 xs left ∧ H8 D2 = some (.lst zs) ∧ Ats lkEnc H8 zs (goodL ps left))
            ⟨y1, kvs, rfl, b9, hT9, hde9, by rw [List.take_zero, List.append_nil]; exact hnum, hll9, hxs9, hD9, hzs9⟩ (fun j σ H8 _ ⟨_, _, _, _, _, _, _, _, _, z, _⟩ => SqL.of z) ?_ ?_⟩
          · clear b9 hT9 hde9 hll9 hxs9 hD9 hzs9 hnum deB hde
            rintro j x σ H8 hx ⟨y1, kvs, rfl, b8, hT8, hde8, hnum, hll8, hxs8, hD8, hzs8⟩
            obtain ⟨l, hl, hlx⟩ := hzs8.get hx
            have hlen := hnum.len
            rw [List.length_append, List.length_take] at hlen
            refine ⟨.ref d, rfl, d, kvs, rfl, hde8, .ref d, rfl, x, rfl, d, kvs, l, rfl, hde8, hlx, small2 (by omega), fun xs2 hde' => ?_⟩
            obtain ⟨φ, hφ⟩ := hde8.some
            have te := tupX_upd (o := dnO P w d xs2) hφ (fun xs z => by cases z)
            have dl : ll ≠ d := fun e => by
              rw [e, hφ] at hll8
              cases hll8
            have dD : D2 ≠ d := fun e => by
              rw [e, hφ] at hD8
              cases hD8
            refine ⟨_, _, rfl, fun b' o' hb e' => ?_, tab7 hT8 (upd_ne hdT.symm), hde', ?_, by rw [upd_ne dl]; exact hll8, hxs8.mono te, by rw [upd_ne dD]; exact hD8, hzs8.mono te⟩
            · rw [upd_ne (ne_of_none e' hdn)]
              exact b8 _ _ hb e'
            · have htk : (goodL ps left).take (j + 1) = (goodL ps left).take j ++ [l] := by rw [List.take_add_one, hl]; rfl
              rw [htk, ← List.append_assoc]
              exact nums_snoc hnum (nd_take hnd hl)
          · clear b9 hT9 hde9 hll9 hxs9 hD9 hzs9 hnum deB hde
            rintro σ H8 ⟨y1, kvs, rfl, b8, hT8, hde8, hnum, hll8, hxs8, hD8, hzs8⟩
            rw [hzl, List.take_length] at hnum
            -- left = [..]
            refine ⟨.ref ll, rfl, ll, rfl, ⟨_, SqL.of hll8⟩, fun D3 nD3 => ?_⟩
            have sD3 := same_upd (o := .lst []) nD3
            refine lc_list (K := K) (a := ll) (xs := xs) (fun i H7 => Same H8 H7 ∧ ∃ us, H7 D3 = some (.lst us) ∧ Ats lkEnc H7 us ((left.take i).filter fun l => !(goodL ps left).contains l)) ⟨sD3, [], upd_same, .nil⟩ (fun i H7 _ z => SqL.of (z.1 _ _ hll8)) ?_ ?_
            · rintro i x H7 hx ⟨s7, us, hD7, hus⟩
              obtain ⟨l, hl, hlx⟩ := hxs8.get hx
              refine ⟨rfl, x, rfl, .ref D2, rfl, l, D2, zs, goodL ps left, lkEnc.mono (tupX_same s7) hlx, rfl, SqL.of (s7 _ _ hD8), hzs8.mono (tupX_same s7), (goodL ps left).contains l, by rw [List.contains_iff_mem], _, rfl, ?_⟩
              have htk : left.take (i + 1) = left.take i ++ [l] := by rw [List.take_add_one, hl]; rfl
              by_cases hg : (!(goodL ps left).contains l) = true
              · refine ite_pos' (b := !(goodL ps left).contains l) hg ?_
                refine ⟨x, rfl, us, hD7, ?_, fun b' o' e' => ?_, us ++ [x], upd_same, ?_⟩
                · refine small2 ?_
                  exact Nat.le_trans (Nat.le_trans (Nat.le_of_eq hus.len) (List.length_filter_le _ _)) (by rw [List.length_take]; omega)
                · rw [upd_ne (ne_of_none e' nD3)]
                  exact s7 _ _ e'
                · have te : TupX H7 (upd H7 D3 (.lst (us ++ [x]))) := tupX_upd hD7 (fun xs z => by cases z)
                  rw [htk, List.filter_append]
                  have e1 : ([l].filter fun l => !(goodL ps left).contains l) = [l] := by
                    rw [List.filter_cons, if_pos hg]
                    rfl
                  rw [e1]
                  exact (hus.mono te).app (.cons (lkEnc.mono te (lkEnc.mono (tupX_same s7) hlx)) .nil)
              · refine ite_neg' (b := !(goodL ps left).contains l) hg ?_
                refine ⟨s7, us, hD7, ?_⟩
                rw [htk, List.filter_append]
                have e1 : ([l].filter fun l => !(goodL ps left).contains l) = [] := by
                  rw [List.filter_cons, if_neg hg]
                  rfl
                rw [e1, List.append_nil]
                exact hus
            · rintro H7 ⟨s7, us, hD7, hus⟩
              rw [hxl, List.take_length] at hus
              have hT7 : TabG H7 T := by
                obtain ⟨tb, z1, z2⟩ := hT8
                exact ⟨tb, s7 _ _ z1, z2⟩
              refine ⟨(restL (goodL ps left) left).length, nb_less hgn, _, _, _, D3, us, restL (goodL ps left) left, fs ++ goodL ps left, kvs, rfl, rfl, b8.trans (But.of s7), hT7, hde8.same s7, hnum, hD7, hus, Nb2, ?_⟩
              have h1 := Nb2.nd.length_le_of_subset (l₂ := fs ++ left) (fun x hx => by
                rcases List.mem_append.mp hx with z | z
                · rcases List.mem_append.mp z with z | z
                  · exact List.mem_append_left _ z
                  · exact List.mem_append_right _ (List.mem_filter.mp z).1
                · exact List.mem_append_right _ (List.mem_filter.mp z).1)
              simp only [List.length_append] at h1 ⊢
              omega
end
end KT
set_option maxRecDepth 100000
set_option maxHeartbeats 4000000
/-! law, the drawn graph: the rules, the state, the first statements -/
namespace KT
open PySem PySem.Spec PyProof.Rows L2 KR KM GxR
abbrev nmLaw : List Str := ["_law_script", "_law_dice_here", "_law_many", "_law_k", "_law_near", "_law_j", "_law_turn", "_law_root", "_law_steps", "_law_ways_here", "_law_one", "_law_other", "_law_way_now", "_law_fallen", "_law_here", "_law_node", "_law_up", "_law_pairs", "_law_numbers"]
/-- the i-th statement of the round -/
def lb (i : Nat) : Stmt := match defBody sLaw with
  | (.For (body := b) ..) :: _ => b.getD i (.Pass ⟨0, 0, 0, 0⟩)
  | _ => .Pass ⟨0, 0, 0, 0⟩
theorem PS.imp {X : Cx} {st : Stmt} {t t' : TS} (h : PS X st t) (f : ∀ D σ H, t' D σ H → t D σ H) : PS X st t' := ⟨fun pins s σ H D I q => h.run pins s σ H D I (f D σ H q)⟩
theorem scL : FnScope nmLaw ["_law_script"] (defScope sLaw) := ⟨rfl, rfl, rfl, by decide +kernel, rfl, by decide +kernel, by decide +kernel⟩
/-- d[k] = v, an int key -/
theorem set_D {X : Cx} (hu : X.A.units + 1 < cLine) : PSet X (fun o i v H Q => ∃ a H', o = .ref a ∧ DPut H a i v H' ∧ Q H') := by
  intro pins s σ H o i v ov iv u Q I ro ri rv q
  obtain ⟨a, H', rfl, g, q⟩ := q
  obtain rfl : ov = Value.ref a := ro
  exact d_setItem hu I g ri rv fun s' I' => ⟨H', I', q⟩
/-- 0 .. m - 1 -/
def dmOf (m : Nat) : List Int := (List.range m).map fun (i : Nat) => (i : Int)
theorem mem_dm {m : Nat} {k : Int} : k ∈ dmOf m ↔ 0 ≤ k ∧ k < m := by
  unfold dmOf
  rw [List.mem_map]
  constructor
  · rintro ⟨i, hi, rfl⟩
    have := List.mem_range.mp hi
    omega
  · rintro ⟨h0, h1⟩
    exact ⟨k.toNat, List.mem_range.mpr (by omega), by omega⟩
theorem dm_len (m : Nat) : (dmOf m).length = m := by
  unfold dmOf
  rw [List.length_map, List.length_range]
theorem dm_nodup (m : Nat) : (dmOf m).Nodup := by
  unfold dmOf
  rw [List.nodup_iff_pairwise_ne, List.pairwise_map]
  exact List.Pairwise.imp (fun h z => h (by omega)) (List.nodup_iff_pairwise_ne.mp List.nodup_range)
theorem dm_get {m i : Nat} (h : i < m) : (dmOf m)[i]? = some (i : Int) := by
  unfold dmOf
  rw [List.getElem?_map, List.getElem?_range h]
  rfl
/-- a table by the nodes -/
def tabK (dm : List Int) (f : Int → V) : List (Key × V) := dm.map fun k => ((Sum.inl k : Key), f k)
theorem put_tab {dm : List Int} {f : Int → V} {k0 : Int} {v : V} (h : k0 ∈ dm) : putK (tabK dm f) (Sum.inl k0) v = tabK dm fun k => if k = k0 then v else f k := by
  unfold putK tabK
  rw [if_pos (by
    rw [List.any_eq_true]
    exact ⟨(Sum.inl k0, f k0), List.mem_map.mpr ⟨k0, h, rfl⟩, by simp⟩), List.map_map]
  apply List.map_congr_left
  intro k _
  show (if (Sum.inl k : Key) = Sum.inl k0 then ((Sum.inl k : Key), v) else ((Sum.inl k : Key), f k)) = ((Sum.inl k : Key), if k = k0 then v else f k)
  by_cases e : k = k0
  · subst e
    rw [if_pos rfl, if_pos rfl]
  · rw [if_neg (fun z => e (by cases z; rfl)), if_neg e]
theorem merge_snoc {acc more : List (Key × V)} {k : Key} {v : V} (h : valV (mergeK acc more) k = none) : mergeK acc (more ++ [(k, v)]) = mergeK acc more ++ [(k, v)] := by
  unfold mergeK at h ⊢
  rw [List.foldl_append]
  exact putK_new _ h
theorem merge_tab {f : Int → V} : ∀ (m : Nat), mergeK [] (tabK (dmOf m) f) = tabK (dmOf m) f := by
  intro m
  induction m with
  | zero => rfl
  | succ m ih =>
    have e : tabK (dmOf (m + 1)) f = tabK (dmOf m) f ++ [((Sum.inl (m : Int) : Key), f m)] := by
      unfold tabK dmOf
      rw [List.range_succ, List.map_append, List.map_append]
      rfl
    rw [e, merge_snoc (by
      rw [ih]
      unfold tabK
      rw [valV_ints, if_neg]
      rw [mem_dm]
      omega), ih]
/-- the graph as it lies; p: the dice -/
structure GS (H1 H : Hp) (p nr : Addr) (m : Nat) (G : Int → List Int) : Prop where
  but : But p H1 H
  dice : ∃ a b c : Int, H p = some (.lst [.int a, .int b, .int c])
  near : ∃ q : Int → Addr, H nr = some (.dK (tabK (dmOf m) fun k => V.ref (q k))) ∧ ∀ k ∈ dmOf m, H (q k) = some (.lst ((G k).map V.int)) ∧ q k ≠ p
  fr : H1 nr = none
  gr : Gr (dmOf m) G
theorem GS.nrp {H1 H : Hp} {p nr : Addr} {m : Nat} {G : Int → List Int} (g : GS H1 H p nr m G) : nr ≠ p := fun e => by
  obtain ⟨a, b, c, h⟩ := g.dice
  obtain ⟨q, h2, _⟩ := g.near
  rw [e, h] at h2
  cases h2
theorem GS.at_ {H1 H : Hp} {p nr : Addr} {m : Nat} {G : Int → List Int} (g : GS H1 H p nr m G) : NearAt H nr (dmOf m) G := by
  obtain ⟨q, h1, h2⟩ := g.near
  exact ⟨q, h1, fun k hk => (h2 k hk).1⟩
/-- the dice rolled -/
theorem GS.roll {H1 H H' : Hp} {p nr : Addr} {m : Nat} {G : Int → List Int} (g : GS H1 H p nr m G) (e : But p H H') (d : ∃ a b c : Int, H' p = some (.lst [.int a, .int b, .int c])) : GS H1 H' p nr m G := by
  obtain ⟨q, h1, h2⟩ := g.near
  exact ⟨g.but.trans e, d, ⟨q, e _ _ g.nrp h1, fun k hk => ⟨e _ _ (h2 k hk).2 (h2 k hk).1, (h2 k hk).2⟩⟩, g.fr, g.gr⟩
theorem GS.ext {H1 H H' : Hp} {p nr : Addr} {m : Nat} {G : Int → List Int} (g : GS H1 H p nr m G) (e : Same H H') : GS H1 H' p nr m G := by
  obtain ⟨a, b, c, h⟩ := g.dice
  exact g.roll (But.of e) ⟨a, b, c, e _ _ h⟩
section
variable {P : Program} {w : World} {K : PySem.W.Frag} {mg : Str → Option Value} {base : Heap}
/-- law's own context -/
abbrev XL (P : Program) (w : World) (K : PySem.W.Frag) (mg : Str → Option Value) (base : Heap) (f c : Addr) (A : Around) (outer : List Env) (s : Shared) (H : Hp) (E : XK) : Cx := (cxOf CX0 P w K mg base nmLaw "law" (defScope sLaw) f (.ref c) A outer s H E).nox
variable {f c : Addr} {A : Around} {outer : List Env} {s : Shared} {H₀ : Hp} {E : XK}
/-- near = dict([(k, []) for k in range(many)]) -/
theorem st_near {k : Nat} (hr : Room k (XL P w K mg base f c A outer s H₀ E).A) (mD : mg "dict" = none) (mR : mg "range" = none) : PS (XL P w K mg base f c A outer s H₀ E) (lb 1)
    (fun D σ H => ∃ (y0 y1 y3 y4 y5 y6 y7 y8 y9 y10 y11 y12 y13 y14 y15 y16 y17 y18 : Option V) (p : Addr) (m : Nat) (a b d : Int), σ = [y0, y1, some (.int (m : Nat)), y3, y4, y5, y6, y7, y8, y9, y10, y11, y12, y13, y14, y15, y16, y17, y18] ∧ m ≤ 6 ∧ H p = some (.lst [.int a, .int b, .int d]) ∧ ∀ H' nr, GS H H' p nr m (fun _ => []) → D.nx [y0, y1, some (.int (m : Nat)), y3, some (.ref nr), y5, y6, y7, y8, y9, y10, y11, y12, y13, y14, y15, y16, y17, y18] H') := by
  refine PS.imp (ps_set (i := 4) scL.nd rfl (.inr rfl) (pe_callTy (call_dictP rfl) (by rfl) mD (by decide +kernel) (pa_cons
      (pe_lc (own := [("_law_k", 3)]) (g := gName 3) (tt := tYes) rfl scL.nd (pi_range1 (by rfl) mR (pa_cons (pv 2) pa_nil)) (blkOk_by (own := [("_law_k", 3)]) (N := nmLaw) (sc := defScope sLaw) (by decide +kernel))
        (fun _ _ _ _ _ => pg_name (i := 3) scL.nd rfl (Or.inl rfl)) (fun _ _ _ _ _ => pts_nil) (fun _ _ _ _ _ => pe_tup (pa_cons (pv 3) (pa_cons (pe_lst pa_nil) pa_nil)))) pa_nil))) ?_
  rintro D σ H ⟨y0, y1, y3, y4, y5, y6, y7, y8, y9, y10, y11, y12, y13, y14, y15, y16, y17, y18, p, m, a, b, d, rfl, hm, hp, q⟩
  refine ⟨.int (m : Nat), rfl, _, rfl, by omega, by omega, fun L nL => ?_⟩
  have e0 : ((m : Int)).toNat = m := by omega
  rw [e0]
  have sL := same_upd (o := .lst []) nL
  refine lc_range (lo := 0) (n := m) (fun i H3 => Same H H3 ∧ ∃ (ts : List Addr) (q : Int → Addr), H3 L = some (.lst (ts.map V.ref)) ∧ Paired (fun t (kv : Key × V) => H3 t = some (.tup [kV kv.1, kv.2])) ts (tabK (dmOf i) fun k => V.ref (q k)) ∧ ∀ k ∈ dmOf i, H3 (q k) = some (.lst []) ∧ q k ≠ p ∧ q k ≠ L)
    ⟨sL, [], fun _ => 0, upd_same, .nil, fun k hk => by simp [dmOf] at hk⟩ ?_ ?_
  · rintro i H3 hi ⟨s3, ts, q2, hL, hts, hq2⟩
    refine ⟨rfl, .int (0 + (i : Int)), rfl, Nat.zero_le _, fun l nl => ⟨le2, fun t nt => ⟨ts.map V.ref, ?_, ?_, ?_, ts ++ [t], fun k => if k = i then l else q2 k, ?_, ?_, ?_⟩⟩⟩
    all_goals (have s4 : Same H3 (upd (upd H3 l (.lst [])) t (.tup [.int (0 + (i : Int)), .ref l])) := (same_upd nl).trans (same_upd nt))
    all_goals (have tl := Paired.length hts)
    · exact s4 _ _ hL
    · refine small2 ?_
      rw [List.length_map, tl]
      unfold tabK
      rw [List.length_map, dm_len]
      omega
    · intro b' o' e
      rw [upd_ne (ne_of_none e nL)]
      exact s4 _ _ (s3 _ _ e)
    · rw [upd_same, List.map_append]
      rfl
    · have tl2 : tabK (dmOf (i + 1)) (fun k => V.ref (if k = (i : Int) then l else q2 k)) = tabK (dmOf i) (fun k => V.ref (q2 k)) ++ [((Sum.inl (i : Int) : Key), V.ref l)] := by
        unfold tabK dmOf
        rw [List.range_succ, List.map_append, List.map_append]
        congr 1
        · rw [List.map_map, List.map_map]
          apply List.map_congr_left
          intro z hz
          have := List.mem_range.mp hz
          show ((Sum.inl (z : Int) : Key), V.ref (if (z : Int) = (i : Int) then l else q2 z)) = ((Sum.inl (z : Int) : Key), V.ref (q2 z))
          rw [if_neg (by omega)]
        · show [((Sum.inl (i : Int) : Key), V.ref (if (i : Int) = (i : Int) then l else q2 i))] = _
          rw [if_pos rfl]
      rw [tl2]
      have app : ∀ {as bs : List Addr} {xs zs : List (Key × V)} {H : Hp}, Paired (fun t (kv : Key × V) => H t = some (.tup [kV kv.1, kv.2])) as xs → Paired (fun t (kv : Key × V) => H t = some (.tup [kV kv.1, kv.2])) bs zs → Paired (fun t (kv : Key × V) => H t = some (.tup [kV kv.1, kv.2])) (as ++ bs) (xs ++ zs) := fun {as bs xs zs H} h1 h2 => by
        induction h1 with
        | nil => exact h2
        | cons r _ ih => exact .cons r ih
      have hL4 := s4 _ _ hL
      have te := tupX_upd (o := .lst (ts.map V.ref ++ [.ref t])) hL4 (fun xs z => by cases z)
      refine app (Paired.mapP hts fun x kv h => te _ _ (s4 _ _ h)) (.cons ?_ .nil)
      have := te _ _ (show (upd (upd H3 l (.lst [])) t (.tup [.int (0 + (i : Int)), .ref l])) t = some (.tup [.int (0 + (i : Int)), .ref l]) from upd_same)
      rw [this]
      show some (HO.tup [V.int (0 + (i : Int)), V.ref l]) = some (HO.tup [V.int (i : Int), V.ref l])
      rw [Int.zero_add]
    · have lp : l ≠ p := fun e => by
        rw [e, s3 _ _ hp] at nl
        cases nl
      have lL : l ≠ L := fun e => by
        rw [e, hL] at nl
        cases nl
      intro k' hk'
      by_cases e : k' = (i : Int)
      · show (upd _ L _) (if k' = (i : Int) then l else q2 k') = _ ∧ (if k' = (i : Int) then l else q2 k') ≠ p ∧ (if k' = (i : Int) then l else q2 k') ≠ L
        rw [if_pos e]
        refine ⟨?_, lp, lL⟩
        rw [upd_ne lL]
        exact same_upd nt _ _ upd_same
      · show (upd _ L _) (if k' = (i : Int) then l else q2 k') = _ ∧ (if k' = (i : Int) then l else q2 k') ≠ p ∧ (if k' = (i : Int) then l else q2 k') ≠ L
        rw [if_neg e]
        have hm' : k' ∈ dmOf i := by
          rw [mem_dm] at hk' ⊢
          omega
        refine ⟨?_, (hq2 k' hm').2⟩
        rw [upd_ne]
        · exact s4 _ _ (hq2 k' hm').1
        · exact (hq2 k' hm').2.2
  · rintro H3 ⟨s3, ts, q2, hL, hts, hq2⟩
    refine ⟨L, ts, _, rfl, SqL.of hL, Paired.mapP hts fun t kv h => SqT.of h, fun d1 nd1 => ?_⟩
    rw [merge_tab]
    have s4 := same_upd (o := .dK (tabK (dmOf m) fun k => V.ref (q2 k))) nd1
    refine q _ d1 ⟨But.of (s3.trans s4), ⟨a, b, d, s4 _ _ (s3 _ _ hp)⟩, ⟨q2, upd_same, fun k hk => ⟨s4 _ _ (hq2 k hk).1, (hq2 k hk).2.1⟩⟩, ?_, gr_nil _⟩
    exact s3.free nd1
end
end KT
set_option maxRecDepth 100000
set_option maxHeartbeats 4000000
/-! law: the links -/
namespace KT
open PySem PySem.Spec PyProof.Rows L2 KR KM GxR
section
variable {P : Program} {w : World} {K : PySem.W.Frag} {mg : Str → Option Value} {base : Heap}
variable {f c : Addr} {A : Around} {outer : List Env} {s : Shared} {H₀ : Hp} {E : XK}
/-- near[k], near[j] = near[k] + [j], near[j] + [k] -/
theorem ps_link {lv : Nat} (hr : Room lv (XL P w K mg base f c A outer s H₀ E).A) {p1 p2 p3 p4 p5 p6 p7 p8 p9 p10 p11 p12 p13 p14 p15 p16 p17 p18 p19 p20 p21 : Pos} : PS (XL P w K mg base f c A outer s H₀ E)
    (.Assign [.Tuple [.Subscript (.Name "_law_near" p1) (.Name "_law_k" p2) p3, .Subscript (.Name "_law_near" p4) (.Name "_law_j" p5) p6] 0 p7]
      (.Tuple [.BinOp (.Subscript (.Name "_law_near" p8) (.Name "_law_k" p9) p10) .Add (.List [.Name "_law_j" p11] p12) p13, .BinOp (.Subscript (.Name "_law_near" p14) (.Name "_law_j" p15) p16) .Add (.List [.Name "_law_k" p17] p18) p19] 0 p20) p21)
    (fun D σ H => ∃ (y0 y1 y2 y6 y7 y8 y9 y10 y11 y12 y13 y14 y15 y16 y17 y18 : Option V) (H1 : Hp) (p nr : Addr) (m : Nat) (G : Int → List Int) (k j : Int), σ = [y0, y1, y2, some (.int k), some (.ref nr), some (.int j), y6, y7, y8, y9, y10, y11, y12, y13, y14, y15, y16, y17, y18] ∧ GS H1 H p nr m G ∧ m ≤ 6 ∧ k ∈ dmOf m ∧ j ∈ dmOf m ∧ j ≠ k ∧ (∀ x, (G x).length ≤ 20) ∧
      ∀ H', GS H1 H' p nr m (addE G k j) → D.nx σ H') := by
  have hu := hu_of hr
  refine PS.imp (ps_asg (pe_tup (pa_cons (pe_op op_cat (pe_dget hu (pv 4) (pv 3) (fun _ _ => rfl)) (pe_lst (pa_cons (pv 5) pa_nil))) (pa_cons (pe_op op_cat (pe_dget hu (pv 4) (pv 5) (fun _ _ => rfl)) (pe_lst (pa_cons (pv 3) pa_nil))) pa_nil)))
    (pg_tup rfl (pgs_cons (pg_sub (pv 4) (pv 3) (set_D hu)) (pgs_cons (pg_sub (pv 4) (pv 5) (set_D hu)) pgs_nil)))) ?_
  rintro D σ H ⟨y0, y1, y2, y6, y7, y8, y9, y10, y11, y12, y13, y14, y15, y16, y17, y18, H1, p, nr, m, G, k, j, rfl, g, hm, hk, hj, hne, hl, q⟩
  obtain ⟨q1, hnr, hq⟩ := g.near
  obtain ⟨da, db, dc, hd⟩ := g.dice
  have hdl : (dmOf m).length ≤ 6 := by rw [dm_len]; exact hm
  have szl := sizeLine_eq
  have hlk := hl k
  have hlj := hl j
  refine ⟨.ref nr, rfl, .int k, rfl, nr, _, rfl, dget_ints (f := fun k => V.ref (q1 k)) hnr hk, .int j, rfl, by show 1 ≤ sizeLine; decide, fun a1 na1 => ?_⟩
  have s1 := same_upd (o := .lst [.int j]) na1
  refine ⟨q1 k, a1, (G k).map V.int, [.int j], rfl, rfl, s1 _ _ (hq k hk).1, upd_same, by rw [List.length_map]; show _ + 1 ≤ _; omega, fun a2 na2 => ?_⟩
  have s2 := s1.trans (same_upd (o := .lst ((G k).map V.int ++ [.int j])) na2)
  have e2 : (upd (upd H a1 (.lst [.int j])) a2 (.lst ((G k).map V.int ++ [.int j]))) a2 = some (.lst ((G k).map V.int ++ [.int j])) := upd_same
  have f2 : H a2 = none := s1.free na2
  revert s2 e2
  generalize upd (upd H a1 (.lst [.int j])) a2 (.lst ((G k).map V.int ++ [.int j])) = H2
  intro s2 e2
  refine ⟨.ref nr, rfl, .int j, rfl, nr, _, rfl, dget_ints (f := fun k => V.ref (q1 k)) (s2 _ _ hnr) hj, .int k, rfl, by show 1 ≤ sizeLine; decide, fun a3 na3 => ?_⟩
  have s3 := same_upd (o := .lst [.int k]) na3
  refine ⟨q1 j, a3, (G j).map V.int, [.int k], rfl, rfl, s3 _ _ (s2 _ _ (hq j hj).1), upd_same, by rw [List.length_map]; show _ + 1 ≤ _; omega, fun a4 na4 => ⟨le2, fun t nt => ?_⟩⟩
  have s4 := same_upd (o := .lst ((G j).map V.int ++ [.int k])) na4
  have s5 := same_upd (o := .tup [.ref a2, .ref a4]) nt
  have f4 : H a4 = none := s2.free (s3.free na4)
  have n24 : a4 ≠ a2 := fun e => by
    rw [e, s3 _ _ e2] at na4
    cases na4
  have z2 : (upd (upd (upd H2 a3 (.lst [.int k])) a4 (.lst ((G j).map V.int ++ [.int k]))) t (.tup [.ref a2, .ref a4])) a2 = some (.lst ((G k).map V.int ++ [.int j])) := s5 _ _ (s4 _ _ (s3 _ _ e2))
  have z4 : (upd (upd (upd H2 a3 (.lst [.int k])) a4 (.lst ((G j).map V.int ++ [.int k]))) t (.tup [.ref a2, .ref a4])) a4 = some (.lst ((G j).map V.int ++ [.int k])) := s5 _ _ upd_same
  have zt : (upd (upd (upd H2 a3 (.lst [.int k])) a4 (.lst ((G j).map V.int ++ [.int k]))) t (.tup [.ref a2, .ref a4])) t = some (.tup [.ref a2, .ref a4]) := upd_same
  have s6 := s2.trans (s3.trans (s4.trans s5))
  revert z2 z4 zt s6
  generalize upd (upd (upd H2 a3 (.lst [.int k])) a4 (.lst ((G j).map V.int ++ [.int k]))) t (.tup [.ref a2, .ref a4]) = H3
  intro z2 z4 zt s6
  have n2 : a2 ≠ nr := fun e => by rw [e, hnr] at f2; cases f2
  have n4 : a4 ≠ nr := fun e => by rw [e, hnr] at f4; cases f4
  have m2 : a2 ≠ p := fun e => by rw [e, hd] at f2; cases f2
  have m4 : a4 ≠ p := fun e => by rw [e, hd] at f4; cases f4
  have w1 : (upd H3 nr (.dK (putK (tabK (dmOf m) fun k => V.ref (q1 k)) (Sum.inl k) (.ref a2)))) nr = some (.dK (putK (tabK (dmOf m) fun k => V.ref (q1 k)) (Sum.inl k) (.ref a2))) := upd_same
  refine ⟨t, [.ref a2, .ref a4], rfl, SqT.of zt, rfl, .ref a2, [.ref a4], rfl, .ref nr, rfl, .int k, rfl, nr, _, rfl, DPut.k (k := Sum.inl k) (s6 _ _ hnr) (small (by unfold tabK; rw [List.length_map]; omega)), .ref a4, [], rfl, .ref nr, rfl, .int j, rfl, nr, _, rfl, DPut.k (k := Sum.inl j) w1 (small (by
    rw [put_tab hk]
    unfold tabK
    rw [List.length_map]
    omega)), rfl, ?_⟩
  refine q _ ⟨fun b o hb e => ?_, ⟨da, db, dc, ?_⟩, ⟨fun x => if x = j then a4 else if x = k then a2 else q1 x, ?_, fun x hx => ?_⟩, g.fr, gr_add g.gr hk hj hne⟩
  · have hbn : b ≠ nr := ne_of_none e g.fr
    rw [upd_ne hbn, upd_ne hbn]
    exact s6 _ _ (g.but b o hb e)
  · rw [upd_ne g.nrp.symm, upd_ne g.nrp.symm]
    exact s6 _ _ hd
  · rw [upd_same, put_tab hk, put_tab hj]
    unfold tabK
    congr 2
    apply List.map_congr_left
    intro x _
    show ((Sum.inl x : Key), if x = j then V.ref a4 else if x = k then V.ref a2 else V.ref (q1 x)) = ((Sum.inl x : Key), V.ref (if x = j then a4 else if x = k then a2 else q1 x))
    by_cases h1 : x = j
    · rw [if_pos h1, if_pos h1]
    · rw [if_neg h1, if_neg h1]
      by_cases h2 : x = k
      · rw [if_pos h2, if_pos h2]
      · rw [if_neg h2, if_neg h2]
  · show upd (upd H3 nr _) nr _ (if x = j then a4 else if x = k then a2 else q1 x) = some (.lst ((addE G k j x).map V.int)) ∧ (if x = j then a4 else if x = k then a2 else q1 x) ≠ p
    unfold addE
    by_cases h1 : x = j
    · rw [if_pos h1, if_pos h1]
      refine ⟨?_, m4⟩
      rw [upd_ne n4, upd_ne n4, z4, List.map_append]
      rfl
    · rw [if_neg h1, if_neg h1]
      by_cases h2 : x = k
      · rw [if_pos h2, if_pos h2]
        refine ⟨?_, m2⟩
        rw [upd_ne n2, upd_ne n2, z2, List.map_append]
        rfl
      · rw [if_neg h2, if_neg h2]
        have hqx := hq x hx
        have nq : q1 x ≠ nr := fun e => by
          rw [e, hnr] at hqx
          cases hqx.1
        refine ⟨?_, hqx.2⟩
        rw [upd_ne nq, upd_ne nq]
        exact s6 _ _ hqx.1
end
end KT
set_option maxRecDepth 100000
set_option maxHeartbeats 4000000
/-! law: the tree, the turns -/
namespace KT
open PySem PySem.Spec PyProof.Rows L2 KR KM GxR
theorem roll_iff {j k : Int} : (!decide (V.int j = V.int k)) = true ↔ j ≠ k := by
  simp
section
variable {P : Program} {w : World} {K : PySem.W.Frag} {mg : Str → Option Value} {base : Heap}
variable {f c : Addr} {A : Around} {outer : List Env} {s : Shared} {H₀ : Hp} {E : XK} {fR : Addr} {fdR : FuncData}
abbrev CalR (P : Program) (w : World) (K : PySem.W.Frag) (mg : Str → Option Value) (base : Heap) (fR : Addr) (fdR : FuncData) : Prop := Cal P w K mg base CX0 1 "_law_roll" ["_law_dice_here", "_law_many"] spRoll fR fdR
/-- for k in range(1, many) -/
theorem st_tree (hr : Room 4 (XL P w K mg base f c A outer s H₀ E).A) (R : CalR P w K mg base fR fdR) (mR : mg "range" = none) : PS (XL P w K mg base f c A outer s H₀ E) (lb 2)
    (fun D σ H => ∃ (y0 y3 y5 y6 y7 y8 y9 y10 y11 y12 y13 y14 y15 y16 y17 y18 : Option V) (H1 : Hp) (p nr : Addr) (m : Nat), σ = [y0, some (.ref p), some (.int (m : Nat)), y3, some (.ref nr), y5, y6, y7, y8, y9, y10, y11, y12, y13, y14, y15, y16, y17, y18] ∧ GS H1 H p nr m (fun _ => []) ∧ 1 ≤ m ∧ m ≤ 6 ∧
      ∀ H' G y3 y5, GS H1 H' p nr m G → Hang G m → (∀ x, (G x).length ≤ 6) → D.nx [y0, some (.ref p), some (.int (m : Nat)), y3, some (.ref nr), y5, y6, y7, y8, y9, y10, y11, y12, y13, y14, y15, y16, y17, y18] H') := by
  refine PS.imp (ps_for PassesOwn.never rfl (pi_range2 (by rfl) mR (pa_cons pe_int (pa_cons (pv 2) pa_nil))) (pg_name (i := 3) scL.nd rfl (.inl rfl))
    (pss_cons (ps_set (i := 5) scL.nd rfl (.inl rfl) (pe_call R.ok (hr.mono (by decide)) (by rfl) R.mg R.kp R.bd .nil pass0 (pa_cons (pv 1) (pa_cons (pv 3) pa_nil)))) (pss_one (ps_link hr)))) ?_
  rintro D σ H ⟨y0, y3, y5, y6, y7, y8, y9, y10, y11, y12, y13, y14, y15, y16, y17, y18, H1, p, nr, m, rfl, g, h1, h6, q⟩
  refine ⟨.int (m : Nat), rfl, 1, _, rfl, ⟨by omega, by omega, by omega, by omega⟩, ?_⟩
  have e0 : ((m : Int) - 1).toNat = m - 1 := by omega
  rw [e0]
  refine for_range (lo := 1) (n := m - 1) (fun i σ H3 => ∃ y3 y5 G, σ = [y0, some (.ref p), some (.int (m : Nat)), y3, some (.ref nr), y5, y6, y7, y8, y9, y10, y11, y12, y13, y14, y15, y16, y17, y18] ∧ GS H1 H3 p nr m G ∧ Hang G (1 + (i : Int)) ∧ ∀ x, (G x).length ≤ i) ⟨y3, y5, _, rfl, g, hang_one _, fun _ => Nat.le_refl _⟩ ?_ ?_
  · rintro i σ H3 hi ⟨y3, y5, G, rfl, g3, hh, hl⟩
    obtain ⟨a, b, d, hd⟩ := g3.dice
    refine ⟨.ref p, rfl, .int (1 + (i : Int)), rfl, p, a, b, d, _, rfl, hd, by omega, by omega, fun H4 r a' b' c' b4 hd4 r0 r1 => ?_⟩
    have g4 := g3.roll b4 ⟨a', b', c', hd4⟩
    refine ⟨_, _, _, _, _, _, _, _, _, _, _, _, _, _, _, _, H1, p, nr, m, G, 1 + (i : Int), r, rfl, g4, h6, mem_dm.mpr ⟨by omega, by omega⟩, mem_dm.mpr ⟨by omega, by omega⟩, by omega, fun x => Nat.le_trans (hl x) (by omega), fun H5 g5 => ?_⟩
    refine ⟨_, _, _, rfl, g5, ?_, addE_len hl⟩
    have e : (1 + ((i + 1 : Nat) : Int)) = (1 + (i : Int)) + 1 := by omega
    rw [e]
    exact hang_tree hh r0 r1
  · rintro σ H3 ⟨y3, y5, G, rfl, g3, hh, hl⟩
    refine q H3 G y3 y5 g3 ?_ (fun x => Nat.le_trans (hl x) (by omega))
    have e : (1 + ((m - 1 : Nat) : Int)) = (m : Int) := by omega
    rw [e] at hh
    exact hh
/-- for turn in range(roll(dice, 4)) -/
theorem st_turns (hr : Room 4 (XL P w K mg base f c A outer s H₀ E).A) (R : CalR P w K mg base fR fdR) (mR : mg "range" = none) : PS (XL P w K mg base f c A outer s H₀ E) (lb 3)
    (fun D σ H => ∃ (y0 y3 y5 y6 y7 y8 y9 y10 y11 y12 y13 y14 y15 y16 y17 y18 : Option V) (H1 : Hp) (p nr : Addr) (m : Nat) (G : Int → List Int), σ = [y0, some (.ref p), some (.int (m : Nat)), y3, some (.ref nr), y5, y6, y7, y8, y9, y10, y11, y12, y13, y14, y15, y16, y17, y18] ∧ GS H1 H p nr m G ∧ Hang G m ∧ (∀ x, (G x).length ≤ 6) ∧ 1 ≤ m ∧ m ≤ 6 ∧
      ∀ H' G y3 y5 y6, GS H1 H' p nr m G → Hang G m → (∀ x, (G x).length ≤ 10) → D.nx [y0, some (.ref p), some (.int (m : Nat)), y3, some (.ref nr), y5, y6, y7, y8, y9, y10, y11, y12, y13, y14, y15, y16, y17, y18] H') := by
  have hu := hu_of hr
  refine PS.imp (ps_for PassesOwn.never rfl (pi_range1 (by rfl) mR (pa_cons (pe_call R.ok (hr.mono (by decide)) (by rfl) R.mg R.kp R.bd .nil pass0 (pa_cons (pv 1) (pa_cons pe_int pa_nil))) pa_nil)) (pg_name (i := 6) scL.nd rfl (.inl rfl))
    (pss_cons (ps_par (i := 5) (j := 3) rfl scL.nd rfl rfl (by decide) rfl rfl (pa_cons (pe_call R.ok (hr.mono (by decide)) (by rfl) R.mg R.kp R.bd .nil pass0 (pa_cons (pv 1) (pa_cons (pv 2) pa_nil))) (pa_cons (pe_call R.ok (hr.mono (by decide)) (by rfl) R.mg R.kp R.bd .nil pass0 (pa_cons (pv 1) (pa_cons (pv 2) pa_nil))) pa_nil)) (by rfl))
      (pss_one (ps_if (PW.pt (pw_and (pt_cmpR op_ne (pv 5) (pv 3) (nomark _)) (pw_and1 (pt_cmpR op_notIn_seq (pv 5) (pe_dget hu (pv 4) (pv 3) (fun _ _ => rfl)) (by rfl))))) (pss_one (ps_link hr)) pss_nil)))) ?_
  rintro D σ H ⟨y0, y3, y5, y6, y7, y8, y9, y10, y11, y12, y13, y14, y15, y16, y17, y18, H1, p, nr, m, G, rfl, g, hh, hl, h1, h6, q⟩
  obtain ⟨a, b, d, hd⟩ := g.dice
  refine ⟨.ref p, rfl, p, a, b, d, 4, rfl, hd, by decide, by decide, fun H2 r a' b' c' b2 hd2 r0 r1 => ⟨r, rfl, by omega, by omega, ?_⟩⟩
  refine for_range (lo := 0) (n := r.toNat) (fun i σ H3 => ∃ y3 y5 y6 G, σ = [y0, some (.ref p), some (.int (m : Nat)), y3, some (.ref nr), y5, y6, y7, y8, y9, y10, y11, y12, y13, y14, y15, y16, y17, y18] ∧ GS H1 H3 p nr m G ∧ Hang G m ∧ ∀ x, (G x).length ≤ 6 + i) ⟨y3, y5, y6, G, rfl, g.roll b2 ⟨a', b', c', hd2⟩, hh, hl⟩ ?_ ?_
  · clear hd hd2 g hh hl
    rintro i σ H3 hi ⟨y3, y5, y6, G, rfl, g3, hh, hl⟩
    obtain ⟨a, b, d, hd⟩ := g3.dice
    refine ⟨.ref p, rfl, .int (m : Nat), rfl, p, a, b, d, _, rfl, hd, by omega, by omega, fun H4 j a4 b4 c4 k4 hd4 j0 j1 => ?_⟩
    refine ⟨.ref p, rfl, .int (m : Nat), rfl, p, a4, b4, c4, _, rfl, hd4, by omega, by omega, fun H5 k a5 b5 c5 k5 hd5 k0 k1 => ⟨.int j, .int k, rfl, ?_⟩⟩
    have g5 := g3.roll (k4.trans k5) ⟨a5, b5, c5, hd5⟩
    have hk : k ∈ dmOf m := mem_dm.mpr ⟨k0, k1⟩
    have hj : j ∈ dmOf m := mem_dm.mpr ⟨j0, j1⟩
    refine ⟨.int j, rfl, .int k, rfl, rfl, _, rfl, ?_⟩
    by_cases hne : j = k
    · have : (!decide (V.int j = V.int k)) = false := by rw [hne]; simp
      refine ite_neg' (b := !decide (V.int j = V.int k)) (by rw [this]; decide) ?_
      exact ⟨_, _, _, G, rfl, g5, hh, fun x => Nat.le_trans (hl x) (by omega)⟩
    · refine ite_pos' (b := !decide (V.int j = V.int k)) (roll_iff.mpr hne) ?_
      obtain ⟨q5, h5, hq5⟩ := g5.near
      refine ⟨.int j, rfl, .ref nr, rfl, .int k, rfl, nr, _, rfl, dget_ints (f := fun k => V.ref (q5 k)) h5 hk, q5 k, _, rfl, .inl (SqL.of (hq5 k hk).1), rfl, flat_ints _, _, rfl, ?_⟩
      rw [inV_ints]
      cases hc : (G k).contains j with
      | true => exact ⟨_, _, _, G, rfl, g5, hh, fun x => Nat.le_trans (hl x) (by omega)⟩
      | false =>
        refine ⟨_, _, _, _, _, _, _, _, _, _, _, _, _, _, _, _, H1, p, nr, m, G, k, j, rfl, g5, h6, hk, hj, hne, fun x => Nat.le_trans (hl x) (by omega), fun H6 g6 => ?_⟩
        exact ⟨_, _, _, _, rfl, g6, hang_add hne hh, fun x => Nat.le_trans (addE_len hl x) (by omega)⟩
  · rintro σ H3 ⟨y3, y5, y6, G, rfl, g3, hh, hl⟩
    exact q H3 G y3 y5 y6 g3 hh fun x => Nat.le_trans (hl x) (by omega)
end
end KT
set_option maxRecDepth 100000
set_option maxHeartbeats 4000000
/-! law: the rows sorted, the root, the levels -/
namespace KT
open PySem PySem.Spec PyProof.Rows L2 KR KM GxR
theorem dget_frz {H : Hp} {d : Addr} {o : Obj} {dm : List Int} {f : Int → V} {k : Int} (h : H d = some (.frz o (.dK (tabK dm f)))) (hk : k ∈ dm) : DGet H d (.int k) (some (f k)) := by
  refine .inl ⟨_, Sum.inl k, .inr ⟨o, h⟩, rfl, ?_⟩
  unfold tabK
  rw [valV_ints, if_pos hk]
theorem tab_get {m i : Nat} {f : Int → V} {k : Key} {v : V} (h : (tabK (dmOf m) f)[i]? = some (k, v)) : k = Sum.inl (i : Int) ∧ v = f i ∧ i < m := by
  have hi : i < m := by
    have := (List.getElem?_eq_some_iff.mp h).1
    unfold tabK at this
    rw [List.length_map, dm_len] at this
    exact this
  unfold tabK at h
  rw [List.getElem?_map, dm_get hi] at h
  cases h
  exact ⟨rfl, rfl, hi⟩
theorem tab_len {m : Nat} {f : Int → V} : (tabK (dmOf m) f).length = m := by
  unfold tabK
  rw [List.length_map, dm_len]
theorem tab_snoc {i : Nat} {f : Int → Addr} {t : Addr} : tabK (dmOf (i + 1)) (fun k => V.ref (if k = (i : Int) then t else f k)) = tabK (dmOf i) (fun k => V.ref (f k)) ++ [((Sum.inl (i : Int) : Key), V.ref t)] := by
  unfold tabK dmOf
  rw [List.range_succ, List.map_append, List.map_append]
  congr 1
  · rw [List.map_map, List.map_map]
    apply List.map_congr_left
    intro z hz
    have := List.mem_range.mp hz
    show ((Sum.inl (z : Int) : Key), V.ref (if (z : Int) = (i : Int) then t else f z)) = ((Sum.inl (z : Int) : Key), V.ref (f z))
    rw [if_neg (by omega)]
  · show [((Sum.inl (i : Int) : Key), V.ref (if (i : Int) = (i : Int) then t else f i))] = _
    rw [if_pos rfl]
theorem prs_app {as bs : List Addr} {xs zs : List (Key × V)} {H : Hp} (h1 : Paired (fun t (kv : Key × V) => H t = some (.tup [kV kv.1, kv.2])) as xs) (h2 : Paired (fun t (kv : Key × V) => H t = some (.tup [kV kv.1, kv.2])) bs zs) : Paired (fun t (kv : Key × V) => H t = some (.tup [kV kv.1, kv.2])) (as ++ bs) (xs ++ zs) := by
  induction h1 with
  | nil => exact h2
  | cons r _ ih => exact .cons r ih
/-- the graph, its levels -/
structure BS (H1 HB : Hp) (p nr sd : Addr) (m : Nat) (G : Int → List Int) (root : Int) (C : List Int) (S : Int → Int) : Prop where
  gs : GS H1 HB p nr m G
  st : StepsAt HB sd C S
  lv : Lv G root C S
  rt : root ∈ dmOf m
  sub : ∀ k ∈ C, k ∈ dmOf m
  all : ∀ k ∈ dmOf m, k ∈ C
  re : ∀ a ∈ dmOf m, ∀ b ∈ dmOf m, ∃ n, Wk G a n b
  len : ∀ x ∈ dmOf m, (G x).length ≤ 10
  m1 : 1 ≤ m
  m6 : m ≤ 6
section
variable {P : Program} {w : World} {K : PySem.W.Frag} {mg : Str → Option Value} {base : Heap}
variable {f c : Addr} {A : Around} {outer : List Env} {s : Shared} {H₀ : Hp} {E : XK} {fR fV : Addr} {fdR fdV : FuncData}
/-- near = dict([(k, sorted(near[k])) for k in near]) -/
theorem st_sort (hr : Room 4 (XL P w K mg base f c A outer s H₀ E).A) (mD : mg "dict" = none) (mS : mg "sorted" = none) : PS (XL P w K mg base f c A outer s H₀ E) (lb 4)
    (fun D σ H => ∃ (y0 y1 y2 y3 y5 y6 y7 y8 y9 y10 y11 y12 y13 y14 y15 y16 y17 y18 : Option V) (H1 : Hp) (p nr : Addr) (m : Nat) (G : Int → List Int), σ = [y0, y1, y2, y3, some (.ref nr), y5, y6, y7, y8, y9, y10, y11, y12, y13, y14, y15, y16, y17, y18] ∧ GS H1 H p nr m G ∧ Hang G m ∧ (∀ x, (G x).length ≤ 10) ∧ 1 ≤ m ∧ m ≤ 6 ∧
      ∀ H' nr G, GS H1 H' p nr m G → Hang G m → (∀ x ∈ dmOf m, (G x).length ≤ 10) → D.nx [y0, y1, y2, y3, some (.ref nr), y5, y6, y7, y8, y9, y10, y11, y12, y13, y14, y15, y16, y17, y18] H') := by
  have hu := hu_of hr
  refine PS.imp (ps_set (i := 4) scL.nd rfl (.inr rfl) (pe_callTy (call_dictP rfl) (by rfl) mD (by decide +kernel) (pa_cons
      (pe_lock (pe_lc (own := [("_law_k", 3)]) (g := gName 3) (tt := tYes) rfl scL.nd (pi_keys (pv 4)) (blkOk_by (own := [("_law_k", 3)]) (N := nmLaw) (sc := defScope sLaw) (by decide +kernel))
        (fun _ _ _ _ _ => pg_name (i := 3) scL.nd rfl (Or.inl rfl)) (fun _ _ _ _ _ => pts_nil) (fun _ _ _ _ _ => pe_tup (pa_cons (pv 3) (pa_cons (pe_callB (r := rSorted K) cr_sorted (by rfl) mS (by decide +kernel) (pa_cons (pe_dget hu (pv 4) (pv 3) (fun _ _ => rfl)) pa_nil)) pa_nil))))) pa_nil))) ?_
  rintro D σ H ⟨y0, y1, y2, y3, y5, y6, y7, y8, y9, y10, y11, y12, y13, y14, y15, y16, y17, y18, H1, p, nr, m, G, rfl, g, hh, hl, h1, h6, q⟩
  obtain ⟨q1, hnr, hq⟩ := g.near
  obtain ⟨da, db, dc, hd⟩ := g.dice
  refine ⟨nr, _, hnr, trivial, fun od => ⟨.ref nr, rfl, nr, od, rfl, .inl ⟨_, upd_same, fun L nL => ?_⟩⟩⟩
  have sL := same_upd (o := .lst []) nL
  have nrp := g.nrp
  have hqn : ∀ k ∈ dmOf m, q1 k ≠ nr := fun k hk e => by
    have := (hq k hk).1
    rw [e, hnr] at this
    cases this
  refine lc_it walk_keys (fun i H3 => Same (upd H nr (.frz od (.dK (tabK (dmOf m) fun k => V.ref (q1 k))))) H3 ∧ ∃ (ts : List Addr) (q : Int → Addr) (gs : Int → List Int), H3 L = some (.lst (ts.map V.ref)) ∧ Paired (fun t (kv : Key × V) => H3 t = some (.tup [kV kv.1, kv.2])) ts (tabK (dmOf i) fun k => V.ref (q k)) ∧ ∀ k ∈ dmOf i, H3 (q k) = some (.lst ((gs k).map V.int)) ∧ (gs k).Perm (G k) ∧ q k ≠ p ∧ q k ≠ L)
    ⟨sL, [], fun _ => 0, fun _ => [], upd_same, .nil, fun k hk => by simp [dmOf] at hk⟩ (fun i H3 _ z => z.1 _ _ upd_same) ?_ ?_
  · rintro i x H3 H4 hi ⟨s3, ts, q2, gs, hL, hts, hq2⟩ ⟨rfl, k, v, hkv, rfl⟩
    obtain ⟨rfl, rfl, him⟩ := tab_get hkv
    have hk : (i : Int) ∈ dmOf m := mem_dm.mpr ⟨by omega, by omega⟩
    have hqk : H4 (q1 i) = some (.lst ((G i).map V.int)) := s3 _ _ (by rw [upd_ne (hqn _ hk)]; exact (hq _ hk).1)
    refine ⟨rfl, .int (i : Int), rfl, .ref nr, rfl, .int (i : Int), rfl, nr, _, rfl, dget_frz (f := fun k => V.ref (q1 k)) (s3 _ _ upd_same) hk, q1 i, G i, rfl, SqL.of hqk, Nat.lt_of_le_of_lt (hl _) (by decide), fun ns l hperm hsort nl => ⟨le2, fun t nt => ⟨ts.map V.ref, ?_, ?_, ?_, ts ++ [t], fun k => if k = i then l else q2 k, fun k => if k = i then ns else gs k, ?_, ?_, ?_⟩⟩⟩
    all_goals (have s4 : Same H4 (upd (upd H4 l (.lst (ns.map V.int))) t (.tup [.int (i : Int), .ref l])) := (same_upd nl).trans (same_upd nt))
    all_goals (have tl := Paired.length hts)
    · exact s4 _ _ hL
    · refine small2 ?_
      rw [List.length_map, tl, tab_len]
      omega
    · intro b' o' e
      rw [upd_ne (ne_of_none e nL)]
      exact s4 _ _ (s3 _ _ e)
    · rw [upd_same, List.map_append]
      rfl
    · rw [tab_snoc]
      have hL4 := s4 _ _ hL
      have te := tupX_upd (o := .lst (ts.map V.ref ++ [.ref t])) hL4 (fun xs z => by cases z)
      exact prs_app (Paired.mapP hts fun x kv h => te _ _ (s4 _ _ h)) (.cons (te _ _ (show (upd (upd H4 l (.lst (ns.map V.int))) t (.tup [.int (i : Int), .ref l])) t = some (.tup [.int (i : Int), .ref l]) from upd_same)) .nil)
    · have lp : l ≠ p := fun e => by
        rw [e, s3 _ _ (show (upd H nr _) p = some _ by rw [upd_ne nrp.symm]; exact hd)] at nl
        cases nl
      have lL : l ≠ L := fun e => by
        rw [e, hL] at nl
        cases nl
      intro k' hk'
      show (upd _ L _) (if k' = (i : Int) then l else q2 k') = some (.lst ((if k' = (i : Int) then ns else gs k').map V.int)) ∧ List.Perm (if k' = (i : Int) then ns else gs k') (G k') ∧ (if k' = (i : Int) then l else q2 k') ≠ p ∧ (if k' = (i : Int) then l else q2 k') ≠ L
      by_cases e : k' = (i : Int)
      · rw [if_pos e, if_pos e, e]
        refine ⟨?_, hperm, lp, lL⟩
        rw [upd_ne lL]
        exact same_upd nt _ _ upd_same
      · rw [if_neg e, if_neg e]
        have hm' : k' ∈ dmOf i := by
          rw [mem_dm] at hk' ⊢
          omega
        obtain ⟨z1, z2, z3, z4⟩ := hq2 k' hm'
        refine ⟨?_, z2, z3, z4⟩
        rw [upd_ne z4]
        exact s4 _ _ z1
  · rintro H3 ⟨s3, ts, q2, gs, hL, hts, hq2⟩
    rw [tab_len] at hts hq2
    have hfz : H3 nr = some (.frz od (.dK (tabK (dmOf m) fun k => V.ref (q1 k)))) := s3 _ _ upd_same
    have back : ∀ {b : Addr} {o : HO}, H3 b = some o → (∀ o' u', o ≠ .frz o' u') → (upd H3 nr (.dK (tabK (dmOf m) fun k => V.ref (q1 k)))) b = some o := fun {b o} e n => by
      rw [upd_ne (fun z => by
        rw [z, hfz] at e
        exact n _ _ (Option.some.inj e).symm)]
      exact e
    have sH : Same H (upd H3 nr (.dK (tabK (dmOf m) fun k => V.ref (q1 k)))) := fun b o e => by
      by_cases hb : b = nr
      · rw [hb] at e ⊢
        rw [upd_same, ← hnr]
        exact e
      · rw [upd_ne hb]
        exact s3 _ _ (by rw [upd_ne hb]; exact e)
    refine ⟨hfz, L, ts, _, rfl, SqL.of (back hL (fun _ _ z => by cases z)), Paired.mapP hts fun t kv h => SqT.of (back h (fun _ _ z => by cases z)), fun d1 nd1 => ?_⟩
    rw [merge_tab]
    have s4 := same_upd (o := .dK (tabK (dmOf m) fun k => V.ref (q2 k))) nd1
    have hmem : ∀ x ∈ dmOf m, ∀ y, y ∈ gs x ↔ y ∈ G x := fun x hx y => (hq2 x hx).2.1.mem_iff
    refine q _ d1 gs ⟨g.but.trans (But.of (sH.trans s4)), ⟨da, db, dc, s4 _ _ (sH _ _ hd)⟩, ⟨q2, upd_same, fun k hk => ⟨s4 _ _ (back (hq2 k hk).1 (fun _ _ z => by cases z)), (hq2 k hk).2.2.1⟩⟩, ?_, gr_same g.gr hmem⟩ (fun k k0 k1 => ?_) fun x hx => ?_
    · cases e : H1 d1 with
      | none => rfl
      | some o =>
        have hp : d1 ≠ p := fun z => by
          rw [z, sH _ _ hd] at nd1
          cases nd1
        rw [sH _ _ (g.but _ _ hp e)] at nd1
        cases nd1
    · obtain ⟨n, hw⟩ := hh k k0 k1
      exact ⟨n, wk_same g.gr hmem (mem_dm.mpr ⟨Int.le_refl _, by omega⟩) hw⟩
    · rw [(hq2 x hx).2.1.length_eq]
      exact hl x
/-- root = roll(dice, many) -/
theorem st_root (hr : Room 4 (XL P w K mg base f c A outer s H₀ E).A) (R : CalR P w K mg base fR fdR) : PS (XL P w K mg base f c A outer s H₀ E) (lb 5)
    (fun D σ H => ∃ (y0 y3 y4 y5 y6 y7 y8 y9 y10 y11 y12 y13 y14 y15 y16 y17 y18 : Option V) (H1 : Hp) (p nr : Addr) (m : Nat) (G : Int → List Int), σ = [y0, some (.ref p), some (.int (m : Nat)), y3, y4, y5, y6, y7, y8, y9, y10, y11, y12, y13, y14, y15, y16, y17, y18] ∧ GS H1 H p nr m G ∧ 1 ≤ m ∧ m ≤ 6 ∧
      ∀ H' root, GS H1 H' p nr m G → root ∈ dmOf m → D.nx [y0, some (.ref p), some (.int (m : Nat)), y3, y4, y5, y6, some (.int root), y8, y9, y10, y11, y12, y13, y14, y15, y16, y17, y18] H') := by
  refine PS.imp (ps_set (i := 7) scL.nd rfl (.inr rfl) (pe_call R.ok (hr.mono (by decide)) (by rfl) R.mg R.kp R.bd .nil pass0 (pa_cons (pv 1) (pa_cons (pv 2) pa_nil)))) ?_
  rintro D σ H ⟨y0, y3, y4, y5, y6, y7, y8, y9, y10, y11, y12, y13, y14, y15, y16, y17, y18, H1, p, nr, m, G, rfl, g, h1, h6, q⟩
  obtain ⟨a, b, d, hd⟩ := g.dice
  refine ⟨.ref p, rfl, .int (m : Nat), rfl, p, a, b, d, _, rfl, hd, by omega, by omega, fun H2 r a' b' c' b2 hd2 r0 r1 => ?_⟩
  exact q H2 r (g.roll b2 ⟨a', b', c', hd2⟩) (mem_dm.mpr ⟨r0, r1⟩)
abbrev CalV (P : Program) (w : World) (K : PySem.W.Frag) (mg : Str → Option Value) (base : Heap) (fV : Addr) (fdV : FuncData) : Prop := Cal P w K mg base CX0 1 "levels" ["near", "root"] spLevels fV fdV
/-- steps, ways_here = levels(near, root), [] -/
theorem st_levels (hr : Room 4 (XL P w K mg base f c A outer s H₀ E).A) (V : CalV P w K mg base fV fdV) : PS (XL P w K mg base f c A outer s H₀ E) (lb 6)
    (fun D σ H => ∃ (y0 y1 y2 y3 y5 y6 y8 y9 y10 y11 y12 y13 y14 y15 y16 y17 y18 : Option L2.V) (H1 : Hp) (p nr : Addr) (m : Nat) (G : Int → List Int) (root : Int), σ = [y0, y1, y2, y3, some (.ref nr), y5, y6, some (.int root), y8, y9, y10, y11, y12, y13, y14, y15, y16, y17, y18] ∧ GS H1 H p nr m G ∧ Hang G m ∧ (∀ x ∈ dmOf m, (G x).length ≤ 10) ∧ root ∈ dmOf m ∧ 1 ≤ m ∧ m ≤ 6 ∧
      ∀ H' HB sd wl C S, BS H1 HB p nr sd m G root C S → HB wl = none → Same HB H' → H' wl = some (.lst []) → D.nx [y0, y1, y2, y3, some (.ref nr), y5, y6, some (.int root), some (.ref sd), some (.ref wl), y10, y11, y12, y13, y14, y15, y16, y17, y18] H') := by
  refine PS.imp (ps_asg (pe_tup (pa_cons (pe_call V.ok (hr.mono (by decide)) (by rfl) V.mg V.kp V.bd .nil pass0 (pa_cons (pv 4) (pa_cons (pv 7) pa_nil))) (pa_cons (pe_lst pa_nil) pa_nil)))
    (pg_tup rfl (pgs_cons (pg_name (i := 8) scL.nd rfl (.inr rfl)) (pgs_cons (pg_name (i := 9) scL.nd rfl (.inl rfl)) pgs_nil)))) ?_
  rintro D σ H ⟨y0, y1, y2, y3, y5, y6, y8, y9, y10, y11, y12, y13, y14, y15, y16, y17, y18, H1, p, nr, m, G, root, rfl, g, hh, hl, hrt, h1, h6, q⟩
  refine ⟨.ref nr, rfl, .int root, rfl, nr, dmOf m, G, root, rfl, g.at_, g.gr.cl, hrt, by rw [dm_len]; omega, fun H2 sd C S s2 hst nsd hlv hsub => ⟨Nat.zero_le _, fun wl nwl => ⟨le2, fun t nt => ?_⟩⟩⟩
  have g2 := g.ext s2
  have hre : ∀ a ∈ dmOf m, ∀ b ∈ dmOf m, ∃ n, Wk G a n b := fun a ha b hb => hang_all g.gr hh (fun k => mem_dm) ha hb
  have s3 := same_upd (o := .lst []) nwl
  have s4 := same_upd (o := .tup [.ref sd, .ref wl]) nt
  refine ⟨t, _, rfl, SqT.of upd_same, rfl, .ref sd, _, rfl, .ref wl, _, rfl, rfl, ?_⟩
  refine q _ H2 sd wl C S ⟨g2, hst, hlv, hrt, hsub, fun k hk => ?_, hre, hl, h1, h6⟩ nwl (s3.trans s4) (s4 _ _ upd_same)
  obtain ⟨n, hw⟩ := hre root hrt k hk
  exact lv_all hlv hw
end
end KT
set_option maxRecDepth 100000
set_option maxHeartbeats 4000000
/-! law: the levels tested -/
namespace KT
open PySem PySem.Spec PyProof.Rows L2 KR KM GxR
def scIn1 : Scope := { kind := .function, names := [((".0" : Str), NameKind.local), (("_law_k" : Str), NameKind.cell), (("_law_near" : Str), NameKind.cell), (("_law_steps" : Str), NameKind.cell)], isGenerator := false, isCoroutine := false, more := [] }
def scIn2 : Scope := { kind := .function, names := [((".0" : Str), NameKind.local), (("_law_k" : Str), NameKind.local), (("min" : Str), NameKind.globalImplicit), (("_law_near" : Str), NameKind.cell), (("_law_root" : Str), NameKind.cell), (("_law_steps" : Str), NameKind.cell)], isGenerator := false, isCoroutine := false, more := [] }
section
variable {P : Program} {w : World} {K : PySem.W.Frag} {mg : Str → Option Value} {base : Heap}
variable {f c : Addr} {A : Around} {outer : List Env} {s : Shared} {H₀ : Hp} {E : XK} {fF : Addr} {fdF : FuncData}
abbrev CalF (P : Program) (w : World) (K : PySem.W.Frag) (mg : Str → Option Value) (base : Heap) (fF : Addr) (fdF : FuncData) : Prop := Cal P w K mg base CX0 1 "_law_flat" ["_law_rows"] spFlat fF fdF
theorem st_test (hr : Room 4 (XL P w K mg base f c A outer s H₀ E).A) (F : CalF P w K mg base fF fdF) (mA : mg "abs" = none) (mM : mg "min" = none) : PS (XL P w K mg base f c A outer s H₀ E) (lb 7)
    (fun D σ H => ∃ (y0 y1 y2 y3 y5 y6 y9 y10 y11 y12 y13 y14 y15 y16 y17 y18 : Option V) (H1 HB : Hp) (p nr sd : Addr) (m : Nat) (G : Int → List Int) (root : Int) (C : List Int) (S : Int → Int), σ = [y0, y1, y2, y3, some (.ref nr), y5, y6, some (.int root), some (.ref sd), y9, y10, y11, y12, y13, y14, y15, y16, y17, y18] ∧ BS H1 HB p nr sd m G root C S ∧ Same HB H ∧
      ∀ H', Same H H' → D.nx σ H') := by
  have hu := hu_of hr
  refine PS.imp (ps_if (PW.pt (pw_or
      (pt_neNil (units64 hr) (pe_call F.ok (hr.mono (by decide)) (by rfl) F.mg F.kp F.bd .nil pass0 (pa_cons (pe_lock (pe_lc (own := [("_law_k", 3)]) (g := gName 3) (tt := tYes) (te := tLc (iList K _) (gName 5) _ _ [5]) rfl scL.nd (pi_keys (pv 4))
        (blkOk_by (own := [("_law_k", 3)]) (N := nmLaw) (sc := defScope sLaw) (by decide +kernel)) (fun _ _ _ _ _ => pg_name (i := 3) scL.nd rfl (Or.inr rfl)) (fun _ _ _ _ _ => pts_nil)
        (fun _ _ _ _ _ => pe_lc (own := [("_law_j", 5)]) (g := gName 5) rfl scL.nd (pi_list (pe_dget hu (pv 4) (pv 3) (fun _ _ => rfl))) (blkOk_by (own := [("_law_j", 5)]) (N := nmLaw) (sc := scIn1) (by decide +kernel))
          (fun _ _ _ _ _ => pg_name (i := 5) scL.nd rfl (Or.inl rfl)) (fun _ _ _ _ _ => pts_one (pt_cmpR op_gt (pe_callB call_abs (by rfl) mA (by decide +kernel) (pa_cons (pe_op op_sub (pe_dget hu (pv 8) (pv 5) (fun _ _ => rfl)) (pe_dget hu (pv 8) (pv 3) (fun _ _ => rfl))) pa_nil)) pe_int (nomark _))) (fun _ _ _ _ _ => pe_int)))) pa_nil)))
      (pw_or (pt_cmpR op_ne (pe_dget hu (pv 8) (pv 7) (fun _ _ => rfl)) pe_int (nomark _))
      (pw_or1 (pt_neNil (units64 hr) (pe_lock (pe_lc (own := [("_law_k", 3)]) (g := gName 3) (tt := tAnd _ (tTest (tOp _ _ (tOp _ _ (tCB (rMin K) (tCons (tLc (iList K _) (gName 5) _ _ [5]) _)))))) rfl scL.nd (pi_keys (pv 4))
        (blkOk_by (own := [("_law_k", 3)]) (N := nmLaw) (sc := defScope sLaw) (by decide +kernel)) (fun _ _ _ _ _ => pg_name (i := 3) scL.nd rfl (Or.inl rfl))
        (fun _ _ _ _ _ => pts_one (PW.pt (pw_and (pt_cmpR op_ne (pv 3) (pv 7) (nomark _)) (pw_and1 (pt_cmpR op_ne (pe_dget hu (pv 8) (pv 3) (fun _ _ => rfl)) (pe_op op_add pe_int (pe_callB (r := rMin K) (cr_min rfl) (by rfl) mM (by decide +kernel) (pa_cons
          (pe_lc (own := [("_law_j", 5)]) (g := gName 5) (tt := tYes) rfl scL.nd (pi_list (pe_dget hu (pv 4) (pv 3) (fun _ _ => rfl))) (blkOk_by (own := [("_law_j", 5)]) (N := nmLaw) (sc := scIn2) (by decide +kernel))
            (fun _ _ _ _ _ => pg_name (i := 5) scL.nd rfl (Or.inl rfl)) (fun _ _ _ _ _ => pts_nil) (fun _ _ _ _ _ => pe_dget hu (pv 8) (pv 5) (fun _ _ => rfl))) pa_nil))) (by rfl))))))
        (fun _ _ _ _ _ => pv 3))))))))
    (pss_one (ps_ret pe_bl)) pss_nil) ?_
  rintro D σ H ⟨y0, y1, y2, y3, y5, y6, y9, y10, y11, y12, y13, y14, y15, y16, y17, y18, H1, HB, p, nr, sd, m, G, root, C, S, rfl, B, s0, q⟩
  obtain ⟨q1, hnr0, hq0⟩ := B.gs.near
  have hnr := s0 _ _ hnr0
  have hq : ∀ k ∈ dmOf m, H (q1 k) = some (.lst ((G k).map V.int)) := fun k hk => s0 _ _ (hq0 k hk).1
  have hsd : H sd = some (.dK (tabK C fun k => V.int (S k))) := s0 _ _ B.st
  have hqn : ∀ k ∈ dmOf m, q1 k ≠ nr := fun k hk e => by
    have := hq k hk
    rw [e, hnr] at this
    cases this
  have hsn : sd ≠ nr := fun e => by
    have h1 := dm_len m
    have hm1 := B.m1
    rw [e, hnr] at hsd
    have hd0 : (dmOf m)[0]? = some ((0 : Nat) : Int) := dm_get (by omega)
    cases hC : C with
    | nil =>
      have := B.lv.rt
      rw [hC] at this
      cases this
    | cons c0 C0 =>
      rw [hC] at hsd
      cases m with
      | zero => omega
      | succ m =>
        unfold dmOf tabK at hsd
        rw [List.range_succ_eq_map] at hsd
        simp only [List.map_cons, List.map_nil] at hsd
        cases hsd
  have stG : ∀ {H' : Hp} {k : Int}, H' sd = some (.dK (tabK C fun k => V.int (S k))) → k ∈ C → DGet H' sd (.int k) (some (.int (S k))) := fun {H' k} h hk => dget_ints (f := fun k => V.int (S k)) h hk
  -- the table of rows, locked
  refine ⟨nr, _, hnr, trivial, fun od => ⟨.ref nr, rfl, nr, od, rfl, .inl ⟨_, upd_same, fun L nL => ?_⟩⟩⟩
  have fz : ∀ {b : Addr} {o : HO}, H b = some o → b ≠ nr → (upd H nr (.frz od (.dK (tabK (dmOf m) fun k => V.ref (q1 k))))) b = some o := fun {b o} e n => by rw [upd_ne n]; exact e
  have unlk : ∀ {H3 : Hp} (od : Obj), Same (upd H nr (.frz od (.dK (tabK (dmOf m) fun k => V.ref (q1 k))))) H3 → Same H (upd H3 nr (.dK (tabK (dmOf m) fun k => V.ref (q1 k)))) := fun {H3} od s3 b o e => by
    by_cases hb : b = nr
    · rw [hb] at e ⊢
      rw [upd_same, ← hnr]
      exact e
    · rw [upd_ne hb]
      exact s3 _ _ (by rw [upd_ne hb]; exact e)
  refine lc_it walk_keys (fun i H3 => Same (upd H nr (.frz od (.dK (tabK (dmOf m) fun k => V.ref (q1 k))))) H3 ∧ ∃ ts : List Addr, H3 L = some (.lst (ts.map V.ref)) ∧ ts.length = i ∧ ∀ t ∈ ts, H3 t = some (.lst []) ∧ t ≠ L)
    ⟨same_upd nL, [], upd_same, rfl, fun t ht => nomatch ht⟩ (fun i H3 _ z => z.1 _ _ upd_same) ?_ ?_
  · rintro i x H3 H4 hi ⟨s3, ts, hL, hts, hte⟩ ⟨rfl, k, v, hkv, rfl⟩
    obtain ⟨rfl, rfl, him⟩ := tab_get hkv
    have hk : (i : Int) ∈ dmOf m := mem_dm.mpr ⟨by omega, by omega⟩
    have hqk : H4 (q1 i) = some (.lst ((G i).map V.int)) := s3 _ _ (fz (hq _ hk) (hqn _ hk))
    have hs4 := s3 _ _ (fz hsd hsn)
    refine ⟨rfl, .ref nr, rfl, .int (i : Int), rfl, nr, _, rfl, dget_frz (f := fun k => V.ref (q1 k)) (s3 _ _ upd_same) hk, q1 i, rfl, ⟨_, SqL.of hqk⟩, fun L2 nL2 => ?_⟩
    have sL2 := same_upd (o := .lst []) nL2
    have nLL : L2 ≠ L := fun e => by
      rw [e, hL] at nL2
      cases nL2
    refine lc_list (K := K) (a := q1 i) (xs := (G i).map V.int) (fun j H5 => Same H4 H5 ∧ H5 L2 = some (.lst [])) ⟨sL2, upd_same⟩ (fun j H5 _ z => SqL.of (z.1 _ _ hqk)) ?_ ?_
    · rintro j x H5 hx ⟨s5, hL2⟩
      obtain ⟨z, rfl, hz⟩ := ints_of hx
      have hzG : z ∈ G i := List.mem_of_getElem? hz
      have hzC : z ∈ C := (B.lv.cl _ (B.all _ hk) _ hzG).1
      refine ⟨rfl, .ref sd, rfl, .int z, rfl, sd, _, rfl, stG (s5 _ _ hs4) hzC, .ref sd, rfl, .int (i : Int), rfl, sd, _, rfl, stG (s5 _ _ hs4) (B.all _ hk), _, _, rfl, rfl, _, rfl, _, _, rfl, rfl, _, rfl, ?_⟩
      obtain ⟨a1, a2⟩ := lv_apart B.gs.gr B.lv B.sub (B.all _ hk) hzG
      refine ite_neg' (b := decide ((1 : Int) < if S z - S i < 0 then -(S z - S i) else S z - S i)) (by rw [decide_eq_true_eq]; split <;> omega) ⟨s5, hL2⟩
    · rintro H5 ⟨s5, hL2⟩
      refine ⟨ts.map V.ref, s5 _ _ hL, ?_, fun b' o' e => ?_, ts ++ [L2], ?_, by rw [List.length_append, hts]; rfl, fun t ht => ?_⟩
      · have := B.m6
        refine small2 ?_
        rw [List.length_map]
        omega
      · rw [upd_ne (ne_of_none e nL)]
        exact s5 _ _ (s3 _ _ e)
      · rw [upd_same, List.map_append]
        rfl
      · rcases List.mem_append.mp ht with z | z
        · refine ⟨?_, (hte t z).2⟩
          rw [upd_ne (hte t z).2]
          exact s5 _ _ (hte t z).1
        · rw [List.mem_singleton] at z
          subst z
          refine ⟨?_, nLL⟩
          rw [upd_ne nLL]
          exact hL2
  · rintro H3 ⟨s3, ts, hL, hts, hte⟩
    have hfz : H3 nr = some (.frz od (.dK (tabK (dmOf m) fun k => V.ref (q1 k)))) := s3 _ _ upd_same
    have back : ∀ {b : Addr} {o : HO}, H3 b = some o → (∀ o' u', o ≠ .frz o' u') → (upd H3 nr (.dK (tabK (dmOf m) fun k => V.ref (q1 k)))) b = some o := fun {b o} e n => by
      rw [upd_ne (fun z => by
        rw [z, hfz] at e
        exact n _ _ (Option.some.inj e).symm)]
      exact e
    have sH := unlk od s3
    refine ⟨hfz, L, ts, rfl, back hL (fun _ _ z => by cases z), fun t ht => back (hte t ht).1 (fun _ _ z => by cases z), fun H5 l s5 hl => ⟨l, [], rfl, SqL.of hl, lst_ints _ _ [], fun e ne => ?_⟩⟩
    have s6 := sH.trans (s5.trans (same_upd (o := .lst []) ne))
    revert s6
    generalize upd H5 e (.lst []) = H6
    intro s6
    clear sH hfz back hL hte hts s3 nL unlk fz
    -- steps[root] != 0
    refine ⟨.ref sd, rfl, .int root, rfl, sd, _, rfl, stG (s6 _ _ hsd) B.lv.rt, rfl, _, rfl, ?_⟩
    rw [B.lv.z]
    refine ite_neg' (b := !decide (V.int 0 = V.int 0)) (by simp) ?_
    -- the least of the neighbours
    have hnr6 := s6 _ _ hnr
    refine ⟨nr, _, hnr6, trivial, fun od => ⟨.ref nr, rfl, nr, od, rfl, .inl ⟨_, upd_same, fun L nL => ?_⟩⟩⟩
    have fz : ∀ {b : Addr} {o : HO}, H6 b = some o → b ≠ nr → (upd H6 nr (.frz od (.dK (tabK (dmOf m) fun k => V.ref (q1 k))))) b = some o := fun {b o} e n => by rw [upd_ne n]; exact e
    refine lc_it walk_keys (fun i H3 => Same (upd H6 nr (.frz od (.dK (tabK (dmOf m) fun k => V.ref (q1 k))))) H3 ∧ H3 L = some (.lst []))
      ⟨same_upd nL, upd_same⟩ (fun i H3 _ z => z.1 _ _ upd_same) ?_ ?_
    · rintro i x H7 H4 hi ⟨s3, hL⟩ ⟨rfl, k, v, hkv, rfl⟩
      obtain ⟨rfl, rfl, him⟩ := tab_get hkv
      have hk : (i : Int) ∈ dmOf m := mem_dm.mpr ⟨by omega, by omega⟩
      have hqk : H4 (q1 i) = some (.lst ((G i).map V.int)) := s3 _ _ (fz (s6 _ _ (hq _ hk)) (hqn _ hk))
      have hs4 := s3 _ _ (fz (s6 _ _ hsd) hsn)
      refine ⟨rfl, .int (i : Int), rfl, .int root, rfl, rfl, _, rfl, ?_⟩
      by_cases hir : (i : Int) = root
      · exact ite_neg' (b := !decide (V.int (i : Int) = V.int root)) (by rw [hir]; simp) ⟨s3, hL⟩
      · refine ite_pos' (b := !decide (V.int (i : Int) = V.int root)) (roll_iff.mpr hir) ?_
        refine ⟨.ref sd, rfl, .int (i : Int), rfl, sd, _, rfl, stG hs4 (B.all _ hk), .ref nr, rfl, .int (i : Int), rfl, nr, _, rfl, dget_frz (f := fun k => V.ref (q1 k)) (s3 _ _ upd_same) hk, q1 i, rfl, ⟨_, SqL.of hqk⟩, fun L2 nL2 => ?_⟩
        have sL2 := same_upd (o := .lst []) nL2
        refine lc_list (K := K) (a := q1 i) (xs := (G i).map V.int) (fun j H5 => Same H4 H5 ∧ H5 L2 = some (.lst ((((G i).take j).map S).map V.int))) ⟨sL2, upd_same⟩ (fun j H5 _ z => SqL.of (z.1 _ _ hqk)) ?_ ?_
        · rintro j x H5 hx ⟨s5, hL2⟩
          obtain ⟨z, rfl, hz⟩ := ints_of hx
          have hzG : z ∈ G i := List.mem_of_getElem? hz
          have hzC : z ∈ C := (B.lv.cl _ (B.all _ hk) _ hzG).1
          refine ⟨rfl, .ref sd, rfl, .int z, rfl, sd, _, rfl, stG (s5 _ _ hs4) hzC, _, hL2, ?_, fun b' o' e => ?_, ?_⟩
          · have := B.len _ hk
            refine small2 ?_
            rw [List.length_map, List.length_map, List.length_take]
            omega
          · rw [upd_ne (ne_of_none e nL2)]
            exact s5 _ _ e
          · rw [upd_same, List.take_add_one, hz, List.map_append, List.map_append]
            rfl
        · rintro H5 ⟨s5, hL2⟩
          rw [List.length_map, List.take_length] at hL2
          have hpos := lv_has B.gs.gr B.lv B.sub (B.all _ hk) hir
          refine ⟨L2, (G i).map S, rfl, SqL.of hL2, by rw [List.length_map]; exact hpos, fun mn hmn hle => ⟨_, _, rfl, rfl, rfl, _, rfl, ?_⟩⟩
          rw [lv_min B.gs.gr B.lv B.sub (B.all _ hk) hir hmn hle]
          exact ite_neg' (b := !decide (V.int (1 + mn) = V.int (1 + mn))) (by simp) ⟨s3.trans s5, s5 _ _ hL⟩
    · rintro H3 ⟨s3, hL⟩
      have hfz : H3 nr = some (.frz od (.dK (tabK (dmOf m) fun k => V.ref (q1 k)))) := s3 _ _ upd_same
      have sH : Same H6 (upd H3 nr (.dK (tabK (dmOf m) fun k => V.ref (q1 k)))) := fun b o e => by
        by_cases hb : b = nr
        · rw [hb] at e ⊢
          rw [upd_same, ← hnr6]
          exact e
        · rw [upd_ne hb]
          exact s3 _ _ (by rw [upd_ne hb]; exact e)
      have nLr : L ≠ nr := fun z => by
        rw [z, hfz] at hL
        cases hL
      refine ⟨hfz, L, [], rfl, SqL.of (by rw [upd_ne nLr]; exact hL), lst_ints _ _ [], fun e ne => ?_⟩
      exact q _ (s6.trans (sH.trans (same_upd ne)))
end
end KT
set_option maxRecDepth 100000
set_option maxHeartbeats 4000000
/-! law: all ways -/
namespace KT
open PySem PySem.Spec PyProof.Rows L2 KR KM GxR
/-- the ways found so far -/
def WA (HB H : Hp) (wl : Addr) (C : List Int) (G : Int → List Int) (S : Int → Int) (n : Nat) : Prop :=
  ∃ (ts : List Addr) (ways : List (List Int)), Same HB H ∧ H wl = some (.lst (ts.map V.ref)) ∧ Paired (fun t (u : List Int) => H t = some (.tup (u.map V.int)) ∧ u.length ≤ 1000) ts ways ∧ ways.length = n ∧ ∀ u ∈ ways, ∃ a b, a ∈ C ∧ WayOk G S a b u
theorem WA.ext {HB H H' : Hp} {wl : Addr} {C : List Int} {G : Int → List Int} {S : Int → Int} {n : Nat} (h : WA HB H wl C G S n) (e : Same H H') : WA HB H' wl C G S n := by
  obtain ⟨ts, ways, h1, h2, h3, h4, h5⟩ := h
  exact ⟨ts, ways, h1.trans e, e _ _ h2, Paired.mapP h3 fun _ _ z => ⟨e _ _ z.1, z.2⟩, h4, h5⟩
theorem WA.add {HB H : Hp} {wl : Addr} {C : List Int} {G : Int → List Int} {S : Int → Int} {n : Nat} {t : Addr} {way : List Int} {a b : Int} (h : WA HB H wl C G S n) (hw : HB wl = none) (ht : H t = some (.tup (way.map V.int))) (hl : way.length ≤ 1000) (ha : a ∈ C) (W : WayOk G S a b way) :
    ∃ ts : List Addr, H wl = some (.lst (ts.map V.ref)) ∧ ts.length = n ∧ WA HB (upd H wl (.lst (ts.map V.ref ++ [.ref t]))) wl C G S (n + 1) := by
  obtain ⟨ts, ways, h1, h2, h3, h4, h5⟩ := h
  have te := tupX_upd (o := .lst (ts.map V.ref ++ [.ref t])) h2 (fun xs z => by cases z)
  have app : ∀ {as bs : List Addr} {xs zs : List (List Int)} {H : Hp}, Paired (fun t (u : List Int) => H t = some (.tup (u.map V.int)) ∧ u.length ≤ 1000) as xs → Paired (fun t (u : List Int) => H t = some (.tup (u.map V.int)) ∧ u.length ≤ 1000) bs zs → Paired (fun t (u : List Int) => H t = some (.tup (u.map V.int)) ∧ u.length ≤ 1000) (as ++ bs) (xs ++ zs) := fun {as bs xs zs H} h1 h2 => by
    induction h1 with
    | nil => exact h2
    | cons r _ ih => exact .cons r ih
  refine ⟨ts, h2, by rw [Paired.length h3, h4], ts ++ [t], ways ++ [way], fun b' o' e => ?_, by rw [upd_same, List.map_append]; rfl, app (Paired.mapP h3 fun _ _ z => ⟨te _ _ z.1, z.2⟩) (.cons ⟨te _ _ ht, hl⟩ .nil), by rw [List.length_append, h4]; rfl, fun u hu => ?_⟩
  · rw [upd_ne (ne_of_none e hw)]
    exact h1 _ _ e
  · rcases List.mem_append.mp hu with z | z
    · exact h5 u z
    · rw [List.mem_singleton] at z
      rw [z]
      exact ⟨a, b, ha, W⟩
section
variable {P : Program} {w : World} {K : PySem.W.Frag} {mg : Str → Option Value} {base : Heap}
variable {f c : Addr} {A : Around} {outer : List Env} {s : Shared} {H₀ : Hp} {E : XK} {fU fI fW fK fG CN : Addr} {fdU fdI fdW fdK fdG : FuncData}
theorem st_ways (hr : Room 4 (XL P w K mg base f c A outer s H₀ E).A)
    (U : Cal P w K mg base (L2.CX P w) 2 "up_and_down" ["near", "root", "one", "other"] (spUp CN) fU fdU) (I : Cal P w K mg base CX0 2 "is_up_and_down" ["near", "root", "way"] spIs fI fdI) (Y : Cal P w K mg base CX0 1 "_law_ways" ["_law_near", "_law_steps", "_law_one", "_law_other"] spWays fW fdW)
    (LK : Cal P w K mg base CX0 1 "links_of" ["way"] spLinks fK fdK) (GU : Cal P w K mg base CX0 1 "goes_up" ["levels_of", "one", "other"] spGoes fG fdG) (mR : mg "range" = none) (mL : mg "len" = none) : PS (XL P w K mg base f c A outer s H₀ E) (lb 8)
    (fun D σ H => ∃ (y0 y1 y3 y5 y6 y10 y11 y12 y13 y14 y15 y16 y17 y18 : Option V) (H1 HB : Hp) (p nr sd wl : Addr) (m : Nat) (G : Int → List Int) (root : Int) (C : List Int) (S : Int → Int), σ = [y0, y1, some (.int (m : Nat)), y3, some (.ref nr), y5, y6, some (.int root), some (.ref sd), some (.ref wl), y10, y11, y12, y13, y14, y15, y16, y17, y18] ∧ BS H1 HB p nr sd m G root C S ∧ HB wl = none ∧ WA HB H wl C G S 0 ∧
      ∀ H' y10 y11 y12 y13 y14 y15 y16, WA HB H' wl C G S (m * m) → D.nx [y0, y1, some (.int (m : Nat)), y3, some (.ref nr), y5, y6, some (.int root), some (.ref sd), some (.ref wl), y10, y11, y12, y13, y14, y15, y16, y17, y18] H') := by
  have hu := hu_of hr
  have r1 := hr.mono (by decide : 1 ≤ 4)
  have r2 := hr.mono (by decide : 2 ≤ 4)
  refine PS.imp (ps_for PassesOwn.never rfl (pi_range1 (by rfl) mR (pa_cons (pv 2) pa_nil)) (pg_name (i := 10) scL.nd rfl (.inl rfl)) (pss_one
    (ps_for PassesOwn.never rfl (pi_range1 (by rfl) mR (pa_cons (pv 2) pa_nil)) (pg_name (i := 11) scL.nd rfl (.inl rfl))
      (pss_cons (ps_set (i := 12) scL.nd rfl (.inl rfl) (pe_call U.ok r2 (by rfl) U.mg U.kp U.bd .nil passL (pa_cons (pv 4) (pa_cons (pv 7) (pa_cons (pv 10) (pa_cons (pv 11) pa_nil))))))
      (pss_cons (ps_if (PW.pt (pw_or (pt_cmpR op_ne (pe_ix ix_tup (pv 12) pe_int (fun _ _ => rfl)) (pv 10) (nomark _))
          (pw_or (pt_cmpR op_ne (pe_ix ix_tup (pv 12) (pe_op op_sub (pe_callB call_len_seq (by rfl) mL PySem.boot_len (pa_cons (pv 12) pa_nil)) pe_int) (fun _ _ => rfl)) (pv 11) (nomark _))
          (pw_or (pt_not (pt_val (pe_call I.ok r2 (by rfl) I.mg I.kp I.bd .nil pass0 (pa_cons (pv 4) (pa_cons (pv 7) (pa_cons (pv 12) pa_nil))))))
          (pw_or1 (pt_cmpR op_ne (pe_op op_sub (pe_callB call_len_seq (by rfl) mL PySem.boot_len (pa_cons (pv 12) pa_nil)) pe_int) (pe_call Y.ok r1 (by rfl) Y.mg Y.kp Y.bd .nil pass0 (pa_cons (pv 4) (pa_cons (pv 8) (pa_cons (pv 10) (pa_cons (pv 11) pa_nil))))) (by rfl)))))))
        (pss_one (ps_ret pe_bl)) pss_nil)
      (pss_cons (ps_set (i := 13) scL.nd rfl (.inl rfl) pe_bl)
      (pss_cons (ps_for PassesOwn.never rfl (pi_tup (pe_call LK.ok r1 (by rfl) LK.mg LK.kp LK.bd .nil pass0 (pa_cons (pv 12) pa_nil))) (pg_tup rfl (pgs_cons (pg_name (i := 14) scL.nd rfl (.inl rfl)) (pgs_cons (pg_name (i := 15) scL.nd rfl (.inl rfl)) pgs_nil)))
        (pss_cons (ps_set (i := 16) scL.nd rfl (.inl rfl) (pe_call GU.ok r1 (by rfl) GU.mg GU.kp GU.bd .nil pass0 (pa_cons (pv 8) (pa_cons (pv 14) (pa_cons (pv 15) pa_nil)))))
        (pss_cons (ps_if (PW.pt (pw_or (pt_cmpR op_ne (pv 16) (pe_cmpR (op_ltT hr.units0) (pe_tup (pa_cons (pe_dget hu (pv 8) (pv 15) (fun _ _ => rfl)) (pa_cons (pv 15) pa_nil))) (pe_tup (pa_cons (pe_dget hu (pv 8) (pv 14) (fun _ _ => rfl)) (pa_cons (pv 14) pa_nil))) (nomark _)) (by rfl))
            (pw_or (PW.pt (pw_and (pt_val (pv 16)) (pw_and1 (pt_val (pv 13))))) (pw_or1 (pt_cmpR op_notIn_seq (pv 15) (pe_dget hu (pv 4) (pv 14) (fun _ _ => rfl)) (by rfl))))))
          (pss_one (ps_ret pe_bl)) pss_nil)
        (pss_one (ps_set (i := 13) scL.nd rfl (.inl rfl) (pe_not (pv 16)))))))
      (pss_one (ps_expr (pe_bm PySem.F.plainAttrs_list PySem.F.slot_list_append PySem.F.type_list_append mt_append (pv 9) (pa_cons (pv 12) pa_nil))))))))))) ?_
  rintro D σ H ⟨y0, y1, y3, y5, y6, y10, y11, y12, y13, y14, y15, y16, y17, y18, H1, HB, p, nr, sd, wl, m, G, root, C, S, rfl, B, hwl, hW, q⟩
  have hm6 := B.m6
  obtain ⟨qa, hnr0, hq0⟩ := B.gs.near
  have nrA : ∀ {H' : Hp}, Same HB H' → NearAt H' nr (dmOf m) G := fun {H'} e => B.gs.at_.same e
  have stA : ∀ {H' : Hp}, Same HB H' → StepsAt H' sd C S := fun {H'} e => e _ _ B.st
  have stG : ∀ {H' : Hp} {k : Int}, Same HB H' → k ∈ C → DGet H' sd (.int k) (some (.int (S k))) := fun {H' k} e hk => dget_ints (f := fun k => V.int (S k)) (e _ _ B.st) hk
  have hCl : C.length ≤ 300 := by
    have := B.lv.nd.length_le_of_subset B.sub
    rw [dm_len] at this
    omega
  have e0 : ((m : Int)).toNat = m := by omega
  refine ⟨.int (m : Nat), rfl, _, rfl, by omega, by omega, ?_⟩
  rw [e0]
  refine for_range (lo := 0) (n := m) (fun i σ H3 => ∃ y10 y11 y12 y13 y14 y15 y16, σ = [y0, y1, some (.int (m : Nat)), y3, some (.ref nr), y5, y6, some (.int root), some (.ref sd), some (.ref wl), y10, y11, y12, y13, y14, y15, y16, y17, y18] ∧ WA HB H3 wl C G S (i * m)) ⟨y10, y11, y12, y13, y14, y15, y16, rfl, by rw [Nat.zero_mul]; exact hW⟩ ?_ ?_
  · clear hW
    rintro i σ H3 hi ⟨y10, y11, y12, y13, y14, y15, y16, rfl, hW⟩
    have hone : ((0 : Int) + (i : Int)) ∈ dmOf m := mem_dm.mpr ⟨by omega, by omega⟩
    generalize hon : ((0 : Int) + (i : Int)) = one at hone
    refine ⟨.int (m : Nat), rfl, _, rfl, by omega, by omega, ?_⟩
    rw [e0]
    refine for_range (lo := 0) (n := m) (fun j σ H3 => ∃ y11 y12 y13 y14 y15 y16, σ = [y0, y1, some (.int (m : Nat)), y3, some (.ref nr), y5, y6, some (.int root), some (.ref sd), some (.ref wl), some (.int one), y11, y12, y13, y14, y15, y16, y17, y18] ∧ WA HB H3 wl C G S (i * m + j)) ⟨y11, y12, y13, y14, y15, y16, rfl, hW⟩ ?_ ?_
    · clear hW
      rintro j σ H3 hj ⟨y11, y12, y13, y14, y15, y16, rfl, hW⟩
      have hother : ((0 : Int) + (j : Int)) ∈ dmOf m := mem_dm.mpr ⟨by omega, by omega⟩
      generalize hot : ((0 : Int) + (j : Int)) = other at hother
      have h1C := B.all one hone
      have h2C := B.all other hother
      have sB : Same HB H3 := hW.choose_spec.choose_spec.1
      refine ⟨.ref nr, rfl, .int root, rfl, .int one, rfl, .int other, rfl, nr, dmOf m, G, root, one, other, rfl, nrA sB, B.gs.gr, B.rt, by rw [dm_len]; omega, B.re _ B.rt _ hone, fun H4 t way C' S' s4 ht L' h1' h2' W' hleast hwlen => ?_, fun H4 _ no => ?_⟩
      · have W := wayok_one L' B.lv h1' W'
        have LS := least_one L' B.lv h1' hleast
        have hW4 := hW.ext s4
        have sB4 := sB.trans s4
        have hin := way_in B.lv W h1C
        have hpos := W.pos
        clear hW sB s4 h1' h2' W' hleast L'
        -- the four tests
        refine ⟨.ref t, rfl, t, _, _, .int one, rfl, rfl, SqT.of ht, at_of (j := 0) rfl (ints_get W.first), .int one, rfl, rfl, _, rfl, ?_⟩
        refine ite_neg' (b := !decide (V.int one = V.int one)) (by simp) ?_
        refine ⟨.ref t, rfl, .ref t, rfl, t, _, rfl, .inr (SqT.of ht), _, _, rfl, rfl, t, _, _, .int other, rfl, rfl, SqT.of ht, at_of (j := way.length - 1) (by rw [List.length_map]; omega) (ints_get W.last), .int other, rfl, rfl, _, rfl, ?_⟩
        refine ite_neg' (b := !decide (V.int other = V.int other)) (by simp) ?_
        refine ⟨.ref nr, rfl, .int root, rfl, .ref t, rfl, nr, dmOf m, G, root, t, way, rfl, nrA sB4, B.gs.gr, B.rt, by rw [dm_len]; omega, ht, hwlen, fun k hk => ?_, fun H5 C5 S5 s5 L5 => ⟨_, rfl, ?_⟩⟩
        · obtain ⟨pk, hpk⟩ := List.mem_iff_getElem?.mp hk
          exact B.lv.re k (hin pk k hpk)
        rw [udB_way (wayok_one B.lv L5 h1C W)]
        refine ite_neg' (b := !true) (by simp) ?_
        have ht5 := s5 _ _ ht
        have sB5 := sB4.trans s5
        refine ⟨.ref t, rfl, t, _, rfl, .inr (SqT.of ht5), _, _, rfl, rfl, .ref nr, rfl, .ref sd, rfl, .int one, rfl, .int other, rfl, nr, sd, dmOf m, G, C, S, root, one, other, rfl, nrA sB5, stA sB5, B.gs.gr, B.lv, B.sub, hCl, h1C, h2C, fun H6 n s6 hn => ⟨rfl, _, rfl, ?_⟩⟩
        have en : n = way.length - 1 := hn.one LS
        have e1 : (((way.map V.int).length : Int) - 1) = ((n : Nat) : Int) := by
          rw [List.length_map, en]
          omega
        refine ite_neg' (b := !decide (V.int (((way.map V.int).length : Int) - 1) = V.int ((n : Nat) : Int))) (by rw [e1]; simp) ?_
        have ht6 := s6 _ _ ht5
        have sB6 := sB5.trans s6
        have hW6 := (hW4.ext s5).ext s6
        clear hW4 ht ht5 sB4 sB5 e1
        -- the links
        refine ⟨.ref t, rfl, t, way, rfl, ht6, hwlen, fun H7 r ys s7 hr hys => ⟨r, rfl, ⟨_, SqT.of hr⟩, ?_⟩⟩
        have hyl : ys.length = way.length - 1 := by rw [hys.len, lkL_len]
        refine for_tup (xs := ys) (fun l σ H8 => ∃ y14 y15 y16 b, σ = [y0, y1, some (.int (m : Nat)), y3, some (.ref nr), y5, y6, some (.int root), some (.ref sd), some (.ref wl), some (.int one), some (.int other), some (.ref t), some (.bl b), y14, y15, y16, y17, y18] ∧ Same H7 H8 ∧
            (b = true → ∃ (z : Nat) (x y : Int), l = z + 1 ∧ way[z]? = some x ∧ way[z + 1]? = some y ∧ upB S x y = false))
          ⟨y14, y15, y16, false, rfl, Same.refl _, fun z => nomatch z⟩ (fun l σ H8 _ ⟨_, _, _, _, _, s8, _⟩ => SqT.of (s8 _ _ hr)) ?_ ?_
        · rintro l x σ H8 hx ⟨y14, y15, y16, b, rfl, s8, hb⟩
          obtain ⟨⟨h, n'⟩, hl, pt, rfl, hp⟩ := hys.get hx
          obtain ⟨g1, g2⟩ := lkL_of hl
          have hhC := hin _ _ g1
          have hnC := hin _ _ g2
          have hnG := W.lk _ _ _ g1 g2
          have sB8 := sB6.trans (s7.trans s8)
          refine ⟨pt, [.int h, .int n'], rfl, SqT.of (s8 _ _ hp), rfl, .int h, [.int n'], rfl, .int n', [], rfl, rfl, ?_⟩
          refine ⟨.ref sd, rfl, .int h, rfl, .int n', rfl, sd, C, S, h, n', rfl, stA sB8, hhC, hnC, fun H9 s9 => ?_⟩
          have sB9 := sB8.trans s9
          refine ⟨.bl (upB S h n'), rfl, .ref sd, rfl, .int n', rfl, sd, _, rfl, stG sB9 hnC, .int n', rfl, le2, fun p1 np1 => ?_⟩
          have b1 := same_upd (o := .tup [.int (S n'), .int n']) np1
          refine ⟨.ref sd, rfl, .int h, rfl, sd, _, rfl, stG (sB9.trans b1) hhC, .int h, rfl, le2, fun p2 np2 => ?_⟩
          have b2 := same_upd (o := .tup [.int (S h), .int h]) np2
          refine ⟨p1, p2, [S n', n'], [S h, h], rfl, rfl, SqT.of (b2 _ _ upd_same), SqT.of upd_same, ?_⟩
          rw [lex_up]
          refine ⟨rfl, _, rfl, ?_⟩
          refine ite_neg' (b := !decide (V.bl (upB S h n') = V.bl (upB S h n'))) (by simp) ?_
          have s10 := s8.trans (s9.trans (b1.trans b2))
          have sB10 := sB9.trans (b1.trans b2)
          revert s10 sB10
          generalize upd (upd H9 p1 (.tup [.int (S n'), .int n'])) p2 (.tup [.int (S h), .int h]) = H10
          intro s10 sB10
          obtain ⟨qn, hqn1, hqn2⟩ := nrA sB10
          have hhd := B.sub _ hhC
          -- node not in near[here]: no
          have tail : ∀ (u : Bool) (Q : Bool → Hp → Prop), Q false H10 → tTest (tOp (rIn K true) (tVar 15) (tDGet (tVar 4) (tVar 14))) [y0, y1, some (.int (m : Nat)), y3, some (.ref nr), y5, y6, some (.int root), some (.ref sd), some (.ref wl), some (.int one), some (.int other), some (.ref t), some (.bl b), some (.int h), some (.int n'), some (.bl u), y17, y18] H10 Q := fun u Q hQ => by
            refine ⟨.int n', rfl, .ref nr, rfl, .int h, rfl, nr, _, rfl, dget_ints (f := fun k => V.ref (qn k)) hqn1 hhd, qn h, _, rfl, .inl (SqL.of (hqn2 h hhd)), rfl, flat_ints _, _, rfl, ?_⟩
            rw [inV_ints]
            have : (G h).contains n' = true := by rw [List.contains_iff_mem]; exact hnG
            rw [this]
            exact hQ
          refine ⟨.bl (upB S h n'), rfl, _, rfl, ?_⟩
          cases hu' : upB S h n' with
          | false =>
            refine tail false _ ⟨.bl false, rfl, _, rfl, _, _, _, true, rfl, s10, fun _ => ⟨l, h, n', rfl, g1, g2, hu'⟩⟩
          | true =>
            refine ⟨.bl b, rfl, _, rfl, ?_⟩
            cases b with
            | true =>
              exfalso
              obtain ⟨z, x, y, rfl, e1, e2, e3⟩ := hb rfl
              have e4 : y = h := by
                rw [e2] at g1
                exact Option.some.inj g1
              subst e4
              rcases W.ud _ _ _ _ e1 e2 g2 with e5 | e5
              · rw [e3] at e5; cases e5
              · rw [hu'] at e5; cases e5
            | false => exact tail true _ ⟨.bl true, rfl, _, rfl, _, _, _, false, rfl, s10, fun z => nomatch z⟩
        · rintro σ H8 ⟨y14, y15, y16, b, rfl, s8, _⟩
          -- ways_here.append(way_now)
          have hW8 := (hW6.ext s7).ext s8
          have ht8 := s8 _ _ (s7 _ _ ht6)
          obtain ⟨ts, hts, htl, hWn⟩ := hW8.add hwl ht8 hwlen h1C W
          refine ⟨.ref wl, rfl, .inl ⟨rfl, _, SqL.of hts⟩, .ref t, rfl, wl, _, .ref t, rfl, rfl, hts, ?_, _, _, _, _, _, _, rfl, hWn⟩
          refine small2 ?_
          rw [List.length_map, htl]
          have : i * m ≤ 6 * 6 := Nat.mul_le_mul (by omega) (by omega)
          omega
      · exfalso
        obtain ⟨n, hn⟩ := B.re _ B.rt _ hother
        exact no n hn
    · rintro σ H3 ⟨y11, y12, y13, y14, y15, y16, rfl, hW⟩
      refine ⟨_, _, _, _, _, _, _, rfl, ?_⟩
      rw [Nat.succ_mul]
      exact hW
  · rintro σ H3 ⟨y10, y11, y12, y13, y14, y15, y16, rfl, hW⟩
    exact q H3 y10 y11 y12 y13 y14 y15 y16 hW
end
end KT
set_option maxRecDepth 100000
set_option maxHeartbeats 4000000
/-! law: the waits numbered, the way back up -/
namespace KT
open PySem PySem.Spec PyProof.Rows L2 KR KM GxR
theorem tri_rise {m : Nat} {G : Int → List Int} {root : Int} {C : List Int} {S : Int → Int} (g : Gr (dmOf m) G) (L : Lv G root C S) (hs : ∀ k ∈ C, k ∈ dmOf m) (hm : m ≤ 6) {ways : List (List Int)} (hw : ∀ u ∈ ways, ∃ a b, a ∈ C ∧ WayOk G S a b u) {b a : LK} (h : TriOf ways (b, a)) : rkL S b < rkL S a := by
  obtain ⟨u, hu, i, x, y, z, h1, h2, h3, e⟩ := h
  obtain ⟨a0, b0, ha0, W⟩ := hw u hu
  cases e
  have hin := way_in L W ha0
  have dx := mem_dm.mp (hs _ (hin _ _ h1))
  have dy := mem_dm.mp (hs _ (hin _ _ h2))
  have dz := mem_dm.mp (hs _ (hin _ _ h3))
  refine rk_rise ⟨dx.1, by omega⟩ ⟨dy.1, by omega⟩ ⟨dz.1, by omega⟩ (L.nn _ (hin _ _ h2)) (L.nn _ (hin _ _ h3)) (fun e => ?_) (W.ud _ _ _ _ h1 h2 h3)
  have hl := W.lk _ _ _ h2 h3
  rw [← e] at hl
  exact g.ir _ (hs _ (hin _ _ h2)) hl
theorem first_step {G : Int → List Int} {root k : Int} {n : Nat} (w : Wk G root n k) : k = root ∨ ∃ y, y ∈ G root := by
  induction w with
  | zero => exact .inl rfl
  | step w hy ih =>
    rcases ih with e | e
    · exact .inr ⟨_, by rw [← e]; exact hy⟩
    · exact .inr e
section
variable {P : Program} {w : World} {K : PySem.W.Frag} {mg : Str → Option Value} {base : Heap}
variable {f c T : Addr} {A : Around} {outer : List Env} {s : Shared} {H₀ : Hp} {E : XK} {fY fN fC fI : Addr} {fdY fdN fdC fdI : FuncData}
/-- pairs = waits(ways_here) -/
theorem st_waits (hr : Room 4 (XL P w K mg base f c A outer s H₀ E).A) (Y : Cal P w K mg base CX0 2 "waits" ["ways"] spWaits fY fdY) : PS (XL P w K mg base f c A outer s H₀ E) (lb 9)
    (fun D σ H => ∃ (y0 y1 y2 y3 y4 y5 y6 y7 y8 y10 y11 y12 y13 y14 y15 y16 y17 y18 : Option V) (H1 HB : Hp) (p nr sd wl : Addr) (m : Nat) (G : Int → List Int) (root : Int) (C : List Int) (S : Int → Int), σ = [y0, y1, y2, y3, y4, y5, y6, y7, y8, some (.ref wl), y10, y11, y12, y13, y14, y15, y16, y17, y18] ∧ BS H1 HB p nr sd m G root C S ∧ WA HB H wl C G S (m * m) ∧
      ∀ H' t ys ps, Same H H' → H' t = some (.tup ys) → Ats prEnc H' ys ps → (∀ b a, (b, a) ∈ ps → rkL S b < rkL S a) → ps.length ≤ 100000 → D.nx [y0, y1, y2, y3, y4, y5, y6, y7, y8, some (.ref wl), y10, y11, y12, y13, y14, y15, y16, some (.ref t), y18] H') := by
  refine PS.imp (ps_set (i := 17) scL.nd rfl (.inl rfl) (pe_call Y.ok (hr.mono (by decide)) (by rfl) Y.mg Y.kp Y.bd .nil pass0 (pa_cons (pv 9) pa_nil))) ?_
  rintro D σ H ⟨y0, y1, y2, y3, y4, y5, y6, y7, y8, y10, y11, y12, y13, y14, y15, y16, y17, y18, H1, HB, p, nr, sd, wl, m, G, root, C, S, rfl, B, ⟨ts, ways, h1, h2, h3, h4, h5⟩, q⟩
  have hm6 := B.m6
  have hmm : m * m ≤ 6 * 6 := Nat.mul_le_mul hm6 hm6
  refine ⟨.ref wl, rfl, wl, ts, ways, rfl, h2, h3, by omega, fun H' t ys ps s' ht hys hps hl => ?_⟩
  exact q H' t ys ps s' ht hys (fun b a hba => tri_rise B.gs.gr B.lv B.sub hm6 h5 ((hps _).mp hba)) hl
/-- numbers = numbered(pairs) -/
theorem st_numbers (hr : Room 4 (XL P w K mg base f c A outer s H₀ E).A) (N : Cal P w K mg base CX0 1 "numbered" ["pairs"] (spNumbered P w T) fN fdN) : PS (XL P w K mg base f c A outer s H₀ E) (lb 10)
    (fun D σ H => ∃ (y0 y1 y2 y3 y4 y5 y6 y7 y8 y9 y10 y11 y12 y13 y14 y15 y16 y18 : Option V) (t : Addr) (ys : List V) (ps : List (LK × LK)) (r : LK → Int), σ = [y0, y1, y2, y3, y4, y5, y6, y7, y8, y9, y10, y11, y12, y13, y14, y15, y16, some (.ref t), y18] ∧ H t = some (.tup ys) ∧ Ats prEnc H ys ps ∧ (∀ b a, (b, a) ∈ ps → r b < r a) ∧ ps.length ≤ 100000 ∧ TabG H T ∧
      ∀ H' d kvs, But T H H' → TabG H' T → DE lkEnc P w H' d kvs → (∀ b a, (b, a) ∈ ps → ∃ i j : Nat, valV kvs b = some (.int i) ∧ valV kvs a = some (.int j) ∧ i < j) → D.nx [y0, y1, y2, y3, y4, y5, y6, y7, y8, y9, y10, y11, y12, y13, y14, y15, y16, some (.ref t), some (.ref d)] H') := by
  refine PS.imp (ps_set (i := 18) scL.nd rfl (.inl rfl) (pe_call N.ok (hr.mono (by decide)) (by rfl) N.mg N.kp N.bd .nil pass0 (pa_cons (pv 17) pa_nil))) ?_
  rintro D σ H ⟨y0, y1, y2, y3, y4, y5, y6, y7, y8, y9, y10, y11, y12, y13, y14, y15, y16, y18, t, ys, ps, r, rfl, ht, hys, hrr, hl, hT, q⟩
  exact ⟨.ref t, rfl, t, ys, ps, r, rfl, ht, hys, hl, hrr, hT, q⟩
/-- if numbers is None or check_numbers(pairs, numbers) is not True -/
theorem st_check (hr : Room 4 (XL P w K mg base f c A outer s H₀ E).A) (CK : Cal P w K mg base CX0 1 "check_numbers" ["pairs", "numbers"] (spCheck P w) fC fdC) : PS (XL P w K mg base f c A outer s H₀ E) (lb 11)
    (fun D σ H => ∃ (y0 y1 y2 y3 y4 y5 y6 y7 y8 y9 y10 y11 y12 y13 y14 y15 y16 : Option V) (t : Addr) (ys : List V) (ps : List (LK × LK)) (d : Addr) (kvs : List (LK × V)), σ = [y0, y1, y2, y3, y4, y5, y6, y7, y8, y9, y10, y11, y12, y13, y14, y15, y16, some (.ref t), some (.ref d)] ∧ H t = some (.tup ys) ∧ Ats prEnc H ys ps ∧ DE lkEnc P w H d kvs ∧
      (∀ b a, (b, a) ∈ ps → ∃ i j : Nat, valV kvs b = some (.int i) ∧ valV kvs a = some (.int j) ∧ i < j) ∧ ∀ H', Same H H' → D.nx σ H') := by
  refine PS.imp (ps_if (PW.pt (pw_or (pt_cmp (pc_isN (pv 18))) (pw_or1 (pt_cmpR op_notBl (pe_call CK.ok (hr.mono (by decide)) (by rfl) CK.mg CK.kp CK.bd .nil pass0 (pa_cons (pv 17) (pa_cons (pv 18) pa_nil))) pe_bl (by rfl))))) (pss_one (ps_ret pe_bl)) pss_nil) ?_
  rintro D σ H ⟨y0, y1, y2, y3, y4, y5, y6, y7, y8, y9, y10, y11, y12, y13, y14, y15, y16, t, ys, ps, d, kvs, rfl, ht, hys, hd, hn, q⟩
  refine ⟨.ref d, rfl, _, rfl, ?_⟩
  refine ite_neg' (b := decide (V.ref d = V.non)) (by simp) ?_
  refine ⟨.ref t, rfl, .ref d, rfl, t, ys, ps, d, kvs, rfl, ht, hys, hd, hn, fun H' s' => ⟨true, true, rfl, rfl, _, rfl, ?_⟩⟩
  exact q H' s'
/-- if many > 1 and is_up_and_down(near, root, (root, near[root][0], root)) -/
theorem st_last (hr : Room 4 (XL P w K mg base f c A outer s H₀ E).A) (I : Cal P w K mg base CX0 2 "is_up_and_down" ["near", "root", "way"] spIs fI fdI) : PS (XL P w K mg base f c A outer s H₀ E) (lb 12)
    (fun D σ H => ∃ (y0 y1 y3 y5 y6 y8 y9 y10 y11 y12 y13 y14 y15 y16 y17 y18 : Option V) (H1 HB : Hp) (p nr sd : Addr) (m : Nat) (G : Int → List Int) (root : Int) (C : List Int) (S : Int → Int), σ = [y0, y1, some (.int (m : Nat)), y3, some (.ref nr), y5, y6, some (.int root), y8, y9, y10, y11, y12, y13, y14, y15, y16, y17, y18] ∧ BS H1 HB p nr sd m G root C S ∧ NearAt H nr (dmOf m) G ∧
      ∀ H', Same H H' → D.nx σ H') := by
  have hu := hu_of hr
  refine PS.imp (ps_if (PW.pt (pw_and (pt_cmpR op_gt (pv 2) pe_int (nomark _)) (pw_and1 (pt_val (pe_call I.ok (hr.mono (by decide)) (by rfl) I.mg I.kp I.bd .nil pass0 (pa_cons (pv 4) (pa_cons (pv 7) (pa_cons
    (pe_tup (pa_cons (pv 7) (pa_cons (pe_ix ix_list (pe_dget hu (pv 4) (pv 7) (fun _ _ => rfl)) pe_int (fun _ _ => rfl)) (pa_cons (pv 7) pa_nil)))) pa_nil)))))))) (pss_one (ps_ret pe_bl)) pss_nil) ?_
  rintro D σ H ⟨y0, y1, y3, y5, y6, y8, y9, y10, y11, y12, y13, y14, y15, y16, y17, y18, H1, HB, p, nr, sd, m, G, root, C, S, rfl, B, hN, q⟩
  refine ⟨.int (m : Nat), rfl, _, _, rfl, rfl, _, rfl, ?_⟩
  by_cases hm : (1 : Int) < (m : Int)
  · refine ite_pos' (b := decide ((1 : Int) < (m : Int))) (decide_eq_true hm) ?_
    obtain ⟨qa, h1, h2⟩ := hN
    have h0 : ∃ y, y ∈ G root := by
      have hd := mem_dm.mp B.rt
      have h3 : ∃ k ∈ dmOf m, k ≠ root := by
        by_cases e : root = 0
        · exact ⟨1, mem_dm.mpr ⟨by omega, by omega⟩, by omega⟩
        · exact ⟨0, mem_dm.mpr ⟨by omega, by omega⟩, fun z => e z.symm⟩
      obtain ⟨k, hk, hne⟩ := h3
      obtain ⟨n, hn⟩ := B.re _ B.rt _ hk
      rcases first_step hn with e | e
      · exact absurd e hne
      · exact e
    obtain ⟨x, hx⟩ : ∃ x, (G root)[0]? = some x := by
      obtain ⟨y, hy⟩ := h0
      exact ⟨_, List.getElem?_eq_getElem (List.length_pos_of_mem hy)⟩
    have hxG : x ∈ G root := List.mem_of_getElem? hx
    have hxd := B.gs.gr.cl _ B.rt _ hxG
    have hrx := B.gs.gr.sy _ B.rt _ hxG
    have hne : x ≠ root := fun e => B.gs.gr.ir _ B.rt (by rw [e] at hxG; exact hxG)
    refine ⟨.ref nr, rfl, .int root, rfl, .int root, rfl, .ref nr, rfl, .int root, rfl, nr, _, rfl, dget_ints (f := fun k => V.ref (qa k)) h1 B.rt, qa root, _, _, .int x, rfl, rfl, SqL.of (h2 _ B.rt), at_of (j := 0) rfl (ints_get hx), .int root, rfl, le3, fun t nt => ?_⟩
    have s1 := same_upd (o := .tup [.int root, .int x, .int root]) nt
    refine ⟨nr, dmOf m, G, root, t, [root, x, root], rfl, ⟨qa, s1 _ _ h1, fun k hk => s1 _ _ (h2 k hk)⟩, B.gs.gr, B.rt, by rw [dm_len]; have := B.m6; omega, upd_same, by simp, fun k hk => ?_, fun H' C' S' s' L' => ⟨_, rfl, ?_⟩⟩
    · have hkd : k ∈ dmOf m := by
        simp only [List.mem_cons, List.not_mem_nil, or_false] at hk
        rcases hk with rfl | rfl | rfl
        · exact B.rt
        · exact hxd
        · exact B.rt
      exact B.re _ B.rt _ hkd
    · rw [udB_no L' hxG hrx hne]
      exact q H' (s1.trans s')
  · refine ite_neg' (b := decide ((1 : Int) < (m : Int))) (by rw [decide_eq_true_eq]; exact hm) ?_
    exact q H (Same.refl _)
end
end KT
set_option maxRecDepth 100000
set_option maxHeartbeats 4000000
/-! law: no way is told so -/
namespace KT
open PySem PySem.Spec PyProof.Rows L2 KR KM GxR LamX
/-- the graph whose last node hangs alone -/
def gT (k : Int) : List Int := if k = 0 then [1] else if k = 1 then [0] else []
theorem gr_T : Gr [0, 1, 2] gT := by
  refine ⟨fun k hk j hj => ?_, fun k hk j hj => ?_, fun k hk hj => ?_⟩
  all_goals
    simp only [List.mem_cons, List.not_mem_nil, or_false] at hk
    rcases hk with rfl | rfl | rfl <;> simp [gT] at hj <;> simp [gT, hj]
theorem wk_T {n : Nat} {k : Int} (w : Wk gT 0 n k) : k = 0 ∨ k = 1 := by
  induction w with
  | zero => exact .inl rfl
  | step w hy ih =>
    rcases ih with rfl | rfl <;> simp [gT] at hy <;> simp [hy]
/-- what the clauses ask: the classes' addresses, the class that comes alike to the last alone -/
structure Nine (K : PySem.W.Frag) (mg : Str → Option Value) (c1 c2 c3 c4 c5 c6 c7 c8 cN : Addr) : Prop where
  g1 : mg "BadGate" = some (.ref c1)
  g2 : mg "BadNet" = some (.ref c2)
  g3 : mg "BadRate" = some (.ref c3)
  g4 : mg "BadSize" = some (.ref c4)
  g5 : mg "Blocked" = some (.ref c5)
  g6 : mg "BadPaper" = some (.ref c6)
  g7 : mg "BadText" = some (.ref c7)
  g8 : mg "BadStore" = some (.ref c8)
  g9 : mg "NoSuch" = some (.ref cN)
  e1 : PySem.W.exmOne K (.ref cN) (.ref c1) = some false
  e2 : PySem.W.exmOne K (.ref cN) (.ref c2) = some false
  e3 : PySem.W.exmOne K (.ref cN) (.ref c3) = some false
  e4 : PySem.W.exmOne K (.ref cN) (.ref c4) = some false
  e5 : PySem.W.exmOne K (.ref cN) (.ref c5) = some false
  e6 : PySem.W.exmOne K (.ref cN) (.ref c6) = some false
  e7 : PySem.W.exmOne K (.ref cN) (.ref c7) = some false
  e8 : PySem.W.exmOne K (.ref cN) (.ref c8) = some false
  e9 : PySem.W.exmOne K (.ref cN) (.ref cN) = some true
def TTN (cN : Addr) : (XK → Hp → VK → Prop) → Hp → VK → Prop := fun tl H Q => tl (fun cls _ H' => cls = .ref cN ∧ Q (.str "no such") H') H Q
theorem scT : FnScope ["_law_what"] ["_law_what"] (defScope sTold) := ⟨rfl, rfl, rfl, by decide +kernel, rfl, by decide +kernel, by decide +kernel⟩
theorem told9 {X : Cx} {c1 c2 c3 c4 c5 c6 c7 c8 cN : Addr} (N : Nine X.K X.mg c1 c2 c3 c4 c5 c6 c7 c8 cN) {g : Addr} {cdg : Value} {q : Str} : GivesTo X ["_law_what"] "_law_told" (defScope sTold) g cdg (defBody sTold) "_law_what" q (TTN cN) := by
  intro f c' s H Q tl act hc h
  refine ⟨_, pss_one (ps_try_many (X := (cxOf C8.CX0 X.prog X.w X.K X.mg X.base ["_law_what"] "_law_told" (defScope sTold) g cdg X.A X.stack s H C8.E0).nox) (Wout := fun _ _ _ _ => False)
      (tb := fun W D σ H => ∃ Ech : XK, (∀ cls d σ' H', Ech cls d H' → W cls d σ' H') ∧ σ[0]? = some (some (.ref f)) ∧ H c' = some (CodeO c' q) ∧ tl Ech H D.rt)
      rfl rfl takes_none5 (fun W pn xe tk _ => ?_)
      (.cons ⟨rfl, by decide, .inl N.g1⟩ (fun a oe cls d pn _ _ => pss_one (ps_ret pe_str))
      (.cons ⟨rfl, by decide, .inl N.g2⟩ (fun a oe cls d pn _ _ => pss_one (ps_ret pe_str))
      (.cons ⟨rfl, by decide, .inl N.g3⟩ (fun a oe cls d pn _ _ => pss_one (ps_ret pe_str))
      (.cons ⟨rfl, by decide, .inl N.g4⟩ (fun a oe cls d pn _ _ => pss_one (ps_ret pe_str))
      (.cons ⟨rfl, by decide, .inl N.g5⟩ (fun a oe cls d pn _ _ => pss_one (ps_ret pe_str))
      (.cons ⟨rfl, by decide, .inl N.g6⟩ (fun a oe cls d pn _ _ => pss_one (ps_ret pe_str))
      (.cons ⟨rfl, by decide, .inl N.g7⟩ (fun a oe cls d pn _ _ => pss_one (ps_ret pe_str))
      (.cons ⟨rfl, by decide, .inl N.g8⟩ (fun a oe cls d pn _ _ => pss_one (ps_ret pe_str))
      (.cons ⟨rfl, by decide, .inl N.g9⟩ (fun a oe cls d pn _ _ => pss_one (ps_ret pe_str)) .nil)))))))))), ?_⟩
  · refine ⟨fun pins s' σ H' D I h' => ?_⟩
    obtain ⟨Ech, hW, h1, h2, h3⟩ := h'
    exact (pss_one (ps_ret (act W pn xe Ech _ _ tk hW))).run pins s' σ H' D I ⟨h1, h2, h3⟩
  · refine ⟨fun cls _ H' => cls = .ref cN ∧ Q (.str "no such") H', fun cls d σ' H' hcq => ?_, rfl, hc, h⟩
    obtain ⟨rfl, hQ⟩ := hcq
    have no : ∀ {A : Prop}, false = true → A := fun z => nomatch z
    exact ⟨false, N.e1, no, fun _ => ⟨false, N.e2, no, fun _ => ⟨false, N.e3, no, fun _ => ⟨false, N.e4, no, fun _ => ⟨false, N.e5, no, fun _ => ⟨false, N.e6, no, fun _ => ⟨false, N.e7, no, fun _ => ⟨false, N.e8, no, fun _ => ⟨true, N.e9, fun _ a _ => hQ, fun z => nomatch z⟩⟩⟩⟩⟩⟩⟩⟩⟩
section
variable {P : Program} {w : World} {K : PySem.W.Frag} {mg : Str → Option Value} {base : Heap}
variable {f c PL : Addr} {A : Around} {outer : List Env} {s : Shared} {H₀ : Hp} {E : XK} {fU fT CN : Addr} {fdU fdT : FuncData}
def lret : Stmt := (defBody sLaw).getD 1 (.Pass ⟨0, 0, 0, 0⟩)
abbrev qLam : Str := (envOfC "law" (defScope sLaw) 0 0 .none).qual ++ "<lambda>"
theorem st_told (hr : Room 4 (XL P w K mg base f c A outer s H₀ E).A) (U : Cal P w K mg base (L2.CX P w) 2 "up_and_down" ["near", "root", "one", "other"] (spUp CN) fU fdU)
    (FT : Fun K "_law_told" "_law_told" sTold fT fdT) (bT : Binds K fdT ["_law_what"] []) (gm : mg "_law_told" = some (.ref fT)) (TB : LamX.TabB base mg c PL) {c1 c2 c3 c4 c5 c6 c7 c8 : Addr} (N : Nine K mg c1 c2 c3 c4 c5 c6 c7 c8 CN) : PS (XL P w K mg base f c A outer s H₀ E) lret
    (fun D σ H => H PL = some (.tbl #[]) ∧ ∀ H', D.rt (.bl true) H') := by
  obtain ⟨oc, od, kV, doc, pm, an, cdv, ct, osl, rfl, lk, hcd⟩ := FT.ex
  refine PS.imp (ps_ret (pe_cmpR op_eq (pe_lamcall (T := [(PL, qLam)]) (TT := TTN CN) (Ng := ["_law_what"]) (k := 2) (t := fun E => tCall (spUp CN) [] E _) (by rfl) gm FT.kp lk hcd bT scT rfl (.inl rfl) (told9 N) TB rfl (.head _) (fun p hp _ => by
      have e := List.mem_singleton.mp hp
      rw [e]
      rfl) hr (lamS_by (sc := defScope sLaw) (by decide +kernel)) rfl (fun _ _ _ _ _ => rfl)
    (fun A' outer' s' H' E' f' c' hr' => pe_call U.ok hr' (by rfl) U.mg U.kp U.bd .nil (passes_call (takes_of rfl rfl rfl rfl) (fun _ _ _ _ h => h))
      (pa_cons (pe_disp (pps_cons pe_int (pe_lst (pa_cons pe_int pa_nil)) (pps_cons pe_int (pe_lst (pa_cons pe_int pa_nil)) (pps_cons pe_int (pe_lst pa_nil) pps_nil))) rfl rfl (by simp) (by decide)) (pa_cons pe_int (pa_cons pe_int (pa_cons pe_int pa_nil)))))) pe_str (nomark _))) ?_
  rintro D σ H ⟨hPL, q⟩
  refine ⟨fun p hp => ?_, fun H1 _ _ => ?_⟩
  · have e := List.mem_singleton.mp hp
    rw [e]
    exact TabS.nil hPL
  refine fun d nd => ⟨by decide, fun l0 nl0 => ⟨by decide, fun l1 nl1 => ⟨by decide, fun l2 nl2 => ?_⟩⟩⟩
  have b0 := same_upd (o := .dK []) nd
  have b1 := same_upd (o := .lst [.int 1]) nl0
  have b2 := same_upd (o := .lst [.int 0]) nl1
  have b3 := same_upd (o := .lst []) nl2
  have hd : (upd (upd (upd (upd H1 d (.dK [])) l0 (.lst [.int 1])) l1 (.lst [.int 0])) l2 (.lst [])) d = some (.dK []) := b3 _ _ (b2 _ _ (b1 _ _ upd_same))
  have h0 : (upd (upd (upd (upd H1 d (.dK [])) l0 (.lst [.int 1])) l1 (.lst [.int 0])) l2 (.lst [])) l0 = some (.lst [.int 1]) := b3 _ _ (b2 _ _ upd_same)
  have h1 : (upd (upd (upd (upd H1 d (.dK [])) l0 (.lst [.int 1])) l1 (.lst [.int 0])) l2 (.lst [])) l1 = some (.lst [.int 0]) := b3 _ _ upd_same
  have h2 : (upd (upd (upd (upd H1 d (.dK [])) l0 (.lst [.int 1])) l1 (.lst [.int 0])) l2 (.lst [])) l2 = some (.lst []) := upd_same
  revert hd h0 h1 h2
  generalize upd (upd (upd (upd H1 d (.dK [])) l0 (.lst [.int 1])) l1 (.lst [.int 0])) l2 (.lst []) = H2
  intro hd h0 h1 h2
  have n0 : l0 ≠ d := fun e => by rw [e, hd] at h0; cases h0
  have n1 : l1 ≠ d := fun e => by rw [e, hd] at h1; cases h1
  have n2 : l2 ≠ d := fun e => by rw [e, hd] at h2; cases h2
  refine ⟨hd, [(Sum.inl 0, .ref l0), (Sum.inl 1, .ref l1), (Sum.inl 2, .ref l2)], rfl, by show 3 ≤ 15; decide, d, [0, 1, 2], gT, 0, 0, 2, rfl, ⟨fun k => if k = 0 then l0 else if k = 1 then l1 else l2, upd_same, fun k hk => ?_⟩, gr_T, by simp, by simp, ⟨0, .zero⟩, fun H' t way C S _ _ L _ h2C _ _ _ => ?_, fun H' _ _ => ⟨rfl, rfl, ?_⟩⟩
  · simp only [List.mem_cons, List.not_mem_nil, or_false] at hk
    rcases hk with rfl | rfl | rfl
    · show upd H2 d _ l0 = _
      rw [upd_ne n0]
      exact h0
    · show upd H2 d _ l1 = _
      rw [upd_ne n1]
      exact h1
    · show upd H2 d _ l2 = _
      rw [upd_ne n2]
      exact h2
  · exfalso
    obtain ⟨n, hn⟩ := L.re _ h2C
    rcases wk_T hn with e | e <;> omega
  · rw [decide_eq_true rfl]
    exact q H'
end
end KT
set_option maxRecDepth 100000
set_option maxHeartbeats 4000000
/-! law, whole -/
namespace KT
open PySem PySem.Spec PyProof.Rows L2 KR KM GxR
theorem near_but {H H' : Hp} {d T : Addr} {ps : Array Value} {dm : List Int} {G : Int → List Int} (h : NearAt H d dm G) (hT : H T = some (.tbl ps)) (e : But T H H') : NearAt H' d dm G := by
  obtain ⟨q, h1, h2⟩ := h
  refine ⟨q, e _ _ (fun z => ?_) h1, fun k hk => e _ _ (fun z => ?_) (h2 k hk)⟩
  · rw [z, hT] at h1
    cases h1
  · have := h2 k hk
    rw [z, hT] at this
    cases this
section
variable {P : Program} {w : World} {K : PySem.W.Frag} {mg : Str → Option Value} {base : Heap}
def spLaw (K : PySem.W.Frag) (T PL : Addr) : Sp := fun vs H Q _ => ∃ (a : Addr) (ns : List Int), vs = [.ref a] ∧ SqL K H a (ns.map V.int) ∧ H T = some (.tbl #[]) ∧ H PL = some (.tbl #[]) ∧ T ≠ PL ∧ ∀ H', Q (.bl true) H'
/-- all that law calls -/
structure Callees (P : Program) (w : World) (K : PySem.W.Frag) (mg : Str → Option Value) (base : Heap) (T CN : Addr) : Prop where
  RD : ∃ f fd, Cal P w K mg base CX0 2 "_law_rounds" ["_law_script", "_law_most"] (spRounds K) f fd
  R : ∃ f fd, CalR P w K mg base f fd
  V : ∃ f fd, CalV P w K mg base f fd
  F : ∃ f fd, CalF P w K mg base f fd
  U : ∃ f fd, Cal P w K mg base (L2.CX P w) 2 "up_and_down" ["near", "root", "one", "other"] (spUp CN) f fd
  I : ∃ f fd, Cal P w K mg base CX0 2 "is_up_and_down" ["near", "root", "way"] spIs f fd
  Y : ∃ f fd, Cal P w K mg base CX0 1 "_law_ways" ["_law_near", "_law_steps", "_law_one", "_law_other"] spWays f fd
  LK : ∃ f fd, Cal P w K mg base CX0 1 "links_of" ["way"] spLinks f fd
  GU : ∃ f fd, Cal P w K mg base CX0 1 "goes_up" ["levels_of", "one", "other"] spGoes f fd
  WT : ∃ f fd, Cal P w K mg base CX0 2 "waits" ["ways"] spWaits f fd
  N : ∃ f fd, Cal P w K mg base CX0 1 "numbered" ["pairs"] (spNumbered P w T) f fd
  CK : ∃ f fd, Cal P w K mg base CX0 1 "check_numbers" ["pairs", "numbers"] (spCheck P w) f fd
  TD : ∃ f fd, Fun K "_law_told" "_law_told" sTold f fd ∧ Binds K fd ["_law_what"] [] ∧ mg "_law_told" = some (.ref f)
/-- builtins that no name hides -/
structure Blts (mg : Str → Option Value) : Prop where
  mD : mg "dict" = none
  mR : mg "range" = none
  mS : mg "sorted" = none
  mA : mg "abs" = none
  mM : mg "min" = none
  mL : mg "len" = none
theorem ok_law {c f T PL CN : Addr} {fd : FuncData} (F : FunC K "law" "law" sLaw c f fd) (TB : LamX.TabB base mg c PL) (C : Callees P w K mg base T CN) (M : Blts mg) {c1 c2 c3 c4 c5 c6 c7 c8 : Addr} (N9 : Nine K mg c1 c2 c3 c4 c5 c6 c7 c8 CN) : FnOk P w K mg base CX0 5 f fd ["_law_script"] (spLaw K T PL) := by
  refine F.ok scL (fun vs H Q E h => ?_) (fun A outer s H vs Q E hr h => ?_)
  · obtain ⟨a, ns, rfl, _⟩ := h
    rfl
  · obtain ⟨a, ns, rfl, hs, hT, hPL, hTP, q⟩ := h
    obtain ⟨_, _, RD⟩ := C.RD
    obtain ⟨_, _, R⟩ := C.R
    obtain ⟨_, _, VL⟩ := C.V
    obtain ⟨_, _, FL⟩ := C.F
    obtain ⟨_, _, U⟩ := C.U
    obtain ⟨_, _, I⟩ := C.I
    obtain ⟨_, _, Y⟩ := C.Y
    obtain ⟨_, _, LK⟩ := C.LK
    obtain ⟨_, _, GU⟩ := C.GU
    obtain ⟨_, _, WT⟩ := C.WT
    obtain ⟨_, _, N⟩ := C.N
    obtain ⟨_, _, CK⟩ := C.CK
    obtain ⟨_, _, t1, t2, t3⟩ := C.TD
    have hr4 : Room 4 (XL P w K mg base f c A outer s H E).A := hr
    refine ⟨_, pss_cons (ps_for PassesOwn.never rfl (pi_list (pe_call RD.ok (hr4.mono (by decide)) (by rfl) RD.mg RD.kp RD.bd .nil pass0 (pa_cons (pv 0) (pa_cons pe_int pa_nil)))) (pg_name (i := 1) scL.nd rfl (.inl rfl))
      (pss_cons (ps_set (i := 2) scL.nd rfl (.inl rfl) (pe_op op_add pe_int (pe_call R.ok (hr4.mono (by decide)) (by rfl) R.mg R.kp R.bd .nil pass0 (pa_cons (pv 1) (pa_cons pe_int pa_nil)))))
      (pss_cons (st_near hr4 M.mD M.mR) (pss_cons (st_tree hr4 R M.mR) (pss_cons (st_turns hr4 R M.mR) (pss_cons (st_sort hr4 M.mD M.mS) (pss_cons (st_root hr4 R) (pss_cons (st_levels hr4 VL) (pss_cons (st_test hr4 FL M.mA M.mM)
      (pss_cons (st_ways hr4 U I Y LK GU M.mR M.mL) (pss_cons (st_waits hr4 WT) (pss_cons (st_numbers hr4 N) (pss_cons (st_check hr4 CK) (pss_one (st_last hr4 I)))))))))))))))
      (pss_one (st_told hr4 U t1 t2 t3 TB N9)), ?_⟩
    refine ⟨.ref a, rfl, a, ns, rfl, hs, fun H1 l p a1 b1 d1 s1 hl hp np => ⟨l, rfl, ⟨_, SqL.of hl⟩, ?_⟩⟩
    have lp : l ≠ p := fun e => by
      rw [e, hp] at hl
      cases hl
    have Tp : T ≠ p := fun e => by rw [e, np] at hT; cases hT
    have PLp : PL ≠ p := fun e => by rw [e, np] at hPL; cases hPL
    have hT1 := s1 _ _ hT
    have hPL1 := s1 _ _ hPL
    have lT : l ≠ T := fun e => by rw [e, hT1] at hl; cases hl
    refine for_list (K := K) (a := l) (xs := [.ref p]) (fun i σ H2 => H2 l = some (.lst [.ref p]) ∧ H2 PL = some (.tbl #[]) ∧ (i = 0 → σ = some (.ref a) :: List.replicate 18 none ∧ H2 = H1)) ⟨hl, hPL1, fun _ => ⟨rfl, rfl⟩⟩ (fun i σ H2 _ z => SqL.of z.1) ?_ ?_
    · rintro i x σ H2 hx ⟨_, _, h0⟩
      have hi : i = 0 := by
        cases i with
        | zero => rfl
        | succ i => simp at hx
      subst hi
      obtain ⟨rfl, rfl⟩ := h0 rfl
      obtain rfl : V.ref p = x := by simpa using hx
      -- many
      refine ⟨.ref p, rfl, p, a1, b1, d1, 6, rfl, hp, by decide, by decide, fun H3 r a3 b3 d3 k3 hp3 r0 r1 => ⟨1, r, rfl, rfl, ?_⟩⟩
      obtain ⟨m, hm⟩ : ∃ m : Nat, 1 + r = (m : Int) := ⟨(1 + r).toNat, by omega⟩
      have m1 : 1 ≤ m := by omega
      have m6 : m ≤ 6 := by omega
      have hl3 := k3 _ _ lp hl
      have hT3 := k3 _ _ Tp hT1
      have hPL3 := k3 _ _ PLp hPL1
      refine ⟨some (.ref a), some (.ref p), none, none, none, none, none, none, none, none, none, none, none, none, none, none, none, none, p, m, a3, b3, d3, (show _ = _ by rw [← hm]; rfl), m6, hp3, fun H4 nr g4 => ?_⟩
      refine ⟨_, _, _, _, _, _, _, _, _, _, _, _, _, _, _, _, H3, p, nr, m, rfl, g4, m1, m6, fun H5 G _ _ g5 h5 l5 => ?_⟩
      refine ⟨_, _, _, _, _, _, _, _, _, _, _, _, _, _, _, _, H3, p, nr, m, G, rfl, g5, h5, l5, m1, m6, fun H6 G _ _ _ g6 h6 l6 => ?_⟩
      refine ⟨_, _, _, _, _, _, _, _, _, _, _, _, _, _, _, _, _, _, H3, p, nr, m, G, rfl, g6, h6, l6, m1, m6, fun H7 nr G g7 h7 l7 => ?_⟩
      refine ⟨_, _, _, _, _, _, _, _, _, _, _, _, _, _, _, _, _, H3, p, nr, m, G, rfl, g7, m1, m6, fun H8 root g8 hrt => ?_⟩
      refine ⟨_, _, _, _, _, _, _, _, _, _, _, _, _, _, _, _, _, H3, p, nr, m, G, root, rfl, g8, h7, l7, hrt, m1, m6, fun H9 HB sd wl Cs S B hwl sB hw9 => ?_⟩
      refine ⟨_, _, _, _, _, _, _, _, _, _, _, _, _, _, _, _, H3, HB, p, nr, sd, m, G, root, Cs, S, rfl, B, sB, fun H10 s10 => ?_⟩
      refine ⟨_, _, _, _, _, _, _, _, _, _, _, _, _, _, H3, HB, p, nr, sd, wl, m, G, root, Cs, S, rfl, B, hwl, ⟨[], [], sB.trans s10, s10 _ _ hw9, .nil, rfl, fun u hu => nomatch hu⟩, fun H11 _ _ _ _ _ _ _ hW => ?_⟩
      have sW : Same HB H11 := hW.choose_spec.choose_spec.1
      refine ⟨_, _, _, _, _, _, _, _, _, _, _, _, _, _, _, _, _, _, H3, HB, p, nr, sd, wl, m, G, root, Cs, S, rfl, B, hW, fun H12 t ys ps s12 ht hys hrise hpl => ?_⟩
      have sA := sW.trans s12
      have hT12 := sA _ _ (B.gs.but _ _ Tp hT3)
      have hPL12 := sA _ _ (B.gs.but _ _ PLp hPL3)
      have hl12 := sA _ _ (B.gs.but _ _ lp hl3)
      have hN12 := B.gs.at_.same sA
      refine ⟨_, _, _, _, _, _, _, _, _, _, _, _, _, _, _, _, _, _, t, ys, ps, rkL S, rfl, ht, hys, hrise, hpl, ⟨#[], hT12, trivial⟩, fun H13 d kvs k13 hT13 hde hn => ?_⟩
      have tu : TupX H12 H13 := fun p' zs z => k13 _ _ (fun e => by
        rw [e, hT12] at z
        cases z) z
      refine ⟨_, _, _, _, _, _, _, _, _, _, _, _, _, _, _, _, _, t, ys, ps, d, kvs, rfl, tu _ _ ht, hys.mono tu, hde, hn, fun H14 s14 => ?_⟩
      refine ⟨_, _, _, _, _, _, _, _, _, _, _, _, _, _, _, _, H3, HB, p, nr, sd, m, G, root, Cs, S, rfl, B, (near_but hN12 hT12 k13).same s14, fun H15 s15 => ?_⟩
      refine ⟨s15 _ _ (s14 _ _ (k13 _ _ lT hl12)), s15 _ _ (s14 _ _ (k13 _ _ hTP.symm hPL12)), fun z => nomatch z⟩
    · rintro σ H2 ⟨_, hP, _⟩
      exact ⟨hP, q⟩
end
end KT
set_option maxRecDepth 100000
set_option maxHeartbeats 4000000
/-! the end: what the top has written -/
namespace KT
open PySem PySem.Spec PyProof.Rows L2 KR KM GxR
/-- an error of the class at S, asked whether the clause names it -/
theorem exm_of {K : PySem.W.Frag} {S C : Addr} {b : Bool} (h1 : PySem.W.subIn K (.ref C) (.type "BaseException") = some true) (h2 : PySem.W.isClsIn K C = true) (h3 : PySem.W.typeIn K (.ref C) = some (.type "type")) (h4 : PySem.W.subIn K (.ref S) (.ref C) = some b) :
    PySem.W.exmOne K (.ref S) (.ref C) = some b := by
  have e1 : (PySem.W.subIn K (.ref C) (.type "BaseException") == some true) = true := by rw [h1] <;> rfl
  have e2 : ((PySem.W.clsIn K C).isSome && PySem.W.typeIn K (.ref C) == some (.type "type")) = true := by
    have h2' : (PySem.W.clsIn K C).isSome = true := h2
    rw [h2', h3] <;> rfl
  show (if (PySem.W.subIn K (.ref C) (.type "BaseException") == some true) = true then (if ((PySem.W.clsIn K C).isSome && PySem.W.typeIn K (.ref C) == some (.type "type")) = true then PySem.W.subIn K (.ref S) (.ref C) else none) else none) = some b
  rw [if_pos e1, if_pos e2]
  exact h4
/-- the def x of the top: its code object's table is empty -/
def TabFact (mg : Str → Option Value) (h : Heap) (x : Str) : Prop := ∃ a o fd c P, mg x = some (.ref a) ∧ h.get? a = some o ∧ o.data = .func fd ∧ fd.code = .ref c ∧ h.IsCode c P #[] ∧ h.TableAt c P #[]
theorem tab_empty {K : PySem.W.Frag} {mg : Str → Option Value} {h : Heap} {x : Str} {f c P : Addr} {oc ou : Value} {od ov : Option Addr} {fd : FuncData} {sl sw : Array (Option Value)} {vs : Array Value} (t : TabFact mg h x) (X : K.In h) (hm : mg x = some (.ref f)) (l : K.lookup f = some ⟨oc, od, .func fd, sl⟩) (hc : fd.code = .ref c)
    (lc : K.lookup c = some ⟨ou, ov, .fields vs, sw⟩) (pc : vs[11]? = some (.ref P)) : h.get? P = some { cls := .none, data := .fields #[] } := by
  obtain ⟨a', o', fd', c', P', h1, h2, h3, h4, h5, h6⟩ := t
  rw [hm] at h1
  cases h1
  have g1 := X _ _ l
  rw [g1] at h2
  cases h2
  cases h3
  rw [hc] at h4
  cases h4
  obtain ⟨⟨oc, vc, e1, _, e3, e4⟩, hP⟩ := h6
  have g2 := X _ _ lc
  rw [g2] at e1
  cases e1
  cases e3
  rw [pc] at e4
  cases e4
  exact hP
theorem walk_mine {l : PySem.W.OpenLaw} {n k : Nat} {q : Program} {loose : List Str} {XP : (Str → Option Value) → Heap → Prop} {YP : World → Heap → Prop} {d : DefRec} {K : Params → PySem.W.Frag} {CX : World → CXT} {x : Str} (names : List Str)
    (hn : l.most = some n) (hn2 : n ≤ sizeLine) (hdf : d.params.defaults = []) (hr : Room k callerA) (hrec : (names.all fun y => (recsOf q).any fun e => e.name == y) = true) (hY : ∀ (w : World) (h : Heap), YP w h → (K w.params).In h)
    (F : ∀ (w : World) (mg : Str → Option Value) (fa : Addr) (h : Heap), YP w h → (K w.params).In h → h.Ns mainGlobals mg → mg d.name = some (.ref fa) → (∀ y ∈ names, TabFact mg h y) → LamX.LawAtS l w (K w.params) (CX w) k n x mg fa h)
    (hCX : ∀ (w : World) (H : Hp) (s : Shared) (e : Value) (s' : Shared), CX w [] H s (fun _ _ _ => False) e s' → False) :
    PySem.W.WalkO q loose XP YP l.row.toRowW d [] (fun f vs => PySem.call f vs) := by
  refine Att.attach_callB hn hdf fun w s₀ s₁ mg mb fa o pm cd doc a vs ns G Y ho hd hcd hmg hobj hints hlen hbits hg => ?_
  have KX := hY w _ Y
  have own : ∀ y ∈ names, TabFact mg s₁.heap y := fun y hy => by
    have hy2 := List.all_eq_true.mp hrec y hy
    obtain ⟨dL, hm, hn1⟩ := List.any_eq_true.mp hy2
    have hn2 : dL.name = y := beq_iff_eq.mp hn1
    have := G.T.tab dL hm
    rw [hn2] at this
    exact this
  obtain ⟨fd, cs, sp, hT, nT, C, hb, hsp, hF⟩ := F w mg fa _ Y KX G.T.g hmg own
  exact LamX.law_callTs KX G.T.g G.T.b G.T.builtins G.T.nolimit hg hT nT C G.T.bmain hobj hints (Nat.le_trans hlen hn2) hr hF hb (fun H hH hS => hsp H a ns hlen hbits hH hS) fun H e s' => hCX w H s₁ e s'
theorem all_mk {l : PySem.W.OpenLaw} {w : World} {K : PySem.W.Frag} {h : Heap} {mg : Str → Option Value} {n : Nat} {fa cN cL PN PL f1 f2 f3 f4 f5 f6 f7 f8 f9 f10 f11 f12 f13 f14 f15 f16 e1 e2 e3 e4 e5 e6 e7 e8 e9 : Addr} (X : K.In h) (G : h.Ns mainGlobals mg) (hfa : mg "law" = some (.ref fa)) (tN : TabFact mg h "numbered") (tL : TabFact mg h "law")
    {od1 an1 od2 an2 od3 an3 od4 an4 od5 an5 od6 an6 od7 an7 od8 an8 od9 an9 od10 an10 od11 an11 od12 an12 od13 an13 od14 an14 od15 an15 od16 an16 vN vL : Option Addr} {sl1 sl2 sl3 sl4 sl5 sl6 sl7 sl8 sl9 sl10 sl11 sl12 sl13 sl14 sl15 sl16 wN wL : Array (Option Value)} {oc1 kV1 dc1 pm1 ct1 cd1 oc2 kV2 dc2 pm2 ct2 cd2 oc3 kV3 dc3 pm3 ct3 oc4 kV4 dc4 pm4 ct4 cd4 oc5 kV5 dc5 pm5 ct5 cd5 oc6 kV6 dc6 pm6 ct6 cd6 oc7 kV7 dc7 pm7 ct7 cd7 oc8 kV8 dc8 pm8 ct8 cd8 oc9 kV9 dc9 pm9 ct9 cd9 oc10 kV10 dc10 pm10 ct10 cd10 oc11 kV11 dc11 pm11 ct11 cd11 oc12 kV12 dc12 pm12 ct12 cd12 oc13 kV13 dc13 pm13 ct13 cd13 oc14 kV14 dc14 pm14 ct14 cd14 oc15 kV15 dc15 pm15 ct15 cd15 oc16 kV16 dc16 pm16 ct16 uN uL : Value} {vsN vsL : Array Value}
    (a1 : PySem.W.nsIn K mainGlobals "links_of" = some (some (.ref f1)))
    (l1 : K.lookup f1 = some ⟨oc1, od1, .func (PySem.W.fnOf "links_of" "links_of" (defArgs sLinks) (defBody sLinks) (defScope sLinks) .none kV1 dc1 pm1 an1 cd1 ct1), sl1⟩)
    (c1 : PySem.W.codeIn K cd1 "links_of" = true)
    (k1 : PySem.W.keepIn K (.ref f1) = true)
    (a2 : PySem.W.nsIn K mainGlobals "waits" = some (some (.ref f2)))
    (l2 : K.lookup f2 = some ⟨oc2, od2, .func (PySem.W.fnOf "waits" "waits" (defArgs sWaits) (defBody sWaits) (defScope sWaits) .none kV2 dc2 pm2 an2 cd2 ct2), sl2⟩)
    (c2 : PySem.W.codeIn K cd2 "waits" = true)
    (k2 : PySem.W.keepIn K (.ref f2) = true)
    (a3 : PySem.W.nsIn K mainGlobals "numbered" = some (some (.ref f3)))
    (l3 : K.lookup f3 = some ⟨oc3, od3, .func (PySem.W.fnOf "numbered" "numbered" (defArgs sNumbered) (defBody sNumbered) (defScope sNumbered) .none kV3 dc3 pm3 an3 (.ref cN) ct3), sl3⟩)
    (c3 : PySem.W.codeIn K (.ref cN) "numbered" = true)
    (k3 : PySem.W.keepIn K (.ref f3) = true)
    (a4 : PySem.W.nsIn K mainGlobals "check_numbers" = some (some (.ref f4)))
    (l4 : K.lookup f4 = some ⟨oc4, od4, .func (PySem.W.fnOf "check_numbers" "check_numbers" (defArgs sCheck) (defBody sCheck) (defScope sCheck) .none kV4 dc4 pm4 an4 cd4 ct4), sl4⟩)
    (c4 : PySem.W.codeIn K cd4 "check_numbers" = true)
    (k4 : PySem.W.keepIn K (.ref f4) = true)
    (a5 : PySem.W.nsIn K mainGlobals "back_from" = some (some (.ref f5)))
    (l5 : K.lookup f5 = some ⟨oc5, od5, .func (PySem.W.fnOf "back_from" "back_from" (defArgs sBack) (defBody sBack) (defScope sBack) .none kV5 dc5 pm5 an5 cd5 ct5), sl5⟩)
    (c5 : PySem.W.codeIn K cd5 "back_from" = true)
    (k5 : PySem.W.keepIn K (.ref f5) = true)
    (a6 : PySem.W.nsIn K mainGlobals "levels" = some (some (.ref f6)))
    (l6 : K.lookup f6 = some ⟨oc6, od6, .func (PySem.W.fnOf "levels" "levels" (defArgs sLevels) (defBody sLevels) (defScope sLevels) .none kV6 dc6 pm6 an6 cd6 ct6), sl6⟩)
    (c6 : PySem.W.codeIn K cd6 "levels" = true)
    (k6 : PySem.W.keepIn K (.ref f6) = true)
    (a7 : PySem.W.nsIn K mainGlobals "goes_up" = some (some (.ref f7)))
    (l7 : K.lookup f7 = some ⟨oc7, od7, .func (PySem.W.fnOf "goes_up" "goes_up" (defArgs sGoes) (defBody sGoes) (defScope sGoes) .none kV7 dc7 pm7 an7 cd7 ct7), sl7⟩)
    (c7 : PySem.W.codeIn K cd7 "goes_up" = true)
    (k7 : PySem.W.keepIn K (.ref f7) = true)
    (a8 : PySem.W.nsIn K mainGlobals "up_and_down" = some (some (.ref f8)))
    (l8 : K.lookup f8 = some ⟨oc8, od8, .func (PySem.W.fnOf "up_and_down" "up_and_down" (defArgs sUp) (defBody sUp) (defScope sUp) .none kV8 dc8 pm8 an8 cd8 ct8), sl8⟩)
    (c8 : PySem.W.codeIn K cd8 "up_and_down" = true)
    (k8 : PySem.W.keepIn K (.ref f8) = true)
    (a9 : PySem.W.nsIn K mainGlobals "is_up_and_down" = some (some (.ref f9)))
    (l9 : K.lookup f9 = some ⟨oc9, od9, .func (PySem.W.fnOf "is_up_and_down" "is_up_and_down" (defArgs sIs) (defBody sIs) (defScope sIs) .none kV9 dc9 pm9 an9 cd9 ct9), sl9⟩)
    (c9 : PySem.W.codeIn K cd9 "is_up_and_down" = true)
    (k9 : PySem.W.keepIn K (.ref f9) = true)
    (a10 : PySem.W.nsIn K mainGlobals "_law_flat" = some (some (.ref f10)))
    (l10 : K.lookup f10 = some ⟨oc10, od10, .func (PySem.W.fnOf "_law_flat" "_law_flat" (defArgs sFlat) (defBody sFlat) (defScope sFlat) .none kV10 dc10 pm10 an10 cd10 ct10), sl10⟩)
    (c10 : PySem.W.codeIn K cd10 "_law_flat" = true)
    (k10 : PySem.W.keepIn K (.ref f10) = true)
    (a11 : PySem.W.nsIn K mainGlobals "_law_dice" = some (some (.ref f11)))
    (l11 : K.lookup f11 = some ⟨oc11, od11, .func (PySem.W.fnOf "_law_dice" "_law_dice" (defArgs sDice) (defBody sDice) (defScope sDice) .none kV11 dc11 pm11 an11 cd11 ct11), sl11⟩)
    (c11 : PySem.W.codeIn K cd11 "_law_dice" = true)
    (k11 : PySem.W.keepIn K (.ref f11) = true)
    (a12 : PySem.W.nsIn K mainGlobals "_law_roll" = some (some (.ref f12)))
    (l12 : K.lookup f12 = some ⟨oc12, od12, .func (PySem.W.fnOf "_law_roll" "_law_roll" (defArgs sRoll) (defBody sRoll) (defScope sRoll) .none kV12 dc12 pm12 an12 cd12 ct12), sl12⟩)
    (c12 : PySem.W.codeIn K cd12 "_law_roll" = true)
    (k12 : PySem.W.keepIn K (.ref f12) = true)
    (a13 : PySem.W.nsIn K mainGlobals "_law_rounds" = some (some (.ref f13)))
    (l13 : K.lookup f13 = some ⟨oc13, od13, .func (PySem.W.fnOf "_law_rounds" "_law_rounds" (defArgs sRounds) (defBody sRounds) (defScope sRounds) .none kV13 dc13 pm13 an13 cd13 ct13), sl13⟩)
    (c13 : PySem.W.codeIn K cd13 "_law_rounds" = true)
    (k13 : PySem.W.keepIn K (.ref f13) = true)
    (a14 : PySem.W.nsIn K mainGlobals "_law_told" = some (some (.ref f14)))
    (l14 : K.lookup f14 = some ⟨oc14, od14, .func (PySem.W.fnOf "_law_told" "_law_told" (defArgs sTold) (defBody sTold) (defScope sTold) .none kV14 dc14 pm14 an14 cd14 ct14), sl14⟩)
    (c14 : PySem.W.codeIn K cd14 "_law_told" = true)
    (k14 : PySem.W.keepIn K (.ref f14) = true)
    (a15 : PySem.W.nsIn K mainGlobals "_law_ways" = some (some (.ref f15)))
    (l15 : K.lookup f15 = some ⟨oc15, od15, .func (PySem.W.fnOf "_law_ways" "_law_ways" (defArgs sWays) (defBody sWays) (defScope sWays) .none kV15 dc15 pm15 an15 cd15 ct15), sl15⟩)
    (c15 : PySem.W.codeIn K cd15 "_law_ways" = true)
    (k15 : PySem.W.keepIn K (.ref f15) = true)
    (a16 : PySem.W.nsIn K mainGlobals "law" = some (some (.ref f16)))
    (l16 : K.lookup f16 = some ⟨oc16, od16, .func (PySem.W.fnOf "law" "law" (defArgs sLaw) (defBody sLaw) (defScope sLaw) .none kV16 dc16 pm16 an16 (.ref cL) ct16), sl16⟩)
    (c16 : PySem.W.codeIn K (.ref cL) "law" = true)
    (k16 : PySem.W.keepIn K (.ref f16) = true)
    (lcN : K.lookup cN = some ⟨uN, vN, .fields vsN, wN⟩)
    (pcN : vsN[11]? = some (.ref PN))
    (hcN : PySem.W.codeHdIn K cN PN = true)
    (ncN : K.lookup PN = none)
    (lcL : K.lookup cL = some ⟨uL, vL, .fields vsL, wL⟩)
    (pcL : vsL[11]? = some (.ref PL))
    (hcL : PySem.W.codeHdIn K cL PL = true)
    (ncL : K.lookup PL = none)
    (hne : (PN == PL) = false)
    (b1 : PySem.W.nsIn K mainGlobals "BadGate" = some (some (.ref e1)))
    (bs1 : PySem.W.subIn K (.ref e1) (.type "BaseException") = some true)
    (bn1 : PySem.W.subIn K (.ref e9) (.ref e1) = some false)
    (b2 : PySem.W.nsIn K mainGlobals "BadNet" = some (some (.ref e2)))
    (bs2 : PySem.W.subIn K (.ref e2) (.type "BaseException") = some true)
    (bn2 : PySem.W.subIn K (.ref e9) (.ref e2) = some false)
    (b3 : PySem.W.nsIn K mainGlobals "BadRate" = some (some (.ref e3)))
    (bs3 : PySem.W.subIn K (.ref e3) (.type "BaseException") = some true)
    (bn3 : PySem.W.subIn K (.ref e9) (.ref e3) = some false)
    (b4 : PySem.W.nsIn K mainGlobals "BadSize" = some (some (.ref e4)))
    (bs4 : PySem.W.subIn K (.ref e4) (.type "BaseException") = some true)
    (bn4 : PySem.W.subIn K (.ref e9) (.ref e4) = some false)
    (b5 : PySem.W.nsIn K mainGlobals "Blocked" = some (some (.ref e5)))
    (bs5 : PySem.W.subIn K (.ref e5) (.type "BaseException") = some true)
    (bn5 : PySem.W.subIn K (.ref e9) (.ref e5) = some false)
    (b6 : PySem.W.nsIn K mainGlobals "BadPaper" = some (some (.ref e6)))
    (bs6 : PySem.W.subIn K (.ref e6) (.type "BaseException") = some true)
    (bn6 : PySem.W.subIn K (.ref e9) (.ref e6) = some false)
    (b7 : PySem.W.nsIn K mainGlobals "BadText" = some (some (.ref e7)))
    (bs7 : PySem.W.subIn K (.ref e7) (.type "BaseException") = some true)
    (bn7 : PySem.W.subIn K (.ref e9) (.ref e7) = some false)
    (b8 : PySem.W.nsIn K mainGlobals "BadStore" = some (some (.ref e8)))
    (bs8 : PySem.W.subIn K (.ref e8) (.type "BaseException") = some true)
    (bn8 : PySem.W.subIn K (.ref e9) (.ref e8) = some false)
    (b9 : PySem.W.nsIn K mainGlobals "NoSuch" = some (some (.ref e9)))
    (bs9 : PySem.W.subIn K (.ref e9) (.type "BaseException") = some true)
    (bn9 : PySem.W.subIn K (.ref e9) (.ref e9) = some true)
    (bx : PySem.W.excIn K e9 [.type "ValueError", .type "Exception", .type "BaseException", .type "object"] "ValueError.__new__" = true)
    (bk : PySem.W.keepIn K (.ref e9) = true)
    (bt1 : PySem.W.typeIn K (.ref e1) = some (.type "type"))
    (bi1 : PySem.W.isClsIn K e1 = true)
    (bt2 : PySem.W.typeIn K (.ref e2) = some (.type "type"))
    (bi2 : PySem.W.isClsIn K e2 = true)
    (bt3 : PySem.W.typeIn K (.ref e3) = some (.type "type"))
    (bi3 : PySem.W.isClsIn K e3 = true)
    (bt4 : PySem.W.typeIn K (.ref e4) = some (.type "type"))
    (bi4 : PySem.W.isClsIn K e4 = true)
    (bt5 : PySem.W.typeIn K (.ref e5) = some (.type "type"))
    (bi5 : PySem.W.isClsIn K e5 = true)
    (bt6 : PySem.W.typeIn K (.ref e6) = some (.type "type"))
    (bi6 : PySem.W.isClsIn K e6 = true)
    (bt7 : PySem.W.typeIn K (.ref e7) = some (.type "type"))
    (bi7 : PySem.W.isClsIn K e7 = true)
    (bt8 : PySem.W.typeIn K (.ref e8) = some (.type "type"))
    (bi8 : PySem.W.isClsIn K e8 = true)
    (bt9 : PySem.W.typeIn K (.ref e9) = some (.type "type"))
    (bi9 : PySem.W.isClsIn K e9 = true)
    (z1 : PySem.W.nsIn K mainGlobals "dict" = some none)
    (z2 : PySem.W.nsIn K mainGlobals "range" = some none)
    (z3 : PySem.W.nsIn K mainGlobals "sorted" = some none)
    (z4 : PySem.W.nsIn K mainGlobals "abs" = some none)
    (z5 : PySem.W.nsIn K mainGlobals "min" = some none)
    (z6 : PySem.W.nsIn K mainGlobals "len" = some none)
    (z7 : PySem.W.nsIn K mainGlobals "any" = some none)
    (z8 : PySem.W.nsIn K mainGlobals "int" = some none)
    (z9 : PySem.W.nsIn K mainGlobals "tuple" = some none)
    (z10 : PySem.W.nsIn K mainGlobals "reversed" = some none) :
    LamX.LawAtS l w K CX0 5 n "_law_script" mg fa h := by
  have e := hfa.symm.trans (PySem.W.mg_of X G a16)
  cases e
  have hPN := tab_empty tN X (PySem.W.mg_of X G a3) l3 rfl lcN pcN
  have hPL := tab_empty tL X (PySem.W.mg_of X G a16) l16 rfl lcL pcL
  have hne2 : PN ≠ PL := fun z => by
    rw [z, beq_self_eq_true] at hne
    cases hne
  have F1 := fun_mk (st := sLinks) l1 c1 k1
  have B1 := F1.binds (ps := ["way"]) fun _ _ _ _ _ _ us hl => match us, hl with | [_], _ => rfl
  have F2 := fun_mk (st := sWaits) l2 c2 k2
  have B2 := F2.binds (ps := ["ways"]) fun _ _ _ _ _ _ us hl => match us, hl with | [_], _ => rfl
  have F3 : FunC K "numbered" "numbered" sNumbered cN f3 _ := ⟨⟨_, _, _, _, _, _, _, _, rfl, l3, c3⟩, k3⟩
  have B3 := F3.fn.binds (ps := ["pairs"]) fun _ _ _ _ _ _ us hl => match us, hl with | [_], _ => rfl
  have F4 := fun_mk (st := sCheck) l4 c4 k4
  have B4 := F4.binds (ps := ["pairs", "numbers"]) fun _ _ _ _ _ _ us hl => match us, hl with | [_, _], _ => rfl
  have F5 := fun_mk (st := sBack) l5 c5 k5
  have B5 := F5.binds (ps := ["came", "last"]) fun _ _ _ _ _ _ us hl => match us, hl with | [_, _], _ => rfl
  have F6 := fun_mk (st := sLevels) l6 c6 k6
  have B6 := F6.binds (ps := ["near", "root"]) fun _ _ _ _ _ _ us hl => match us, hl with | [_, _], _ => rfl
  have F7 := fun_mk (st := sGoes) l7 c7 k7
  have B7 := F7.binds (ps := ["levels_of", "one", "other"]) fun _ _ _ _ _ _ us hl => match us, hl with | [_, _, _], _ => rfl
  have F8 := fun_mk (st := sUp) l8 c8 k8
  have B8 := F8.binds (ps := ["near", "root", "one", "other"]) fun _ _ _ _ _ _ us hl => match us, hl with | [_, _, _, _], _ => rfl
  have F9 := fun_mk (st := sIs) l9 c9 k9
  have B9 := F9.binds (ps := ["near", "root", "way"]) fun _ _ _ _ _ _ us hl => match us, hl with | [_, _, _], _ => rfl
  have F10 := fun_mk (st := sFlat) l10 c10 k10
  have B10 := F10.binds (ps := ["_law_rows"]) fun _ _ _ _ _ _ us hl => match us, hl with | [_], _ => rfl
  have F11 := fun_mk (st := sDice) l11 c11 k11
  have B11 := F11.binds (ps := ["_law_cell"]) fun _ _ _ _ _ _ us hl => match us, hl with | [_], _ => rfl
  have F12 := fun_mk (st := sRoll) l12 c12 k12
  have B12 := F12.binds (ps := ["_law_dice_here", "_law_many"]) fun _ _ _ _ _ _ us hl => match us, hl with | [_, _], _ => rfl
  have F13 := fun_mk (st := sRounds) l13 c13 k13
  have B13 := F13.binds (ps := ["_law_script", "_law_most"]) fun _ _ _ _ _ _ us hl => match us, hl with | [_, _], _ => rfl
  have F14 := fun_mk (st := sTold) l14 c14 k14
  have B14 := F14.binds (ps := ["_law_what"]) fun _ _ _ _ _ _ us hl => match us, hl with | [_], _ => rfl
  have F15 := fun_mk (st := sWays) l15 c15 k15
  have B15 := F15.binds (ps := ["_law_near", "_law_steps", "_law_one", "_law_other"]) fun _ _ _ _ _ _ us hl => match us, hl with | [_, _, _, _], _ => rfl
  have F16 : FunC K "law" "law" sLaw cL fa _ := ⟨⟨_, _, _, _, _, _, _, _, rfl, l16, c16⟩, k16⟩
  have B16 := F16.fn.binds (ps := ["_law_script"]) fun _ _ _ _ _ _ us hl => match us, hl with | [_], _ => rfl
  refine ⟨PySem.W.fnOf "law" "law" (defArgs sLaw) (defBody sLaw) (defScope sLaw) .none kV16 dc16 pm16 an16 (.ref cL) ct16, [(cN, PN), (cL, PL)], spLaw K PN PL, fun p hp => ?_, fun p hp => ?_, fun p hp => ?_, fun s v => .of_eq rfl, fun H a ns _ _ hH hS => ⟨a, ns, rfl, hS, hH (cN, PN) (.head _), hH (cL, PL) (.tail _ (.head _)), hne2, fun _ => rfl⟩, fun base KB GB hTB => ?_⟩
  · simp only [List.mem_cons, List.not_mem_nil, or_false] at hp
    rcases hp with rfl | rfl
    · exact hPN
    · exact hPL
  · simp only [List.mem_cons, List.not_mem_nil, or_false] at hp
    rcases hp with rfl | rfl
    · exact ncN
    · exact ncL
  · simp only [List.mem_cons, List.not_mem_nil, or_false] at hp
    rcases hp with rfl | rfl
    · exact PySem.W.codeHd_of_K X hcN
    · exact PySem.W.codeHd_of_K X hcL
  · have TL := hTB (cL, PL) (.tail _ (.head _))
    have TN0 := hTB (cN, PN) (.head _)
    have TN : GxR.TabB base mg cN PN := ⟨TN0.code, TN0.bm, TN0.gP⟩
    have GU : Cal l.prog w K mg base CX0 1 "goes_up" ["levels_of", "one", "other"] spGoes f7 _ := ⟨ok_goes F7, PySem.W.mg_of X G a7, k7, B7⟩
    have LK : Cal l.prog w K mg base CX0 1 "links_of" ["way"] spLinks f1 _ := ⟨ok_links F1 (PySem.W.mg_none_of X G z9) (PySem.W.mg_none_of X G z2) (PySem.W.mg_none_of X G z6), PySem.W.mg_of X G a1, k1, B1⟩
    have BK : Cal l.prog w K mg base CX0 1 "back_from" ["came", "last"] (spBack l.prog w) f5 _ := ⟨ok_back F5 (PySem.W.mg_none_of X G z9) (PySem.W.mg_none_of X G z10), PySem.W.mg_of X G a5, k5, B5⟩
    have LV : Cal l.prog w K mg base CX0 1 "levels" ["near", "root"] spLevels f6 _ := ⟨ok_levels F6, PySem.W.mg_of X G a6, k6, B6⟩
    have EX : ExcT K mg "NoSuch" e9 := ⟨PySem.W.mg_of X G b9, bx, bk, bs9, bt9⟩
    have UP : Cal l.prog w K mg base (L2.CX l.prog w) 2 "up_and_down" ["near", "root", "one", "other"] (spUp e9) f8 _ := ⟨ok_up F8 LV BK GU EX (PySem.W.mg_none_of X G z9), PySem.W.mg_of X G a8, k8, B8⟩
    have IS : Cal l.prog w K mg base CX0 2 "is_up_and_down" ["near", "root", "way"] spIs f9 _ := ⟨ok_is F9 LV LK GU, PySem.W.mg_of X G a9, k9, B9⟩
    have WY : Cal l.prog w K mg base CX0 1 "_law_ways" ["_law_near", "_law_steps", "_law_one", "_law_other"] spWays f15 _ := ⟨ok_ways F15, PySem.W.mg_of X G a15, k15, B15⟩
    have FL : Cal l.prog w K mg base CX0 1 "_law_flat" ["_law_rows"] spFlat f10 _ := ⟨ok_flat F10, PySem.W.mg_of X G a10, k10, B10⟩
    have DC : Cal l.prog w K mg base CX0 1 "_law_dice" ["_law_cell"] spDice f11 _ := ⟨ok_dice F11 (PySem.W.mg_none_of X G z4) (PySem.W.mg_none_of X G z8), PySem.W.mg_of X G a11, k11, B11⟩
    have RL : Cal l.prog w K mg base CX0 1 "_law_roll" ["_law_dice_here", "_law_many"] spRoll f12 _ := ⟨ok_roll F12 (PySem.W.mg_none_of X G z8), PySem.W.mg_of X G a12, k12, B12⟩
    have RD : Cal l.prog w K mg base CX0 2 "_law_rounds" ["_law_script", "_law_most"] (spRounds K) f13 _ := ⟨ok_rounds F13 DC, PySem.W.mg_of X G a13, k13, B13⟩
    have WT : Cal l.prog w K mg base CX0 2 "waits" ["ways"] spWaits f2 _ := ⟨ok_waits F2 LK (PySem.W.mg_none_of X G z2) (PySem.W.mg_none_of X G z6) (PySem.W.mg_none_of X G z9) (PySem.W.mg_none_of X G z3), PySem.W.mg_of X G a2, k2, B2⟩
    have NM : Cal l.prog w K mg base CX0 1 "numbered" ["pairs"] (spNumbered l.prog w PN) f3 _ := ⟨ok_numbered F3 TN (PySem.W.mg_none_of X G z3) (PySem.W.mg_none_of X G z1) (PySem.W.mg_none_of X G z6) (PySem.W.mg_none_of X G z7), PySem.W.mg_of X G a3, k3, B3⟩
    have CK : Cal l.prog w K mg base CX0 1 "check_numbers" ["pairs", "numbers"] (spCheck l.prog w) f4 _ := ⟨ok_check F4, PySem.W.mg_of X G a4, k4, B4⟩
    refine ok_law F16 TL ⟨⟨_, _, RD⟩, ⟨_, _, RL⟩, ⟨_, _, LV⟩, ⟨_, _, FL⟩, ⟨_, _, UP⟩, ⟨_, _, IS⟩, ⟨_, _, WY⟩, ⟨_, _, LK⟩, ⟨_, _, GU⟩, ⟨_, _, WT⟩, ⟨_, _, NM⟩, ⟨_, _, CK⟩, ⟨_, _, F14, B14, PySem.W.mg_of X G a14⟩⟩
      ⟨PySem.W.mg_none_of X G z1, PySem.W.mg_none_of X G z2, PySem.W.mg_none_of X G z3, PySem.W.mg_none_of X G z4, PySem.W.mg_none_of X G z5, PySem.W.mg_none_of X G z6⟩
      ⟨PySem.W.mg_of X G b1, PySem.W.mg_of X G b2, PySem.W.mg_of X G b3, PySem.W.mg_of X G b4, PySem.W.mg_of X G b5, PySem.W.mg_of X G b6, PySem.W.mg_of X G b7, PySem.W.mg_of X G b8, PySem.W.mg_of X G b9, exm_of bs1 bi1 bt1 bn1, exm_of bs2 bi2 bt2 bn2, exm_of bs3 bi3 bt3 bn3, exm_of bs4 bi4 bt4 bn4, exm_of bs5 bi5 bt5 bn5, exm_of bs6 bi6 bt6 bn6, exm_of bs7 bi7 bt7 bn7, exm_of bs8 bi8 bt8 bn8, exm_of bs9 bi9 bt9 bn9⟩
end KT
open PySem PySem.W PyProof.Rows
set_option maxRecDepth 100000 in
set_option maxHeartbeats 0 in
theorem PySem.Challenge.cw_crossloom_k20_up_and_down_holds : PySem.Challenge.rw_crossloom_k20_up_and_down.Holds := by
  w_on; o_law; k_head; (case hw => w_witness2)
  k_fill
  refine KT.walk_mine (l := PySem.Challenge.rw_crossloom_k20_up_and_down) (n := 63) (k := 5) (x := "_law_script") (CX := fun _ => L2.CX0) ["numbered", "law"] rfl (by decide) rfl ⟨rfl, by decide, by decide⟩ ?R (fun w h Y => PySem.W.km_in_of Y) ?F (fun _ _ _ _ _ z => z)
  case R => kernel_rfl
  case F =>
    intro w mg fa h Y KX G hmg tabs
    refine' KT.all_mk KX G hmg (tabs _ (.head _)) (tabs _ (.tail _ (.head _))) ?a1 ?l1 ?c1 ?k1 ?a2 ?l2 ?c2 ?k2 ?a3 ?l3 ?c3 ?k3 ?a4 ?l4 ?c4 ?k4 ?a5 ?l5 ?c5 ?k5 ?a6 ?l6 ?c6 ?k6 ?a7 ?l7 ?c7 ?k7 ?a8 ?l8 ?c8 ?k8 ?a9 ?l9 ?c9 ?k9 ?a10 ?l10 ?c10 ?k10 ?a11 ?l11 ?c11 ?k11 ?a12 ?l12 ?c12 ?k12 ?a13 ?l13 ?c13 ?k13 ?a14 ?l14 ?c14 ?k14 ?a15 ?l15 ?c15 ?k15 ?a16 ?l16 ?c16 ?k16 ?lcN ?pcN ?hcN ?ncN ?lcL ?pcL ?hcL ?ncL ?hne ?b1 ?bs1 ?bn1 ?b2 ?bs2 ?bn2 ?b3 ?bs3 ?bn3 ?b4 ?bs4 ?bn4 ?b5 ?bs5 ?bn5 ?b6 ?bs6 ?bn6 ?b7 ?bs7 ?bn7 ?b8 ?bs8 ?bn8 ?b9 ?bs9 ?bn9 ?bx ?bk ?bt1 ?bi1 ?bt2 ?bi2 ?bt3 ?bi3 ?bt4 ?bi4 ?bt5 ?bi5 ?bt6 ?bi6 ?bt7 ?bi7 ?bt8 ?bi8 ?bt9 ?bi9 ?z1 ?z2 ?z3 ?z4 ?z5 ?z6 ?z7 ?z8 ?z9 ?z10
    (case a1 => k_is)
    (case l1 => k_is)
    (case c1 => k_is)
    (case k1 => k_is)
    (case a2 => k_is)
    (case l2 => k_is)
    (case c2 => k_is)
    (case k2 => k_is)
    (case a3 => k_is)
    (case l3 => k_is)
    (case c3 => k_is)
    (case k3 => k_is)
    (case a4 => k_is)
    (case l4 => k_is)
    (case c4 => k_is)
    (case k4 => k_is)
    (case a5 => k_is)
    (case l5 => k_is)
    (case c5 => k_is)
    (case k5 => k_is)
    (case a6 => k_is)
    (case l6 => k_is)
    (case c6 => k_is)
    (case k6 => k_is)
    (case a7 => k_is)
    (case l7 => k_is)
    (case c7 => k_is)
    (case k7 => k_is)
    (case a8 => k_is)
    (case l8 => k_is)
    (case c8 => k_is)
    (case k8 => k_is)
    (case a9 => k_is)
    (case l9 => k_is)
    (case c9 => k_is)
    (case k9 => k_is)
    (case a10 => k_is)
    (case l10 => k_is)
    (case c10 => k_is)
    (case k10 => k_is)
    (case a11 => k_is)
    (case l11 => k_is)
    (case c11 => k_is)
    (case k11 => k_is)
    (case a12 => k_is)
    (case l12 => k_is)
    (case c12 => k_is)
    (case k12 => k_is)
    (case a13 => k_is)
    (case l13 => k_is)
    (case c13 => k_is)
    (case k13 => k_is)
    (case a14 => k_is)
    (case l14 => k_is)
    (case c14 => k_is)
    (case k14 => k_is)
    (case a15 => k_is)
    (case l15 => k_is)
    (case c15 => k_is)
    (case k15 => k_is)
    (case a16 => k_is)
    (case l16 => k_is)
    (case c16 => k_is)
    (case k16 => k_is)
    (case lcN => k_is)
    (case pcN => rfl)
    (case hcN => kernel_rfl)
    (case ncN => kernel_rfl)
    (case lcL => k_is)
    (case pcL => rfl)
    (case hcL => kernel_rfl)
    (case ncL => kernel_rfl)
    (case hne => decide)
    (case b1 => k_is)
    (case bs1 => k_is)
    (case b2 => k_is)
    (case bs2 => k_is)
    (case b3 => k_is)
    (case bs3 => k_is)
    (case b4 => k_is)
    (case bs4 => k_is)
    (case b5 => k_is)
    (case bs5 => k_is)
    (case b6 => k_is)
    (case bs6 => k_is)
    (case b7 => k_is)
    (case bs7 => k_is)
    (case b8 => k_is)
    (case bs8 => k_is)
    (case b9 => k_is)
    (case bs9 => k_is)
    (case bn1 => k_is)
    (case bn2 => k_is)
    (case bn3 => k_is)
    (case bn4 => k_is)
    (case bn5 => k_is)
    (case bn6 => k_is)
    (case bn7 => k_is)
    (case bn8 => k_is)
    (case bn9 => first | rfl | k_is)
    (case bx => k_exc)
    (case bk => k_is)
    (case bt1 => k_is)
    (case bi1 => k_is)
    (case bt2 => k_is)
    (case bi2 => k_is)
    (case bt3 => k_is)
    (case bi3 => k_is)
    (case bt4 => k_is)
    (case bi4 => k_is)
    (case bt5 => k_is)
    (case bi5 => k_is)
    (case bt6 => k_is)
    (case bi6 => k_is)
    (case bt7 => k_is)
    (case bi7 => k_is)
    (case bt8 => k_is)
    (case bi8 => k_is)
    (case bt9 => k_is)
    (case bi9 => k_is)
    (case z1 => k_is)
    (case z2 => k_is)
    (case z3 => k_is)
    (case z4 => k_is)
    (case z5 => k_is)
    (case z6 => k_is)
    (case z7 => k_is)
    (case z8 => k_is)
    (case z9 => k_is)
    (case z10 => k_is)
#print axioms PySem.Challenge.cw_crossloom_k20_up_and_down_holds
