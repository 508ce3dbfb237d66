import PyProof.Rows.All
import Wide.All
import OpenK.AllK
import Wide.FinOn
import HandS.ForMost
import HandS.IsInst
import HandS.Codes
import HandS.Conv
import HandS.Wide
import HandS.Walk
import HandS.Strs
import PySem.Challenge.RW_anydelay_k31_whole_sheets_otherwise
/-! The plain law: sheets as graphs over names, with no program in sight. -/
set_option linter.all false
namespace K31
variable {α : Type}

/-- the signs behind a turn of the wire at place i -/
def flipB (s : List Bool) (i : Nat) : List Bool := s.set i (!s.getD i false)
theorem flipB_len (s : List Bool) (i : Nat) : (flipB s i).length = s.length := by
  unfold flipB
  exact List.length_set
theorem flipB_get (s : List Bool) (i j : Nat) : (flipB s i)[j]? = if j = i ∧ i < s.length then some (!s.getD i false) else s[j]? := by
  unfold flipB
  rw [List.getElem?_set]
  by_cases h : i = j
  · subst h
    by_cases hl : i < s.length
    · simp [hl]
    · simp [hl]
  · have h' : ¬ j = i := fun e => h e.symm
    simp [h, h']

/-- which node is come to with which signs -/
inductive Reach (ns : List α) (first : List Bool) (g : List (List (α × Nat))) : Nat → List Bool → Prop
  | zero : Reach ns first g 0 first
  | step {k : Nat} {s : List Bool} {node : List (α × Nat)} {x : α} {to i : Nat} (h : Reach ns first g k s) (hn : g[k]? = some node) (hm : (x, to) ∈ node) (hi : ns[i]? = some x) : Reach ns first g to (flipB s i)
def Cons (ns : List α) (first : List Bool) (g : List (List (α × Nat))) : Prop := ∀ k s s', Reach ns first g k s → Reach ns first g k s' → s = s'
theorem Reach.len {ns : List α} {first : List Bool} {g : List (List (α × Nat))} {k : Nat} {s : List Bool} (h : Reach ns first g k s) : s.length = first.length := by
  induction h with
  | zero => rfl
  | step _ _ _ _ ih => rw [flipB_len, ih]
/-- the nodes of a sheet: some, few; in each the turns of unlike wires lead to nodes -/
structure Shape (ns : List α) (g : List (List (α × Nat))) : Prop where
  some : 0 < g.length
  few : g.length ≤ 40
  nd : ∀ node ∈ g, (node.map (·.1)).Nodup
  wire : ∀ node ∈ g, ∀ p ∈ node, p.1 ∈ ns
  to : ∀ node ∈ g, ∀ p ∈ node, p.2 < g.length
theorem Reach.lt {ns : List α} {first : List Bool} {g : List (List (α × Nat))} (S : Shape ns g) {k : Nat} {s : List Bool} (h : Reach ns first g k s) : k < g.length := by
  cases h with
  | zero => exact S.some
  | step _ hn hm _ => exact S.to _ (List.mem_of_getElem? hn) _ hm
/-- the signs that are told -/
structure IsSigns (ns : List α) (first : List Bool) (g : List (List (α × Nat))) (L : List (Option (List Bool))) : Prop where
  len : L.length = g.length
  at_ : ∀ k s, L[k]? = some (some s) ↔ (Reach ns first g k s ∧ k < g.length)
theorem IsSigns.uniq {ns ns' : List α} {first first' : List Bool} {g g' : List (List (α × Nat))} {L L' : List (Option (List Bool))} (a : IsSigns ns first g L) (b : IsSigns ns' first' g' L') (hl : g.length = g'.length)
    (h : ∀ k s, Reach ns first g k s ↔ Reach ns' first' g' k s) : L = L' := by
  apply List.ext_getElem?
  intro k
  by_cases hk : k < g.length
  · have h1 : k < L.length := by rw [a.len]; exact hk
    have h2 : k < L'.length := by rw [b.len, ← hl]; exact hk
    rw [List.getElem?_eq_getElem h1, List.getElem?_eq_getElem h2]
    cases e : L[k] with
    | some s =>
      have q : L[k]? = some (some s) := by rw [List.getElem?_eq_getElem h1, e]
      have q2 := (b.at_ k s).mpr ⟨(h k s).mp ((a.at_ k s).mp q).1, by rw [← hl]; exact hk⟩
      rw [List.getElem?_eq_getElem h2] at q2
      exact q2.symm
    | none =>
      cases e2 : L'[k] with
      | none => rfl
      | some s =>
        have q : L'[k]? = some (some s) := by rw [List.getElem?_eq_getElem h2, e2]
        have q2 := (a.at_ k s).mpr ⟨(h k s).mpr ((b.at_ k s).mp q).1, hk⟩
        rw [List.getElem?_eq_getElem h1, e] at q2
        cases q2
  · rw [List.getElem?_eq_none (by rw [a.len]; omega), List.getElem?_eq_none (by rw [b.len, ← hl]; omega)]

theorem nd_at {β : Type} {l : List β} (nd : l.Nodup) {i j : Nat} {x : β} (a : l[i]? = some x) (b : l[j]? = some x) : i = j := by
  obtain ⟨h1, e1⟩ := List.getElem?_eq_some_iff.mp a
  obtain ⟨h2, e2⟩ := List.getElem?_eq_some_iff.mp b
  exact (List.getElem_inj nd).mp (e1.trans e2.symm)
/-- unlike numbers below n are no more than n -/
theorem nd_few : ∀ {n : Nat} {l : List Nat}, l.Nodup → (∀ k ∈ l, k < n) → l.length ≤ n
  | 0, l, _, h => by
    cases l with
    | nil => exact Nat.le_refl _
    | cons a r => exact absurd (h a (by simp)) (Nat.not_lt_zero _)
  | n + 1, l, nd, h => by
    have e := nd_few (n := n) (l := l.filter fun k => decide (k ≠ n)) (nd.filter _) fun k hk => by
      obtain ⟨h1, h2⟩ := List.mem_filter.mp hk
      have := h k h1
      have h3 : k ≠ n := of_decide_eq_true h2
      omega
    have e2 : l.length ≤ (l.filter fun k => decide (k ≠ n)).length + 1 := by
      clear h e
      induction l with
      | nil => exact Nat.zero_le _
      | cons a r ih =>
        obtain ⟨n1, n2⟩ := List.nodup_cons.mp nd
        by_cases c : a = n
        · subst c
          have e3 : (a :: r).filter (fun k => decide (k ≠ a)) = r := by
            rw [List.filter_cons, if_neg (by simp)]
            refine List.filter_eq_self.mpr fun k hk => decide_eq_true fun z => ?_
            rw [z] at hk
            exact n1 hk
          rw [e3, List.length_cons]
          exact Nat.le_refl _
        · rw [List.filter_cons, if_pos (by simpa using c), List.length_cons, List.length_cons]
          have := ih n2
          omega
    omega
/-! ### the search -/
/-- found and waiting between two turns of the outer loop -/
structure DInv (ns : List α) (first : List Bool) (g : List (List (α × Nat))) (F : List (Nat × List Bool)) (ws : List Nat) : Prop where
  nd : (F.map (·.1)).Nodup
  start : (0, first) ∈ F
  ok : ∀ p ∈ F, Reach ns first g p.1 p.2
  sub : ∀ k ∈ ws, k ∈ F.map (·.1)
  shut : ∀ k s, (k, s) ∈ F → k ∉ ws → ∀ node, g[k]? = some node → ∀ x to i, (x, to) ∈ node → ns[i]? = some x → (to, flipB s i) ∈ F
/-- .. and within the turns of the node h -/
structure DMid (ns : List α) (first : List Bool) (g : List (List (α × Nat))) (F : List (Nat × List Bool)) (ws : List Nat) (h : Nat) (s : List Bool) (node : List (α × Nat)) (j : Nat) : Prop where
  nd : (F.map (·.1)).Nodup
  start : (0, first) ∈ F
  ok : ∀ p ∈ F, Reach ns first g p.1 p.2
  sub : ∀ k ∈ ws, k ∈ F.map (·.1)
  here : (h, s) ∈ F
  node_ : g[h]? = some node
  shut : ∀ k s, (k, s) ∈ F → k ∉ ws → k ≠ h → ∀ node, g[k]? = some node → ∀ x to i, (x, to) ∈ node → ns[i]? = some x → (to, flipB s i) ∈ F
  done : ∀ m, m < j → ∀ x to i, node[m]? = some (x, to) → ns[i]? = some x → (to, flipB s i) ∈ F
theorem key_uniq : ∀ {F : List (Nat × List Bool)} {k : Nat} {s t : List Bool}, (F.map (·.1)).Nodup → (k, s) ∈ F → (k, t) ∈ F → s = t
  | [], _, _, _, _, h, _ => by cases h
  | p :: r, k, s, t, nd, h1, h2 => by
    have nd' : (p.1 :: r.map (·.1)).Nodup := nd
    obtain ⟨n1, n2⟩ := List.nodup_cons.mp nd'
    rcases List.mem_cons.mp h1 with e1 | m1 <;> rcases List.mem_cons.mp h2 with e2 | m2
    · rw [← e1] at e2
      exact (Prod.mk.inj e2).2.symm
    · exact absurd (List.mem_map.mpr ⟨(k, t), m2, by rw [← e1]⟩) n1
    · exact absurd (List.mem_map.mpr ⟨(k, s), m1, by rw [← e2]⟩) n1
    · exact key_uniq n2 m1 m2
section
variable {ns : List α} {first : List Bool} {g : List (List (α × Nat))} {F : List (Nat × List Bool)} {ws : List Nat} {h : Nat} {s : List Bool} {node : List (α × Nat)} {j : Nat}
theorem DInv.begin : DInv ns first g [(0, first)] [0] where
  nd := by simp
  start := by simp
  ok := fun p hp => by
    rw [List.mem_singleton.mp hp]
    exact .zero
  sub := fun k hk => by
    rw [List.mem_singleton.mp hk]
    simp
  shut := fun k s hk hn => by
    have e := List.mem_singleton.mp hk
    exact absurd (List.mem_singleton.mpr (Prod.mk.inj e).1) hn
theorem DInv.pop (D : DInv ns first g F ws) (S : Shape ns g) {vs : List Nat} (e : ws = vs ++ [h]) : ∃ s node, (h, s) ∈ F ∧ g[h]? = some node ∧ DMid ns first g F vs h s node 0 := by
  subst e
  obtain ⟨p, hp, e⟩ := List.mem_map.mp (D.sub h (by simp))
  have e2 : p = (h, p.2) := by rw [← e]
  rw [e2] at hp
  have hlt : h < g.length := (D.ok _ hp).lt S
  refine ⟨p.2, g[h], hp, List.getElem?_eq_getElem hlt, D.nd, D.start, D.ok, fun k hk => D.sub k (by simp [hk]), hp, List.getElem?_eq_getElem hlt, fun k t hk hn hne => D.shut k t hk fun z => ?_, fun m hm => absurd hm (Nat.not_lt_zero _)⟩
  rcases List.mem_append.mp z with z | z
  · exact hn z
  · exact hne (List.mem_singleton.mp z)
theorem DMid.fresh (hns : ns.Nodup) (D : DMid ns first g F ws h s node j) {x : α} {to i : Nat} (e : node[j]? = some (x, to)) (hi : ns[i]? = some x) (hn : to ∉ F.map (·.1)) :
    DMid ns first g (F ++ [(to, flipB s i)]) (ws ++ [to]) h s node (j + 1) where
  nd := by
    rw [List.map_append]
    refine List.nodup_append.mpr ⟨D.nd, by simp, fun a ha b hb => ?_⟩
    have hb' : b = to := by simpa using hb
    rw [hb']
    intro q
    exact hn (q ▸ ha)
  start := List.mem_append_left _ D.start
  ok := fun p hp => by
    rcases List.mem_append.mp hp with hp | hp
    · exact D.ok p hp
    · rw [List.mem_singleton.mp hp]
      exact .step (D.ok _ D.here) D.node_ (List.mem_of_getElem? e) hi
  sub := fun k hk => by
    rw [List.map_append]
    rcases List.mem_append.mp hk with hk | hk
    · exact List.mem_append_left _ (D.sub k hk)
    · rw [List.mem_singleton.mp hk]
      exact List.mem_append_right _ (by simp)
  here := List.mem_append_left _ D.here
  node_ := D.node_
  shut := fun k t hk hw hne nd hnd x' to' i' hm hx => by
    rcases List.mem_append.mp hk with hk | hk
    · exact List.mem_append_left _ (D.shut k t hk (fun z => hw (List.mem_append_left _ z)) hne nd hnd x' to' i' hm hx)
    · have e := (Prod.mk.inj (List.mem_singleton.mp hk)).1
      exact absurd (List.mem_append_right _ (List.mem_singleton.mpr e)) hw
  done := fun m hm x' to' i' he hx => by
    by_cases hmj : m < j
    · exact List.mem_append_left _ (D.done m hmj x' to' i' he hx)
    · have e' : m = j := by omega
      rw [e', e] at he
      obtain ⟨rfl, rfl⟩ := Prod.mk.inj (Option.some.inj he)
      rw [nd_at hns hx hi]
      exact List.mem_append_right _ (by simp)
theorem DMid.seen (hns : ns.Nodup) (D : DMid ns first g F ws h s node j) {x : α} {to i : Nat} (e : node[j]? = some (x, to)) (hi : ns[i]? = some x) (hin : (to, flipB s i) ∈ F) : DMid ns first g F ws h s node (j + 1) :=
  ⟨D.nd, D.start, D.ok, D.sub, D.here, D.node_, D.shut, fun m hm x' to' i' he hx => by
      by_cases hmj : m < j
      · exact D.done m hmj x' to' i' he hx
      · have e' : m = j := by omega
        rw [e', e] at he
        obtain ⟨rfl, rfl⟩ := Prod.mk.inj (Option.some.inj he)
        rw [nd_at hns hx hi]
        exact hin⟩
theorem DMid.bad (D : DMid ns first g F ws h s node j) {x : α} {to i : Nat} {t : List Bool} (e : node[j]? = some (x, to)) (hi : ns[i]? = some x) (hin : (to, t) ∈ F) (hne : t ≠ flipB s i) : ¬ Cons ns first g := fun C =>
  hne (C to t (flipB s i) (D.ok _ hin) (.step (D.ok _ D.here) D.node_ (List.mem_of_getElem? e) hi))
theorem DMid.over (D : DMid ns first g F ws h s node j) (hj : node.length ≤ j) : DInv ns first g F ws where
  nd := D.nd
  start := D.start
  ok := D.ok
  sub := D.sub
  shut := fun k t hk hw nd hnd x to i hm hx => by
    by_cases hne : k = h
    · subst hne
      have e1 := D.node_
      rw [hnd] at e1
      have e1 := Option.some.inj e1
      have e2 := key_uniq D.nd hk D.here
      subst e1 e2
      obtain ⟨m, hm2, hm3⟩ := List.getElem_of_mem hm
      exact D.done m (by omega) x to i (by rw [List.getElem?_eq_getElem hm2, hm3]) hx
    · exact D.shut k t hk hw hne nd hnd x to i hm hx
theorem DInv.fin (D : DInv ns first g F []) (k : Nat) (t : List Bool) : Reach ns first g k t ↔ (k, t) ∈ F := by
  refine ⟨fun r => ?_, fun m => D.ok _ m⟩
  induction r with
  | zero => exact D.start
  | step _ hn hm hi ih => exact D.shut _ _ ih (by simp) _ hn _ _ _ hm hi
theorem DInv.cons (D : DInv ns first g F []) : Cons ns first g := fun k s t a b => key_uniq D.nd ((D.fin k s).mp a) ((D.fin k t).mp b)
theorem DInv.many (D : DInv ns first g F ws) (S : Shape ns g) : F.length ≤ g.length := by
  have e : F.length = (F.map (·.1)).length := by rw [List.length_map]
  rw [e]
  refine nd_few D.nd fun k hk => ?_
  obtain ⟨p, hp, rfl⟩ := List.mem_map.mp hk
  exact (D.ok p hp).lt S
theorem DMid.many (D : DMid ns first g F ws h s node j) (S : Shape ns g) : F.length ≤ g.length := by
  have e : F.length = (F.map (·.1)).length := by rw [List.length_map]
  rw [e]
  refine nd_few D.nd fun k hk => ?_
  obtain ⟨p, hp, rfl⟩ := List.mem_map.mp hk
  exact (D.ok p hp).lt S
end

/-! ### other sheets with the same signs -/
theorem Reach.mono {ns : List α} {first : List Bool} {g g' : List (List (α × Nat))} (H : ∀ k s node, Reach ns first g k s → g[k]? = some node → ∃ node', g'[k]? = some node' ∧ ∀ p ∈ node, p ∈ node') {k : Nat} {s : List Bool} (r : Reach ns first g k s) : Reach ns first g' k s := by
  induction r with
  | zero => exact .zero
  | step h hn hm hi ih =>
    obtain ⟨node', e, sub⟩ := H _ _ _ h hn
    exact .step ih e (sub _ hm) hi
theorem Cons.congr {ns ns' : List α} {first first' : List Bool} {g g' : List (List (α × Nat))} (h : ∀ k s, Reach ns first g k s ↔ Reach ns' first' g' k s) : Cons ns first g ↔ Cons ns' first' g' :=
  ⟨fun C k s t a b => C k s t ((h k s).mpr a) ((h k t).mpr b), fun C k s t a b => C k s t ((h k s).mp a) ((h k t).mp b)⟩

/-- each node's turns in another order -/
def Mixed (g g' : List (List (α × Nat))) : Prop := g'.length = g.length ∧ ∀ (k : Nat) (node node' : List (α × Nat)), g[k]? = some node → g'[k]? = some node' → node'.Perm node
theorem Mixed.reach {ns : List α} {first : List Bool} {g g' : List (List (α × Nat))} (m : Mixed g g') (k : Nat) (s : List Bool) : Reach ns first g k s ↔ Reach ns first g' k s := by
  constructor
  · refine Reach.mono fun k s node r e => ?_
    obtain ⟨hk, ek⟩ := List.getElem?_eq_some_iff.mp e
    have hk' : k < g'.length := by rw [m.1]; exact hk
    exact ⟨g'[k], List.getElem?_eq_getElem hk', fun p hp => (m.2 k node _ e (List.getElem?_eq_getElem hk')).mem_iff.mpr hp⟩
  · refine Reach.mono fun k s node r e => ?_
    obtain ⟨hk, ek⟩ := List.getElem?_eq_some_iff.mp e
    have hk' : k < g.length := by rw [← m.1]; exact hk
    exact ⟨g[k], List.getElem?_eq_getElem hk', fun p hp => (m.2 k _ node (List.getElem?_eq_getElem hk') e).mem_iff.mp hp⟩
theorem Mixed.shape {ns : List α} {g g' : List (List (α × Nat))} (m : Mixed g g') (S : Shape ns g) : Shape ns g' := by
  have key : ∀ node' ∈ g', ∃ node ∈ g, node'.Perm node := fun node' hn => by
    obtain ⟨k, hk, e⟩ := List.getElem_of_mem hn
    have hk' : k < g.length := by rw [← m.1]; exact hk
    exact ⟨g[k], List.getElem_mem hk', m.2 k _ node' (List.getElem?_eq_getElem hk') (by rw [List.getElem?_eq_getElem hk, e])⟩
  refine ⟨by rw [m.1]; exact S.some, by rw [m.1]; exact S.few, fun n' hn => ?_, fun n' hn p hp => ?_, fun n' hn p hp => ?_⟩
  · obtain ⟨n, h, pm⟩ := key n' hn
    exact (pm.map (·.1)).nodup_iff.mpr (S.nd n h)
  · obtain ⟨n, h, pm⟩ := key n' hn
    exact S.wire n h p (pm.mem_iff.mp hp)
  · obtain ⟨n, h, pm⟩ := key n' hn
    rw [m.1]
    exact S.to n h p (pm.mem_iff.mp hp)

/-- the turns of the nodes that nothing leads to taken out -/
def bareG (g : List (List (α × Nat))) (L : List (Option (List Bool))) : List (List (α × Nat)) := (g.zip L).map fun p => if p.2.isSome then p.1 else []
theorem bareG_len {g : List (List (α × Nat))} {L : List (Option (List Bool))} (h : L.length = g.length) : (bareG g L).length = g.length := by
  unfold bareG
  rw [List.length_map, List.length_zip, h]
  omega
theorem bareG_get {g : List (List (α × Nat))} {L : List (Option (List Bool))} {k : Nat} {node : List (α × Nat)} {o : Option (List Bool)} (h1 : g[k]? = some node) (h2 : L[k]? = some o) : (bareG g L)[k]? = some (if o.isSome then node else []) := by
  unfold bareG
  have e : (g.zip L)[k]? = some (node, o) := List.getElem?_zip_eq_some.mpr ⟨h1, h2⟩
  rw [List.getElem?_map, e]
  rfl
theorem bare_reach {ns : List α} {first : List Bool} {g : List (List (α × Nat))} {L : List (Option (List Bool))} (S : Shape ns g) (I : IsSigns ns first g L) (k : Nat) (s : List Bool) : Reach ns first g k s ↔ Reach ns first (bareG g L) k s := by
  constructor
  · refine Reach.mono fun k s node r e => ?_
    have q := (I.at_ k s).mpr ⟨r, r.lt S⟩
    exact ⟨node, by rw [bareG_get e q]; rfl, fun p hp => hp⟩
  · refine Reach.mono fun k s node r e => ?_
    obtain ⟨hk, ek⟩ := List.getElem?_eq_some_iff.mp e
    have hk' : k < g.length := by rw [← bareG_len I.len]; exact hk
    refine ⟨g[k], List.getElem?_eq_getElem hk', fun p hp => ?_⟩
    have hL : k < L.length := by rw [I.len]; exact hk'
    have e2 := bareG_get (List.getElem?_eq_getElem hk') (List.getElem?_eq_getElem hL)
    rw [e] at e2
    have e3 := Option.some.inj e2
    rw [e3] at hp
    by_cases c : L[k].isSome = true
    · rw [if_pos c] at hp
      exact hp
    · rw [if_neg c] at hp
      cases hp
theorem bare_shape {ns : List α} {g : List (List (α × Nat))} {L : List (Option (List Bool))} (S : Shape ns g) (h : L.length = g.length) : Shape ns (bareG g L) := by
  have key : ∀ n' ∈ bareG g L, n' ∈ g ∨ n' = [] := fun n' hn => by
    unfold bareG at hn
    obtain ⟨p, hp, rfl⟩ := List.mem_map.mp hn
    by_cases c : p.2.isSome = true
    · rw [if_pos c]
      exact .inl (List.of_mem_zip hp).1
    · rw [if_neg c]
      exact .inr rfl
  refine ⟨by rw [bareG_len h]; exact S.some, by rw [bareG_len h]; exact S.few, fun n' hn => ?_, fun n' hn p hp => ?_, fun n' hn p hp => ?_⟩
  · rcases key n' hn with q | rfl
    · exact S.nd n' q
    · exact List.nodup_nil
  · rcases key n' hn with q | rfl
    · exact S.wire n' q p hp
    · cases hp
  · rcases key n' hn with q | rfl
    · rw [bareG_len h]
      exact S.to n' q p hp
    · cases hp

/-- the nodes numbered in another order -/
structure Ren (order : List Nat) (g g' : List (List (α × Nat))) : Prop where
  perm : order.Perm (List.range g.length)
  zero : order[0]? = some 0
  len : g'.length = g.length
  at_ : ∀ (i old : Nat) (node : List (α × Nat)), order[i]? = some old → g[old]? = some node → ∃ node', g'[i]? = some node' ∧ node'.length = node.length ∧ ∀ (j : Nat) (x : α) (to : Nat), node[j]? = some (x, to) → ∃ p, order[p]? = some to ∧ node'[j]? = some (x, p)
theorem Ren.nd {order : List Nat} {g g' : List (List (α × Nat))} (R : Ren order g g') : order.Nodup := R.perm.nodup_iff.mpr List.nodup_range
theorem Ren.olen {order : List Nat} {g g' : List (List (α × Nat))} (R : Ren order g g') : order.length = g.length := by rw [R.perm.length_eq, List.length_range]
theorem Ren.lt {order : List Nat} {g g' : List (List (α × Nat))} (R : Ren order g g') {i k : Nat} (h : order[i]? = some k) : k < g.length := List.mem_range.mp (R.perm.mem_iff.mp (List.mem_of_getElem? h))
theorem Ren.ex {order : List Nat} {g g' : List (List (α × Nat))} (R : Ren order g g') {k : Nat} (h : k < g.length) : ∃ i : Nat, order[i]? = some k := by
  obtain ⟨i, hi, e⟩ := List.getElem_of_mem (R.perm.mem_iff.mpr (List.mem_range.mpr h))
  exact ⟨i, by rw [List.getElem?_eq_getElem hi, e]⟩
theorem Ren.back {order : List Nat} {g g' : List (List (α × Nat))} (R : Ren order g g') {i : Nat} {node' : List (α × Nat)} (h : g'[i]? = some node') : ∃ (old : Nat) (node : List (α × Nat)), order[i]? = some old ∧ g[old]? = some node ∧ node'.length = node.length ∧
    ∀ (j : Nat) (x : α) (p : Nat), node'[j]? = some (x, p) → ∃ to, order[p]? = some to ∧ node[j]? = some (x, to) := by
  obtain ⟨hi, _⟩ := List.getElem?_eq_some_iff.mp h
  have hi2 : i < order.length := by rw [R.olen, ← R.len]; exact hi
  have ho := List.getElem?_eq_getElem hi2
  have hlt := R.lt ho
  obtain ⟨n2, e2, el, ej⟩ := R.at_ i order[i] g[order[i]] ho (List.getElem?_eq_getElem hlt)
  rw [h] at e2
  have e2 := Option.some.inj e2
  subst e2
  refine ⟨order[i], g[order[i]], ho, List.getElem?_eq_getElem hlt, el, fun j x p hj => ?_⟩
  obtain ⟨hjl, _⟩ := List.getElem?_eq_some_iff.mp hj
  have hjl2 : j < (g[order[i]]).length := by rw [← el]; exact hjl
  obtain ⟨q, hq, hq2⟩ := ej j (g[order[i]][j]).1 (g[order[i]][j]).2 (by rw [List.getElem?_eq_getElem hjl2])
  rw [hj] at hq2
  obtain ⟨e4, e5⟩ := Prod.mk.inj (Option.some.inj hq2)
  exact ⟨_, by rw [e5]; exact hq, by rw [List.getElem?_eq_getElem hjl2, e4]⟩
theorem Ren.shape {ns : List α} {order : List Nat} {g g' : List (List (α × Nat))} (R : Ren order g g') (S : Shape ns g) : Shape ns g' := by
  refine ⟨by rw [R.len]; exact S.some, by rw [R.len]; exact S.few, fun n' hn => ?_, fun n' hn p hp => ?_, fun n' hn p hp => ?_⟩
  · obtain ⟨i, hi, e⟩ := List.getElem_of_mem hn
    obtain ⟨old, node, _, h2, el, ej⟩ := R.back (show g'[i]? = some n' by rw [List.getElem?_eq_getElem hi, e])
    have e2 : n'.map (·.1) = node.map (·.1) := by
      refine List.ext_getElem (by rw [List.length_map, List.length_map, el]) fun j h3 h4 => ?_
      rw [List.length_map] at h3 h4
      obtain ⟨to, _, q⟩ := ej j (n'[j]).1 (n'[j]).2 (by rw [List.getElem?_eq_getElem h3])
      rw [List.getElem?_eq_getElem h4] at q
      have q := Option.some.inj q
      simp only [List.getElem_map]
      rw [q]
    rw [e2]
    exact S.nd node (List.mem_of_getElem? h2)
  all_goals
    obtain ⟨i, hi, e⟩ := List.getElem_of_mem hn
    obtain ⟨old, node, _, h2, el, ej⟩ := R.back (show g'[i]? = some n' by rw [List.getElem?_eq_getElem hi, e])
    obtain ⟨j, hj, e3⟩ := List.getElem_of_mem hp
    obtain ⟨to, q1, q2⟩ := ej j p.1 p.2 (by rw [List.getElem?_eq_getElem hj, e3])
  · exact S.wire node (List.mem_of_getElem? h2) (p.1, to) (List.mem_of_getElem? q2)
  · obtain ⟨h5, _⟩ := List.getElem?_eq_some_iff.mp q1
    rw [R.len, ← R.olen]
    exact h5
theorem Ren.there {ns : List α} {first : List Bool} {order : List Nat} {g g' : List (List (α × Nat))} (R : Ren order g g') {k : Nat} {s : List Bool} (r : Reach ns first g k s) : ∀ i, order[i]? = some k → Reach ns first g' i s := by
  induction r with
  | zero =>
    intro i hi
    rw [nd_at R.nd hi R.zero]
    exact .zero
  | @step k s node x to w h hn hm hi ih =>
    intro i ho
    obtain ⟨hk, _⟩ := List.getElem?_eq_some_iff.mp hn
    obtain ⟨b, hb⟩ := R.ex hk
    obtain ⟨n2, e2, el, ej⟩ := R.at_ b k node hb hn
    obtain ⟨j, hj, e3⟩ := List.getElem_of_mem hm
    obtain ⟨p, hp, hp2⟩ := ej j x to (by rw [List.getElem?_eq_getElem hj, e3])
    rw [nd_at R.nd ho hp]
    exact .step (ih b hb) e2 (List.mem_of_getElem? hp2) hi
theorem Ren.here {ns : List α} {first : List Bool} {order : List Nat} {g g' : List (List (α × Nat))} (R : Ren order g g') {i : Nat} {s : List Bool} (r : Reach ns first g' i s) : ∀ k, order[i]? = some k → Reach ns first g k s := by
  induction r with
  | zero =>
    intro k hk
    rw [R.zero] at hk
    rw [← Option.some.inj hk]
    exact .zero
  | @step b s node' x p w h hn hm hi ih =>
    intro k hk
    obtain ⟨old, node, h1, h2, el, ej⟩ := R.back hn
    obtain ⟨j, hj, e3⟩ := List.getElem_of_mem hm
    obtain ⟨to, q1, q2⟩ := ej j x p (by rw [List.getElem?_eq_getElem hj, e3])
    rw [hk] at q1
    rw [Option.some.inj q1]
    exact .step (ih old h1) h2 (List.mem_of_getElem? q2) hi
theorem Ren.cons {ns : List α} {first : List Bool} {order : List Nat} {g g' : List (List (α × Nat))} (R : Ren order g g') (S : Shape ns g) : Cons ns first g ↔ Cons ns first g' := by
  constructor
  · intro C i s t a b
    have hi : i < order.length := by
      rw [R.olen, ← R.len]
      exact a.lt (R.shape S)
    exact C _ s t (R.here a _ (List.getElem?_eq_getElem hi)) (R.here b _ (List.getElem?_eq_getElem hi))
  · intro C k s t a b
    obtain ⟨i, hi⟩ := R.ex (a.lt S)
    exact C i s t (R.there a i hi) (R.there b i hi)
theorem Ren.signs {ns : List α} {first : List Bool} {order : List Nat} {g g' : List (List (α × Nat))} {L L' : List (Option (List Bool))} (R : Ren order g g') (I : IsSigns ns first g L) (I' : IsSigns ns first g' L') : ∀ i : Nat, L'[i]? = (order[i]?).bind fun k => L[k]? := by
  intro i
  by_cases hi : i < order.length
  · have ho := List.getElem?_eq_getElem hi
    have hk := R.lt ho
    have h1 : i < L'.length := by rw [I'.len, R.len, ← R.olen]; exact hi
    have h2 : order[i] < L.length := by rw [I.len]; exact hk
    have h3 : i < g'.length := by rw [R.len, ← R.olen]; exact hi
    rw [ho]
    show L'[i]? = L[order[i]]?
    rw [List.getElem?_eq_getElem h1, List.getElem?_eq_getElem h2]
    cases e : L'[i] with
    | some s =>
      have q := ((I'.at_ i s).mp (by rw [List.getElem?_eq_getElem h1, e])).1
      have q2 := (I.at_ _ s).mpr ⟨R.here q _ ho, hk⟩
      rw [List.getElem?_eq_getElem h2] at q2
      exact q2.symm
    | none =>
      cases e2 : L[order[i]] with
      | none => rfl
      | some s =>
        have q := ((I.at_ _ s).mp (by rw [List.getElem?_eq_getElem h2, e2])).1
        have q2 := (I'.at_ i s).mpr ⟨R.there q i ho, h3⟩
        rw [List.getElem?_eq_getElem h1, e] at q2
        cases q2
  · have h1 : ¬ i < L'.length := by rw [I'.len, R.len, ← R.olen]; exact hi
    rw [List.getElem?_eq_none (by omega), List.getElem?_eq_none (show order.length ≤ i by omega)]
    rfl

/-- the wires in another order -/
structure Rew (places : List Nat) (ns ns' : List α) : Prop where
  nd : places.Nodup
  len : places.length = ns.length
  len' : ns'.length = ns.length
  at_ : ∀ j : Nat, ns'[j]? = (places[j]?).bind fun p => ns[p]?
  lt : ∀ p ∈ places, p < ns.length
def pick (places : List Nat) (s : List Bool) : List Bool := places.map fun p => s.getD p false
theorem pick_len (places : List Nat) (s : List Bool) : (pick places s).length = places.length := by
  unfold pick
  exact List.length_map ..
theorem pick_get (places : List Nat) (s : List Bool) (j : Nat) : (pick places s)[j]? = (places[j]?).map fun p => s.getD p false := by
  unfold pick
  exact List.getElem?_map ..
theorem pick_flip {places : List Nat} {s : List Bool} (nd : places.Nodup) (hl : ∀ p ∈ places, p < s.length) {i j : Nat} (h : places[j]? = some i) : pick places (flipB s i) = flipB (pick places s) j := by
  obtain ⟨hj, ej⟩ := List.getElem?_eq_some_iff.mp h
  have hi : i < s.length := hl i (List.mem_of_getElem? h)
  apply List.ext_getElem?
  intro m
  rw [pick_get, flipB_get, pick_len, pick_get]
  cases e : places[m]? with
  | none =>
    have hm : ¬ m = j := fun z => by
      rw [z, h] at e
      cases e
    rw [if_neg fun z => hm z.1]
    rfl
  | some p =>
    by_cases hm : m = j
    · rw [hm, h] at e
      have e := Option.some.inj e
      subst e
      rw [if_pos ⟨hm, hj⟩]
      show some ((flipB s i).getD i false) = some (!(pick places s).getD j false)
      rw [List.getD_eq_getElem?_getD, flipB_get, if_pos ⟨rfl, hi⟩, List.getD_eq_getElem?_getD (l := pick places s), pick_get, h]
      rfl
    · rw [if_neg fun z => hm z.1]
      have hp : ¬ p = i := fun z => by
        rw [z] at e
        exact hm (nd_at nd e h)
      show some ((flipB s i).getD p false) = some (s.getD p false)
      rw [List.getD_eq_getElem?_getD, flipB_get, if_neg fun z => hp z.1, ← List.getD_eq_getElem?_getD]
theorem Rew.all {places : List Nat} {ns ns' : List α} (W : Rew places ns ns') {p : Nat} (h : p < ns.length) : p ∈ places := by
  refine Classical.byContradiction fun hn => ?_
  have h1 : (p :: places).Nodup := List.nodup_cons.mpr ⟨hn, W.nd⟩
  have h2 := nd_few (n := ns.length) h1 fun k hk => by
    rcases List.mem_cons.mp hk with rfl | hk
    · exact h
    · exact W.lt k hk
  rw [List.length_cons, W.len] at h2
  omega
theorem Rew.inj {places : List Nat} {ns ns' : List α} (W : Rew places ns ns') {s t : List Bool} (hs : s.length = ns.length) (ht : t.length = ns.length) (e : pick places s = pick places t) : s = t := by
  refine List.ext_getElem (by rw [hs, ht]) fun p h1 h2 => ?_
  obtain ⟨j, hj, ej⟩ := List.getElem_of_mem (W.all (show p < ns.length by rw [← hs]; exact h1))
  have q := congrArg (fun l => l[j]?) e
  simp only [pick_get, List.getElem?_eq_getElem hj, ej, Option.map_some] at q
  have q := Option.some.inj q
  rw [List.getD_eq_getElem?_getD, List.getD_eq_getElem?_getD, List.getElem?_eq_getElem h1, List.getElem?_eq_getElem h2] at q
  exact q
theorem Rew.place {places : List Nat} {ns ns' : List α} (W : Rew places ns ns') {i : Nat} {x : α} (h : ns[i]? = some x) : ∃ j : Nat, places[j]? = some i ∧ ns'[j]? = some x := by
  obtain ⟨hi, _⟩ := List.getElem?_eq_some_iff.mp h
  obtain ⟨j, hj, ej⟩ := List.getElem_of_mem (W.all hi)
  have e : places[j]? = some i := by rw [List.getElem?_eq_getElem hj, ej]
  refine ⟨j, e, ?_⟩
  rw [W.at_ j, e]
  exact h
theorem Rew.mem {places : List Nat} {ns ns' : List α} (W : Rew places ns ns') {x : α} : x ∈ ns ↔ x ∈ ns' := by
  constructor
  · intro h
    obtain ⟨i, hi, e⟩ := List.getElem_of_mem h
    obtain ⟨j, _, q⟩ := W.place (show ns[i]? = some x by rw [List.getElem?_eq_getElem hi, e])
    exact List.mem_of_getElem? q
  · intro h
    obtain ⟨i, hi, e⟩ := List.getElem_of_mem h
    have q := W.at_ i
    rw [List.getElem?_eq_getElem hi, e] at q
    cases e2 : places[i]? with
    | none =>
      rw [e2] at q
      cases q
    | some p =>
      rw [e2] at q
      exact List.mem_of_getElem? q.symm
theorem Rew.shape {places : List Nat} {ns ns' : List α} (W : Rew places ns ns') {g : List (List (α × Nat))} (S : Shape ns g) : Shape ns' g :=
  ⟨S.some, S.few, S.nd, fun n hn p hp => W.mem.mp (S.wire n hn p hp), S.to⟩
theorem Rew.reach {places : List Nat} {ns ns' : List α} (W : Rew places ns ns') {first : List Bool} (hf : first.length = ns.length) {g : List (List (α × Nat))} {k : Nat} {s : List Bool} (r : Reach ns first g k s) : Reach ns' (pick places first) g k (pick places s) := by
  induction r with
  | zero => exact .zero
  | step h hn hm hi ih =>
    obtain ⟨j, h1, h2⟩ := W.place hi
    rw [pick_flip W.nd (fun p hp => by rw [h.len, hf]; exact W.lt p hp) h1]
    exact .step ih hn hm h2
theorem Rew.reach' {places : List Nat} {ns ns' : List α} (W : Rew places ns ns') {first : List Bool} (hf : first.length = ns.length) {g : List (List (α × Nat))} {k : Nat} {t : List Bool} (r : Reach ns' (pick places first) g k t) : ∃ s, Reach ns first g k s ∧ t = pick places s := by
  induction r with
  | zero => exact ⟨first, .zero, rfl⟩
  | @step k s node x to i h hn hm hi ih =>
    obtain ⟨u, hu, rfl⟩ := ih
    have q := W.at_ i
    rw [hi] at q
    cases e2 : places[i]? with
    | none =>
      rw [e2] at q
      cases q
    | some p =>
      rw [e2] at q
      refine ⟨flipB u p, .step hu hn hm q.symm, ?_⟩
      rw [pick_flip W.nd (fun p hp => by rw [hu.len, hf]; exact W.lt p hp) e2]
theorem Rew.cons {places : List Nat} {ns ns' : List α} (W : Rew places ns ns') {first : List Bool} (hf : first.length = ns.length) {g : List (List (α × Nat))} : Cons ns first g ↔ Cons ns' (pick places first) g := by
  constructor
  · intro C k s t a b
    obtain ⟨u, hu, rfl⟩ := W.reach' hf a
    obtain ⟨v, hv, rfl⟩ := W.reach' hf b
    rw [C k u v hu hv]
  · intro C k s t a b
    exact W.inj (by rw [a.len, hf]) (by rw [b.len, hf]) (C k _ _ (W.reach hf a) (W.reach hf b))
theorem Rew.signs {places : List Nat} {ns ns' : List α} (W : Rew places ns ns') {first : List Bool} (hf : first.length = ns.length) {g : List (List (α × Nat))} {L L' : List (Option (List Bool))} (I : IsSigns ns first g L) (I' : IsSigns ns' (pick places first) g L') : L' = L.map fun o => o.map (pick places) := by
  apply List.ext_getElem?
  intro k
  rw [List.getElem?_map]
  by_cases hk : k < g.length
  · have h1 : k < L.length := by rw [I.len]; exact hk
    have h2 : k < L'.length := by rw [I'.len]; exact hk
    rw [List.getElem?_eq_getElem h1, List.getElem?_eq_getElem h2]
    cases e : L[k] with
    | some s =>
      have q := ((I.at_ k s).mp (by rw [List.getElem?_eq_getElem h1, e])).1
      have q2 := (I'.at_ k _).mpr ⟨W.reach hf q, hk⟩
      rw [List.getElem?_eq_getElem h2] at q2
      exact q2
    | none =>
      cases e2 : L'[k] with
      | none => rfl
      | some t =>
        have q := ((I'.at_ k t).mp (by rw [List.getElem?_eq_getElem h2, e2])).1
        obtain ⟨s, hs, _⟩ := W.reach' hf q
        have q2 := (I.at_ k s).mpr ⟨hs, hk⟩
        rw [List.getElem?_eq_getElem h1, e] at q2
        cases q2
  · rw [List.getElem?_eq_none (by rw [I'.len]; omega), List.getElem?_eq_none (by rw [I.len]; omega)]
    rfl
end K31
set_option Elab.async false
set_option linter.all false
set_option maxRecDepth 100000
set_option maxHeartbeats 8000000
/-! set(xs) of a list of unlike texts: how many it holds. Over any kind of keys. -/
namespace K31
open PySem PySem.Spec PyProof.Rows L2
section
variable {prog : Program} {w : World} {A : Around} {κ : Type} [DecidableEq κ]
/-- the first i of the keys are in the set at S -/
abbrev Holds1 (knd : PySem.KeyKind prog w κ) (h : Heap) (S : Addr) (ks : List κ) (i : Nat) : Prop := h.SetOf knd S (fun x => decide (x ∈ ks.take i)) i
theorem Holds1.keep {knd : PySem.KeyKind prog w κ} {h h' : Heap} {S : Addr} {ks : List κ} {i : Nat} (H : Holds1 knd h S ks i) (k : ∀ o, h.get? S = some o → h'.get? S = some o) : Holds1 knd h' S ks i := by
  obtain ⟨o, es, ep, t, e, r⟩ := H
  exact ⟨o, es, ep, t, k o e, r⟩
theorem set_grows {knd : PySem.KeyKind prog w κ} (scan : ∀ k v, knd.is k v = true → v.scannable = true) {I S : Addr} {fp wr : List Addr} {G : Array GenState → Array GenState → Prop} {n : Nat} {Y : Nat → Value → Prop} {St : Nat → Shared → Prop} {R : Result → Shared → Prop}
    (W : WalksS prog w A.in1 I fp wr G n Y St) (off : S ∉ fp) (ks : List κ) (nd : ks.Nodup) (len : ks.length = n) (room : n + 1 < scanBound) (yields : ∀ (i : Nat) v, Y i v → ∃ k, ks[i]? = some k ∧ knd.is k v = true) :
    ∀ (left i : Nat) (s : Shared), i + left = n → St i s → Holds1 knd s.heap S ks i → (∀ s', Moved (S :: wr) G s s' → Holds1 knd s'.heap S ks n → R (.ok (.ret .none)) s') →
      codeAny (model prog w) A (.builtin "set.update.loop" ⟨[.ref S, .ref I], []⟩) R s
  | 0, i, s, hi, st, H, fin => by
    have hin : i = n := hi
    subst hin
    refine codeAny_builtin PyProof.Rows.F.entry_set_update_loop (by
      rw [Around.under_plainId PyProof.Rows.F.plain_set_update_loop _]; show wpAny _ A.in1 (pyNext (.ref I) >>= _) _ _ s
      refine wpAny_bind (W.done s _ _ st fun s' m => show wpAny _ A.in1 (ret Value.none) _ _ s' from wpAny_pure (fin s' ⟨fun b o hb e => m.heap b o (fun z => hb (List.mem_cons_of_mem _ z)) e, m.gens, m.drawn, m.os, m.toks⟩ (H.keep fun o e => m.heap S o (fun z => off (W.sub _ z)) e))))
  | left + 1, i, s, hi, st, H, fin => by
    refine codeAny_builtin PyProof.Rows.F.entry_set_update_loop (by
      rw [Around.under_plainId PyProof.Rows.F.plain_set_update_loop _]; show wpAny _ A.in1 (pyNext (.ref I) >>= _) _ _ s
      refine wpAny_bind (W.item i s _ _ (by omega) st fun v s1 y st1 m => ?_)
      obtain ⟨k, hk, is⟩ := yields i v y
      have H1 : Holds1 knd s1.heap S ks i := H.keep fun o e => m.heap S o (fun z => off (W.sub _ z)) e
      refine (show wpAny _ A.in1 (holding [v] (setAdd S v) >>= _) _ _ s1 from wpAny_bind (wpAny_holding ?_))
      unfold setAdd
      refine wpAny_holding (wpAny_bind (knd.pyHash is (wpAny_setAddHashed_of (s := { s1 with toks := s1.toks + 1 }) is (scan k v is) H1 (by omega) fun h2 same H2 => ?_)))
      have new : decide (k ∈ ks.take i) = false := decide_eq_false fun z => by
        obtain ⟨j, hj, e⟩ := List.getElem_of_mem z
        rw [List.length_take] at hj
        rw [List.getElem_take] at e
        have := nd_at nd (show ks[j]? = some k by rw [List.getElem?_eq_getElem (by omega), e]) hk
        omega
      have e2 : (fun x => decide (x ∈ ks.take i) || decide (x = k)) = fun x => decide (x ∈ ks.take (i + 1)) := funext fun x => by
        rw [← Bool.decide_or, List.take_add_one, hk]
        exact decide_eq_decide.mpr (by simp)
      rw [new] at H2
      rw [e2] at H2
      have H3 : Holds1 knd h2 S ks (i + 1) := H2
      refine wpAny_pure ⟨plainId_quiet PyProof.Rows.F.plain_set_update_loop _, set_grows scan W off ks nd len room yields left (i + 1) _ (by omega) (W.frame _ s1 _ _ st1 (Nat.le_succ _) fun b hb o e => ?_) H3 fun s4 m4 H4 => ?_⟩
      · exact (same.2 b fun z => off (z ▸ hb)).trans e
      · have m2 : Moved (S :: wr) G s { s1 with heap := h2, toks := s1.toks + 1 } := ⟨fun b o hb e => (same.2 b fun z => hb (z ▸ List.mem_cons_self)).trans (m.heap b o (fun z => hb (List.mem_cons_of_mem _ z)) e), m.gens, m.drawn, m.os, Nat.le_succ_of_le m.toks⟩
        exact fin s4 (Moved.trans W.gtrans m2 m4) H4)
end
section
variable {prog : Program} {w : World} {A : Around} {E : Value → Shared → Prop} {s : Shared}
/-- a set's object when it is made -/
abbrev bareSet (led : Bool) : Obj := { cls := .type "set", dict := none, data := .set #[] 0 (.fresh 0 0 led) }
/-- what stood stands -/
abbrev Older (h h' : Heap) : Prop := ∀ b o, b < h.objs.size → h.get? b = some o → h'.get? b = some o
/-- set(l), l a list of unlike texts -/
theorem call_setS {l : Addr} {items : Array Value} {xs : List Str} {Q : Value → Shared → Prop} (hh : A.handled = none) (hl : s.heap.IsList l items) (hi : PyProof.Rows.StrsAre items.toList xs) (nd : xs.Nodup) (room : xs.length + 1 < scanBound)
    (h : ∀ (h' : Heap) (tk : Nat), Holds1 (PySem.strKind prog w) h' s.heap.objs.size xs xs.length → Older s.heap h' → Q (.ref s.heap.objs.size) { s with heap := h', toks := tk }) : wpAny (model prog w) A (call (.type "set") [.ref l]) Q E s := by
  have ⟨c, tl, mro⟩ := PySem.F.called_set.mro
  have f1 := PySem.F.called_set.made
  have f2 := PySem.F.called_set.sub
  have f3 := PySem.F.called_set.notType
  have f4 := PySem.F.called_set.canCreate
  have f5 := PySem.F.typeCall_set_1 (.ref l)
  refine wpAny_call (codeAny_of_tree (show wpAny _ _ (callAny (.type "set") _) _ _ _ from wpAny_pure ⟨Code.quiet_builtin _ (by decide +kernel), codeAny_builtin PySem.F.entry_type_call ?_⟩))
  rw [Around.under_plain (weight_type_call_type "set" [.ref l] []) rfl]; repeat (any_goals (first | assumption | wp_step))
  refine codeAny_mono (code_set_new_1 (.ref l) (E := E) (Q₁ := fun obj s₁ => ∃ led : Bool, obj = .ref s.heap.objs.size ∧ s₁ = { s with heap := s.heap.push (bareSet led) }) fun led => ⟨led, rfl, rfl⟩) fun r s₁ hr => ?_
  match r, hr with
  | .error e, hr => exact hr
  | .ok .next, hr => exact hr.elim
  | .ok .brk, hr => exact hr.elim
  | .ok .cont, hr => exact hr.elim
  | .ok (.ret obj), ⟨led, eo, es⟩ =>
    subst eo es
    have hS : (s.heap.push (bareSet led)).get? s.heap.objs.size = some (bareSet led) := Heap.get?_push_size _ rfl
    have hT : Shared.TypeIs { s with heap := s.heap.push (bareSet led) } (.ref s.heap.objs.size) "set" := ⟨_, hS, rfl⟩
    have g1 := PySem.F.called_set.init.lookup
    have g2 := PySem.F.called_set.init.bind (.ref s.heap.objs.size)
    repeat (any_goals (first | assumption | wp_step))
    refine codeAny_mono (codeAny_call_builtin (R := wants (fun r s₂ => r = .none ∧ ∃ h' tk, s₂ = { s with heap := h', toks := tk } ∧ Holds1 (PySem.strKind prog w) h' s.heap.objs.size xs xs.length ∧ Older s.heap h') E) PySem.F.called_set.init.plain PySem.F.entry_set_init (check_set_init_1 hT ?_)) fun r₂ s₂ hr₂ => ?_
    · obtain ⟨⟨ocls, odict, odata, oslots⟩, hol, hcl, nl, hdl⟩ := hl
      have hcl : ocls = .type "list" := hcl
      have hdl : odata = .seq items nl := hdl
      subst hcl hdl
      have hlS : l < s.heap.objs.size := Heap.lt_size hol
      have hol' := Heap.get?_push_of_some (bareSet led) hol
      have i1 := PySem.F.sub_list_set
      have i2 := PySem.F.sub_list_frozenset
      have i3 : (Value.type "list" == Value.type "dict") = false := by decide
      have hl1 : (s.heap.push (bareSet led)).IsList l items := ⟨_, hol', rfl, nl, rfl⟩
      unfold Builtin.«set.__init__» noKeywords Builtin.Frozenset.updateFrom
      generalize hPI : pyIter = PI
      wp_walk
      subst hPI
      refine wpAny_pyIter_list hl1 (wpAny_bind (wpAny_runValue ?_))
      have sz1 : (s.heap.push (bareSet led)).objs.size = s.heap.objs.size + 1 := Heap.size_push ..
      have lI : l ≠ (s.heap.push (bareSet led)).objs.size := by
        rw [sz1]
        exact Nat.ne_of_lt (Nat.lt_succ_of_lt hlS)
      have hh3 : A.in1.in1.in1.handled = none := by simp [hh]
      have hlen : xs.length = items.size := by rw [← StrsAre.len_eq hi, Array.length_toList]
      refine set_grows (knd := PySem.strKind prog w) (fun k v e => by obtain ⟨t, rfl⟩ := Value.isStrOf_shape e; rfl) ((Walks.list hh3 _ l lI items).toS) (fun z => ?_) xs nd hlen (by rw [← hlen]; exact room) (fun i v hv => ?_) items.size 0 _ (Nat.zero_add _)
        ⟨⟨_, Heap.get?_push_size _ rfl, rfl, rfl⟩, hl1.push _⟩ ?_ fun s' hm H' => ?_
      · rcases List.mem_cons.mp z with q | q
        · rw [sz1] at q
          exact absurd q (Nat.ne_of_lt (Nat.lt_succ_self _))
        · rcases List.mem_cons.mp q with q | q
          · exact absurd q (Nat.ne_of_gt hlS)
          · cases q
      · obtain ⟨t, e⟩ := SS.strs_at hi i v (by rw [Array.getElem?_toList]; exact hv)
        obtain ⟨hiv, _⟩ := Array.getElem?_eq_some_iff.mp hv
        have hix : i < xs.length := by rw [hlen]; exact hiv
        have e2 : xs[i]? = some (xs.getD i Str.empty) := by rw [List.getD_eq_getElem?_getD, List.getElem?_eq_getElem hix]; rfl
        exact ⟨_, e2, by rw [e]; exact strKind_is _ _ _ _⟩
      · have hget : ((s.heap.push (bareSet led)).push { cls := .type "list_iterator", data := .fields #[.ref l, .int 0 0] }).get? s.heap.objs.size = some (bareSet led) := Heap.get?_push_of_some _ hS
        exact PyProof.Rows.SetOf_congr ((PyProof.Rows.setObjOf_fresh (knd := PySem.strKind prog w) led).setOf hget (by unfold scanBound; omega)) (fun _ => by simp) rfl
      · obtain ⟨h', g', d', tk', os'⟩ := s'
        obtain ⟨hmh, hmg, hmd, hmo, hmt⟩ := hm
        have q1 : g' = s.gens := hmg
        have q2 : d' = s.drawn := hmd
        have q3 : os' = s.os := hmo
        subst q1 q2 q3
        show wpAny _ _ _ _ _ _
        refine wpAny_pure (show wpAny _ _ (ret Value.none) _ _ _ from wpAny_pure ⟨rfl, h', tk', rfl, by rw [← hlen] at H'; exact H', fun b o hb e => hmh b o (fun z => ?_) (Heap.get?_push_of_some _ (Heap.get?_push_of_some _ e))⟩)
        rcases List.mem_cons.mp z with q | q
        · exact absurd q (Nat.ne_of_lt hb)
        · have q := List.mem_singleton.mp q
          rw [sz1] at q
          exact absurd q (Nat.ne_of_lt (Nat.lt_succ_of_lt hb))
    · match r₂, hr₂ with
      | .error e, hr₂ => exact hr₂
      | .ok .next, hr₂ => exact hr₂.elim
      | .ok .brk, hr₂ => exact hr₂.elim
      | .ok .cont, hr₂ => exact hr₂.elim
      | .ok (.ret u), ⟨e1, h', tk, e2, H', k⟩ =>
        subst e1 e2
        repeat (any_goals (first | assumption | wp_step))
        exact h _ _ H' k
end
/-- len(set(xs)), xs a list of unlike texts -/
def tLenSetS (K : PySem.W.Frag) (ta : TE) : TE := fun σ H Q => ta σ H fun x H1 => ∃ (l : Addr) (xs : List Str), x = .ref l ∧ SqL K H1 l (xs.map V.str) ∧ xs.Nodup ∧ xs.length ≤ 1000 ∧ Q (.int (xs.length : Nat)) H1
theorem pe_lenSetS {X : Cx} {a : Expr} {ta : TE} {p p2 q pos : Pos} (hg : Gl X "len") (hm : X.mg "len" = none) (hg2 : Gl X "set") (hm2 : X.mg "set" = none) (ha : PE X a ta) (hc : X.calm = true := by rfl)
    (na : starEach [a] X.env = (false, eval a X.env) :: starEach [] X.env := by rfl) : PE X (.Call (.Name "len" p) [.Call (.Name "set" p2) [a] [] q] [] pos) (tLenSetS X.K ta) := by
  refine ⟨fun pins s σ H Q I h => Call_ (ld_blt I hg hm boot_len (PyProof.Rows.callWith_builtin1 (PyProof.Rows.args_cons (Call_ (ld_blt I hg2 hm2 boot_set
    (PyProof.Rows.callWith_type1 (PyProof.Rows.args_cons (thn (ha.run pins s σ H _ I h) fun v s1 ⟨x, H1, I1, r1, l, xs, ex, hq, nd, small, q1⟩ => PyProof.Rows.args_nil ?_) na) na rfl))) rfl) rfl rfl))⟩
  subst ex
  cases r1
  obtain ⟨its, r, pl, hz⟩ := I1.list hq
  have many : its.toArray.size = xs.length := by rw [List.size_toArray, ← r.length, List.length_map]
  refine call_setS (I1.ok.hd hc) pl.isList (by simpa using strsAre_of r) nd (by unfold scanBound; omega) fun h' tk ⟨o, es, ep, t, ho, hex, hd, _, _, _, hf, hn⟩ hk => PyProof.Rows.args_nil ?_
  have J : Inv X pins σ H1 { s1 with heap := h', toks := tk } := I1.kept fun b o e => hk b o (Heap.lt_size e) e
  exact call_len_set ho hex hd hf (by rw [hn]; omega) ⟨.int (xs.length : Nat), H1, J.tok _, ⟨_, by rw [hn]⟩, q1⟩
end K31
set_option Elab.async false
set_option linter.all false
set_option maxRecDepth 100000
set_option maxHeartbeats 4000000
namespace K31
open PySem PySem.Spec PyProof.Rows L2
/-! ### the text by places -/
def topS (i : Nat) : Stmt := PySem.Challenge.pw_anydelay_k31_whole_sheets_otherwise.main.body.getD i (.Pass ⟨0, 0, 0, 0⟩)
/-- the built-ins are still themselves -/
structure Bi (mg : Str → Option Value) : Prop where
  isinstance : mg "isinstance" = none
  int : mg "int" = none
  bool : mg "bool" = none
  str : mg "str" = none
  list : mg "list" = none
  tuple : mg "tuple" = none
  set : mg "set" = none
  len : mg "len" = none
  range : mg "range" = none
  zip : mg "zip" = none
  min : mg "min" = none
  max : mg "max" = none
/-! ### rows of signs as texts -/
def bS (bs : List Bool) : Str := SX.S (bs.map fun b => if b then 49 else 48)
theorem bS_len (bs : List Bool) : (bS bs).length = bs.length := by
  unfold bS
  rw [SX.S_len, List.length_map]
theorem bS_codes (bs : List Bool) : (bS bs).cps.toList = bs.map fun b => if b then 49 else 48 := by
  unfold bS
  simp
theorem bS_inj {a b : List Bool} (h : bS a = bS b) : a = b := by
  have e := SX.S_inj h
  refine List.map_inj_right (f := fun b : Bool => if b then 49 else 48) (fun x y h => ?_) |>.mp e
  cases x <;> cases y <;> first | rfl | exact absurd h (by decide)
theorem bS_at {bs : List Bool} {i : Nat} {b : Bool} (h : bs[i]? = some b) : (bS bs).cps.toList[i]? = some (if b then 49 else 48) := by
  rw [bS_codes, List.getElem?_map, h]
  rfl
section
variable {X : Cx}
/-- isinstance(e, T) for a built-in T -/
theorem pe_isi {e : Expr} {te : TE} {p q pos : Pos} {T : Str} (n : String) (he : PE X e te) (hg : Gl X "isinstance") (hm : X.mg "isinstance" = none) (hgT : Gl X T) (hmT : X.mg T = none) (hv : bootBuiltins T = some (.type n))
    (h1 : T ≠ "__name__" := by decide) (h2 : (T == ("__debug__" : Str)) = false := by decide)
    (hs : starEach [e, .Name T q] X.env = (false, eval e X.env) :: starEach [.Name T q] X.env := by rfl) (hs2 : starEach [.Name T q] X.env = (false, eval (.Name T q) X.env) :: starEach [] X.env := by rfl)
    (hpl : (backTo pos (starEach [.Name T q] X.env)).any (·.1) = false := by rfl) : PE X (.Call (.Name "isinstance" p) [e, .Name T q] [] pos) (tCB (rIsi X.K) (tCons te (tCons (tC (.ty n)) tNil))) :=
  pe_callB call_isi hg hm (by decide +kernel) (pa_cons he (pa_cons (pe_bltn hgT hmT hv rfl h1 h2) pa_nil (hs := hs2)) (hs := hs)) (he := hs) (hpl := hpl)
end
/-! ### rules with the written part told (within a comprehension's block) -/
def rLen (K : PySem.W.Frag) : List V → Hp → VK → Prop := fun xs H Q => ∃ p ys, xs = [.ref p] ∧ (SqL K H p ys ∨ SqT K H p ys) ∧ Q (.int ys.length) H
section
variable {X : Cx} {K : PySem.W.Frag}
theorem len_in (h : X.K = K) : CallR X (.builtin "len") (rLen K) := by
  subst h
  exact call_len_seq
theorem ixL_in (h : X.K = K) : IxR X (rIxL K) := by
  subst h
  exact ix_list
theorem ixT_in (h : X.K = K) : IxR X (rIxT K) := by
  subst h
  exact ix_tup
theorem notIn_in (h : X.K = K) : OpR X (compareOp .NotIn) (rIn K true) := by
  subst h
  exact op_notIn_seq
theorem pi_list_in {tg l : Expr} {tl : TE} (h : X.K = K) (hl : PE X l tl) : PI X tg l (iList K tl) := by
  subst h
  exact pi_list hl
theorem pg_tup_in {es : List Expr} {k : Nat} {t : TGs} {n : Nat} {pos : Pos} (h : X.K = K) (hc : X.calm = true) (hp : PGs X es t) (hn : (assignEach es X.env).length = n := by rfl) (hst : (assignEach es X.env).findIdx? (·.1) = none := by rfl) : PG X (.Tuple es k pos) (gTup K n t) := by
  subst h
  exact pg_tup hc hp hn hst
theorem pe_bm_in {v arg : Expr} {args : List Expr} {ap cp : Pos} {m : Str} {ty id : String} {r : V → List V → Hp → VK → Prop} {tv : TE} {t : TA} (h : X.K = K) (pa : PlainAttrs ty) (slot : Slot ty m id) (hty : typeOf (.builtin id) = pure (.type "method_descriptor")) (hm : MtR X id r) (hv : PE X v tv) (ha : PA X (arg :: args) t)
    (h1 : attributeBase v m X.env (eval v X.env) = eval v X.env := by rfl) (h2 : ((backTo cp (starEach (arg :: args) X.env)).all (fun x => !x.1) && (backToKw cp (keywordEach [] X.env)).all (fun x => x.1.isSome) && decide ((arg :: args).length + ([] : List Keyword).length + (if ([] : List Keyword).isEmpty then 0 else 1) < 30)) = true := by rfl)
    (h3 : (ap.endLine == cp.line) = true := by rfl) (h4 : starEach (arg :: args) X.env = (false, eval arg X.env) :: starEach args X.env := by rfl) (h5 : (backTo cp (starEach args X.env)).any (·.1) = false := by rfl) :
    PE X (.Call (.Attribute v m ap) (arg :: args) [] cp) (tBM K ty r tv t) := by
  subst h
  exact pe_bm pa slot hty hm hv ha h1 h2 h3 h4 h5
theorem index_in (h : X.K = K) : MtR X "list.index" (rIndex K) := by
  subst h
  exact mt_index
end
theorem blT {c : Prop} [Decidable c] (h : c) : V.bl (decide c) = V.bl true := congrArg V.bl (decide_eq_true h)
theorem blF {c : Prop} [Decidable c] (h : ¬ c) : V.bl (decide c) = V.bl false := congrArg V.bl (decide_eq_false h)
/-! ### heaps -/
theorem sameU {H : Hp} {p : Addr} {o : HO} (h : H p = none) : Same H (upd H p o) := fun b u e => by
  rw [upd_ne (ne_of_none e h)]
  exact e
/-- a change at what was not there at first -/
theorem _root_.L2.Same.put {H H' : Hp} {p : Addr} {o : HO} (s : Same H H') (h : H p = none) : Same H (upd H' p o) := fun b u e => by
  rw [upd_ne (ne_of_none e h)]
  exact s b u e
theorem same_now {H H' : Hp} {p : Addr} {o : HO} (s : Same H H') (h : H p = some o) : H' p = some o := s p o h
/-- two lists of one length, their items by place -/
def At2 {α β : Type} (R : α → β → Prop) (xs : List α) (ys : List β) : Prop := xs.length = ys.length ∧ ∀ (i : Nat) (x : α) (y : β), xs[i]? = some x → ys[i]? = some y → R x y
theorem At2.mono {α β : Type} {R R' : α → β → Prop} {xs : List α} {ys : List β} (h : At2 R xs ys) (m : ∀ x y, x ∈ xs → y ∈ ys → R x y → R' x y) : At2 R' xs ys :=
  ⟨h.1, fun i x y a b => m x y (List.mem_of_getElem? a) (List.mem_of_getElem? b) (h.2 i x y a b)⟩
theorem At2.nil {α β : Type} {R : α → β → Prop} : At2 R [] [] := ⟨rfl, fun i x y a => by simp at a⟩
theorem At2.snoc {α β : Type} {R : α → β → Prop} {xs : List α} {ys : List β} {x : α} {y : β} (h : At2 R xs ys) (r : R x y) : At2 R (xs ++ [x]) (ys ++ [y]) := by
  refine ⟨by rw [List.length_append, List.length_append, h.1]; rfl, fun i u v a b => ?_⟩
  by_cases hi : i < xs.length
  · rw [List.getElem?_append_left hi] at a
    rw [List.getElem?_append_left (by rw [← h.1]; exact hi)] at b
    exact h.2 i u v a b
  · rw [List.getElem?_append_right (by omega)] at a
    rw [List.getElem?_append_right (by rw [← h.1]; omega)] at b
    have e : i - xs.length = 0 := by
      obtain ⟨h1, _⟩ := List.getElem?_eq_some_iff.mp a
      have : [x].length = 1 := rfl
      omega
    rw [e] at a
    rw [← h.1, e] at b
    have e1 : x = u := Option.some.inj a
    have e2 : y = v := Option.some.inj b
    rw [← e1, ← e2]
    exact r
theorem At2.left {α β : Type} {R : α → β → Prop} {xs : List α} {ys : List β} (h : At2 R xs ys) {i : Nat} {y : β} (e : ys[i]? = some y) : ∃ x, xs[i]? = some x ∧ R x y := by
  obtain ⟨hi, _⟩ := List.getElem?_eq_some_iff.mp e
  have hx : i < xs.length := by rw [h.1]; exact hi
  exact ⟨xs[i], List.getElem?_eq_getElem hx, h.2 i _ y (List.getElem?_eq_getElem hx) e⟩
theorem At2.right {α β : Type} {R : α → β → Prop} {xs : List α} {ys : List β} (h : At2 R xs ys) {i : Nat} {x : α} (e : xs[i]? = some x) : ∃ y, ys[i]? = some y ∧ R x y := by
  obtain ⟨hi, _⟩ := List.getElem?_eq_some_iff.mp e
  have hy : i < ys.length := by rw [← h.1]; exact hi
  exact ⟨ys[i], List.getElem?_eq_getElem hy, h.2 i x _ e (List.getElem?_eq_getElem hy)⟩
/-- a tuple at p is the turn t; a list at q holds the turns of a node; a list at a holds the nodes -/
def TurnAt (H : Hp) (p : Addr) (t : Str × Nat) : Prop := H p = some (.tup [.str t.1, .int (t.2 : Nat)])
def NodeAt (H : Hp) (q : Addr) (ts : List (Str × Nat)) : Prop := ∃ ps : List Addr, H q = some (.lst (ps.map V.ref)) ∧ At2 (TurnAt H) ps ts
def NodesAt (H : Hp) (a : Addr) (g : List (List (Str × Nat))) : Prop := ∃ qs : List Addr, H a = some (.lst (qs.map V.ref)) ∧ At2 (NodeAt H) qs g
def NamesAt (H : Hp) (a : Addr) (ns : List Str) : Prop := H a = some (.lst (ns.map V.str))
theorem NodeAt.same {H H' : Hp} {q : Addr} {ts : List (Str × Nat)} (s : Same H H') (h : NodeAt H q ts) : NodeAt H' q ts := by
  obtain ⟨ps, h1, h2⟩ := h
  exact ⟨ps, s _ _ h1, h2.mono fun x y _ _ r => s _ _ r⟩
theorem NodesAt.same {H H' : Hp} {a : Addr} {g : List (List (Str × Nat))} (s : Same H H') (h : NodesAt H a g) : NodesAt H' a g := by
  obtain ⟨qs, h1, h2⟩ := h
  exact ⟨qs, s _ _ h1, h2.mono fun x y _ _ r => r.same s⟩
theorem NamesAt.same {H H' : Hp} {a : Addr} {ns : List Str} (s : Same H H') (h : NamesAt H a ns) : NamesAt H' a ns := s _ _ h
/-- what a name is -/
def letters : Str := "abcdefghijklmnopqrstuvwxyz"
def NameS (x : Str) : Prop := 0 < x.length ∧ x.length < 9 ∧ ∀ c ∈ x.cps.toList, c ∈ letters.cps.toList
theorem small9 {n : Nat} (h : n < 9) : n ≤ sizeLine := Nat.le_of_lt (small1000 (by omega))
theorem str_len (x : Str) : x.length = x.cps.toList.length := by
  show x.cps.size = _
  simp
end K31
set_option linter.all false
namespace K31
variable {α : Type}
/-! ### the orders as they are made -/
theorem at_idx {α : Type} [BEq α] [LawfulBEq α] {l : List α} {x : α} (h : x ∈ l) : l[l.idxOf x]? = some x := by
  have h1 := List.idxOf_lt_length_of_mem h
  rw [List.getElem?_eq_getElem h1, List.getElem_idxOf]
def renum (order : List Nat) (g : List (List (α × Nat))) : List (List (α × Nat)) := order.map fun old => (g.getD old []).map fun p => (p.1, order.idxOf p.2)
theorem renum_ren {ns : List α} {order : List Nat} {g : List (List (α × Nat))} (S : Shape ns g) (perm : order.Perm (List.range g.length)) (zero : order[0]? = some 0) : Ren order g (renum order g) where
  perm := perm
  zero := zero
  len := by
    unfold renum
    rw [List.length_map, perm.length_eq, List.length_range]
  at_ := fun i old node ho hn => by
    refine ⟨node.map fun p => (p.1, order.idxOf p.2), ?_, List.length_map .., fun j x to hj => ⟨order.idxOf to, at_idx ?_, ?_⟩⟩
    · unfold renum
      rw [List.getElem?_map, ho]
      show some ((g.getD old []).map fun p => (p.1, order.idxOf p.2)) = _
      rw [List.getD_eq_getElem?_getD, hn]
      rfl
    · exact perm.mem_iff.mpr (List.mem_range.mpr (S.to node (List.mem_of_getElem? hn) (x, to) (List.mem_of_getElem? hj)))
    · rw [List.getElem?_map, hj]
      rfl
theorem renum_at {order : List Nat} {g : List (List (α × Nat))} {i old : Nat} {node : List (α × Nat)} (ho : order[i]? = some old) (hn : g[old]? = some node) : (renum order g)[i]? = some (node.map fun p => (p.1, order.idxOf p.2)) := by
  unfold renum
  rw [List.getElem?_map, ho]
  show some ((g.getD old []).map fun p => (p.1, order.idxOf p.2)) = _
  rw [List.getD_eq_getElem?_getD, hn]
  rfl
def placesOf [BEq α] (ns ns' : List α) : List Nat := ns'.map fun x => ns.idxOf x
theorem nodup_map_on {α β : Type} {f : α → β} : ∀ {l : List α}, l.Nodup → (∀ x ∈ l, ∀ y ∈ l, f x = f y → x = y) → (l.map f).Nodup
  | [], _, _ => List.nodup_nil
  | a :: r, nd, h => by
    obtain ⟨n1, n2⟩ := List.nodup_cons.mp nd
    rw [List.map_cons]
    refine List.nodup_cons.mpr ⟨fun m => ?_, nodup_map_on n2 fun x hx y hy e => h x (List.mem_cons_of_mem _ hx) y (List.mem_cons_of_mem _ hy) e⟩
    obtain ⟨b, hb, e⟩ := List.mem_map.mp m
    have := h b (List.mem_cons_of_mem _ hb) a List.mem_cons_self e
    rw [this] at hb
    exact n1 hb
theorem places_rew [BEq α] [LawfulBEq α] {ns ns' : List α} (nd : ns.Nodup) (pm : ns'.Perm ns) : Rew (placesOf ns ns') ns ns' where
  nd := nodup_map_on (pm.nodup_iff.mpr nd) fun x hx y hy e => by
    have h1 := at_idx (pm.mem_iff.mp hx)
    have h2 := at_idx (pm.mem_iff.mp hy)
    rw [e, h2] at h1
    exact (Option.some.inj h1).symm
  len := by
    unfold placesOf
    rw [List.length_map, pm.length_eq]
  len' := pm.length_eq
  at_ := fun j => by
    unfold placesOf
    rw [List.getElem?_map]
    cases e : ns'[j]? with
    | none => rfl
    | some x => exact (at_idx (pm.mem_iff.mp (List.mem_of_getElem? e))).symm
  lt := fun p hp => by
    obtain ⟨x, hx, e⟩ := List.mem_map.mp hp
    rw [← e]
    exact List.idxOf_lt_length_of_mem (pm.mem_iff.mp hx)
/-- unlike items of a list are no more than it has -/
theorem nd_sub {α : Type} : ∀ {l m : List α}, l.Nodup → (∀ x ∈ l, x ∈ m) → l.length ≤ m.length
  | [], _, _, _ => Nat.zero_le _
  | a :: r, m, nd, h => by
    obtain ⟨n1, n2⟩ := List.nodup_cons.mp nd
    obtain ⟨k, hk, e⟩ := List.getElem_of_mem (h a List.mem_cons_self)
    have h2 := nd_sub (l := r) (m := m.eraseIdx k) n2 fun x hx => by
      have hm := h x (List.mem_cons_of_mem _ hx)
      obtain ⟨j, hj, ej⟩ := List.getElem_of_mem hm
      have hjk : j ≠ k := fun z => by
        subst z
        rw [e] at ej
        rw [← ej] at hx
        exact n1 hx
      exact List.mem_eraseIdx_iff_getElem.mpr ⟨j, hj, hjk, ej⟩
    rw [List.length_eraseIdx, if_pos hk] at h2
    rw [List.length_cons]
    omega
end K31
set_option Elab.async false
set_option linter.all false
set_option maxRecDepth 100000
set_option maxHeartbeats 4000000
namespace K31
open PySem PySem.Spec PyProof.Rows L2
/-! ### is_whole -/
abbrev s_is_whole : Stmt := topS 3
theorem sc_is_whole : FnScope ["thing"] ["thing"] (C8.fnScope s_is_whole) := C8.fnScope_by (by decide +kernel)
def sp_is_whole : Sp := fun vs H Q _ => ∃ i : Int, vs = [.int i] ∧ Q (.bl true) H
section
variable {P : Program} {w : World} {K : PySem.W.Frag} {mg : Str → Option Value} {base : Heap}
theorem cal_is_whole {f : Addr} {fd : FuncData} (F : C8.Def K mg "is_whole" s_is_whole f fd) (b : Binds K fd ["thing"] []) (T : Bi mg) : C8.Cal P w K mg base 1 "is_whole" sp_is_whole [] := by
  refine C8.cal0 F b .nil sc_is_whole (fun vs H Q E h => ?_) (fun cdv A outer s H vs Q E hr h => ?_)
  · obtain ⟨i, rfl, _⟩ := h
    rfl
  · obtain ⟨i, rfl, q⟩ := h
    refine ⟨_, pss_one (ps_ret (pe_and (pe_isi "int" (pv 0) (by rfl) T.isinstance (by rfl) T.int (by decide +kernel)) (pe_one (pe_not (pe_isi "bool" (pv 0) (by rfl) T.isinstance (by rfl) T.bool (by decide +kernel)))))), ?_⟩
    refine ⟨_, rfl, _, _, _, _, true, rfl, .ty _, .base (.int i), kit_ty (by decide +kernel), true, rfl, iteT ?_⟩
    exact ⟨_, rfl, _, _, _, _, false, rfl, .ty _, .base (.int i), kit_ty (by decide +kernel), false, rfl, q⟩

/-! ### is_name -/
abbrev s_is_name : Stmt := topS 4
theorem sc_is_name : FnScope ["thing", "sign"] ["thing"] (C8.fnScope s_is_name) := C8.fnScope_by (by decide +kernel)
def sp_is_name : Sp := fun vs H Q _ => ∃ x : Str, vs = [.str x] ∧ NameS x ∧ ∀ H', Same H H' → Q (.bl true) H'
theorem cal_is_name {f : Addr} {fd : FuncData} (F : C8.Def K mg "is_name" s_is_name f fd) (b : Binds K fd ["thing"] []) (T : Bi mg) (hl : ∃ u, mg "LETTERS" = some u ∧ RelV (.str letters) u) : C8.Cal P w K mg base 1 "is_name" sp_is_name [] := by
  refine C8.cal0 F b .nil sc_is_name (fun vs H Q E h => ?_) (fun cdv A outer s H vs Q E hr h => ?_)
  · obtain ⟨i, rfl, _⟩ := h
    rfl
  · obtain ⟨x, rfl, ⟨n1, n2, n3⟩, q⟩ := h
    refine ⟨_, pss_cons (ps_if (PW.pt (pw_or (pt_not (pt_val (pe_isi "str" (pv 0) (by rfl) T.isinstance (by rfl) T.str (by decide +kernel))))
        (pw_or1 (pt_not (pt_chain op_lt op_lt pe_int (pe_callB call_len_str (by rfl) T.len PySem.boot_len (pa_cons (pv 0) pa_nil)) pe_int))))) (pss_one (ps_ret pe_bl)) pss_nil)
      (pss_one (ps_ret (pe_cmpR (op_eqD hr.units) (pe_lc (own := [("sign", 1)]) rfl sc_is_name.nd (pi_str (pv 0)) (blkOk_by (N := ["thing", "sign"]) (sc := C8.fnScope s_is_name) (by decide +kernel))
        (fun _ _ _ _ _ => pg_name (i := 1) sc_is_name.nd rfl (Or.inl rfl)) (fun _ _ _ _ _ => pts_one (pt_cmpR op_notIn_sign (pv 1) (C8.pe_gc (by rfl) hl) rfl)) (fun _ _ _ _ _ => pv 1)) (pe_lst pa_nil) (nomark _)))), ?_⟩
    refine ⟨_, rfl, _, _, _, _, true, rfl, .ty _, .base (.str x), kit_ty (by decide +kernel), true, rfl, iteF ?_⟩
    refine ⟨_, rfl, x, rfl, small9 n2, _, _, rfl, rfl, true, blT (by omega), iteT ?_⟩
    refine ⟨_, _, rfl, rfl, true, blT (by omega), iteF ?_⟩
    refine ⟨_, rfl, x, rfl, fun D nD => lc_it walk_str (fun i H' => Same H H' ∧ H' D = some (.lst [])) ⟨sameU nD, upd_same⟩ (fun _ _ _ _ => True.intro) ?_ ?_⟩
    · rintro i v H1 H2 hi ⟨s1, e1⟩ ⟨rfl, c, hc, rfl⟩
      refine ⟨rfl, _, rfl, c, letters, rfl, rfl, false, ?_, iteF ⟨s1, e1⟩⟩
      have hm : c ∈ x.cps.toList := by
        rw [← Array.getElem?_toList] at hc
        exact List.mem_of_getElem? hc
      rw [decide_eq_true (n3 c hm)]
      rfl
    · rintro H1 ⟨s1, e1⟩
      refine ⟨Nat.zero_le _, fun p np => ?_⟩
      exact ⟨.list [], .list [], .lst (SqL.of ((sameU np) _ _ e1)) .nil, .lst (SqL.of upd_same) .nil, rfl, rfl, q _ (s1.trans (sameU np))⟩
end
end K31
set_option Elab.async false
set_option linter.all false
set_option maxRecDepth 100000
set_option maxHeartbeats 4000000
namespace K31
open PySem PySem.Spec PyProof.Rows L2
section
variable {P : Program} {w : World} {K : PySem.W.Frag} {mg : Str → Option Value} {base : Heap}
/-! ### are_names -/
abbrev s_are_names : Stmt := topS 5
theorem sc_are_names : FnScope ["thing", "one"] ["thing"] (C8.fnScope s_are_names) := C8.fnScope_by (by decide +kernel)
def sp_are_names : Sp := fun vs H Q _ => ∃ (a : Addr) (ns : List Str), vs = [.ref a] ∧ NamesAt H a ns ∧ (∀ x ∈ ns, NameS x) ∧ ∀ H', Same H H' → Q (.bl true) H'
theorem cal_are_names {f : Addr} {fd : FuncData} (F : C8.Def K mg "are_names" s_are_names f fd) (b : Binds K fd ["thing"] []) (T : Bi mg) (c1 : C8.Cal P w K mg base 1 "is_name" sp_is_name []) : C8.Cal P w K mg base 2 "are_names" sp_are_names [] := by
  refine C8.cal0 F b .nil sc_are_names (fun vs H Q E h => ?_) (fun cdv A outer s H vs Q E hr h => ?_)
  · obtain ⟨a, ns, rfl, _⟩ := h
    rfl
  · obtain ⟨a, ns, rfl, ha, hn, q⟩ := h
    refine ⟨_, pss_one (ps_ret (pe_and (pe_isi "list" (pv 0) (by rfl) T.isinstance (by rfl) T.list (by decide +kernel)) (pe_one
      (pe_cmpR (op_eqD hr.units) (pe_lc (own := [("one", 1)]) rfl sc_are_names.nd (pi_list (pv 0)) (blkOk_by (N := ["thing", "one"]) (sc := C8.fnScope s_are_names) (by decide +kernel))
        (fun _ _ _ _ _ => pg_name (i := 1) sc_are_names.nd rfl (Or.inl rfl)) (fun _ _ _ _ _ => pts_one (pt_not (pt_val (C8.pe_c c1 hr (by decide) (by rfl) (pa_cons (pv 1) pa_nil))))) (fun _ _ _ _ _ => pv 1)) (pe_lst pa_nil) (nomark _))))), ?_⟩
    refine ⟨_, rfl, _, _, _, _, true, rfl, .ty _, .base (.lst ha), kit_ty (by decide +kernel), true, rfl, iteT ?_⟩
    refine ⟨_, rfl, a, rfl, ⟨_, SqL.of ha⟩, fun D nD => lc_it (walk_list (xs := ns.map V.str)) (fun i H' => Same H H' ∧ H' D = some (.lst [])) ⟨sameU nD, upd_same⟩ (fun i H1 _ p => SqL.of (p.1 _ _ ha)) ?_ ?_⟩
    · rintro i v H1 H2 hi ⟨s1, e1⟩ ⟨rfl, hv⟩
      obtain ⟨x, hx, rfl⟩ := List.mem_map.mp (List.mem_of_getElem? hv)
      refine ⟨rfl, _, rfl, x, rfl, hn x hx, fun H3 s3 => ⟨true, rfl, iteF ⟨s1.trans s3, s3 _ _ e1⟩⟩⟩
    · rintro H1 ⟨s1, e1⟩
      refine ⟨Nat.zero_le _, fun p np => ?_⟩
      exact ⟨.list [], .list [], .lst (SqL.of ((sameU np) _ _ e1)) .nil, .lst (SqL.of upd_same) .nil, rfl, rfl, q _ (s1.trans (sameU np))⟩
/-! ### are_signs -/
abbrev s_are_signs : Stmt := topS 6
theorem sc_are_signs : FnScope ["thing", "many", "sign"] ["thing", "many"] (C8.fnScope s_are_signs) := C8.fnScope_by (by decide +kernel)
def sp_are_signs : Sp := fun vs H Q _ => ∃ bs : List Bool, vs = [.str (bS bs), .int (bs.length : Nat)] ∧ bs.length ≤ 1000 ∧ ∀ H', Same H H' → Q (.bl true) H'
theorem cal_are_signs {f : Addr} {fd : FuncData} (F : C8.Def K mg "are_signs" s_are_signs f fd) (b : Binds K fd ["thing", "many"] []) (T : Bi mg) : C8.Cal P w K mg base 1 "are_signs" sp_are_signs [] := by
  refine C8.cal0 F b .nil sc_are_signs (fun vs H Q E h => ?_) (fun cdv A outer s H vs Q E hr h => ?_)
  · obtain ⟨bs, rfl, _⟩ := h
    rfl
  · obtain ⟨bs, rfl, hl, q⟩ := h
    refine ⟨_, pss_cons (ps_if (PW.pt (pw_or (pt_not (pt_val (pe_isi "str" (pv 0) (by rfl) T.isinstance (by rfl) T.str (by decide +kernel))))
        (pw_or1 (pt_cmpR op_ne (pe_callB call_len_str (by rfl) T.len PySem.boot_len (pa_cons (pv 0) pa_nil)) (pv 1) (nomark _))))) (pss_one (ps_ret pe_bl)) pss_nil)
      (pss_one (ps_ret (pe_cmpR (op_eqD hr.units) (pe_lc (own := [("sign", 2)]) rfl sc_are_signs.nd (pi_str (pv 0)) (blkOk_by (N := ["thing", "many", "sign"]) (sc := C8.fnScope s_are_signs) (by decide +kernel))
        (fun _ _ _ _ _ => pg_name (i := 2) sc_are_signs.nd rfl (Or.inl rfl)) (fun _ _ _ _ _ => pts_one (pt_cmpR op_notIn_sign (pv 2) pe_str rfl)) (fun _ _ _ _ _ => pv 2)) (pe_lst pa_nil) (nomark _)))), ?_⟩
    refine ⟨_, rfl, _, _, _, _, true, rfl, .ty _, .base (.str _), kit_ty (by decide +kernel), true, rfl, iteF ?_⟩
    refine ⟨_, rfl, _, rfl, by rw [bS_len]; exact Nat.le_of_lt (small1000 hl), _, rfl, rfl, false, ?_, iteF ?_⟩
    · rw [bS_len, decide_eq_true rfl]
      rfl
    refine ⟨_, rfl, _, rfl, fun D nD => lc_it walk_str (fun i H' => Same H H' ∧ H' D = some (.lst [])) ⟨sameU nD, upd_same⟩ (fun _ _ _ _ => True.intro) ?_ ?_⟩
    · rintro i v H1 H2 hi ⟨s1, e1⟩ ⟨rfl, c, hc, rfl⟩
      refine ⟨rfl, _, rfl, c, _, rfl, rfl, false, ?_, iteF ⟨s1, e1⟩⟩
      have hm : c ∈ (bS bs).cps.toList := by
        rw [← Array.getElem?_toList] at hc
        exact List.mem_of_getElem? hc
      rw [bS_codes] at hm
      obtain ⟨y, _, rfl⟩ := List.mem_map.mp hm
      cases y <;> decide +kernel
    · rintro H1 ⟨s1, e1⟩
      refine ⟨Nat.zero_le _, fun p np => ?_⟩
      exact ⟨.list [], .list [], .lst (SqL.of ((sameU np) _ _ e1)) .nil, .lst (SqL.of upd_same) .nil, rfl, rfl, q _ (s1.trans (sameU np))⟩
/-! ### is_turn -/
theorem flatStrs (ns : List Str) : (ns.map V.str).all flatV = true := by
  rw [List.all_eq_true]
  intro v hv
  obtain ⟨x, _, rfl⟩ := List.mem_map.mp hv
  rfl
theorem inStrs {x : Str} {ns : List Str} : inV (.str x) (ns.map V.str) = true ↔ x ∈ ns := by
  unfold inV
  rw [List.any_eq_true]
  constructor
  · rintro ⟨v, hv, e⟩
    obtain ⟨y, hy, rfl⟩ := List.mem_map.mp hv
    have e2 : (y == x) = true := e
    rw [← eq_of_beq e2]
    exact hy
  · intro h
    exact ⟨_, List.mem_map.mpr ⟨x, h, rfl⟩, show (x == x) = true from beq_self_eq_true _⟩
abbrev s_is_turn : Stmt := topS 7
theorem sc_is_turn : FnScope ["thing", "names", "many"] ["thing", "names", "many"] (C8.fnScope s_is_turn) := C8.fnScope_by (by decide +kernel)
def sp_is_turn : Sp := fun vs H Q _ => ∃ (t a : Addr) (ns : List Str) (p : Str × Nat) (n : Nat), vs = [.ref t, .ref a, .int (n : Nat)] ∧ TurnAt H t p ∧ NamesAt H a ns ∧ p.1 ∈ ns ∧ p.2 < n ∧ ∀ H', Same H H' → Q (.bl true) H'
theorem cal_is_turn {f : Addr} {fd : FuncData} (F : C8.Def K mg "is_turn" s_is_turn f fd) (b : Binds K fd ["thing", "names", "many"] []) (T : Bi mg) (c1 : C8.Cal P w K mg base 1 "is_whole" sp_is_whole []) : C8.Cal P w K mg base 2 "is_turn" sp_is_turn [] := by
  refine C8.cal0 F b .nil sc_is_turn (fun vs H Q E h => ?_) (fun cdv A outer s H vs Q E hr h => ?_)
  · obtain ⟨t, a, ns, p, n, rfl, _⟩ := h
    rfl
  · obtain ⟨t, a, ns, ⟨x, k⟩, n, rfl, ht, ha, hx, hk, q⟩ := h
    have ht : H t = some (.tup [.str x, .int (k : Nat)]) := ht
    have hx : x ∈ ns := hx
    have hk : k < n := hk
    refine ⟨_, pss_cons (ps_if (PW.pt (pw_or (pt_not (pt_val (pe_isi "tuple" (pv 0) (by rfl) T.isinstance (by rfl) T.tuple (by decide +kernel))))
        (pw_or (pt_cmpR op_ne (pe_callB call_len_seq (by rfl) T.len PySem.boot_len (pa_cons (pv 0) pa_nil)) pe_int (nomark _))
        (pw_or1 (pt_not (pt_val (pe_isi "str" (pe_ix ix_tup (pv 0) pe_int (fun _ _ => rfl)) (by rfl) T.isinstance (by rfl) T.str (by decide +kernel)))))))) (pss_one (ps_ret pe_bl)) pss_nil)
      (pss_one (ps_ret (pe_and (pe_cmpR op_in_seq (pe_ix ix_tup (pv 0) pe_int (fun _ _ => rfl)) (pv 1) (by rfl)) (pe_and (C8.pe_c c1 hr (by decide) (by rfl) (pa_cons (pe_ix ix_tup (pv 0) pe_int (fun _ _ => rfl)) pa_nil))
        (pe_one (pe_chain op_le op_lt pe_int (pe_ix ix_tup (pv 0) pe_int (fun _ _ => rfl)) (pv 2))))))), ?_⟩
    refine ⟨_, rfl, _, _, _, _, true, rfl, .ty _, .base (.tup ht), kit_ty (by decide +kernel), true, rfl, iteF ?_⟩
    refine ⟨_, rfl, t, _, rfl, .inr (SqT.of ht), rfl, false, rfl, iteF ?_⟩
    refine ⟨_, rfl, t, _, 0, _, rfl, rfl, SqT.of ht, atI_nat (j := 0) rfl, _, _, _, _, true, rfl, .ty _, .base (.str x), kit_ty (by decide +kernel), true, rfl, iteF ?_⟩
    refine ⟨_, rfl, t, _, 0, _, rfl, rfl, SqT.of ht, atI_nat (j := 0) rfl, _, rfl, a, _, rfl, .inl (SqL.of ha), rfl, flatStrs ns, true, congrArg V.bl (inStrs.mpr hx), iteT ?_⟩
    refine ⟨_, rfl, t, _, 1, _, rfl, rfl, SqT.of ht, atI_nat (j := 1) rfl, _, rfl, true, rfl, iteT ?_⟩
    refine ⟨_, rfl, t, _, 1, _, rfl, rfl, SqT.of ht, atI_nat (j := 1) rfl, _, _, rfl, rfl, true, blT (by omega), iteT ?_⟩
    refine ⟨_, rfl, _, _, rfl, rfl, ?_⟩
    show Q (V.bl (decide ((k : Int) < (n : Int)))) H
    rw [blT (show (k : Int) < (n : Int) by omega)]
    exact q H (Same.refl H)
/-! ### is_node -/
abbrev s_is_node : Stmt := topS 8
theorem sc_is_node : FnScope ["thing", "names", "many", "met", "turn"] ["thing", "names", "many"] (C8.fnScope s_is_node) := C8.fnScope_by (by decide +kernel)
def sp_is_node : Sp := fun vs H Q _ => ∃ (t a : Addr) (ns : List Str) (ts : List (Str × Nat)) (n : Nat), vs = [.ref t, .ref a, .int (n : Nat)] ∧ NodeAt H t ts ∧ NamesAt H a ns ∧ (ts.map (·.1)).Nodup ∧ (∀ p ∈ ts, p.1 ∈ ns) ∧ (∀ p ∈ ts, p.2 < n) ∧ ts.length ≤ 1000 ∧ ∀ H', Same H H' → Q (.bl true) H'
/-- the dict of the names that were met -/
def metK (ts : List (Str × Nat)) : List (Key × V) := ts.map fun p => (Sum.inr p.1, V.bl true)
theorem metK_no {ts : List (Str × Nat)} {x : Str} (h : x ∉ ts.map (·.1)) : valV (metK ts) (Sum.inr x : Key) = none := by
  cases e : valV (metK ts) (Sum.inr x : Key) with
  | none => rfl
  | some v =>
    obtain ⟨p, hp, e2⟩ := List.mem_map.mp (valV_in e)
    obtain ⟨t, ht, rfl⟩ := List.mem_map.mp hp
    exact absurd (List.mem_map.mpr ⟨t, ht, Sum.inr.inj e2⟩) h
theorem cal_is_node {f : Addr} {fd : FuncData} (F : C8.Def K mg "is_node" s_is_node f fd) (b : Binds K fd ["thing", "names", "many"] []) (T : Bi mg) (c1 : C8.Cal P w K mg base 2 "is_turn" sp_is_turn []) : C8.Cal P w K mg base 3 "is_node" sp_is_node [] := by
  refine C8.cal0 F b .nil sc_is_node (fun vs H Q E h => ?_) (fun cdv A outer s H vs Q E hr h => ?_)
  · obtain ⟨t, a, ns, p, n, rfl, _⟩ := h
    rfl
  · obtain ⟨t, a, ns, ts, n, rfl, ht, ha, hnd, hx, hk, hl, q⟩ := h
    obtain ⟨ps, ht1, ht2⟩ := id ht
    have hu := hu_of hr
    refine ⟨_, pss_cons (ps_if (pt_not (pt_val (pe_isi "list" (pv 0) (by rfl) T.isinstance (by rfl) T.list (by decide +kernel)))) (pss_one (ps_ret pe_bl)) pss_nil)
      (pss_cons (ps_set (i := 3) sc_is_node.nd rfl (Or.inl rfl) pe_dnewK)
      (pss_cons (ps_for PassesOwn.never rfl (pi_list (pv 0)) (pg_name (i := 4) sc_is_node.nd rfl (Or.inl rfl))
        (pss_cons (ps_if (PW.pt (pw_or (pt_not (pt_val (C8.pe_c c1 hr (by decide) (by rfl) (pa_cons (pv 4) (pa_cons (pv 1) (pa_cons (pv 2) pa_nil))))))
            (pw_or1 (pt_cmp (pc_din hu (pe_ix ix_tup (pv 4) pe_int (fun _ _ => rfl)) (pv 3)))))) (pss_one (ps_ret pe_bl)) pss_nil)
          (pss_one (ps_dput hu (pv 3) (pe_ix ix_tup (pv 4) pe_int (fun _ _ => rfl)) pe_bl rfl))))
      (pss_one (ps_ret pe_bl)))), ?_⟩
    refine ⟨_, rfl, _, _, _, _, true, rfl, .ty _, .base (.lst ht1), kit_ty (by decide +kernel), true, rfl, iteF ?_⟩
    intro d nd
    have s0 : Same H (upd H d (.dK [])) := sameU nd
    refine ⟨_, rfl, t, rfl, ⟨_, SqL.of (s0 _ _ ht1)⟩, for_it (walk_list (xs := ps.map V.ref)) (fun i σ H' => ∃ y, σ = [some (.ref t), some (.ref a), some (.int (n : Nat)), some (.ref d), y] ∧ Same H H' ∧ H' d = some (.dK (metK (ts.take i))))
      ⟨none, rfl, s0, upd_same⟩ (fun i σ H1 _ ⟨_, _, s1, _⟩ => SqL.of (s1 _ _ ht1)) ?_ ?_⟩
    · rintro i v σ H1 H2 hi ⟨y, rfl, s1, e1⟩ ⟨rfl, hv⟩
      rw [List.getElem?_map] at hv
      cases hp : ps[i]? with
      | none =>
        rw [hp] at hv
        cases hv
      | some p =>
        rw [hp] at hv
        have ev : V.ref p = v := Option.some.inj hv
        subst ev
        obtain ⟨tn, htn, tat⟩ := ht2.right hp
        have hmem := List.mem_of_getElem? htn
        refine ⟨_, rfl, _, rfl, _, rfl, p, a, ns, tn, n, rfl, s1 _ _ tat, s1 _ _ ha, hx tn hmem, hk tn hmem, fun H3 s3 => ⟨true, rfl, iteF ?_⟩⟩
        have e3 : H3 d = some (.dK (metK (ts.take i))) := s3 _ _ e1
        have t3 : H3 p = some (.tup [.str tn.1, .int (tn.2 : Nat)]) := s3 _ _ (s1 _ _ tat)
        have no : valV (metK (ts.take i)) (Sum.inr tn.1 : Key) = none := metK_no fun hm => by
          rw [List.map_take] at hm
          obtain ⟨j, hj, ej⟩ := List.getElem_of_mem hm
          rw [List.length_take] at hj
          have hj2 : (ts.map (·.1))[j]? = some tn.1 := by
            rw [List.getElem_take] at ej
            rw [List.getElem?_eq_getElem (by omega), ej]
          have hj3 : (ts.map (·.1))[i]? = some tn.1 := by rw [List.getElem?_map, htn]; rfl
          have := nd_at hnd hj2 hj3
          omega
        refine ⟨_, rfl, p, _, 0, _, rfl, rfl, SqT.of t3, atI_nat (j := 0) rfl, _, rfl, d, _, rfl, DGet.k (k := Sum.inr tn.1) e3, _, rfl, ?_⟩
        rw [no]
        refine iteF ?_
        refine ⟨_, rfl, _, rfl, p, _, 0, _, rfl, rfl, SqT.of t3, atI_nat (j := 0) rfl, d, _, rfl, DPut.k (k := Sum.inr tn.1) e3 (small1000 ?_), ?_⟩
        · unfold metK
          rw [List.length_map, List.length_take]
          omega
        · refine ⟨_, rfl, fun b o e => ?_, ?_⟩
          · rw [upd_ne (ne_of_none e nd)]
            exact s3 _ _ (s1 _ _ e)
          · rw [upd_same, putK_new _ no, List.take_add_one, htn]
            unfold metK
            rw [List.map_append]
            rfl
    · rintro σ H1 ⟨y, rfl, s1, e1⟩
      exact q H1 s1
end
end K31
set_option Elab.async false
set_option linter.all false
set_option maxRecDepth 100000
set_option maxHeartbeats 4000000
namespace K31
open PySem PySem.Spec PyProof.Rows L2
/-! ### pieces of texts -/
theorem cut_to (z : Str) (i : Nat) : cutS z none (some (i : Int)) = SX.S (z.cps.toList.take i) := by
  unfold cutS
  rw [HT.sIx_none, HT.sIx_nat, List.drop_zero, Nat.sub_zero, str_len]
  congr 2
  by_cases h : i ≤ z.cps.toList.length
  · rw [Nat.min_eq_left h]
  · rw [Nat.min_eq_right (by omega), List.take_of_length_le (Nat.le_refl _), List.take_of_length_le (by omega)]
theorem cut_from (z : Str) (i : Nat) : cutS z (some (i : Int)) none = SX.S (z.cps.toList.drop i) := by
  unfold cutS
  rw [HT.sIx_none, HT.sIx_nat, str_len]
  congr 2
  by_cases h : i ≤ z.cps.toList.length
  · rw [Nat.min_eq_left h, List.take_of_length_le (by rw [List.length_drop]; exact Nat.le_refl _)]
  · rw [Nat.min_eq_right (by omega), List.drop_eq_nil_of_le (Nat.le_refl _), List.drop_eq_nil_of_le (show z.cps.toList.length ≤ i by omega)]
    exact List.take_nil
/-- the code of a sign -/
def code (b : Bool) : Nat := if b then 49 else 48
theorem flip_text {bs : List Bool} {i : Nat} {b : Bool} (h : bs[i]? = some b) : SX.S ((bS bs).cps.toList.take i) ++ SX.S [code (!b)] ++ SX.S ((bS bs).cps.toList.drop (i + 1)) = bS (flipB bs i) := by
  obtain ⟨hi, hb⟩ := List.getElem?_eq_some_iff.mp h
  have e : flipB bs i = bs.take i ++ (!b) :: bs.drop (i + 1) := by
    unfold flipB
    rw [List.getD_eq_getElem?_getD, h, List.set_eq_take_append_cons_drop, if_pos hi]
    rfl
  rw [SX.S_cat, SX.S_cat, bS_codes, e]
  unfold bS
  rw [List.map_append, List.map_cons, List.map_take, List.map_drop, List.append_assoc]
  rfl
theorem int_code (b : Bool) : PySem.intText? (SX.S [code b]) = some (if b then 1 else 0) := by
  cases b <;> decide +kernel
theorem one_code (b : Bool) : (Str.ofString (toString ((1 : Int) - (if b then 1 else 0)))) = SX.S [code (!b)] := by
  cases b <;> decide +kernel
theorem sign_at {bs : List Bool} {i : Nat} {b : Bool} (h : bs[i]? = some b) : atI (bS bs).cps.toList ((i : Nat) : Int) = some (code b) := atI_nat (bS_at h)
theorem first_str {ns : List Str} (hnd : ns.Nodup) {i : Nat} {x : Str} (h : ns[i]? = some x) : (ns.map V.str)[i]? = some (V.str x) ∧ eqV (V.str x) (V.str x) = true ∧ ∀ (m : Nat) (z : V), m < i → (ns.map V.str)[m]? = some z → eqV z (V.str x) = false := by
  refine ⟨by rw [List.getElem?_map, h]; rfl, beq_self_eq_true x, fun m z hm hz => ?_⟩
  rw [List.getElem?_map] at hz
  cases e : ns[m]? with
  | none =>
    rw [e] at hz
    cases hz
  | some y =>
    rw [e] at hz
    rw [← Option.some.inj hz]
    show (y == x) = false
    refine beq_eq_false_iff_ne.mpr fun q => ?_
    rw [q] at e
    have := nd_at hnd e h
    omega
section
variable {P : Program} {w : World} {K : PySem.W.Frag} {mg : Str → Option Value} {base : Heap}
/-! ### behind_turn -/
abbrev s_behind_turn : Stmt := topS 9
theorem sc_behind_turn : FnScope ["names", "signs", "name", "at"] ["names", "signs", "name"] (C8.fnScope s_behind_turn) := C8.fnScope_by (by decide +kernel)
def sp_behind_turn : Sp := fun vs H Q _ => ∃ (a : Addr) (ns : List Str) (bs : List Bool) (i : Nat) (x : Str), vs = [.ref a, .str (bS bs), .str x] ∧ NamesAt H a ns ∧ ns.Nodup ∧ ns[i]? = some x ∧ bs.length = ns.length ∧ ns.length ≤ 1000 ∧ Q (.str (bS (flipB bs i))) H
theorem cal_behind_turn {f : Addr} {fd : FuncData} (F : C8.Def K mg "behind_turn" s_behind_turn f fd) (b : Binds K fd ["names", "signs", "name"] []) (T : Bi mg) : C8.Cal P w K mg base 1 "behind_turn" sp_behind_turn [] := by
  refine C8.cal0 F b .nil sc_behind_turn (fun vs H Q E h => ?_) (fun cdv A outer s H vs Q E hr h => ?_)
  · obtain ⟨a, ns, bs, i, x, rfl, _⟩ := h
    rfl
  · obtain ⟨a, ns, bs, i, x, rfl, ha, hnd, hi, hb, hl, q⟩ := h
    refine ⟨_, pss_cons (ps_set (i := 3) sc_behind_turn.nd rfl (Or.inl rfl) (pe_bm PySem.F.plainAttrs_list PySem.F.slot_list_index PySem.F.type_list_index mt_index (pv 0) (pa_cons (pv 2) pa_nil)))
      (pss_one (ps_ret (pe_op op_add_str (pe_op op_add_str (pe_slice sl_str (pv 1) po_none (po_some (pv 3)))
          (pe_callTy call_str_int (by rfl) T.str (by decide +kernel) (pa_cons (pe_op op_sub pe_int (pe_callTy call_int_str (by rfl) T.int (by decide +kernel) (pa_cons (pe_ix ix_str (pv 1) (pv 3) (fun _ _ => rfl)) pa_nil))) pa_nil)))
        (pe_slice sl_str (pv 1) (po_some (pe_op op_add (pv 3) pe_int)) po_none)))), ?_⟩
    obtain ⟨f1, f2, f3⟩ := first_str hnd hi
    obtain ⟨hin, _⟩ := List.getElem?_eq_some_iff.mp hi
    have hib : bs[i]? = some (bs[i]'(by omega)) := List.getElem?_eq_getElem _
    generalize bs[i]'(by omega) = b at hib
    have hz : (bS bs).length ≤ sizeLine := by rw [bS_len]; exact Nat.le_of_lt (small1000 (by omega))
    refine ⟨_, rfl, .inl ⟨rfl, _, SqL.of ha⟩, _, rfl, a, _, _, i, _, rfl, rfl, SqL.of ha, rfl, flatStrs ns, f1, f2, f3, ?_⟩
    refine ⟨_, rfl, _, rfl, _, rfl, _, rfl, hz, _, rfl, _, rfl, _, _, _, rfl, rfl, hz, sign_at hib, _, _, rfl, int_code b, by show 1 ≤ 640; decide, 1, _, rfl, rfl, _, rfl, ?_, ?_⟩
    · cases b <;> decide +kernel
    refine ⟨_, _, rfl, rfl, ?_, _, rfl, _, rfl, _, _, rfl, rfl, _, rfl, _, rfl, hz, _, _, rfl, rfl, ?_, ?_⟩
    · rw [one_code, cut_to, SX.S_len, SX.S_len, List.length_take]
      show _ + 1 ≤ sizeLine
      exact Nat.le_of_lt (small1000 (by omega))
    · rw [one_code, cut_to, show ((i : Nat) : Int) + 1 = ((i + 1 : Nat) : Int) from rfl, cut_from, SX.S_cat, SX.S_len, SX.S_len, List.length_append, List.length_take, List.length_drop, bS_codes, List.length_map]
      show _ + 1 + _ ≤ sizeLine
      exact Nat.le_of_lt (small1000 (by omega))
    · rw [one_code, cut_to, show ((i : Nat) : Int) + 1 = ((i + 1 : Nat) : Int) from rfl, cut_from, flip_text hib]
      exact q
/-! ### rows_of -/
def foundK (F : List (Nat × List Bool)) : List (Key × V) := F.map fun p => (Sum.inl ((p.1 : Nat) : Int), V.str (bS p.2))
theorem foundK_at : ∀ {F : List (Nat × List Bool)} {k : Nat} {s : List Bool}, (F.map (·.1)).Nodup → (k, s) ∈ F → valV (foundK F) (Sum.inl (k : Int) : Key) = some (.str (bS s))
  | [], _, _, _, h => by cases h
  | p :: r, k, s, nd, h => by
    have nd' : (p.1 :: r.map (·.1)).Nodup := nd
    obtain ⟨n1, n2⟩ := List.nodup_cons.mp nd'
    by_cases e : p.1 = k
    · have es : p.2 = s := key_uniq nd (by show (k, p.2) ∈ p :: r; rw [← e]; exact List.mem_cons_self) h
      show valV ((Sum.inl ((p.1 : Nat) : Int), V.str (bS p.2)) :: foundK r) _ = _
      rw [valV_pos (by rw [e])]
      rw [es]
    · rcases List.mem_cons.mp h with q | q
      · exact absurd (by rw [← q]) e
      · show valV ((Sum.inl ((p.1 : Nat) : Int), V.str (bS p.2)) :: foundK r) _ = _
        rw [valV_neg fun z => e (Int.ofNat.inj (Sum.inl.inj z))]
        exact foundK_at n2 q
theorem foundK_no {F : List (Nat × List Bool)} {k : Nat} (h : k ∉ F.map (·.1)) : valV (foundK F) (Sum.inl (k : Int) : Key) = none := by
  cases e : valV (foundK F) (Sum.inl (k : Int) : Key) with
  | none => rfl
  | some v =>
    obtain ⟨p, hp, e2⟩ := List.mem_map.mp (valV_in e)
    obtain ⟨t, ht, rfl⟩ := List.mem_map.mp hp
    exact absurd (List.mem_map.mpr ⟨t, ht, Int.ofNat.inj (Sum.inl.inj e2)⟩) h
/-- data of one depth -/
theorem dpInts (K : PySem.W.Frag) (H : Hp) : ∀ ws : List Nat, DpAll K H (ws.map fun k => V.int (k : Nat)) (ws.map fun k => PyData.int (k : Nat))
  | [] => .nil
  | k :: r => .cons (.int _) (dpInts K H r)
theorem shaped_ints (ws : List Nat) : SeqAt.shaped (.list (ws.map fun k => PyData.int (k : Nat))) = true := by
  have h : PyData.canLayAll0 (ws.map fun k => PyData.int (k : Nat)) = true ∧ PyData.depthAll (ws.map fun k => PyData.int (k : Nat)) = 0 := by
    induction ws with
    | nil => exact ⟨rfl, rfl⟩
    | cons k r ih => exact ⟨by show (true && PyData.canLayAll0 _) = true; rw [ih.1]; rfl, by show max 0 (PyData.depthAll _) = 0; rw [ih.2]; rfl⟩
  show (PyData.canLayAll0 _ && decide (PyData.depthAll _ + 1 ≤ 64)) = true
  rw [h.1, h.2]
  rfl
theorem eqv_nil (ds : List PyData) : PyData.eqv (.list ds) (.list []) = ds.isEmpty := by
  cases ds <;> rfl
abbrev s_rows_of : Stmt := topS 10
theorem sc_rows_of : FnScope ["names", "first", "nodes", "found", "waiting", "here", "name", "to", "signs"] ["names", "first", "nodes"] (C8.fnScope s_rows_of) := C8.fnScope_by (by decide +kernel)
def sp_rows_of : Sp := fun vs H Q _ => ∃ (a n : Addr) (ns : List Str) (first : List Bool) (g : List (List (Str × Nat))), vs = [.ref a, .str (bS first), .ref n] ∧ NamesAt H a ns ∧ NodesAt H n g ∧ Shape ns g ∧ ns.Nodup ∧ first.length = ns.length ∧ ns.length ≤ 1000 ∧
  (¬ Cons ns first g → ∀ H', Same H H' → Q .non H') ∧
  ∀ F, Cons ns first g → (∀ k s, Reach ns first g k s ↔ (k, s) ∈ F) → (F.map (·.1)).Nodup → ∀ H' d, Same H H' → H d = none → H' d = some (.dK (foundK F)) → Q (.ref d) H'
theorem cal_rows_of {f : Addr} {fd : FuncData} (F : C8.Def K mg "rows_of" s_rows_of f fd) (b : Binds K fd ["names", "first", "nodes"] []) (c1 : C8.Cal P w K mg base 1 "behind_turn" sp_behind_turn []) : C8.Cal P w K mg base 2 "rows_of" sp_rows_of [] := by
  refine C8.cal0 F b .nil sc_rows_of (fun vs H Q E h => ?_) (fun cdv A outer s H vs Q E hr h => ?_)
  · obtain ⟨a, n, ns, first, g, rfl, _⟩ := h
    rfl
  · obtain ⟨a, n, ns, first, g, rfl, ha, hn, hS, hnd, hfl, hl, qn, qd⟩ := h
    have hu := hu_of hr
    obtain ⟨qs, hn1, hn2⟩ := id hn
    refine ⟨_, pss_cons (ps_set (i := 3) sc_rows_of.nd rfl (Or.inl rfl) (pe_disp (pps_cons pe_int (pv 1) pps_nil) (by rfl) (by rfl) (fun z => by cases z) (by decide)))
      (pss_cons (ps_set (i := 4) sc_rows_of.nd rfl (Or.inl rfl) (pe_lst (pa_cons pe_int pa_nil)))
      (pss_cons (ps_while PassesOwn.never (pt_cmpR (op_neD hr.units) (pv 4) (pe_lst pa_nil) (nomark _))
        (pss_cons (ps_set (i := 5) sc_rows_of.nd rfl (Or.inl rfl) (pe_bm0 PySem.F.plainAttrs_list PySem.F.slot_list_pop PySem.F.type_list_pop mt_pop (pv 4)))
        (pss_one (ps_for PassesOwn.never rfl (pi_list (pe_ix ix_list (pv 2) (pv 5) (fun _ _ => rfl))) (pg_tup rfl (pgs_cons (pg_name (i := 6) sc_rows_of.nd rfl (Or.inl rfl)) (pgs_cons (pg_name (i := 7) sc_rows_of.nd rfl (Or.inl rfl)) pgs_nil)))
          (pss_cons (ps_set (i := 8) sc_rows_of.nd rfl (Or.inl rfl) (C8.pe_c c1 hr (by decide) (by rfl) (pa_cons (pv 0) (pa_cons (pe_dget hu (pv 3) (pv 5) (fun _ _ => rfl)) (pa_cons (pv 6) pa_nil)))))
          (pss_one (ps_if (pt_cmp (pc_dnotin hu (pv 7) (pv 3)))
            (pss_cons (ps_dput hu (pv 3) (pv 7) (pv 8) rfl) (pss_one (ps_expr (pe_bm PySem.F.plainAttrs_list PySem.F.slot_list_append PySem.F.type_list_append mt_append (pv 4) (pa_cons (pv 7) pa_nil)))))
            (pss_one (ps_if (pt_cmpR op_ne (pe_dget hu (pv 3) (pv 7) (fun _ _ => rfl)) (pv 8) (nomark _)) (pss_one (ps_ret pe_non)) pss_nil)))))))))
      (pss_one (ps_ret (pv 3))))), ?_⟩
    intro d nd
    refine ⟨_, rfl, upd_same, [(Sum.inl 0, .str (bS first))], rfl, (by show 1 ≤ 15; decide), ?_⟩
    have s0 : Same H (upd (upd H d (.dK [])) d (.dK (mergeK [] [(Sum.inl 0, .str (bS first))]))) := (sameU nd).put nd
    refine ⟨Nat.le_of_lt (small1000 (by decide)), fun l nl => ?_⟩
    have ndl : d ≠ l := ne_of_none upd_same nl
    have nl0 : H l = none := s0.free nl
    refine ⟨fun m σ H1 => ∃ y5 y6 y7 y8 F ws, σ = [some (.ref a), some (.str (bS first)), some (.ref n), some (.ref d), some (.ref l), y5, y6, y7, y8] ∧ Same H H1 ∧ H1 d = some (.dK (foundK F)) ∧ H1 l = some (.lst (ws.map fun k => .int (k : Nat))) ∧ DInv ns first g F ws ∧ m ≤ 1000 ∧ m = 2 * (g.length - F.length) + ws.length,
      ⟨_, none, none, none, none, [(0, first)], [0], rfl, s0.put nl0, by rw [upd_ne ndl, upd_same]; rfl, upd_same, .begin, (by have := hS.few; show 2 * (g.length - 1) + 1 ≤ 1000; omega), rfl⟩, fun m σ H1 hW => ?_⟩
    obtain ⟨y5, y6, y7, y8, F, ws, rfl, s1, e1, l1, D, hm, rfl⟩ := hW
    refine ⟨_, rfl, Nat.zero_le _, fun p np => ?_⟩
    have s2 := s1.trans (sameU (o := .lst []) np)
    refine ⟨.list (ws.map fun k => .int (k : Nat)), .list [], .lst (SqL.of ((sameU np) _ _ l1)) (dpInts _ _ ws), .lst (SqL.of upd_same) .nil, shaped_ints ws, rfl, _, rfl, ?_⟩
    rw [eqv_nil]
    have e2 := (sameU (o := .lst []) np) _ _ e1
    have l2 := (sameU (o := .lst []) np) _ _ l1
    generalize upd H1 p (.lst []) = H2 at s2 e2 l2
    rcases List.eq_nil_or_concat ws with ew | ⟨vs, h, ew⟩
    · subst ew
      refine iteF ⟨_, rfl, qd F D.cons D.fin D.nd H2 d s2 nd e2⟩
    · rw [List.concat_eq_append] at ew
      obtain ⟨sg, node, hF, hg, M⟩ := D.pop hS ew
      have ene : (!(ws.map fun k => PyData.int (k : Nat)).isEmpty) = true := by
        rw [ew]
        cases vs <;> rfl
      rw [ene]
      refine iteT ⟨_, fun σ' H' z => z, ?_⟩
      -- here = waiting.pop()
      have last : (ws.map fun k => V.int (k : Nat))[(ws.map fun k => V.int (k : Nat)).length - 1]? = some (.int (h : Nat)) := by
        rw [ew, List.map_append, List.length_append]
        show (vs.map (fun k => V.int (k : Nat)) ++ [V.int (h : Nat)])[_ + 1 - 1]? = _
        rw [Nat.add_sub_cancel, List.getElem?_append_right (Nat.le_refl _), Nat.sub_self]
        rfl
      have front : (ws.map fun k => V.int (k : Nat)).dropLast = vs.map fun k => V.int (k : Nat) := by
        rw [ew, List.map_append]
        exact List.dropLast_concat
      refine ⟨_, rfl, .inl ⟨rfl, _, SqL.of l2⟩, l, _, _, rfl, rfl, l2, last, ?_⟩
      rw [front]
      have s3 : Same H (upd H2 l (.lst (vs.map fun k => .int (k : Nat)))) := s2.put nl0
      have e3 : (upd H2 l (.lst (vs.map fun k => .int (k : Nat)))) d = some (.dK (foundK F)) := by rw [upd_ne ndl]; exact e2
      have l3 : (upd H2 l (.lst (vs.map fun k => .int (k : Nat)))) l = some (.lst (vs.map fun k => .int (k : Nat))) := upd_same
      generalize upd H2 l (.lst (vs.map fun k => .int (k : Nat))) = H3 at s3 e3 l3
      -- for name, to in nodes[here]
      obtain ⟨q, hq, ps, nq1, nq2⟩ := hn2.left hg
      have iq : (qs.map V.ref)[h]? = some (.ref q) := by rw [List.getElem?_map, hq]; rfl
      refine ⟨_, rfl, _, rfl, n, _, _, _, rfl, rfl, SqL.of (s3 _ _ hn1), atI_nat iq, q, rfl, ⟨_, SqL.of (s3 _ _ nq1)⟩, for_it (walk_list (xs := ps.map V.ref))
        (fun j σ H' => ∃ y6 y7 y8 F' vs', σ = [some (.ref a), some (.str (bS first)), some (.ref n), some (.ref d), some (.ref l), some (.int (h : Nat)), y6, y7, y8] ∧ Same H H' ∧ H' d = some (.dK (foundK F')) ∧ H' l = some (.lst (vs'.map fun k => .int (k : Nat))) ∧ DMid ns first g F' vs' h sg node j ∧
          2 * (g.length - F'.length) + vs'.length < 2 * (g.length - F.length) + ws.length)
        ⟨y6, y7, y8, F, vs, rfl, s3, e3, l3, M, by rw [ew, List.length_append]; exact Nat.lt_succ_self _⟩ (fun i σ H' _ ⟨_, _, _, _, _, _, s4, _⟩ => SqL.of (s4 _ _ nq1)) ?_ ?_⟩
      · rintro j v σ H5 H4 hj ⟨z6, z7, z8, F', vs', rfl, s4, e4, l4, M4, less⟩ ⟨rfl, hv⟩
        rw [List.getElem?_map] at hv
        cases hp : ps[j]? with
        | none =>
          rw [hp] at hv
          cases hv
        | some p =>
        rw [hp] at hv
        have ev : V.ref p = v := Option.some.inj hv
        subst ev
        obtain ⟨⟨x, to⟩, htn, tat⟩ := nq2.right hp
        have t4 : H4 p = some (.tup [.str x, .int (to : Nat)]) := s4 _ _ tat
        have hmem := List.mem_of_getElem? htn
        obtain ⟨i, hi0, hi1⟩ := List.getElem_of_mem (hS.wire node (List.mem_of_getElem? hg) _ hmem)
        have hi : ns[i]? = some x := by rw [List.getElem?_eq_getElem hi0, hi1]
        have hsg : sg.length = ns.length := by rw [(M4.ok _ M4.here).len, hfl]
        refine ⟨p, _, rfl, SqT.of t4, rfl, _, _, rfl, _, _, rfl, rfl, ?_⟩
        -- signs = behind_turn(names, found[here], name)
        refine ⟨_, rfl, _, rfl, _, rfl, d, .str (bS sg), rfl, ?_, _, rfl, a, ns, sg, i, x, rfl, s4 _ _ ha, hnd, hi, hsg, hl, ?_⟩
        · rw [← foundK_at M4.nd M4.here]
          exact DGet.k (k := Sum.inl (h : Int)) e4
        -- if to not in found
        by_cases hto : to ∈ F'.map (·.1)
        · obtain ⟨pr, hpr, ept⟩ := List.mem_map.mp hto
          obtain ⟨to', t⟩ := pr
          have ept : to' = to := ept
          subst ept
          have at4 := foundK_at M4.nd hpr
          refine ⟨_, rfl, _, rfl, d, _, rfl, DGet.k (k := Sum.inl (to' : Int)) e4, _, rfl, ?_⟩
          rw [at4]
          refine iteF ?_
          refine ⟨_, rfl, _, rfl, d, .str (bS t), rfl, ?_, _, rfl, rfl, _, rfl, ite2 (fun hne => ?_) (fun heq => ?_)⟩
          · rw [← at4]
            exact DGet.k (k := Sum.inl (to' : Int)) e4
          · refine qn (M4.bad htn hi hpr fun z => ?_) H4 s4
            rw [z, decide_eq_true rfl] at hne
            cases hne
          · refine ⟨_, _, _, F', vs', rfl, s4, e4, l4, M4.seen hnd htn hi ?_, less⟩
            have z : t = flipB sg i := by
              have z2 : decide (V.str (bS t) = V.str (bS (flipB sg i))) = true := by
                cases hd : decide (V.str (bS t) = V.str (bS (flipB sg i))) with
                | true => rfl
                | false =>
                  rw [hd] at heq
                  exact absurd rfl heq
              exact bS_inj (V.str.inj (of_decide_eq_true z2))
            rw [← z]
            exact hpr
        · have no4 := foundK_no hto
          have few := M4.many hS
          have M5 := M4.fresh hnd htn hi hto
          have few5 := M5.many hS
          rw [List.length_append] at few5
          have few5 : F'.length + 1 ≤ g.length := few5
          have h40 := hS.few
          refine ⟨_, rfl, _, rfl, d, _, rfl, DGet.k (k := Sum.inl (to : Int)) e4, _, rfl, ?_⟩
          rw [no4]
          refine iteT ?_
          refine ⟨_, rfl, _, rfl, _, rfl, d, _, rfl, DPut.k (k := Sum.inl (to : Int)) e4 (small1000 (by unfold foundK; rw [List.length_map]; omega)), ?_⟩
          have l5 : (upd H4 d (.dK (putK (foundK F') (Sum.inl (to : Int)) (.str (bS (flipB sg i)))))) l = some (.lst (vs'.map fun k => .int (k : Nat))) := by rw [upd_ne ndl.symm]; exact l4
          have hws : vs'.length ≤ 1000 := by omega
          refine ⟨_, rfl, .inl ⟨rfl, _, SqL.of l5⟩, _, rfl, l, _, _, rfl, rfl, l5, small1000 (by rw [List.length_map]; exact hws), ?_⟩
          refine ⟨_, _, _, F' ++ [(to, flipB sg i)], vs' ++ [to], rfl, (s4.put nd).put nl0, ?_, ?_, M5, ?_⟩
          · rw [upd_ne ndl, upd_same, putK_new _ no4]
            unfold foundK
            rw [List.map_append]
            rfl
          · rw [upd_same, List.map_append]
            rfl
          · rw [List.length_append, List.length_append]
            show 2 * (g.length - (F'.length + 1)) + (vs'.length + 1) < _
            omega
      · rintro σ H4 ⟨z6, z7, z8, F', vs', rfl, s4, e4, l4, M4, less⟩
        refine ⟨_, less, _, _, _, _, F', vs', rfl, s4, e4, l4, M4.over ?_, by omega, rfl⟩
        rw [List.length_map, nq2.1]
        exact Nat.le_refl _
end
end K31
set_option Elab.async false
set_option linter.all false
set_option maxRecDepth 100000
set_option maxHeartbeats 4000000
namespace K31
open PySem PySem.Spec PyProof.Rows L2
/-! ### sheets as they stand in the heap -/
def SheetAt (H : Hp) (t : Addr) (ins outs : List Str) (first : List Bool) (g : List (List (Str × Nat))) : Prop :=
  ∃ i o n : Addr, H t = some (.tup [.ref i, .ref o, .str (bS first), .ref n]) ∧ NamesAt H i ins ∧ NamesAt H o outs ∧ NodesAt H n g
theorem SheetAt.same {H H' : Hp} {t : Addr} {ins outs : List Str} {first : List Bool} {g : List (List (Str × Nat))} (s : Same H H') (h : SheetAt H t ins outs first g) : SheetAt H' t ins outs first g := by
  obtain ⟨i, o, n, h1, h2, h3, h4⟩ := h
  exact ⟨i, o, n, s _ _ h1, h2.same s, h3.same s, h4.same s⟩
structure SheetOk (ins outs : List Str) (first : List Bool) (g : List (List (Str × Nat))) : Prop where
  names : ∀ x ∈ ins ++ outs, NameS x
  nd : (ins ++ outs).Nodup
  few : ins.length ≤ 4
  one : 0 < outs.length
  few2 : outs.length < 8
  len : first.length = (ins ++ outs).length
  shape : Shape (ins ++ outs) g
  short : ∀ node ∈ g, node.length ≤ 1000
theorem SheetOk.many {ins outs : List Str} {first : List Bool} {g : List (List (Str × Nat))} (S : SheetOk ins outs first g) : (ins ++ outs).length ≤ 1000 := by
  have h1 := S.few
  have h2 := S.few2
  rw [List.length_append]
  omega
def optV : Option (List Bool) → V
  | none => .non
  | some s => .str (bS s)
/-- what was found for a node -/
def sgOf (F : List (Nat × List Bool)) (k : Nat) : Option (List Bool) := (F.find? fun p => decide (p.1 = k)).map (·.2)
theorem sgOf_val : ∀ (F : List (Nat × List Bool)) (k : Nat), (valV (foundK F) (Sum.inl (k : Int) : Key)).getD .non = optV (sgOf F k)
  | [], k => rfl
  | p :: r, k => by
    by_cases e : p.1 = k
    · have e1 : sgOf (p :: r) k = some p.2 := by simp [sgOf, e]
      rw [e1]
      show (valV ((Sum.inl ((p.1 : Nat) : Int), V.str (bS p.2)) :: foundK r) _).getD _ = _
      rw [valV_pos (by rw [e])]
      rfl
    · have e1 : sgOf (p :: r) k = sgOf r k := by simp [sgOf, e]
      rw [e1]
      show (valV ((Sum.inl ((p.1 : Nat) : Int), V.str (bS p.2)) :: foundK r) _).getD _ = _
      rw [valV_neg fun z => e (Int.ofNat.inj (Sum.inl.inj z))]
      exact sgOf_val r k
theorem sgOf_iff {F : List (Nat × List Bool)} (nd : (F.map (·.1)).Nodup) (k : Nat) (s : List Bool) : sgOf F k = some s ↔ (k, s) ∈ F := by
  constructor
  · intro h
    unfold sgOf at h
    obtain ⟨p, hp, e⟩ := Option.map_eq_some_iff.mp h
    have h1 := List.find?_some hp
    have h2 : p.1 = k := of_decide_eq_true h1
    have h3 := List.mem_of_find?_eq_some hp
    rw [← h2, ← e]
    exact h3
  · intro h
    cases e : sgOf F k with
    | none =>
      unfold sgOf at e
      have e2 := List.find?_eq_none.mp (Option.map_eq_none_iff.mp e) (k, s) h
      exact absurd (decide_eq_true rfl) e2
    | some t =>
      unfold sgOf at e
      obtain ⟨p, hp, e3⟩ := Option.map_eq_some_iff.mp e
      have h1 := List.find?_some hp
      have h2 : p.1 = k := of_decide_eq_true h1
      have h3 := List.mem_of_find?_eq_some hp
      have h4 : (k, t) ∈ F := by
        rw [← h2, ← e3]
        exact h3
      rw [key_uniq nd h4 h]
theorem signs_made {ns : List Str} {first : List Bool} {g : List (List (Str × Nat))} {F : List (Nat × List Bool)} (h : ∀ k s, Reach ns first g k s ↔ (k, s) ∈ F) (nd : (F.map (·.1)).Nodup) : IsSigns ns first g ((List.range g.length).map (sgOf F)) where
  len := by rw [List.length_map, List.length_range]
  at_ := fun k s => by
    rw [List.getElem?_map]
    by_cases hk : k < g.length
    · rw [List.getElem?_range hk, h k s, ← sgOf_iff nd]
      show some (sgOf F k) = some (some s) ↔ _
      exact ⟨fun e => ⟨Option.some.inj e, hk⟩, fun e => congrArg some e.1⟩
    · rw [List.getElem?_eq_none (by rw [List.length_range]; omega)]
      exact ⟨fun e => (nomatch e), fun e => absurd e.2 hk⟩
section
variable {P : Program} {w : World} {K : PySem.W.Frag} {mg : Str → Option Value} {base : Heap}
/-! ### is_sheet -/
abbrev s_is_sheet : Stmt := topS 11
theorem sc_is_sheet : FnScope ["thing", "inputs", "outputs", "first", "nodes", "names", "node"] ["thing"] (C8.fnScope s_is_sheet) := C8.fnScope_by (by decide +kernel)
def sp_is_sheet : Sp := fun vs H Q _ => ∃ (t : Addr) (ins outs : List Str) (first : List Bool) (g : List (List (Str × Nat))), vs = [.ref t] ∧ SheetAt H t ins outs first g ∧ SheetOk ins outs first g ∧
  ∀ H', Same H H' → (Cons (ins ++ outs) first g → Q (.bl true) H') ∧ (¬ Cons (ins ++ outs) first g → Q (.bl false) H')
theorem cal_is_sheet {f : Addr} {fd : FuncData} (F : C8.Def K mg "is_sheet" s_is_sheet f fd) (b : Binds K fd ["thing"] []) (T : Bi mg) (hm : ∃ u, mg "MOST_NODES" = some u ∧ RelV (.int 40) u) (c1 : C8.Cal P w K mg base 2 "are_names" sp_are_names []) (c2 : C8.Cal P w K mg base 1 "are_signs" sp_are_signs [])
    (c3 : C8.Cal P w K mg base 3 "is_node" sp_is_node []) (c4 : C8.Cal P w K mg base 2 "rows_of" sp_rows_of []) : C8.Cal P w K mg base 4 "is_sheet" sp_is_sheet [] := by
  refine C8.cal0 F b .nil sc_is_sheet (fun vs H Q E h => ?_) (fun cdv A outer s H vs Q E hr h => ?_)
  · obtain ⟨t, ins, outs, first, g, rfl, _⟩ := h
    rfl
  · obtain ⟨t, ins, outs, first, g, rfl, ⟨i, o, n, ht, hi, ho, hn⟩, S, q⟩ := h
    have nd := sc_is_sheet.nd
    refine ⟨_, pss_cons (ps_if (PW.pt (pw_or (pt_not (pt_val (pe_isi "tuple" (pv 0) (by rfl) T.isinstance (by rfl) T.tuple (by decide +kernel))))
        (pw_or1 (pt_cmpR op_ne (pe_callB call_len_seq (by rfl) T.len PySem.boot_len (pa_cons (pv 0) pa_nil)) pe_int (nomark _))))) (pss_one (ps_ret pe_bl)) pss_nil)
      (pss_cons (ps_asg (pv 0) (pg_tup rfl (pgs_cons (pg_name (i := 1) nd rfl (Or.inl rfl)) (pgs_cons (pg_name (i := 2) nd rfl (Or.inl rfl)) (pgs_cons (pg_name (i := 3) nd rfl (Or.inl rfl)) (pgs_cons (pg_name (i := 4) nd rfl (Or.inr rfl)) pgs_nil))))))
      (pss_cons (ps_if (PW.pt (pw_or (pt_not (pt_val (C8.pe_c c1 hr (by decide) (by rfl) (pa_cons (pv 1) pa_nil)))) (pw_or (pt_not (pt_val (C8.pe_c c1 hr (by decide) (by rfl) (pa_cons (pv 2) pa_nil))))
        (pw_or (pt_cmpR op_gt (pe_callB call_len_seq (by rfl) T.len PySem.boot_len (pa_cons (pv 1) pa_nil)) pe_int (nomark _))
        (pw_or1 (pt_not (pt_chain op_lt op_lt pe_int (pe_callB call_len_seq (by rfl) T.len PySem.boot_len (pa_cons (pv 2) pa_nil)) pe_int))))))) (pss_one (ps_ret pe_bl)) pss_nil)
      (pss_cons (ps_set (i := 5) nd rfl (Or.inr rfl) (pe_op op_cat (pv 1) (pv 2)))
      (pss_cons (ps_if (PW.pt (pw_or (pt_cmpR op_ne (pe_lenSetS (by rfl) T.len (by rfl) T.set (pv 5)) (pe_callB call_len_seq (by rfl) T.len PySem.boot_len (pa_cons (pv 5) pa_nil)) (nomark _))
        (pw_or1 (pt_not (pt_val (C8.pe_c c2 hr (by decide) (by rfl) (pa_cons (pv 3) (pa_cons (pe_callB call_len_seq (by rfl) T.len PySem.boot_len (pa_cons (pv 5) pa_nil)) pa_nil)))))))) (pss_one (ps_ret pe_bl)) pss_nil)
      (pss_cons (ps_if (PW.pt (pw_or (pt_not (pt_val (pe_isi "list" (pv 4) (by rfl) T.isinstance (by rfl) T.list (by decide +kernel))))
        (pw_or1 (pt_not (pt_chain op_lt op_le pe_int (pe_callB call_len_seq (by rfl) T.len PySem.boot_len (pa_cons (pv 4) pa_nil)) (C8.pe_gc (by rfl) hm)))))) (pss_one (ps_ret pe_bl)) pss_nil)
      (pss_cons (ps_if (pt_cmpR (op_neD hr.units) (pe_lc (own := [("node", 6)]) rfl nd (pi_list (pv 4)) (blkOk_by (N := ["thing", "inputs", "outputs", "first", "nodes", "names", "node"]) (sc := C8.fnScope s_is_sheet) (by decide +kernel))
          (fun _ _ _ _ _ => pg_name (i := 6) nd rfl (Or.inl rfl)) (fun _ _ _ _ _ => pts_one (pt_not (pt_val (C8.pe_c c3 hr (by decide) (by rfl) (pa_cons (pv 6) (pa_cons (pv 5) (pa_cons (pe_callB (len_in (K := K) rfl) (by rfl) T.len PySem.boot_len (pa_cons (pv 4) pa_nil)) pa_nil))))))) (fun _ _ _ _ _ => pv 6)) (pe_lst pa_nil) (nomark _))
        (pss_one (ps_ret pe_bl)) pss_nil)
      (pss_one (ps_ret (pe_cmpR op_notN (C8.pe_c c4 hr (by decide) (by rfl) (pa_cons (pv 5) (pa_cons (pv 3) (pa_cons (pv 4) pa_nil)))) pe_non (nomark _))))))))))
      , ?_⟩
    refine ⟨_, rfl, _, _, _, _, true, rfl, .ty _, .base (.tup ht), kit_ty (by decide +kernel), true, rfl, iteF ?_⟩
    refine ⟨_, rfl, t, _, rfl, .inr (SqT.of ht), rfl, false, rfl, iteF ?_⟩
    -- inputs, outputs, first, nodes = thing
    refine ⟨_, rfl, t, _, rfl, SqT.of ht, rfl, _, _, rfl, _, _, rfl, _, _, rfl, _, _, rfl, rfl, ?_⟩
    have hl1 := S.few
    have hl2 := S.one
    have hl3 := S.few2
    refine ⟨_, rfl, i, ins, rfl, hi, fun x hx => S.names x (List.mem_append_left _ hx), fun H1 s1 => ⟨true, rfl, iteF ?_⟩⟩
    refine ⟨_, rfl, o, outs, rfl, s1 _ _ ho, fun x hx => S.names x (List.mem_append_right _ hx), fun H2 s2 => ⟨true, rfl, iteF ?_⟩⟩
    have s2 := s1.trans s2
    refine ⟨_, rfl, i, _, rfl, .inl (SqL.of (s2 _ _ hi)), _, _, rfl, rfl, false, blF (by rw [List.length_map]; omega), iteF ?_⟩
    refine ⟨_, rfl, o, _, rfl, .inl (SqL.of (s2 _ _ ho)), _, _, rfl, rfl, true, blT (by rw [List.length_map]; omega), iteT ?_⟩
    refine ⟨_, _, rfl, rfl, true, blT (by rw [List.length_map]; omega), iteF ?_⟩
    -- names = inputs + outputs
    refine ⟨_, rfl, _, rfl, i, o, _, _, rfl, rfl, s2 _ _ hi, s2 _ _ ho, (by rw [List.length_map, List.length_map]; exact Nat.le_of_lt (small1000 (by omega))), fun a na => ?_⟩
    have ha : NamesAt (upd H2 a (.lst (ins.map V.str ++ outs.map V.str))) a (ins ++ outs) := by
      show upd H2 a _ a = _
      rw [upd_same, List.map_append]
    have s3 := s2.trans (sameU (o := .lst (ins.map V.str ++ outs.map V.str)) na)
    generalize upd H2 a (.lst (ins.map V.str ++ outs.map V.str)) = H3 at s3 ha
    have hl := S.many
    -- if len(set(names)) != len(names) or not are_signs(first, len(names))
    refine ⟨_, rfl, a, ins ++ outs, rfl, SqL.of ha, S.nd, hl, _, rfl, a, _, rfl, .inl (SqL.of ha), rfl, false, ?_, iteF ?_⟩
    · rw [List.length_map, decide_eq_true rfl]
      rfl
    refine ⟨_, rfl, _, rfl, a, _, rfl, .inl (SqL.of ha), first, by rw [List.length_map, ← S.len]; rfl, by rw [S.len]; exact hl, fun H4 s4 => ⟨true, rfl, iteF ?_⟩⟩
    have ha := ha.same s4
    have s4 := s3.trans s4
    -- if not isinstance(nodes, list) or not 0 < len(nodes) <= MOST_NODES
    obtain ⟨qs, hn1, hn2⟩ := id hn
    have g1 := S.shape.some
    have g2 := S.shape.few
    have lq : (qs.map V.ref).length = g.length := by rw [List.length_map, hn2.1]
    refine ⟨_, rfl, _, _, _, _, true, rfl, .ty _, .base (.lst (s4 _ _ hn1)), kit_ty (by decide +kernel), true, rfl, iteF ?_⟩
    refine ⟨_, rfl, n, _, rfl, .inl (SqL.of (s4 _ _ hn1)), _, _, rfl, rfl, true, blT (by rw [lq]; omega), iteT ?_⟩
    refine ⟨_, _, rfl, rfl, true, blT (by rw [lq]; omega), iteF ?_⟩
    -- if [node for node in nodes if not is_node(..)] != []
    refine ⟨_, rfl, n, rfl, ⟨_, SqL.of (s4 _ _ hn1)⟩, fun D nD => lc_it (walk_list (xs := qs.map V.ref)) (fun i H' => Same H4 H' ∧ H' D = some (.lst [])) ⟨sameU nD, upd_same⟩ (fun i H1 _ p => SqL.of (p.1 _ _ (s4 _ _ hn1))) ?_ ?_⟩
    · rintro j v H5 H6 hj ⟨s6, e6⟩ ⟨rfl, hv⟩
      rw [List.getElem?_map] at hv
      cases hp : qs[j]? with
      | none =>
        rw [hp] at hv
        cases hv
      | some p =>
      rw [hp] at hv
      have ev : V.ref p = v := Option.some.inj hv
      subst ev
      obtain ⟨node, hnode, nat⟩ := hn2.right hp
      have hm := List.mem_of_getElem? hnode
      have s7 := s4.trans s6
      refine ⟨rfl, _, rfl, _, rfl, _, rfl, n, _, rfl, .inl (SqL.of (s7 _ _ hn1)), p, a, ins ++ outs, node, g.length, by rw [lq]; rfl, nat.same s7, ha.same s6, S.shape.nd node hm, S.shape.wire node hm, S.shape.to node hm, S.short node hm, fun H8 s8 => ⟨true, rfl, iteF ⟨s6.trans s8, s8 _ _ e6⟩⟩⟩
    · rintro H5 ⟨s5, e5⟩
      refine ⟨Nat.zero_le _, fun p np => ⟨.list [], .list [], .lst (SqL.of ((sameU np) _ _ e5)) .nil, .lst (SqL.of upd_same) .nil, rfl, rfl, false, rfl, iteF ?_⟩⟩
      have s6 := s5.trans (sameU (o := .lst []) np)
      have s7 := s4.trans s6
      refine ⟨_, rfl, _, rfl, _, rfl, a, n, ins ++ outs, first, g, rfl, ha.same s6, hn.same s7, S.shape, S.nd, S.len, hl, fun C H8 s8 => ⟨rfl, (q H8 (s7.trans s8)).2 C⟩, fun F C _ _ H8 d s8 _ _ => ⟨rfl, (q H8 (s7.trans s8)).1 C⟩⟩
/-! ### signs_of -/
abbrev s_signs_of : Stmt := topS 12
theorem sc_signs_of : FnScope ["sheet", "inputs", "outputs", "first", "nodes", "found", "number"] ["sheet"] (C8.fnScope s_signs_of) := C8.fnScope_by (by decide +kernel)
def sp_signs_of : Sp := fun vs H Q _ => ∃ (t : Addr) (ins outs : List Str) (first : List Bool) (g : List (List (Str × Nat))), vs = [.ref t] ∧ SheetAt H t ins outs first g ∧ SheetOk ins outs first g ∧ Cons (ins ++ outs) first g ∧
  ∀ L, IsSigns (ins ++ outs) first g L → ∀ H' p, Same H H' → H p = none → H' p = some (.lst (L.map optV)) → Q (.ref p) H'
theorem cal_signs_of {f : Addr} {fd : FuncData} (F : C8.Def K mg "signs_of" s_signs_of f fd) (b : Binds K fd ["sheet"] []) (T : Bi mg) (c4 : C8.Cal P w K mg base 2 "rows_of" sp_rows_of []) : C8.Cal P w K mg base 3 "signs_of" sp_signs_of [] := by
  refine C8.cal0 F b .nil sc_signs_of (fun vs H Q E h => ?_) (fun cdv A outer s H vs Q E hr h => ?_)
  · obtain ⟨t, ins, outs, first, g, rfl, _⟩ := h
    rfl
  · obtain ⟨t, ins, outs, first, g, rfl, ⟨i, o, n, ht, hi, ho, hn⟩, S, C, q⟩ := h
    have nd := sc_signs_of.nd
    have hu := hu_of hr
    refine ⟨_, pss_cons (ps_asg (pv 0) (pg_tup rfl (pgs_cons (pg_name (i := 1) nd rfl (Or.inl rfl)) (pgs_cons (pg_name (i := 2) nd rfl (Or.inl rfl)) (pgs_cons (pg_name (i := 3) nd rfl (Or.inl rfl)) (pgs_cons (pg_name (i := 4) nd rfl (Or.inl rfl)) pgs_nil))))))
      (pss_cons (ps_set (i := 5) nd rfl (Or.inr rfl) (C8.pe_c c4 hr (by decide) (by rfl) (pa_cons (pe_op op_cat (pv 1) (pv 2)) (pa_cons (pv 3) (pa_cons (pv 4) pa_nil)))))
      (pss_one (ps_ret (pe_lc (own := [("number", 6)]) rfl nd (pi_range1 (by rfl) T.range (pa_cons (pe_callB call_len_seq (by rfl) T.len PySem.boot_len (pa_cons (pv 4) pa_nil)) pa_nil))
        (blkOk_by (N := ["sheet", "inputs", "outputs", "first", "nodes", "found", "number"]) (sc := C8.fnScope s_signs_of) (by decide +kernel))
        (fun _ _ _ _ _ => pg_name (i := 6) nd rfl (Or.inl rfl)) (fun _ _ _ _ _ => pts_nil) (fun _ _ _ _ _ => pe_dget1 hu (pv 5) (pv 6) ⟨rfl, rfl, rfl, rfl⟩))))), ?_⟩
    have hl1 := S.few
    have hl3 := S.few2
    obtain ⟨qs, hn1, hn2⟩ := id hn
    have g2 := S.shape.few
    have lq : (qs.map V.ref).length = g.length := by rw [List.length_map, hn2.1]
    refine ⟨_, rfl, t, _, rfl, SqT.of ht, rfl, _, _, rfl, _, _, rfl, _, _, rfl, _, _, rfl, rfl, ?_⟩
    refine ⟨_, rfl, _, rfl, i, o, _, _, rfl, rfl, hi, ho, (by rw [List.length_map, List.length_map]; exact Nat.le_of_lt (small1000 (by omega))), fun a na => ?_⟩
    have ha : NamesAt (upd H a (.lst (ins.map V.str ++ outs.map V.str))) a (ins ++ outs) := by
      show upd H a _ a = _
      rw [upd_same, List.map_append]
    have s3 : Same H (upd H a (.lst (ins.map V.str ++ outs.map V.str))) := sameU na
    generalize upd H a (.lst (ins.map V.str ++ outs.map V.str)) = H3 at s3 ha
    refine ⟨_, rfl, _, rfl, a, n, ins ++ outs, first, g, rfl, ha, hn.same s3, S.shape, S.nd, S.len, S.many, fun N => absurd C N, fun F _ hF hnd H4 d s4 d3 e4 => ?_⟩
    have s4 := s3.trans s4
    refine ⟨_, rfl, n, _, rfl, .inl (SqL.of (s4 _ _ hn1)), _, rfl, by omega, by rw [lq]; omega, fun D nD => lc_it walk_range (fun j H' => Same H4 H' ∧ H' D = some (.lst (((List.range j).map (sgOf F)).map optV))) ⟨sameU nD, upd_same⟩ (fun _ _ _ _ => True.intro) ?_ ?_⟩
    · rintro j v H5 H6 hj ⟨s6, e6⟩ ⟨rfl, rfl⟩
      rw [lq] at hj
      have hj : j < g.length := by omega
      refine ⟨rfl, _, rfl, d, rfl, .inl ⟨_, .inl (s6 _ _ e4)⟩, _, rfl, valV (foundK F) (Sum.inl (j : Int) : Key), ?_, _, e6, small1000 ?_, s6.put nD, ?_⟩
      · show DGet _ d (V.int (0 + (j : Int))) _
        rw [Int.zero_add]
        exact DGet.k (k := Sum.inl (j : Int)) (s6 _ _ e4)
      · rw [List.length_map, List.length_map, List.length_range]
        omega
      · rw [upd_same, sgOf_val, List.range_succ, List.map_append, List.map_append]
        rfl
    · rintro H5 ⟨s5, e5⟩
      rw [lq] at e5
      exact q _ (signs_made hF hnd) H5 D (s4.trans s5) (s4.free nD) e5
end
end K31
set_option Elab.async false
set_option linter.all false
set_option maxRecDepth 100000
set_option maxHeartbeats 4000000
namespace K31
open PySem PySem.Spec PyProof.Rows L2
/-! ### the store of draws -/
def StoreAt (H : Hp) (st : Addr) : Prop := ∃ i j k : Int, H st = some (.lst [.int i, .int j, .int k])
/-- all but the store is as it was -/
structure Kp (st : Addr) (H H' : Hp) : Prop where
  was : StoreAt H st
  now : StoreAt H' st
  keep : ∀ b o, b ≠ st → H b = some o → H' b = some o
theorem Kp.refl {st : Addr} {H : Hp} (h : StoreAt H st) : Kp st H H := ⟨h, h, fun _ _ _ e => e⟩
theorem Kp.trans {st : Addr} {H H1 H2 : Hp} (a : Kp st H H1) (b : Kp st H1 H2) : Kp st H H2 := ⟨a.was, b.now, fun c o n e => b.keep c o n (a.keep c o n e)⟩
theorem StoreAt.same {H H' : Hp} {st : Addr} (s : Same H H') (h : StoreAt H st) : StoreAt H' st := by
  obtain ⟨i, j, k, e⟩ := h
  exact ⟨i, j, k, s _ _ e⟩
theorem Kp.same {st : Addr} {H H1 H2 : Hp} (a : Kp st H H1) (b : Same H1 H2) : Kp st H H2 := ⟨a.was, a.now.same b, fun c o n e => b c o (a.keep c o n e)⟩
theorem Kp.of {st : Addr} {H H1 : Hp} (h : StoreAt H st) (b : Same H H1) : Kp st H H1 := (Kp.refl h).same b
theorem Kp.ne {st : Addr} {H H' : Hp} (a : Kp st H H') {p : Addr} (n : H p = none) : p ≠ st := by
  obtain ⟨i, j, k, e⟩ := a.was
  exact (ne_of_none e n).symm
theorem Kp.free {st : Addr} {H H' : Hp} (a : Kp st H H') {p : Addr} (n : H' p = none) : H p = none := by
  cases e : H p with
  | none => rfl
  | some o =>
    by_cases hp : p = st
    · obtain ⟨i, j, k, e2⟩ := a.now
      rw [hp, e2] at n
      cases n
    · rw [a.keep p o hp e] at n
      cases n
theorem Kp.put {st : Addr} {H H' : Hp} (a : Kp st H H') {p : Addr} {o : HO} (n : H p = none) : Kp st H (upd H' p o) := by
  have hp := a.ne n
  obtain ⟨i, j, k, e⟩ := a.now
  exact ⟨a.was, ⟨i, j, k, by rw [upd_ne hp.symm]; exact e⟩, fun b u nb eb => by rw [upd_ne (ne_of_none eb n)]; exact a.keep b u nb eb⟩
/-- a change of the store itself -/
theorem Kp.store {st : Addr} {H H' : Hp} (a : Kp st H H') (i j k : Int) : Kp st H (upd H' st (.lst [.int i, .int j, .int k])) :=
  ⟨a.was, ⟨i, j, k, upd_same⟩, fun b u nb eb => by rw [upd_ne nb]; exact a.keep b u nb eb⟩
/-- what the store can't be -/
theorem Kp.tup {st : Addr} {H H' : Hp} (a : Kp st H H') {p : Addr} {xs : List V} (e : H p = some (.tup xs)) : H' p = some (.tup xs) := by
  refine a.keep p _ (fun z => ?_) e
  obtain ⟨i, j, k, e2⟩ := a.was
  rw [z, e2] at e
  cases e
theorem Kp.refs {st : Addr} {H H' : Hp} (a : Kp st H H') {p : Addr} {xs : List Addr} (e : H p = some (.lst (xs.map V.ref))) : H' p = some (.lst (xs.map V.ref)) := by
  refine a.keep p _ (fun z => ?_) e
  obtain ⟨i, j, k, e2⟩ := a.was
  rw [z, e2] at e
  have e := HO.lst.inj (Option.some.inj e)
  cases xs with
  | nil => cases e
  | cons x r => exact nomatch (List.cons.inj e).1
theorem Kp.strs {st : Addr} {H H' : Hp} (a : Kp st H H') {p : Addr} {xs : List Str} (e : H p = some (.lst (xs.map V.str))) : H' p = some (.lst (xs.map V.str)) := by
  refine a.keep p _ (fun z => ?_) e
  obtain ⟨i, j, k, e2⟩ := a.was
  rw [z, e2] at e
  have e := HO.lst.inj (Option.some.inj e)
  cases xs with
  | nil => cases e
  | cons x r => exact nomatch (List.cons.inj e).1
theorem NodeAt.kp {st : Addr} {H H' : Hp} {q : Addr} {ts : List (Str × Nat)} (s : Kp st H H') (h : NodeAt H q ts) : NodeAt H' q ts := by
  obtain ⟨ps, h1, h2⟩ := h
  exact ⟨ps, s.refs h1, h2.mono fun x y _ _ r => s.tup r⟩
theorem NodesAt.kp {st : Addr} {H H' : Hp} {a : Addr} {g : List (List (Str × Nat))} (s : Kp st H H') (h : NodesAt H a g) : NodesAt H' a g := by
  obtain ⟨qs, h1, h2⟩ := h
  exact ⟨qs, s.refs h1, h2.mono fun x y _ _ r => r.kp s⟩
theorem NamesAt.kp {st : Addr} {H H' : Hp} {a : Addr} {ns : List Str} (s : Kp st H H') (h : NamesAt H a ns) : NamesAt H' a ns := s.strs h
theorem SheetAt.kp {st : Addr} {H H' : Hp} {t : Addr} {ins outs : List Str} {first : List Bool} {g : List (List (Str × Nat))} (s : Kp st H H') (h : SheetAt H t ins outs first g) : SheetAt H' t ins outs first g := by
  obtain ⟨i, o, n, h1, h2, h3, h4⟩ := h
  exact ⟨i, o, n, s.tup h1, h2.kp s, h3.kp s, h4.kp s⟩
section
variable {P : Program} {w : World} {K : PySem.W.Frag} {mg : Str → Option Value} {base : Heap}
/-! ### _law_cell -/
abbrev s_law_cell : Stmt := topS 14
theorem sc_law_cell : FnScope ["script", "k"] ["script", "k"] (C8.fnScope s_law_cell) := C8.fnScope_by (by decide +kernel)
def sp_law_cell (K : PySem.W.Frag) : Sp := fun vs H Q _ => ∃ (a : Addr) (ns : List Int) (k : Nat), vs = [.ref a, .int (k : Nat)] ∧ SqL K H a (ns.map V.int) ∧ k ≤ 1000 ∧ ∀ z : Int, Q (.int z) H
theorem cal_law_cell {f : Addr} {fd : FuncData} (F : C8.Def K mg "_law_cell" s_law_cell f fd) (b : Binds K fd ["script", "k"] []) (T : Bi mg) : C8.Cal P w K mg base 1 "_law_cell" (sp_law_cell K) [] := by
  refine C8.cal0 F b .nil sc_law_cell (fun vs H Q E h => ?_) (fun cdv A outer s H vs Q E hr h => ?_)
  · obtain ⟨a, ns, k, rfl, _⟩ := h
    rfl
  · obtain ⟨a, ns, k, rfl, ha, hk, q⟩ := h
    refine ⟨_, pss_cons (ps_if (pt_cmpR op_lt (pv 1) (pe_callB call_len_seq (by rfl) T.len PySem.boot_len (pa_cons (pv 0) pa_nil)) (nomark _)) (pss_one (ps_ret (pe_ix ix_list (pv 0) (pv 1) (fun _ _ => rfl)))) pss_nil)
      (pss_one (ps_ret (pe_op op_add (pe_op op_add (pe_op op_mul (pe_op op_mul pe_int (pv 1)) (pv 1)) (pe_op op_mul pe_int (pv 1))) pe_int))), ?_⟩
    refine ⟨_, rfl, _, rfl, a, _, rfl, .inl ha, _, _, rfl, rfl, _, rfl, ite2 (fun hlt => ?_) (fun _ => ?_)⟩
    · have hlt : (k : Int) < ((ns.map V.int).length : Nat) := of_decide_eq_true hlt
      rw [List.length_map] at hlt
      have hk2 : k < ns.length := by omega
      have e : (ns.map V.int)[k]? = some (.int ns[k]) := by rw [List.getElem?_map, List.getElem?_eq_getElem hk2]; rfl
      exact ⟨_, rfl, _, rfl, a, _, _, _, rfl, rfl, ha, atI_nat e, q _⟩
    · exact ⟨_, rfl, _, _, rfl, rfl, .inl ⟨by decide, by decide⟩, _, rfl, _, _, rfl, rfl, .inr ⟨by omega, by omega⟩, _, rfl, _, _, rfl, rfl, .inl ⟨by decide, by decide⟩, _, _, rfl, rfl, _, _, rfl, rfl, q _⟩
/-! ### _law_store -/
abbrev s_law_store : Stmt := topS 15
theorem sc_law_store : FnScope ["cell", "great"] ["cell"] (C8.fnScope s_law_store) := C8.fnScope_by (by decide +kernel)
def sp_law_store : Sp := fun vs H Q _ => ∃ z : Int, vs = [.int z] ∧ ∀ (p : Addr) (i j k : Int), H p = none → Q (.ref p) (upd H p (.lst [.int i, .int j, .int k]))
theorem cal_law_store {f : Addr} {fd : FuncData} (F : C8.Def K mg "_law_store" s_law_store f fd) (b : Binds K fd ["cell"] []) : C8.Cal P w K mg base 1 "_law_store" sp_law_store [] := by
  refine C8.cal0 F b .nil sc_law_store (fun vs H Q E h => ?_) (fun cdv A outer s H vs Q E hr h => ?_)
  · obtain ⟨z, rfl, _⟩ := h
    rfl
  · obtain ⟨z, rfl, q⟩ := h
    refine ⟨_, pss_cons (ps_set (i := 1) sc_law_store.nd rfl (Or.inl rfl) pe_int)
      (pss_cons (ps_if (pt_cmpR op_ge (pv 0) (pe_op op_pow pe_int pe_int) (nomark _)) (pss_one (ps_set (i := 1) sc_law_store.nd rfl (Or.inl rfl) (pv 0))) pss_nil)
      (pss_one (ps_ret (pe_lst (pa_cons (pv 1) (pa_cons (pe_op op_mod (pv 0) pe_int) (pa_cons pe_int pa_nil))))))), ?_⟩
    have small : ∀ {x y z : V}, [x, y, z].length ≤ sizeLine := Nat.le_of_lt (small1000 (by show 3 ≤ 1000; decide))
    refine ⟨_, rfl, _, _, rfl, rfl, ⟨by decide, by decide, by decide⟩, _, _, rfl, rfl, _, rfl, ite2 (fun _ => ?_) (fun _ => ?_)⟩
    · exact ⟨_, rfl, _, rfl, _, rfl, _, _, rfl, rfl, (by show (0 : Int) < 2147483629; decide), small, fun p np => q p _ _ _ np⟩
    · exact ⟨_, rfl, _, rfl, _, _, rfl, rfl, (by show (0 : Int) < 2147483629; decide), small, fun p np => q p _ _ _ np⟩
/-! ### _law_take -/
abbrev s_law_take : Stmt := topS 16
theorem sc_law_take : FnScope ["store", "many", "told", "one"] ["store", "many"] (C8.fnScope s_law_take) := C8.fnScope_by (by decide +kernel)
def sp_law_take : Sp := fun vs H Q _ => ∃ (st : Addr) (m : Nat), vs = [.ref st, .int (m : Nat)] ∧ 0 < m ∧ m ≤ 1000 ∧ StoreAt H st ∧ ∀ (H' : Hp) (t : Nat), Kp st H H' → t < m → Q (.int (t : Nat)) H'
theorem nat_mod {z : Int} {m : Nat} (h : 0 < m) : ∃ t : Nat, z % (m : Int) = (t : Nat) ∧ t < m := by
  have h1 : 0 ≤ z % (m : Int) := Int.emod_nonneg z (by omega)
  have h2 : z % (m : Int) < (m : Int) := Int.emod_lt_of_pos z (by omega)
  exact ⟨(z % (m : Int)).toNat, by omega, by omega⟩
theorem cal_law_take {f : Addr} {fd : FuncData} (F : C8.Def K mg "_law_take" s_law_take f fd) (b : Binds K fd ["store", "many"] []) : C8.Cal P w K mg base 1 "_law_take" sp_law_take [] := by
  refine C8.cal0 F b .nil sc_law_take (fun vs H Q E h => ?_) (fun cdv A outer s H vs Q E hr h => ?_)
  · obtain ⟨st, m, rfl, _⟩ := h
    rfl
  · obtain ⟨st, m, rfl, m0, m1, hst, q⟩ := h
    have nd := sc_law_take.nd
    obtain ⟨i, j, k, e⟩ := id hst
    refine ⟨_, pss_cons (ps_if (pt_cmpR op_gt (pe_ix ix_list (pv 0) pe_int (fun _ _ => rfl)) pe_int (nomark _))
        (pss_cons (ps_set (i := 2) nd rfl (Or.inl rfl) (pe_op op_mod (pe_ix ix_list (pv 0) pe_int (fun _ _ => rfl)) (pv 1)))
        (pss_cons (ps_asg (pe_op op_fdivW (pe_ix ix_list (pv 0) pe_int (fun _ _ => rfl)) (pv 1)) (pg_sub (pv 0) pe_int set_list)) (pss_one (ps_ret (pv 2))))) pss_nil)
      (pss_cons (ps_asg (pe_op op_add (pe_ix ix_list (pv 0) pe_int (fun _ _ => rfl)) pe_int) (pg_sub (pv 0) pe_int set_list))
      (pss_cons (ps_set (i := 3) nd rfl (Or.inl rfl) (pe_op op_mod (pe_op op_mul (pe_op op_add (pe_ix ix_list (pv 0) pe_int (fun _ _ => rfl)) (pe_op op_mul pe_int (pe_ix ix_list (pv 0) pe_int (fun _ _ => rfl)))) pe_int) pe_int))
      (pss_cons (ps_set (i := 3) nd rfl (Or.inl rfl) (pe_op op_mod (pe_op op_mul (pv 3) (pv 3)) pe_int))
      (pss_cons (ps_set (i := 3) nd rfl (Or.inl rfl) (pe_op op_mod (pe_op op_mul (pe_op op_add (pv 3) (pe_op op_mul pe_int (pe_ix ix_list (pv 0) pe_int (fun _ _ => rfl)))) pe_int) pe_int))
      (pss_one (ps_ret (pe_op op_mod (pe_op op_fdiv (pv 3) pe_int) (pv 1)))))))), ?_⟩
    have hm : (0 : Int) < (m : Int) := by omega
    refine ⟨_, rfl, st, _, 0, _, rfl, rfl, SqL.of e, atI_nat (j := 0) rfl, _, _, rfl, rfl, _, rfl, ite2 (fun _ => ?_) (fun _ => ?_)⟩
    · refine ⟨_, rfl, st, _, 0, _, rfl, rfl, SqL.of e, atI_nat (j := 0) rfl, _, rfl, _, _, rfl, rfl, hm, ?_⟩
      refine ⟨_, rfl, st, _, 0, _, rfl, rfl, SqL.of e, atI_nat (j := 0) rfl, _, rfl, _, _, rfl, rfl, wide_div (b := 30) hm (by rw [Int.natAbs_natCast]; exact Nat.lt_of_le_of_lt m1 (by decide)) (by decide) (by decide), ?_⟩
      refine ⟨_, rfl, st, _, 0, 0, rfl, rfl, e, rfl, ?_⟩
      obtain ⟨t, ht, tm⟩ := nat_mod (z := i) m0
      refine ⟨_, rfl, ?_⟩
      show Q (V.int (i % (m : Int))) _
      rw [ht]
      exact q _ t ((Kp.refl hst).store _ _ _) tm
    · refine ⟨_, rfl, st, _, 2, _, rfl, rfl, SqL.of e, atI_nat (j := 2) rfl, _, _, rfl, rfl, _, rfl, st, _, 2, 2, rfl, rfl, e, rfl, ?_⟩
      have e2 : (upd H st (.lst ([.int i, .int j, .int k].set 2 (.int (k + 1))))) st = some (.lst [.int i, .int j, .int (k + 1)]) := upd_same
      have kp : Kp st H (upd H st (.lst ([.int i, .int j, .int k].set 2 (.int (k + 1))))) := (Kp.refl hst).store _ _ _
      generalize upd H st (.lst ([.int i, .int j, .int k].set 2 (.int (k + 1)))) = H2 at e2 kp
      refine ⟨_, rfl, st, _, 1, _, rfl, rfl, SqL.of e2, atI_nat (j := 1) rfl, _, rfl, st, _, 2, _, rfl, rfl, SqL.of e2, atI_nat (j := 2) rfl, _, _, rfl, rfl, .inl ⟨by decide, by decide⟩, _, _, rfl, rfl, _, _, rfl, rfl, .inr ⟨by decide, by decide⟩, _, _, rfl, rfl, (by show (0 : Int) < 2147483647; decide), ?_⟩
      generalize (j + 7919 * (k + 1)) * 48271 = u1
      have b1 : 0 ≤ u1 % 2147483647 := Int.emod_nonneg _ (by decide)
      have b2 : u1 % 2147483647 < 2147483647 := Int.emod_lt_of_pos _ (by decide)
      generalize u1 % 2147483647 = u2 at b1 b2
      refine ⟨_, rfl, _, rfl, _, _, rfl, rfl, .inl ⟨by omega, by omega⟩, _, _, rfl, rfl, (by show (0 : Int) < 2147483629; decide), ?_⟩
      refine ⟨_, rfl, _, rfl, st, _, 2, _, rfl, rfl, SqL.of e2, atI_nat (j := 2) rfl, _, _, rfl, rfl, .inl ⟨by decide, by decide⟩, _, _, rfl, rfl, _, _, rfl, rfl, .inr ⟨by decide, by decide⟩, _, _, rfl, rfl, (by show (0 : Int) < 2147483587; decide), ?_⟩
      refine ⟨_, rfl, _, _, rfl, rfl, ⟨by decide, by decide⟩, _, rfl, _, _, rfl, rfl, hm, ?_⟩
      have key : ∀ z : Int, Q (V.int (z % (m : Int))) H2 := fun z => by
        obtain ⟨t, ht, tm⟩ := nat_mod (z := z) m0
        rw [ht]
        exact q _ t kp tm
      exact key _
/-! ### _law_flip -/
abbrev s_law_flip : Stmt := topS 18
theorem sc_law_flip : FnScope ["signs", "at"] ["signs", "at"] (C8.fnScope s_law_flip) := C8.fnScope_by (by decide +kernel)
def sp_law_flip : Sp := fun vs H Q _ => ∃ (bs : List Bool) (i : Nat), vs = [.str (bS bs), .int (i : Nat)] ∧ i < bs.length ∧ bs.length ≤ 1000 ∧ Q (.str (bS (flipB bs i))) H
theorem ten_code (b : Bool) : atI (Str.ofString "10").cps.toList (if b then 1 else 0) = some (code (!b)) := by
  cases b <;> decide +kernel
theorem cal_law_flip {f : Addr} {fd : FuncData} (F : C8.Def K mg "_law_flip" s_law_flip f fd) (b : Binds K fd ["signs", "at"] []) (T : Bi mg) : C8.Cal P w K mg base 1 "_law_flip" sp_law_flip [] := by
  refine C8.cal0 F b .nil sc_law_flip (fun vs H Q E h => ?_) (fun cdv A outer s H vs Q E hr h => ?_)
  · obtain ⟨bs, i, rfl, _⟩ := h
    rfl
  · obtain ⟨bs, i, rfl, hi, hl, q⟩ := h
    refine ⟨_, pss_one (ps_ret (pe_op op_add_str (pe_op op_add_str (pe_slice sl_str (pv 0) po_none (po_some (pv 1)))
          (pe_ix ix_str pe_str (pe_callTy call_int_str (by rfl) T.int (by decide +kernel) (pa_cons (pe_ix ix_str (pv 0) (pv 1) (fun _ _ => rfl)) pa_nil)) (fun _ _ => rfl)))
        (pe_slice sl_str (pv 0) (po_some (pe_op op_add (pv 1) pe_int)) po_none))), ?_⟩
    have hib : bs[i]? = some bs[i] := List.getElem?_eq_getElem hi
    generalize bs[i] = b at hib
    have hz : (bS bs).length ≤ sizeLine := by rw [bS_len]; exact Nat.le_of_lt (small1000 (by omega))
    refine ⟨_, rfl, _, rfl, _, rfl, _, rfl, hz, _, rfl, _, rfl, _, _, _, rfl, rfl, hz, sign_at hib, _, _, rfl, int_code b, by show 1 ≤ 640; decide, _, _, _, rfl, rfl, by decide +kernel, ten_code b, ?_⟩
    refine ⟨_, _, rfl, rfl, ?_, _, rfl, _, rfl, _, _, rfl, rfl, _, rfl, _, rfl, hz, _, _, rfl, rfl, ?_, ?_⟩
    · rw [cut_to, SX.S_len, List.length_take]
      show _ + 1 ≤ sizeLine
      exact Nat.le_of_lt (small1000 (by omega))
    · rw [cut_to, show ((i : Nat) : Int) + 1 = ((i + 1 : Nat) : Int) from rfl, cut_from, show (⟨#[code (!b)]⟩ : Str) = SX.S [code (!b)] from rfl, SX.S_cat, SX.S_len, SX.S_len, List.length_append, List.length_take, List.length_drop, bS_codes, List.length_map]
      show _ + 1 + _ ≤ sizeLine
      exact Nat.le_of_lt (small1000 (by omega))
    · rw [cut_to, show ((i : Nat) : Int) + 1 = ((i + 1 : Nat) : Int) from rfl, cut_from, show (⟨#[code (!b)]⟩ : Str) = SX.S [code (!b)] from rfl, flip_text hib]
      exact q
/-! ### _law_picked -/
theorem joinL_flat : ∀ ls : List (List Nat), TL.joinL [] ls = ls.flatten
  | [] => rfl
  | [p] => by
    show p = [p].flatten
    rw [List.flatten_singleton]
  | p :: q :: r => by
    show p ++ ([] ++ TL.joinL [] (q :: r)) = p ++ (q :: r).flatten
    rw [joinL_flat (q :: r), List.nil_append]
theorem flat_ones : ∀ cs : List Nat, (cs.map fun c => [c]).flatten = cs
  | [] => rfl
  | c :: r => by
    show [c] ++ (r.map fun c => [c]).flatten = c :: r
    rw [flat_ones r]
    rfl
theorem join_bits (bs : List Bool) : Txt.join (Str.ofString "") (bs.map fun b => SX.S [code b]) = bS bs := by
  have e := SX.join_S [] (bs.map fun b => [code b])
  rw [List.map_map] at e
  have e0 : (Str.ofString "") = SX.S [] := by decide +kernel
  have e1 : TL.joinL [] (bs.map fun b => [code b]) = bs.map code := by
    rw [joinL_flat]
    have e2 := flat_ones (bs.map code)
    rw [List.map_map] at e2
    exact e2
  rw [e0]
  refine e.trans (congrArg SX.S e1)
theorem ones_len (bs : List Bool) : ((bs.map fun b => SX.S [code b]).map (·.length)).sum + (bs.map fun b => SX.S [code b]).length * (Str.ofString "").length = bs.length := by
  have e0 : (Str.ofString "").length = 0 := by decide +kernel
  rw [e0, Nat.mul_zero, Nat.add_zero]
  induction bs with
  | nil => rfl
  | cons b r ih =>
    rw [List.map_cons, List.map_cons, List.sum_cons, ih, List.length_cons]
    show 1 + r.length = r.length + 1
    omega
abbrev s_law_picked : Stmt := topS 25
theorem sc_law_picked : FnScope ["signs", "places", "at"] ["signs", "places"] (C8.fnScope s_law_picked) := C8.fnScope_by (by decide +kernel)
def sp_law_picked : Sp := fun vs H Q _ => ∃ (o : Option (List Bool)) (a : Addr) (places : List Nat), vs = [optV o, .ref a] ∧ H a = some (.lst (places.map fun p => .int (p : Nat))) ∧ places.length ≤ 1000 ∧ (∀ s, o = some s → s.length ≤ 1000 ∧ ∀ p ∈ places, p < s.length) ∧
  ∀ H', Same H H' → Q (optV (o.map (pick places))) H'
/-- signs picked by places, in a comprehension -/
theorem pick_snoc {places : List Nat} {s : List Bool} {j p : Nat} {b : Bool} (hp : places[j]? = some p) (hb : s[p]? = some b) : pick (places.take (j + 1)) s = pick (places.take j) s ++ [b] := by
  unfold pick
  rw [List.take_add_one, hp, List.map_append]
  show _ ++ [s.getD p false] = _
  rw [List.getD_eq_getElem?_getD, hb]
  rfl
theorem cal_law_picked {f : Addr} {fd : FuncData} (F : C8.Def K mg "_law_picked" s_law_picked f fd) (b : Binds K fd ["signs", "places"] []) : C8.Cal P w K mg base 1 "_law_picked" sp_law_picked [] := by
  refine C8.cal0 F b .nil sc_law_picked (fun vs H Q E h => ?_) (fun cdv A outer s H vs Q E hr h => ?_)
  · obtain ⟨o, a, places, rfl, _⟩ := h
    rfl
  · obtain ⟨o, a, places, rfl, ha, hl, hs, q⟩ := h
    have nd := sc_law_picked.nd
    refine ⟨_, pss_cons (ps_if (pt_cmpR op_isN (pv 0) pe_non (nomark _)) (pss_one (ps_ret pe_non)) pss_nil)
      (pss_one (ps_ret (pe_join pe_str (pe_lc (own := [("at", 2)]) rfl nd (pi_list (pv 1)) (blkOk_by (N := ["signs", "places", "at"]) (sc := C8.fnScope s_law_picked) (by decide +kernel))
        (fun _ _ _ _ _ => pg_name (i := 2) nd rfl (Or.inl rfl)) (fun _ _ _ _ _ => pts_nil) (fun _ _ _ _ _ => pe_ix ix_str (pv 0) (pv 2) (fun _ _ => rfl)))))), ?_⟩
    cases o with
    | none => exact ⟨_, rfl, rfl, _, rfl, iteT (q H (Same.refl H))⟩
    | some s =>
      obtain ⟨hs1, hs2⟩ := hs s rfl
      refine ⟨_, rfl, rfl, _, rfl, iteF ?_⟩
      refine ⟨⟨_, rfl⟩, _, rfl, a, rfl, ⟨_, SqL.of ha⟩, fun D nD => lc_it (walk_list (xs := places.map fun p => V.int (p : Nat))) (fun j H' => Same H H' ∧ H' D = some (.lst (((pick (places.take j) s).map fun b => SX.S [code b]).map V.str))) ⟨sameU nD, upd_same⟩ (fun i H1 _ p => SqL.of (p.1 _ _ ha)) ?_ ?_⟩
      · rintro j v H5 H6 hj ⟨s6, e6⟩ ⟨rfl, hv⟩
        rw [List.getElem?_map] at hv
        cases hp : places[j]? with
        | none =>
          rw [hp] at hv
          cases hv
        | some p =>
        rw [hp] at hv
        have ev : V.int (p : Nat) = v := Option.some.inj hv
        subst ev
        have hps := hs2 p (List.mem_of_getElem? hp)
        have hb : s[p]? = some s[p] := List.getElem?_eq_getElem hps
        refine ⟨rfl, _, rfl, _, rfl, _, _, _, rfl, rfl, by rw [bS_len]; exact Nat.le_of_lt (small1000 hs1), sign_at hb, _, e6, small1000 ?_, s6.put nD, ?_⟩
        · rw [List.length_map, List.length_map, pick_len, List.length_take]
          omega
        · rw [upd_same, pick_snoc hp hb, List.map_append, List.map_append]
          rfl
      · rintro H5 ⟨s5, e5⟩
        rw [List.length_map, List.take_of_length_le (Nat.le_refl _)] at e5
        refine ⟨_, D, _, rfl, rfl, .inl (SqL.of e5), ?_, ?_⟩
        · rw [ones_len, pick_len]
          omega
        · rw [join_bits]
          exact q H5 s5
end
end K31
set_option Elab.async false
set_option linter.all false
set_option maxRecDepth 100000
set_option maxHeartbeats 4000000
namespace K31
open PySem PySem.Spec PyProof.Rows L2
/-! ### what a shuffled list holds -/
theorem erase_perm {α : Type} : ∀ {l : List α} {k : Nat} {y : α}, l[k]? = some y → (y :: l.eraseIdx k).Perm l
  | [], k, y, h => by simp at h
  | a :: r, 0, y, h => by
    have e : a = y := Option.some.inj h
    rw [e]
    exact List.Perm.refl _
  | a :: r, k + 1, y, h => by
    have ih := erase_perm (l := r) (k := k) (y := y) h
    exact (List.Perm.swap a y (r.eraseIdx k)).trans (ih.cons a)
theorem seq_nat {t n : Nat} (h : t < n) : seqIndex? ((t : Nat) : Int) n = some t := by
  unfold seqIndex?
  have h1 : ¬ ((t : Nat) : Int) < 0 := by omega
  have h2 : (decide (0 ≤ ((t : Nat) : Int)) && decide (((t : Nat) : Int) < (n : Int))) = true := by
    rw [Bool.and_eq_true]
    exact ⟨decide_eq_true (by omega), decide_eq_true (by omega)⟩
  simp only [h1, if_false, h2, if_true]
  rfl
inductive Shuf (H : Hp) : V → Prop
  | int (i : Int) : Shuf H (.int i)
  | str {x : Str} (h : PyData.strOk x = true) : Shuf H (.str x)
  | turn {p : Addr} {t : Str × Nat} (h : TurnAt H p t) (h2 : PyData.strOk t.1 = true) : Shuf H (.ref p)
theorem Shuf.kp {st : Addr} {H H' : Hp} {v : V} (s : Kp st H H') (h : Shuf H v) : Shuf H' v := by
  cases h with
  | int i => exact .int i
  | str h => exact .str h
  | turn h h2 => exact .turn (s.tup h) h2
theorem items_data (K : PySem.W.Frag) (H : Hp) : ∀ xs : List V, (∀ v ∈ xs, Shuf H v) → ∃ ds, DpAll K H xs ds ∧ PyData.canLayAll0 ds = true ∧ PyData.depthAll ds ≤ 1 ∧ ds.isEmpty = xs.isEmpty
  | [], _ => ⟨[], .nil, rfl, Nat.zero_le _, rfl⟩
  | v :: r, h => by
    obtain ⟨ds, h1, h2, h3, _⟩ := items_data K H r fun u hu => h u (List.mem_cons_of_mem _ hu)
    have one : ∃ d, Dp K H v d ∧ PyData.canLay0 d = true ∧ PyData.depth d ≤ 1 := by
      cases h v List.mem_cons_self with
      | int i => exact ⟨.int i, .int i, rfl, Nat.zero_le _⟩
      | @str x hx => exact ⟨.str x, .str x, hx, Nat.zero_le _⟩
      | @turn p t ht hx =>
        refine ⟨.tuple [.str t.1, .int (t.2 : Nat)], .tup (SqT.of ht) (.cons (.str _) (.cons (.int _) .nil)), ?_, Nat.le_refl _⟩
        show (PyData.strOk t.1 && true) = true
        rw [hx]
        rfl
    obtain ⟨d, d1, d2, d3⟩ := one
    refine ⟨d :: ds, .cons d1 h1, ?_, ?_, rfl⟩
    · show (PyData.canLay0 d && PyData.canLayAll0 ds) = true
      rw [d2, h2]
      rfl
    · show max (PyData.depth d) (PyData.depthAll ds) ≤ 1
      omega
theorem items_shaped {ds : List PyData} (h2 : PyData.canLayAll0 ds = true) (h3 : PyData.depthAll ds ≤ 1) : SeqAt.shaped (.list ds) = true := by
  show (PyData.canLayAll0 ds && decide (PyData.depthAll ds + 1 ≤ 64)) = true
  rw [h2, decide_eq_true (by omega)]
  rfl
theorem letters_ok : letters.cps.toList.all (fun c => decide (c < 0x110000)) = true := by decide +kernel
theorem NameS.ok {x : Str} (h : NameS x) : PyData.strOk x = true := by
  unfold PyData.strOk
  rw [← Array.all_toList, List.all_eq_true]
  intro c hc
  exact List.all_eq_true.mp letters_ok c (h.2.2 c hc)
section
variable {P : Program} {w : World} {K : PySem.W.Frag} {mg : Str → Option Value} {base : Heap}
/-! ### _law_shuffled -/
abbrev s_law_shuffled : Stmt := topS 22
theorem sc_law_shuffled : FnScope ["store", "some", "left", "found"] ["store", "some"] (C8.fnScope s_law_shuffled) := C8.fnScope_by (by decide +kernel)
def sp_law_shuffled : Sp := fun vs H Q _ => ∃ (st a : Addr) (xs : List V), vs = [.ref st, .ref a] ∧ StoreAt H st ∧ H a = some (.lst xs) ∧ xs.length ≤ 1000 ∧ (∀ v ∈ xs, Shuf H v) ∧
  ∀ H' p ys, Kp st H H' → H p = none → H' p = some (.lst ys) → ys.Perm xs → Q (.ref p) H'
theorem cal_law_shuffled {f : Addr} {fd : FuncData} (F : C8.Def K mg "_law_shuffled" s_law_shuffled f fd) (b : Binds K fd ["store", "some"] []) (T : Bi mg) (cT : C8.Cal P w K mg base 1 "_law_take" sp_law_take []) : C8.Cal P w K mg base 2 "_law_shuffled" sp_law_shuffled [] := by
  refine C8.cal0 F b .nil sc_law_shuffled (fun vs H Q E h => ?_) (fun cdv A outer s H vs Q E hr h => ?_)
  · obtain ⟨st, a, xs, rfl, _⟩ := h
    rfl
  · obtain ⟨st, a, xs, rfl, hst, ha, hl, hit, q⟩ := h
    have nd := sc_law_shuffled.nd
    refine ⟨_, pss_cons (ps_set (i := 2) nd rfl (Or.inl rfl) (pe_callTy call_list_of (by rfl) T.list (by decide +kernel) (pa_cons (pv 1) pa_nil)))
      (pss_cons (ps_set (i := 3) nd rfl (Or.inl rfl) (pe_lst pa_nil))
      (pss_cons (ps_while PassesOwn.never (pt_cmpR (op_neD hr.units) (pv 2) (pe_lst pa_nil) (nomark _))
        (pss_one (ps_expr (pe_bm PySem.F.plainAttrs_list PySem.F.slot_list_append PySem.F.type_list_append mt_append (pv 3) (pa_cons
          (pe_bm PySem.F.plainAttrs_list PySem.F.slot_list_pop PySem.F.type_list_pop mt_popAt (pv 2) (pa_cons (C8.pe_c cT hr (by decide) (by rfl) (pa_cons (pv 0) (pa_cons (pe_callB call_len_seq (by rfl) T.len PySem.boot_len (pa_cons (pv 2) pa_nil)) pa_nil))) pa_nil)) pa_nil)))))
      (pss_one (ps_ret (pv 3))))), ?_⟩
    refine ⟨_, rfl, a, xs, rfl, .inl (SqL.of ha), fun l nl => ?_⟩
    have k0 : Kp st H (upd H l (.lst xs)) := (Kp.refl hst).put nl
    refine ⟨Nat.zero_le _, fun f nf => ?_⟩
    have nlf : l ≠ f := ne_of_none upd_same nf
    have nf0 : H f = none := k0.free nf
    refine ⟨fun m σ H1 => ∃ left found, σ = [some (.ref st), some (.ref a), some (.ref l), some (.ref f)] ∧ Kp st H H1 ∧ H1 l = some (.lst left) ∧ H1 f = some (.lst found) ∧ (found ++ left).Perm xs ∧ m = left.length,
      ⟨_, xs, [], rfl, k0.put nf0, by rw [upd_ne nlf, upd_same], upd_same, List.Perm.refl _, rfl⟩, fun m σ H1 hW => ?_⟩
    obtain ⟨left, found, rfl, k1, e1, f1, pm, rfl⟩ := hW
    have hll := pm.length_eq
    rw [List.length_append] at hll
    refine ⟨_, rfl, Nat.zero_le _, fun p np => ?_⟩
    have k2 := k1.same (sameU (o := .lst []) np)
    have e2 := (sameU (o := .lst []) np) _ _ e1
    have f2 := (sameU (o := .lst []) np) _ _ f1
    obtain ⟨ds, d1, d2, d3, d4⟩ := items_data K (upd H1 p (.lst [])) left fun v hv => (hit v (pm.mem_iff.mp (List.mem_append_right _ hv))).kp k2
    refine ⟨.list ds, .list [], .lst (SqL.of e2) d1, .lst (SqL.of upd_same) .nil, items_shaped d2 d3, rfl, _, rfl, ?_⟩
    rw [eqv_nil, d4]
    generalize upd H1 p (.lst []) = H2 at k2 e2 f2
    cases left with
    | nil =>
      rw [List.append_nil] at pm
      rw [show (!([] : List V).isEmpty) = false from rfl]
      exact iteF ⟨_, rfl, q H2 f found k2 nf0 f2 pm⟩
    | cons x r =>
      rw [show (!(x :: r).isEmpty) = true from rfl]
      refine iteT ⟨_, fun σ' H' z => z, ?_⟩
      refine ⟨_, rfl, .inl ⟨rfl, _, SqL.of f2⟩, _, rfl, .inl ⟨rfl, _, SqL.of e2⟩, _, rfl, _, rfl, l, _, rfl, .inl (SqL.of e2), st, (x :: r).length, rfl, Nat.succ_pos _, by omega, k2.now, fun H3 t k3 tm => ?_⟩
      have k3' := k2.trans k3
      have e3 : H3 l = some (.lst (x :: r)) := k3.keep _ _ (k0.ne nl) e2
      have f3 : H3 f = some (.lst found) := k3.keep _ _ (k0.ne nf0) f2
      have hy : (x :: r)[t]? = some (x :: r)[t] := List.getElem?_eq_getElem tm
      generalize (x :: r)[t] = y at hy
      refine ⟨l, _, _, t, y, rfl, rfl, e3, by omega, by omega, seq_nat tm, hy, ?_⟩
      have f4 : (upd H3 l (.lst ((x :: r).eraseIdx t))) f = some (.lst found) := by rw [upd_ne nlf.symm]; exact f3
      refine ⟨f, found, y, rfl, rfl, f4, small1000 (by omega), ?_⟩
      refine ⟨_, ?_, (x :: r).eraseIdx t, found ++ [y], rfl, (k3'.put nl).put nf0, by rw [upd_ne nlf, upd_same], upd_same, ?_, rfl⟩
      · rw [List.length_eraseIdx, if_pos tm]
        exact Nat.sub_lt (Nat.succ_pos _) Nat.one_pos
      · rw [List.append_assoc]
        exact ((erase_perm hy).append_left found).trans pm
end
end K31
set_option Elab.async false
set_option linter.all false
set_option maxRecDepth 100000
set_option maxHeartbeats 4000000
namespace K31
open PySem PySem.Spec PyProof.Rows L2
theorem perm_of {α : Type} {f : α → V} (inv : V → α) (h : ∀ x, inv (f x) = x) {ys : List V} {xs : List α} (pm : ys.Perm (xs.map f)) : ∃ zs : List α, ys = zs.map f ∧ zs.Perm xs := by
  refine ⟨ys.map inv, ?_, ?_⟩
  · rw [List.map_map]
    refine (List.map_id ys).symm.trans (List.map_congr_left fun v hv => ?_)
    obtain ⟨x, _, rfl⟩ := List.mem_map.mp (pm.mem_iff.mp hv)
    show f x = f (inv (f x))
    rw [h]
  · have p2 := pm.map inv
    rw [List.map_map] at p2
    have e : xs.map (inv ∘ f) = xs := (List.map_congr_left fun x _ => h x).trans (List.map_id xs)
    rw [e] at p2
    exact p2
def unStr : V → Str
  | .str x => x
  | _ => Str.empty
def unNat : V → Nat
  | .int i => i.toNat
  | _ => 0
theorem two_ok {a b : V} : [a, b].length ≤ sizeLine := Nat.le_of_lt (small1000 (by show 2 ≤ 1000; decide))
theorem four_ok {a b c d : V} : [a, b, c, d].length ≤ sizeLine := Nat.le_of_lt (small1000 (by show 4 ≤ 1000; decide))
theorem erase_map {α β : Type} (f : α → β) : ∀ (l : List α) (k : Nat), (l.map f).eraseIdx k = (l.eraseIdx k).map f
  | [], k => by cases k <;> rfl
  | a :: r, 0 => rfl
  | a :: r, k + 1 => by
    show f a :: (r.map f).eraseIdx k = f a :: (r.eraseIdx k).map f
    rw [erase_map f r k]
theorem NodeAt.upd {H : Hp} {l q : Addr} {xs : List V} {o : HO} {ts : List (Str × Nat)} (hl : H l = some (.lst xs)) (hq : q ≠ l) (h : NodeAt H q ts) : NodeAt (upd H l o) q ts := by
  obtain ⟨ps, h1, h2⟩ := h
  refine ⟨ps, by rw [upd_ne hq]; exact h1, h2.mono fun p t _ _ r => ?_⟩
  have r : H p = some (.tup [.str t.1, .int (t.2 : Nat)]) := r
  show L2.upd H l o p = _
  rw [upd_ne (ne_of r hl (by intro z; cases z))]
  exact r
section
variable {P : Program} {w : World} {K : PySem.W.Frag} {mg : Str → Option Value} {base : Heap}
/-! ### _law_some_names -/
def spareL : List Str := ["a", "b", "c", "ab", "ba", "hold", "set", "x", "zzzzzzzz", "aa", "wire", "not", "and", "or", "q"]
theorem spare_nd : spareL.Nodup := by decide +kernel
theorem spare_names : ∀ x ∈ spareL, NameS x := by
  have h : spareL.all (fun x => decide (0 < x.length) && decide (x.length < 9) && x.cps.toList.all fun c => decide (c ∈ letters.cps.toList)) = true := by decide +kernel
  intro x hx
  have h1 := List.all_eq_true.mp h x hx
  rw [Bool.and_eq_true, Bool.and_eq_true] at h1
  exact ⟨of_decide_eq_true h1.1.1, of_decide_eq_true h1.1.2, fun c hc => of_decide_eq_true (List.all_eq_true.mp h1.2 c hc)⟩
abbrev s_law_some_names : Stmt := topS 17
theorem sc_law_some_names : FnScope ["store", "many", "spare", "k"] ["store", "many"] (C8.fnScope s_law_some_names) := C8.fnScope_by (by decide +kernel)
def sp_law_some_names : Sp := fun vs H Q _ => ∃ (st : Addr) (n : Nat), vs = [.ref st, .int (n : Nat)] ∧ n ≤ 15 ∧ StoreAt H st ∧
  ∀ H' p ns, Kp st H H' → H p = none → NamesAt H' p ns → ns.length = n → ns.Nodup → (∀ x ∈ ns, NameS x) → Q (.ref p) H'
theorem cal_law_some_names {f : Addr} {fd : FuncData} (F : C8.Def K mg "_law_some_names" s_law_some_names f fd) (b : Binds K fd ["store", "many"] []) (T : Bi mg) (cT : C8.Cal P w K mg base 1 "_law_take" sp_law_take []) : C8.Cal P w K mg base 2 "_law_some_names" sp_law_some_names [] := by
  refine C8.cal0 F b .nil sc_law_some_names (fun vs H Q E h => ?_) (fun cdv A outer s H vs Q E hr h => ?_)
  · obtain ⟨st, n, rfl, _⟩ := h
    rfl
  · obtain ⟨st, n, rfl, hn, hst, q⟩ := h
    have nd := sc_law_some_names.nd
    refine ⟨_, pss_cons (ps_set (i := 2) nd rfl (Or.inr rfl) (pe_lst (pa_cons pe_str (pa_cons pe_str (pa_cons pe_str (pa_cons pe_str (pa_cons pe_str (pa_cons pe_str (pa_cons pe_str (pa_cons pe_str (pa_cons pe_str (pa_cons pe_str (pa_cons pe_str (pa_cons pe_str (pa_cons pe_str (pa_cons pe_str (pa_cons pe_str pa_nil)))))))))))))))))
      (pss_one (ps_ret (pe_lc (own := [("k", 3)]) rfl nd (pi_range1 (by rfl) T.range (pa_cons (pv 1) pa_nil)) (blkOk_by (N := ["store", "many", "spare", "k"]) (sc := C8.fnScope s_law_some_names) (by decide +kernel))
        (fun _ _ _ _ _ => pg_name (i := 3) nd rfl (Or.inl rfl)) (fun _ _ _ _ _ => pts_nil)
        (fun _ _ _ _ _ => pe_bm_in (K := K) rfl PySem.F.plainAttrs_list PySem.F.slot_list_pop PySem.F.type_list_pop mt_popAt (pv 2) (pa_cons (C8.pe_c cT hr (by decide) (by rfl) (pa_cons (pv 0) (pa_cons (pe_callB (len_in (K := K) rfl) (by rfl) T.len PySem.boot_len (pa_cons (pv 2) pa_nil)) pa_nil))) pa_nil))))), ?_⟩
    refine ⟨Nat.le_of_lt (small1000 (by decide)), fun sp nsp => ?_⟩
    have k0 : Kp st H (upd H sp (.lst (spareL.map V.str))) := (Kp.refl hst).put nsp
    have e0 : (upd H sp (.lst (spareL.map V.str))) sp = some (.lst (spareL.map V.str)) := upd_same
    have hsp := k0.ne nsp
    refine ⟨_, rfl, _, rfl, by omega, by omega, fun D nD => ?_⟩
    have nDsp : D ≠ sp := (ne_of_none e0 nD).symm
    have nD0 := k0.free nD
    refine lc_it walk_range (fun i H' => ∃ rest taken : List Str, Kp st H H' ∧ H' sp = some (.lst (rest.map V.str)) ∧ H' D = some (.lst (taken.map V.str)) ∧ (taken ++ rest).Perm spareL ∧ taken.length = i)
      ⟨spareL, [], k0.put nD0, by rw [upd_ne nDsp.symm]; exact e0, upd_same, List.Perm.refl _, rfl⟩ (fun _ _ _ _ => True.intro) ?_ ?_
    · rintro i v H5 H6 hi ⟨rest, taken, k6, e6, d6, pm, hl⟩ ⟨rfl, rfl⟩
      have hlen := pm.length_eq
      rw [List.length_append] at hlen
      have h15 : spareL.length = 15 := rfl
      have hi : i < n := by omega
      refine ⟨rfl, _, rfl, .inl ⟨rfl, _, SqL.of e6⟩, _, rfl, _, rfl, sp, _, rfl, .inl (SqL.of e6), st, rest.length, by rw [List.length_map]; rfl, by omega, by omega, k6.now, fun H7 t k7 tm => ?_⟩
      have e7 := k7.keep _ _ hsp e6
      have d7 := k7.keep _ _ (k0.ne nD0) d6
      have hy : rest[t]? = some rest[t] := List.getElem?_eq_getElem tm
      generalize rest[t] = y at hy
      refine ⟨sp, _, _, t, .str y, rfl, rfl, e7, by omega, by omega, seq_nat (by rw [List.length_map]; exact tm), by rw [List.getElem?_map, hy]; rfl, ?_⟩
      have d8 : (upd H7 sp (.lst ((rest.map V.str).eraseIdx t))) D = some (.lst (taken.map V.str)) := by rw [upd_ne nDsp]; exact d7
      refine ⟨_, d8, small1000 (by rw [List.length_map]; omega), rest.eraseIdx t, taken ++ [y], ((k6.trans k7).put nsp).put nD0, ?_, ?_, ?_, ?_⟩
      · rw [upd_ne nDsp.symm, upd_same, erase_map]
      · rw [upd_same, List.map_append]
        rfl
      · rw [List.append_assoc]
        exact ((erase_perm hy).append_left taken).trans pm
      · rw [List.length_append, hl]
        rfl
    · rintro H5 ⟨rest, taken, k5, e5, d5, pm, hl⟩
      have ndt := (List.nodup_append.mp (pm.nodup_iff.mpr spare_nd)).1
      refine q H5 D taken k5 nD0 d5 ?_ ndt fun x hx => spare_names x (pm.mem_iff.mp (List.mem_append_left _ hx))
      rw [hl]
      exact Int.toNat_natCast n
/-! ### _law_numbered -/
theorem rg_vals (n : Nat) (h : 0 < n) : rgV 1 (n : Int) = (((List.range n).drop 1).map fun k => V.int ((k : Nat) : Int)) := by
  have e : ((n : Int) - 1).toNat = n - 1 := by omega
  unfold rgV
  rw [e]
  refine List.ext_getElem (by simp) fun i h1 h2 => ?_
  simp only [List.getElem_map, List.getElem_range, List.getElem_drop]
  have : (1 : Int) + (i : Nat) = ((1 + i : Nat) : Int) := by omega
  rw [this]
theorem flatNats (ks : List Nat) : (ks.map fun k => V.int ((k : Nat) : Int)).all flatV = true := by
  rw [List.all_eq_true]
  intro v hv
  obtain ⟨x, _, rfl⟩ := List.mem_map.mp hv
  rfl
theorem first_nat {ks : List Nat} (nd : ks.Nodup) {i x : Nat} (h : ks[i]? = some x) : (ks.map fun k => V.int ((k : Nat) : Int))[i]? = some (V.int (x : Nat)) ∧ eqV (V.int (x : Nat)) (V.int (x : Nat)) = true ∧ ∀ (m : Nat) (z : V), m < i → (ks.map fun k => V.int ((k : Nat) : Int))[m]? = some z → eqV z (V.int (x : Nat)) = false := by
  refine ⟨by rw [List.getElem?_map, h]; rfl, beq_self_eq_true ((x : Nat) : Int), fun m z hm hz => ?_⟩
  rw [List.getElem?_map] at hz
  cases e : ks[m]? with
  | none =>
    rw [e] at hz
    cases hz
  | some y =>
    rw [e] at hz
    rw [← Option.some.inj hz]
    show (((y : Nat) : Int) == ((x : Nat) : Int)) = false
    refine beq_eq_false_iff_ne.mpr fun q => ?_
    rw [Int.ofNat.inj q] at e
    have := nd_at nd e h
    omega
abbrev s_law_numbered : Stmt := topS 23
theorem sc_law_numbered : FnScope ["store", "sheet", "order", "nodes", "old", "name", "to"] ["store", "sheet"] (C8.fnScope s_law_numbered) := C8.fnScope_by (by decide +kernel)
def sp_law_numbered : Sp := fun vs H Q _ => ∃ (st t : Addr) (ins outs : List Str) (first : List Bool) (g : List (List (Str × Nat))), vs = [.ref st, .ref t] ∧ StoreAt H st ∧ SheetAt H t ins outs first g ∧ SheetOk ins outs first g ∧
  ∀ H' p a b order g', Kp st H H' → H' p = some (.tup [.ref a, .ref b]) → H a = none → H' a = some (.lst (order.map fun k => .int ((k : Nat) : Int))) → SheetAt H' b ins outs first g' → Ren order g g' → Q (.ref p) H'
theorem cal_law_numbered {f : Addr} {fd : FuncData} (F : C8.Def K mg "_law_numbered" s_law_numbered f fd) (b : Binds K fd ["store", "sheet"] []) (T : Bi mg) (cS : C8.Cal P w K mg base 2 "_law_shuffled" sp_law_shuffled []) : C8.Cal P w K mg base 3 "_law_numbered" sp_law_numbered [] := by
  refine C8.cal0 F b .nil sc_law_numbered (fun vs H Q E h => ?_) (fun cdv A outer s H vs Q E hr h => ?_)
  · obtain ⟨st, t, ins, outs, first, g, rfl, _⟩ := h
    rfl
  · obtain ⟨st, t, ins, outs, first, g, rfl, hst, hsh, S, q⟩ := h
    have nd := sc_law_numbered.nd
    refine ⟨_, pss_cons (ps_set (i := 2) nd rfl (Or.inr rfl) (pe_op op_cat (pe_lst (pa_cons pe_int pa_nil)) (C8.pe_c cS hr (by decide) (by rfl) (pa_cons (pv 0) (pa_cons (pe_listRg rfl (by rfl) T.list
          (prg_2 (by rfl) T.range pe_int (pe_callB call_len_seq (by rfl) T.len PySem.boot_len (pa_cons (pe_ix ix_tup (pv 1) pe_int (fun _ _ => rfl)) pa_nil)))) pa_nil)))))
      (pss_cons (ps_set (i := 3) nd rfl (Or.inl rfl) (pe_lst pa_nil))
      (pss_cons (ps_for PassesOwn.never rfl (pi_list (pv 2)) (pg_name (i := 4) nd rfl (Or.inl rfl))
        (pss_one (ps_expr (pe_bm PySem.F.plainAttrs_list PySem.F.slot_list_append PySem.F.type_list_append mt_append (pv 3) (pa_cons
          (pe_lc (own := [("name", 5), ("to", 6)]) rfl nd (pi_list (pe_ix ix_list (pe_ix ix_tup (pv 1) pe_int (fun _ _ => rfl)) (pv 4) (fun _ _ => rfl)))
            (blkOk_by (N := ["store", "sheet", "order", "nodes", "old", "name", "to"]) (sc := C8.fnScope s_law_numbered) (by decide +kernel))
            (fun _ _ _ _ _ => pg_tup_in (K := K) (n := 2) rfl rfl (pgs_cons (pg_name (i := 5) nd rfl (Or.inl rfl)) (pgs_cons (pg_name (i := 6) nd rfl (Or.inl rfl)) pgs_nil))) (fun _ _ _ _ _ => pts_nil)
            (fun _ _ _ _ _ => pe_tup (pa_cons (pv 5) (pa_cons (pe_bm_in (K := K) rfl PySem.F.plainAttrs_list PySem.F.slot_list_index PySem.F.type_list_index (index_in (K := K) rfl) (pv 2) (pa_cons (pv 6) pa_nil)) pa_nil)))) pa_nil)))))
      (pss_one (ps_ret (pe_tup (pa_cons (pv 2) (pa_cons (pe_tup (pa_cons (pe_ix ix_tup (pv 1) pe_int (fun _ _ => rfl)) (pa_cons (pe_ix ix_tup (pv 1) pe_int (fun _ _ => rfl)) (pa_cons (pe_ix ix_tup (pv 1) pe_int (fun _ _ => rfl)) (pa_cons (pv 3) pa_nil))))) pa_nil))))))), ?_⟩
    obtain ⟨si, so, sn, ht, hi, ho, hn⟩ := id hsh
    obtain ⟨qs, hn1, hn2⟩ := id hn
    have g1 := S.shape.some
    have g2 := S.shape.few
    have lq : (qs.map V.ref).length = g.length := by rw [List.length_map, hn2.1]
    -- [0] + _law_shuffled(store, list(range(1, len(sheet[3]))))
    refine ⟨Nat.le_of_lt (small1000 (by decide)), fun z nz => ?_⟩
    have s1 : Same H (upd H z (.lst [.int 0])) := sameU nz
    have z1 : (upd H z (.lst [.int 0])) z = some (.lst [.int 0]) := upd_same
    refine ⟨_, rfl, _, rfl, t, _, 3, _, rfl, rfl, SqT.of (s1 _ _ ht), atI_nat (j := 3) rfl, sn, _, rfl, .inl (SqL.of (s1 _ _ hn1)), 1, (g.length : Nat), rfl, by rw [lq], .of_le (by decide) (by omega) (by decide) (by omega), fun r nr => ?_⟩
    rw [rg_vals g.length g1]
    have nr0 : H r = none := s1.free nr
    have k1 : Kp st H (upd H z (.lst [.int 0])) := (Kp.refl hst).put nz
    have k2 : Kp st H (upd (upd H z (.lst [.int 0])) r (.lst (((List.range g.length).drop 1).map fun k => V.int ((k : Nat) : Int)))) := k1.put nr0
    have z2 : (upd (upd H z (.lst [.int 0])) r (.lst (((List.range g.length).drop 1).map fun k => V.int ((k : Nat) : Int)))) z = some (.lst [.int 0]) := by rw [upd_ne (ne_of_none z1 nr)]; exact z1
    refine ⟨st, r, _, rfl, k2.now, upd_same, by simp; omega, fun v hv => ?_, fun H3 p ys k3 np ep pm => ?_⟩
    · obtain ⟨x, _, rfl⟩ := List.mem_map.mp hv
      exact .int _
    obtain ⟨zs, rfl, pz⟩ := perm_of (f := fun k : Nat => V.int ((k : Nat) : Int)) unNat (fun x => Int.toNat_natCast x) pm
    have k3' := k2.trans k3
    have z3 := k3.keep _ _ (k1.ne nz) z2
    generalize upd (upd H z (.lst [.int 0])) r (.lst (((List.range g.length).drop 1).map fun k => V.int ((k : Nat) : Int))) = H2 at k2 k3 z2 np
    have po : (0 :: zs).Perm (List.range g.length) := by
      have e : List.range g.length = 0 :: (List.range g.length).drop 1 := by
        cases hg : g.length with
        | zero => omega
        | succ m => rw [List.range_succ_eq_map]; rfl
      rw [e]
      exact pz.cons 0
    have hol : (0 :: zs).length = g.length := by rw [po.length_eq, List.length_range]
    refine ⟨z, p, _, _, rfl, rfl, z3, ep, (by rw [List.length_map]; show 1 + zs.length ≤ sizeLine; rw [List.length_cons] at hol; exact Nat.le_of_lt (small1000 (by omega))), fun o no => ?_⟩
    have no0 : H o = none := k3'.free no
    have k4 : Kp st H (upd H3 o (.lst ([.int 0] ++ zs.map fun k => V.int ((k : Nat) : Int)))) := k3'.put no0
    have o4 : (upd H3 o (.lst ([.int 0] ++ zs.map fun k => V.int ((k : Nat) : Int)))) o = some (.lst ((0 :: zs).map fun k => V.int ((k : Nat) : Int))) := upd_same
    have oz : (0 :: zs)[0]? = some 0 := rfl
    generalize 0 :: zs = order at po hol o4 oz
    generalize upd H3 o (.lst ([.int 0] ++ zs.map fun k => V.int ((k : Nat) : Int))) = H4 at k4 o4
    have R := renum_ren S.shape po oz
    -- nodes = []
    refine ⟨Nat.zero_le _, fun l nl => ?_⟩
    have nl0 : H l = none := k4.free nl
    have nol : o ≠ l := ne_of_none o4 nl
    refine ⟨_, rfl, o, rfl, ⟨_, SqL.of (by rw [upd_ne nol]; exact o4)⟩, for_it (walk_list (xs := order.map fun k => V.int ((k : Nat) : Int)))
      (fun i σ H' => ∃ y4 qs', σ = [some (.ref st), some (.ref t), some (.ref o), some (.ref l), y4, none, none] ∧ Kp st H H' ∧ H' o = some (.lst (order.map fun k => V.int ((k : Nat) : Int))) ∧ H' l = some (.lst (qs'.map V.ref)) ∧ At2 (NodeAt H') qs' ((renum order g).take i) ∧ ∀ q ∈ qs', q ≠ l)
      ⟨none, [], rfl, k4.put nl0, by rw [upd_ne nol]; exact o4, upd_same, .nil, fun q hq => by cases hq⟩ (fun i σ H' _ ⟨_, _, _, _, eo, _⟩ => SqL.of eo) ?_ ?_⟩
    · rintro i v σ H6 H5 hi ⟨y4, qs', rfl, k5, o5, l5, at5, off⟩ ⟨rfl, hv⟩
      rw [List.length_map] at hi
      have ho : order[i]? = some order[i] := List.getElem?_eq_getElem hi
      rw [List.getElem?_map, ho] at hv
      have ev : V.int ((order[i] : Nat) : Int) = v := Option.some.inj hv
      subst ev
      have hlt := R.lt ho
      generalize order[i] = old at ho hlt
      have hg : g[old]? = some g[old] := List.getElem?_eq_getElem hlt
      generalize g[old] = node at hg
      have hmem := List.mem_of_getElem? hg
      obtain ⟨q, hq, ps, nq1, nq2⟩ := hn2.left hg
      have iq : (qs.map V.ref)[old]? = some (.ref q) := by rw [List.getElem?_map, hq]; rfl
      have en := renum_at ho hg
      have hlq : qs'.length ≤ i := by
        rw [at5.1, List.length_take]
        exact Nat.min_le_left _ _
      refine ⟨_, rfl, .inl ⟨rfl, _, SqL.of l5⟩, _, rfl, t, _, 3, _, rfl, rfl, SqT.of (k5.tup ht), atI_nat (j := 3) rfl, _, rfl, sn, _, _, _, rfl, rfl, SqL.of (k5.refs hn1), atI_nat iq, q, rfl, ⟨_, SqL.of (k5.refs nq1)⟩, fun D nD => ?_⟩
      refine lc_it (walk_list (xs := ps.map V.ref)) (fun j H' => ∃ ts : List Addr, Same H5 H' ∧ H' D = some (.lst (ts.map V.ref)) ∧ At2 (TurnAt H') ts ((node.map fun p => (p.1, order.idxOf p.2)).take j)) ⟨[], sameU nD, upd_same, .nil⟩ (fun j H' _ ⟨_, s, _⟩ => SqL.of (s _ _ (k5.refs nq1))) ?_ ?_
      · rintro j v H8 H7 hj ⟨ts, s7, d7, at7⟩ ⟨rfl, hv⟩
        rw [List.getElem?_map] at hv
        cases hp : ps[j]? with
        | none =>
          rw [hp] at hv
          cases hv
        | some p =>
        rw [hp] at hv
        have ev : V.ref p = v := Option.some.inj hv
        subst ev
        obtain ⟨⟨x, to⟩, htn, tat⟩ := nq2.right hp
        have t7 : H7 p = some (.tup [.str x, .int (to : Nat)]) := s7 _ _ (k5.tup tat)
        have hto : to ∈ order := po.mem_iff.mpr (List.mem_range.mpr (S.shape.to node hmem _ (List.mem_of_getElem? htn)))
        obtain ⟨f1, f2, f3⟩ := first_nat R.nd (at_idx hto)
        have hj2 : j < node.length := (List.getElem?_eq_some_iff.mp htn).1
        have hsh := S.short node hmem
        refine ⟨p, _, rfl, SqT.of t7, rfl, _, _, rfl, _, _, rfl, rfl, rfl, ?_⟩
        refine ⟨_, rfl, _, rfl, .inl ⟨rfl, _, SqL.of (s7 _ _ o5)⟩, _, rfl, o, _, _, order.idxOf to, _, rfl, rfl, SqL.of (s7 _ _ o5), rfl, flatNats order, f1, f2, f3, two_ok, fun T nT => ?_⟩
        have nTD : D ≠ T := ne_of_none d7 nT
        refine ⟨ts.map V.ref, by rw [upd_ne nTD]; exact d7, small1000 ?_, ts ++ [T], (s7.put (s7.free nT)).put nD, by rw [upd_same, List.map_append]; rfl, ?_⟩
        · rw [List.length_map, at7.1, List.length_take]
          omega
        · have e1 : (node.map fun p => (p.1, order.idxOf p.2))[j]? = some (x, order.idxOf to) := by rw [List.getElem?_map, htn]; rfl
          rw [List.take_add_one, e1]
          refine At2.snoc (at7.mono fun p u _ _ r => ?_) ?_
          · have r : H7 p = some (.tup [.str u.1, .int (u.2 : Nat)]) := r
            show L2.upd _ D _ p = _
            rw [upd_ne (ne_of r d7 (by intro z; cases z)), upd_ne (ne_of_none r nT)]
            exact r
          · show L2.upd _ D _ T = _
            rw [upd_ne nTD.symm, upd_same]
      · rintro H7 ⟨ts, s7, d7, at7⟩
        have l7 := s7 _ _ l5
        have nDl : D ≠ l := (ne_of_none l5 nD).symm
        have nodeD : NodeAt H7 D (node.map fun p => (p.1, order.idxOf p.2)) := by
          refine ⟨ts, d7, ?_⟩
          rw [List.length_map, nq2.1, List.take_of_length_le (by rw [List.length_map]; exact Nat.le_refl _)] at at7
          exact at7
        refine ⟨l, _, _, rfl, rfl, l7, small1000 (by rw [List.length_map]; omega), ?_⟩
        refine ⟨_, qs' ++ [D], rfl, (k5.same s7).put nl0, by rw [upd_ne nol]; exact s7 _ _ o5, by rw [upd_same, List.map_append]; rfl, ?_, fun q hq => ?_⟩
        · rw [List.take_add_one, en]
          refine At2.snoc (at5.mono fun q u hq _ r => (r.same s7).upd l7 (off q hq)) (nodeD.upd l7 nDl)
        · rcases List.mem_append.mp hq with hq | hq
          · exact off q hq
          · rw [List.mem_singleton.mp hq]
            exact nDl
    · rintro σ H5 ⟨y4, qs', rfl, k5, o5, l5, at5, off⟩
      have hr : (renum order g).length = (order.map fun k => V.int ((k : Nat) : Int)).length := by
        unfold renum
        rw [List.length_map, List.length_map]
      rw [← hr, List.take_of_length_le (Nat.le_refl _)] at at5
      have t5 := k5.tup ht
      refine ⟨_, rfl, _, rfl, t, _, 0, _, rfl, rfl, SqT.of t5, atI_nat (j := 0) rfl, _, rfl, t, _, 1, _, rfl, rfl, SqT.of t5, atI_nat (j := 1) rfl, _, rfl, t, _, 2, _, rfl, rfl, SqT.of t5, atI_nat (j := 2) rfl, _, rfl, four_ok, fun b nb => ⟨two_ok, fun p np => ?_⟩⟩
      have s6 : Same H5 (upd H5 b (.tup [.ref si, .ref so, .str (bS first), .ref l])) := sameU nb
      have s7 := s6.trans (sameU (o := .tup [.ref o, .ref b]) np)
      have b6 : (upd H5 b (.tup [.ref si, .ref so, .str (bS first), .ref l])) b = some (.tup [.ref si, .ref so, .str (bS first), .ref l]) := upd_same
      refine q _ p o b order (renum order g) (k5.same s7) upd_same no0 (s7 _ _ o5) ⟨si, so, l, (sameU np) _ _ b6, (hi.kp k5).same s7, (ho.kp k5).same s7, ?_⟩ R
      exact NodesAt.same s7 ⟨qs', l5, at5⟩
end
end K31
set_option Elab.async false
set_option linter.all false
set_option maxRecDepth 100000
set_option maxHeartbeats 4000000
namespace K31
open PySem PySem.Spec PyProof.Rows L2
section
variable {P : Program} {w : World} {K : PySem.W.Frag} {mg : Str → Option Value} {base : Heap}
/-! ### _law_rewired -/
abbrev s_law_rewired : Stmt := topS 24
theorem sc_law_rewired : FnScope ["store", "sheet", "inputs", "outputs", "names", "places", "name", "at"] ["store", "sheet"] (C8.fnScope s_law_rewired) := C8.fnScope_by (by decide +kernel)
def sp_law_rewired : Sp := fun vs H Q _ => ∃ (st t : Addr) (ins outs : List Str) (first : List Bool) (g : List (List (Str × Nat))), vs = [.ref st, .ref t] ∧ StoreAt H st ∧ SheetAt H t ins outs first g ∧ SheetOk ins outs first g ∧
  ∀ H' p a b places ins' outs', Kp st H H' → H' p = some (.tup [.ref a, .ref b]) → H a = none → H' a = some (.lst (places.map fun k => .int ((k : Nat) : Int))) → SheetAt H' b ins' outs' (pick places first) g → ins'.Perm ins → outs'.Perm outs → Rew places (ins ++ outs) (ins' ++ outs') → Q (.ref p) H'
theorem cal_law_rewired {f : Addr} {fd : FuncData} (F : C8.Def K mg "_law_rewired" s_law_rewired f fd) (b : Binds K fd ["store", "sheet"] []) (T : Bi mg) (cS : C8.Cal P w K mg base 2 "_law_shuffled" sp_law_shuffled []) : C8.Cal P w K mg base 3 "_law_rewired" sp_law_rewired [] := by
  refine C8.cal0 F b .nil sc_law_rewired (fun vs H Q E h => ?_) (fun cdv A outer s H vs Q E hr h => ?_)
  · obtain ⟨st, t, ins, outs, first, g, rfl, _⟩ := h
    rfl
  · obtain ⟨st, t, ins, outs, first, g, rfl, hst, hsh, S, q⟩ := h
    have nd := sc_law_rewired.nd
    refine ⟨_, pss_cons (ps_set (i := 2) nd rfl (Or.inl rfl) (C8.pe_c cS hr (by decide) (by rfl) (pa_cons (pv 0) (pa_cons (pe_ix ix_tup (pv 1) pe_int (fun _ _ => rfl)) pa_nil))))
      (pss_cons (ps_set (i := 3) nd rfl (Or.inl rfl) (C8.pe_c cS hr (by decide) (by rfl) (pa_cons (pv 0) (pa_cons (pe_ix ix_tup (pv 1) pe_int (fun _ _ => rfl)) pa_nil))))
      (pss_cons (ps_set (i := 4) nd rfl (Or.inr rfl) (pe_op op_cat (pe_ix ix_tup (pv 1) pe_int (fun _ _ => rfl)) (pe_ix ix_tup (pv 1) pe_int (fun _ _ => rfl))))
      (pss_cons (ps_setLc (i := 5) (own := [("name", 6)]) rfl nd rfl rfl (sw_true rfl rfl rfl (by decide +kernel)) (pi_list (pe_op op_cat (pv 2) (pv 3)))
          (blkOk_by (N := ["store", "sheet", "inputs", "outputs", "names", "places", "name", "at"]) (sc := C8.fnScope s_law_rewired) (by decide +kernel))
          (fun _ _ _ _ _ => pg_name (i := 6) nd rfl (Or.inl rfl)) (fun _ _ _ _ _ => pts_nil)
          (fun _ _ _ _ _ => pe_bm_in (K := K) rfl PySem.F.plainAttrs_list PySem.F.slot_list_index PySem.F.type_list_index (index_in (K := K) rfl) (pv 4) (pa_cons (pv 6) pa_nil)))
      (pss_one (ps_ret (pe_tup (pa_cons (pv 5) (pa_cons (pe_tup (pa_cons (pv 2) (pa_cons (pv 3) (pa_cons
          (pe_join pe_str (pe_lc (own := [("at", 7)]) rfl nd (pi_list (pv 5)) (blkOk_by (N := ["store", "sheet", "inputs", "outputs", "names", "places", "name", "at"]) (sc := C8.fnScope s_law_rewired) (by decide +kernel))
            (fun _ _ _ _ _ => pg_name (i := 7) nd rfl (Or.inl rfl)) (fun _ _ _ _ _ => pts_nil) (fun _ _ _ _ _ => pe_ix ix_str (pe_ix (ixT_in (K := K) rfl) (pv 1) pe_int (fun _ _ => rfl)) (pv 7) (fun _ _ => rfl))))
          (pa_cons (pe_ix ix_tup (pv 1) pe_int (fun _ _ => rfl)) pa_nil))))) pa_nil)))))))), ?_⟩
    obtain ⟨si, so, sn, ht, hi, ho, hn⟩ := id hsh
    have l1 := S.few
    have l2 := S.few2
    have hl := S.many
    -- inputs, outputs
    refine ⟨_, rfl, _, rfl, t, _, 0, _, rfl, rfl, SqT.of ht, atI_nat (j := 0) rfl, st, si, _, rfl, hst, hi, by rw [List.length_map]; omega, fun v hv => ?_, fun H1 p1 ys1 k1 n1 e1 pm1 => ?_⟩
    · obtain ⟨x, hx, rfl⟩ := List.mem_map.mp hv
      exact .str (S.names x (List.mem_append_left _ hx)).ok
    obtain ⟨ins', rfl, q1⟩ := perm_of (f := V.str) unStr (fun x => rfl) pm1
    refine ⟨_, rfl, _, rfl, t, _, 1, _, rfl, rfl, SqT.of (k1.tup ht), atI_nat (j := 1) rfl, st, so, _, rfl, k1.now, ho.kp k1, by rw [List.length_map]; omega, fun v hv => ?_, fun H2 p2 ys2 k2 n2 e2 pm2 => ?_⟩
    · obtain ⟨x, hx, rfl⟩ := List.mem_map.mp hv
      exact .str (S.names x (List.mem_append_right _ hx)).ok
    obtain ⟨outs', rfl, q2⟩ := perm_of (f := V.str) unStr (fun x => rfl) pm2
    have e1 := k2.strs e1
    have k2 := k1.trans k2
    have W := places_rew S.nd (q1.append q2)
    -- names = sheet[0] + sheet[1]
    refine ⟨_, rfl, t, _, 0, _, rfl, rfl, SqT.of (k2.tup ht), atI_nat (j := 0) rfl, _, rfl, t, _, 1, _, rfl, rfl, SqT.of (k2.tup ht), atI_nat (j := 1) rfl, si, so, _, _, rfl, rfl, hi.kp k2, ho.kp k2, (by rw [List.length_map, List.length_map]; exact Nat.le_of_lt (small1000 (by omega))), fun a na => ?_⟩
    have na0 := k2.free na
    have ha : NamesAt (upd H2 a (.lst (ins.map V.str ++ outs.map V.str))) a (ins ++ outs) := by
      show upd H2 a _ a = _
      rw [upd_same, List.map_append]
    have s3 : Same H2 (upd H2 a (.lst (ins.map V.str ++ outs.map V.str))) := sameU na
    generalize upd H2 a (.lst (ins.map V.str ++ outs.map V.str)) = H3 at s3 ha
    have k3 := k2.same s3
    -- places = [names.index(name) for name in inputs + outputs]
    refine ⟨_, rfl, _, rfl, p1, p2, _, _, rfl, rfl, s3 _ _ e1, s3 _ _ e2, (by rw [List.length_map, List.length_map, q1.length_eq, q2.length_eq]; exact Nat.le_of_lt (small1000 (by omega))), fun c nc => ?_⟩
    have hc : (upd H3 c (.lst (ins'.map V.str ++ outs'.map V.str))) c = some (.lst ((ins' ++ outs').map V.str)) := by rw [upd_same, List.map_append]
    have s4 : Same H3 (upd H3 c (.lst (ins'.map V.str ++ outs'.map V.str))) := sameU nc
    generalize upd H3 c (.lst (ins'.map V.str ++ outs'.map V.str)) = H4 at s4 hc
    have k4 := k3.same s4
    have ha4 := ha.same s4
    refine ⟨c, rfl, ⟨_, SqL.of hc⟩, fun D nD => lc_it (walk_list (xs := (ins' ++ outs').map V.str)) (fun j H' => Same H4 H' ∧ H' D = some (.lst (((placesOf (ins ++ outs) (ins' ++ outs')).take j).map fun k => V.int ((k : Nat) : Int)))) ⟨sameU nD, upd_same⟩ (fun i H1 _ p => SqL.of (p.1 _ _ hc)) ?_ ?_⟩
    · rintro j v H8 H7 hj ⟨s7, d7⟩ ⟨rfl, hv⟩
      rw [List.getElem?_map] at hv
      cases hx : (ins' ++ outs')[j]? with
      | none =>
        rw [hx] at hv
        cases hv
      | some x =>
      rw [hx] at hv
      have ev : V.str x = v := Option.some.inj hv
      subst ev
      have hm : x ∈ ins ++ outs := (q1.append q2).mem_iff.mp (List.mem_of_getElem? hx)
      obtain ⟨f1, f2, f3⟩ := first_str S.nd (at_idx hm)
      refine ⟨rfl, _, rfl, .inl ⟨rfl, _, SqL.of (s7 _ _ ha4)⟩, _, rfl, a, _, _, (ins ++ outs).idxOf x, _, rfl, rfl, SqL.of (s7 _ _ ha4), rfl, flatStrs _, f1, f2, f3, _, d7, small1000 ?_, s7.put nD, ?_⟩
      · rw [List.length_map, List.length_take, W.len]
        omega
      · have e : (placesOf (ins ++ outs) (ins' ++ outs'))[j]? = some ((ins ++ outs).idxOf x) := by
          unfold placesOf
          rw [List.getElem?_map, hx]
          rfl
        rw [upd_same, List.take_add_one, e, List.map_append]
        rfl
    · rintro H5 ⟨s5, d5⟩
      have hpl : ((ins' ++ outs').map V.str).length = (placesOf (ins ++ outs) (ins' ++ outs')).length := by
        unfold placesOf
        rw [List.length_map, List.length_map]
      rw [hpl, List.take_of_length_le (Nat.le_refl _)] at d5
      generalize placesOf (ins ++ outs) (ins' ++ outs') = places at W d5
      have k5 := k4.same s5
      have nD0 := k4.free nD
      have p15 : H5 p1 = some (.lst (ins'.map V.str)) := s5 _ _ (s4 _ _ (s3 _ _ e1))
      have p25 : H5 p2 = some (.lst (outs'.map V.str)) := s5 _ _ (s4 _ _ (s3 _ _ e2))
      have wl := W.len
      -- the tuple
      refine ⟨_, rfl, _, rfl, _, rfl, ⟨_, rfl⟩, _, rfl, D, rfl, ⟨_, SqL.of d5⟩, fun D2 nD2 => lc_it (walk_list (xs := places.map fun p => V.int (p : Nat))) (fun j H' => Same H5 H' ∧ H' D2 = some (.lst (((pick (places.take j) first).map fun b => SX.S [code b]).map V.str))) ⟨sameU nD2, upd_same⟩ (fun i H1 _ p => SqL.of (p.1 _ _ d5)) ?_ ?_⟩
      · rintro j v H8 H7 hj ⟨s7, d7⟩ ⟨rfl, hv⟩
        rw [List.getElem?_map] at hv
        cases hp : places[j]? with
        | none =>
          rw [hp] at hv
          cases hv
        | some p =>
        rw [hp] at hv
        have ev : V.int (p : Nat) = v := Option.some.inj hv
        subst ev
        have hps : p < first.length := by
          rw [S.len]
          exact W.lt p (List.mem_of_getElem? hp)
        have hb : first[p]? = some first[p] := List.getElem?_eq_getElem hps
        have t7 := s7 _ _ (k5.tup ht)
        refine ⟨rfl, _, rfl, t, _, 2, _, rfl, rfl, SqT.of t7, atI_nat (j := 2) rfl, _, rfl, _, _, _, rfl, rfl, by rw [bS_len]; exact Nat.le_of_lt (small1000 (by rw [S.len]; exact hl)), sign_at hb, _, d7, small1000 ?_, s7.put nD2, ?_⟩
        · rw [List.length_map, List.length_map, pick_len, List.length_take]
          omega
        · rw [upd_same, pick_snoc hp hb, List.map_append, List.map_append]
          rfl
      · rintro H6 ⟨s6, d6⟩
        rw [List.length_map, List.take_of_length_le (Nat.le_refl _)] at d6
        have t6 := s6 _ _ (k5.tup ht)
        refine ⟨_, D2, _, rfl, rfl, .inl (SqL.of d6), ?_, ?_⟩
        · rw [ones_len, pick_len]
          omega
        · rw [join_bits]
          refine ⟨_, rfl, t, _, 3, _, rfl, rfl, SqT.of t6, atI_nat (j := 3) rfl, four_ok, fun b nb => ⟨two_ok, fun p np => ?_⟩⟩
          have s7 : Same H6 (upd H6 b (.tup [.ref p1, .ref p2, .str (bS (pick places first)), .ref sn])) := sameU nb
          have s8 := s7.trans (sameU (o := .tup [.ref D, .ref b]) np)
          have s9 := s6.trans s8
          have b6 : (upd H6 b (.tup [.ref p1, .ref p2, .str (bS (pick places first)), .ref sn])) b = some (.tup [.ref p1, .ref p2, .str (bS (pick places first)), .ref sn]) := upd_same
          exact q _ p D b places ins' outs' (k5.same s9) upd_same nD0 (s9 _ _ d5) ⟨p1, p2, sn, (sameU np) _ _ b6, s9 _ _ p15, s9 _ _ p25, (hn.kp k5).same s9⟩ q1 q2 W
end
end K31
set_option Elab.async false
set_option linter.all false
set_option maxRecDepth 100000
set_option maxHeartbeats 4000000
namespace K31
open PySem PySem.Spec PyProof.Rows L2
/-! ### a sheet while it is drawn -/
structure Draft (ns : List Str) (H0 H : Hp) (st a r l : Addr) (rs : List (List Bool)) (qs : List Addr) (g : List (List (Str × Nat))) (m : Nat) : Prop where
  kp : Kp st H0 H
  names : NamesAt H a ns
  rows : H r = some (.lst (rs.map fun s => V.str (bS s)))
  rlen : ∀ s ∈ rs, s.length = ns.length
  nodes : H l = some (.lst (qs.map V.ref))
  at_ : At2 (NodeAt H) qs g
  ndq : qs.Nodup
  off : ∀ q ∈ qs, q ≠ l ∧ q ≠ r ∧ q ≠ a ∧ H0 q = none
  pos : 0 < g.length
  nd : ∀ node ∈ g, (node.map (·.1)).Nodup
  wire : ∀ node ∈ g, ∀ p ∈ node, p.1 ∈ ns
  to : ∀ node ∈ g, ∀ p ∈ node, p.2 < m
  oa : H0 a = none
  or : H0 r = none
  ol : H0 l = none
  lr : l ≠ r
  la : l ≠ a
  ra : r ≠ a
section
variable {ns : List Str} {H0 H H' : Hp} {st a r l : Addr} {rs : List (List Bool)} {qs : List Addr} {g : List (List (Str × Nat))} {m : Nat}
theorem Draft.then_kp (D : Draft ns H0 H st a r l rs qs g m) (k : Kp st H H') : Draft ns H0 H' st a r l rs qs g m where
  kp := D.kp.trans k
  names := D.names.kp k
  rows := k.keep _ _ (D.kp.ne D.or) D.rows
  rlen := D.rlen
  nodes := k.refs D.nodes
  at_ := D.at_.mono fun x y _ _ r => r.kp k
  ndq := D.ndq
  off := D.off
  pos := D.pos
  nd := D.nd
  wire := D.wire
  to := D.to
  oa := D.oa
  or := D.or
  ol := D.ol
  lr := D.lr
  la := D.la
  ra := D.ra
theorem Draft.same (D : Draft ns H0 H st a r l rs qs g m) (s : Same H H') : Draft ns H0 H' st a r l rs qs g m := D.then_kp (Kp.of D.kp.now s)
theorem Draft.more {m' : Nat} (D : Draft ns H0 H st a r l rs qs g m) (h : m ≤ m') : Draft ns H0 H st a r l rs qs g m' := { D with to := fun n hn p hp => Nat.lt_of_lt_of_le (D.to n hn p hp) h }
theorem Draft.qlen (D : Draft ns H0 H st a r l rs qs g m) : (qs.map V.ref).length = g.length := by rw [List.length_map, D.at_.1]
theorem Draft.short (D : Draft ns H0 H st a r l rs qs g m) : ∀ node ∈ g, node.length ≤ ns.length := fun node hn => by
  have h := nd_sub (D.nd node hn) fun x hx => by
    obtain ⟨p, hp, e⟩ := List.mem_map.mp hx
    rw [← e]
    exact D.wire node hn p hp
  rw [List.length_map] at h
  exact h
theorem Draft.fresh (D : Draft ns H0 H st a r l rs qs g m) {p : Addr} (n : H p = none) : p ≠ l ∧ p ≠ r ∧ p ≠ a ∧ H0 p = none ∧ p ∉ qs := by
  refine ⟨(ne_of_none D.nodes n).symm, (ne_of_none D.rows n).symm, (ne_of_none D.names n).symm, D.kp.free n, fun z => ?_⟩
  obtain ⟨k, hk, e⟩ := List.getElem_of_mem z
  obtain ⟨_, _, ps, hz, _⟩ := D.at_.right (show qs[k]? = .some p by rw [List.getElem?_eq_getElem hk, e])
  exact ne_of_none hz n rfl
/-- a row appended -/
theorem Draft.row (D : Draft ns H0 H st a r l rs qs g m) {s : List Bool} (hs : s.length = ns.length) : Draft ns H0 (upd H r (.lst ((rs.map fun s => V.str (bS s)) ++ [.str (bS s)]))) st a r l (rs ++ [s]) qs g m where
  kp := D.kp.put D.or
  names := by
    show upd H r _ a = _
    rw [upd_ne D.ra.symm]
    exact D.names
  rows := by
    rw [upd_same, List.map_append]
    rfl
  rlen := fun t ht => by
    rcases List.mem_append.mp ht with h | h
    · exact D.rlen t h
    · rw [List.mem_singleton.mp h]
      exact hs
  nodes := by
    rw [upd_ne D.lr]
    exact D.nodes
  at_ := D.at_.mono fun q u hq _ n => n.upd D.rows (D.off q hq).2.1
  ndq := D.ndq
  off := D.off
  pos := D.pos
  nd := D.nd
  wire := D.wire
  to := D.to
  oa := D.oa
  or := D.or
  ol := D.ol
  lr := D.lr
  la := D.la
  ra := D.ra
/-- a node appended, that stands at d -/
theorem Draft.node (D : Draft ns H0 H st a r l rs qs g m) {d : Addr} {ts : List (Str × Nat)} (hd : NodeAt H d ts) (nl : d ≠ l) (nr : d ≠ r) (na : d ≠ a) (n0 : H0 d = none) (new : d ∉ qs) (nd : (ts.map (·.1)).Nodup) (wire : ∀ p ∈ ts, p.1 ∈ ns) (to : ∀ p ∈ ts, p.2 < m) :
    Draft ns H0 (upd H l (.lst (qs.map V.ref ++ [.ref d]))) st a r l rs (qs ++ [d]) (g ++ [ts]) m where
  kp := D.kp.put D.ol
  names := by
    show upd H l _ a = _
    rw [upd_ne D.la.symm]
    exact D.names
  rows := by
    rw [upd_ne D.lr.symm]
    exact D.rows
  rlen := D.rlen
  nodes := by
    rw [upd_same, List.map_append]
    rfl
  at_ := At2.snoc (D.at_.mono fun q u hq _ n => n.upd D.nodes (D.off q hq).1) (hd.upd D.nodes nl)
  ndq := List.nodup_append.mpr ⟨D.ndq, by simp, fun x hx y hy e => new (by rw [List.mem_singleton.mp hy] at e; exact e ▸ hx)⟩
  off := fun q hq => by
    rcases List.mem_append.mp hq with h | h
    · exact D.off q h
    · rw [List.mem_singleton.mp h]
      exact ⟨nl, nr, na, n0⟩
  pos := by
    rw [List.length_append]
    exact Nat.lt_of_lt_of_le D.pos (Nat.le_add_right _ _)
  nd := fun n hn => by
    rcases List.mem_append.mp hn with h | h
    · exact D.nd n h
    · rw [List.mem_singleton.mp h]
      exact nd
  wire := fun n hn => by
    rcases List.mem_append.mp hn with h | h
    · exact D.wire n h
    · rw [List.mem_singleton.mp h]
      exact wire
  to := fun n hn => by
    rcases List.mem_append.mp hn with h | h
    · exact D.to n h
    · rw [List.mem_singleton.mp h]
      exact to
  oa := D.oa
  or := D.or
  ol := D.ol
  lr := D.lr
  la := D.la
  ra := D.ra
theorem mem_set_cases {α : Type} {l : List α} {i : Nat} {x y : α} (h : y ∈ l.set i x) : y ∈ l ∨ y = x := by
  rcases List.mem_or_eq_of_mem_set h with h | h
  · exact .inl h
  · exact .inr h
/-- a node's list put in the place of what stood at its address: the other nodes stay -/
theorem At2.put {h : Nat} {q : Addr} {node ts : List (Str × Nat)} {o : HO} {xs : List V} (A : At2 (NodeAt H) qs g) (ndq : qs.Nodup) (hq : qs[h]? = some q) (hx : H q = some (.lst xs)) (new : NodeAt (upd H q o) q ts) : At2 (NodeAt (upd H q o)) qs (g.set h ts) := by
  refine ⟨by rw [List.length_set]; exact A.1, fun i p t hp ht => ?_⟩
  rw [List.getElem?_set] at ht
  by_cases hi : h = i
  · subst hi
    rw [hq] at hp
    have hp := Option.some.inj hp
    subst hp
    by_cases hl : h < g.length
    · rw [if_pos rfl, if_pos hl] at ht
      rw [← Option.some.inj ht]
      exact new
    · rw [if_pos rfl, if_neg hl] at ht
      cases ht
  · rw [if_neg hi] at ht
    refine (A.2 i p t hp ht).upd hx fun z => ?_
    rw [z] at hp
    exact hi (nd_at ndq hq hp)
/-- a turn appended to the node h -/
theorem Draft.turn (D : Draft ns H0 H st a r l rs qs g m) {h : Nat} {q T : Addr} {ps : List Addr} {node : List (Str × Nat)} {x : Str} {to : Nat} (hq : qs[h]? = some q) (hg : g[h]? = some node) (hp : H q = some (.lst (ps.map V.ref))) (hps : At2 (TurnAt H) ps node) (hT : TurnAt H T (x, to)) (hx : x ∈ ns) (hn : x ∉ node.map (·.1)) (ht : to < m) :
    Draft ns H0 (upd H q (.lst (ps.map V.ref ++ [.ref T]))) st a r l rs qs (g.set h (node ++ [(x, to)])) m := by
  obtain ⟨ql, qr, qa, q0⟩ := D.off q (List.mem_of_getElem? hq)
  have tup : ∀ {p : Addr} {u : Str × Nat}, TurnAt H p u → TurnAt (upd H q (.lst (ps.map V.ref ++ [.ref T]))) p u := fun {p u} e => by
    have e : H p = some (.tup [.str u.1, .int (u.2 : Nat)]) := e
    show L2.upd H q _ p = _
    rw [upd_ne (ne_of e hp (by intro z; cases z))]
    exact e
  have mem := List.mem_of_getElem? hg
  exact {
    kp := D.kp.put q0
    names := by
      show upd H q _ a = _
      rw [upd_ne qa.symm]
      exact D.names
    rows := by
      rw [upd_ne qr.symm]
      exact D.rows
    rlen := D.rlen
    nodes := by
      rw [upd_ne ql.symm]
      exact D.nodes
    at_ := D.at_.put (node := node) D.ndq hq hp ⟨ps ++ [T], by rw [upd_same, List.map_append]; rfl, At2.snoc (hps.mono fun p u _ _ e => tup e) (tup hT)⟩
    ndq := D.ndq
    off := D.off
    pos := by rw [List.length_set]; exact D.pos
    nd := fun n hn' => by
      rcases mem_set_cases hn' with h1 | h1
      · exact D.nd n h1
      · rw [h1, List.map_append]
        refine List.nodup_append.mpr ⟨D.nd node mem, by simp, fun u hu v hv e => hn ?_⟩
        have hv : v = x := by simpa using hv
        rw [← hv, ← e]
        exact hu
    wire := fun n hn' p hp' => by
      rcases mem_set_cases hn' with h1 | h1
      · exact D.wire n h1 p hp'
      · rw [h1] at hp'
        rcases List.mem_append.mp hp' with h2 | h2
        · exact D.wire node mem p h2
        · rw [List.mem_singleton.mp h2]
          exact hx
    to := fun n hn' p hp' => by
      rcases mem_set_cases hn' with h1 | h1
      · exact D.to n h1 p hp'
      · rw [h1] at hp'
        rcases List.mem_append.mp hp' with h2 | h2
        · exact D.to node mem p h2
        · rw [List.mem_singleton.mp h2]
          exact ht
    oa := D.oa
    or := D.or
    ol := D.ol
    lr := D.lr
    la := D.la
    ra := D.ra }
end
/-- what the loop of a comprehension is asked -/
def LcW (J : It) (g : TG) (tt : TT) (te : TE) (vs : List Nat) (σ : L2.St) (G : Hp) (D : Addr) (over : Hp → Prop) : Prop :=
  ∃ Z : Nat → Nat → Hp → Prop, (∃ n, Z 0 n (upd G D (.lst []))) ∧ ∀ j n G1, Z j n G1 → (J.stop j G1 ∧ over G1) ∨
    (J.go j G1 ∧ ∃ next : Hp → Prop, (∀ G2, next G2 → ∃ n', n' < n ∧ Z (j + 1) n' G2) ∧ ∀ v G2, J.yld j G1 v G2 → g v (wipe σ vs) G2 fun τ G3 => wipe τ vs = wipe σ vs ∧ tt τ G3 fun kept G4 =>
      if kept = true then te τ G4 fun u G5 => ∃ made, G5 D = some (.lst made) ∧ made.length < sizeLine ∧ next (upd G5 D (.lst (made ++ [u]))) else next G4)
/-- [name for name, to in a node] -/
theorem lc_names {K : PySem.W.Frag} {H : Hp} {q D : Addr} {ts : List (Str × Nat)} {Qd : Hp → Prop} {y0 y1 y2 y3 y4 y5 y6 y7 y8 y9 y10 y11 y12 y13 : Option V} (nq : NodeAt H q ts) (hl : ts.length ≤ 1000) (nD : H D = none) (h : ∀ H', Same H H' → H' D = some (.lst ((ts.map (·.1)).map V.str)) → Qd H') :
    LcW (Itl K q) (gTup K 2 (gCons (gName 12) (gCons (gName 13) gNil))) tYes (tVar 12) [12, 13] [y0, y1, y2, y3, y4, y5, y6, y7, y8, y9, y10, y11, y12, y13] H D Qd := by
  obtain ⟨ps, h1, h2⟩ := id nq
  refine lc_it (walk_list (xs := ps.map V.ref)) (fun i H' => Same H H' ∧ H' D = some (.lst (((ts.map (·.1)).take i).map V.str))) ⟨sameU nD, upd_same⟩ (fun i H1 _ p => SqL.of (p.1 _ _ h1)) ?_ ?_
  · rintro j v H5 H4 hj ⟨s4, d4⟩ ⟨rfl, hv⟩
    rw [List.getElem?_map] at hv
    cases hp : ps[j]? with
    | none =>
      rw [hp] at hv
      cases hv
    | some p =>
    rw [hp] at hv
    have ev : V.ref p = v := Option.some.inj hv
    subst ev
    obtain ⟨⟨x, to⟩, htn, tat⟩ := h2.right hp
    have t4 : H4 p = some (.tup [.str x, .int (to : Nat)]) := s4 _ _ tat
    refine ⟨p, _, rfl, SqT.of t4, rfl, _, _, rfl, _, _, rfl, rfl, rfl, _, rfl, _, d4, small1000 ?_, s4.put nD, ?_⟩
    · rw [List.length_map, List.length_take, List.length_map]
      omega
    · rw [upd_same, List.take_add_one, List.getElem?_map, htn, List.map_append]
      rfl
  · rintro H4 ⟨s4, d4⟩
    have e : (ps.map V.ref).length = (ts.map (·.1)).length := by rw [List.length_map, List.length_map, h2.1]
    rw [e, List.take_of_length_le (Nat.le_refl _)] at d4
    exact h H4 s4 d4
theorem cutV_to (xs : List V) (i : Nat) : cutV xs none (some (i : Int)) = xs.take i := by
  unfold cutV
  rw [HT.sIx_none, HT.sIx_nat, List.drop_zero, Nat.sub_zero]
  by_cases h : i ≤ xs.length
  · rw [Nat.min_eq_left h]
  · rw [Nat.min_eq_right (by omega), List.take_of_length_le (Nat.le_refl _), List.take_of_length_le (by omega)]
theorem cutV_from (xs : List V) (i : Nat) : cutV xs (some (i : Int)) none = xs.drop i := by
  unfold cutV
  rw [HT.sIx_none, HT.sIx_nat]
  by_cases h : i ≤ xs.length
  · rw [Nat.min_eq_left h, List.take_of_length_le (by rw [List.length_drop]; exact Nat.le_refl _)]
  · rw [Nat.min_eq_right (by omega), List.drop_eq_nil_of_le (Nat.le_refl _), List.drop_eq_nil_of_le (show xs.length ≤ i by omega)]
    exact List.take_nil
end K31
set_option Elab.async false
set_option linter.all false
set_option maxRecDepth 100000
set_option maxHeartbeats 8000000
namespace K31
open PySem PySem.Spec PyProof.Rows L2
def pass0S : Stmt := .Pass ⟨0, 0, 0, 0⟩
def valOf : Stmt → Expr
  | .Assign _ v _ => v
  | _ => .Constant .none 0 ⟨0, 0, 0, 0⟩
def forBody : Stmt → List Stmt
  | .For _ _ b _ _ => b
  | _ => []
def lcScope : Expr → Scope
  | .ListComp _ _ sc _ => sc
  | _ => { kind := .module, names := [], isGenerator := false, isCoroutine := false }
theorem one_ok {a : V} : [a].length ≤ sizeLine := Nat.le_of_lt (small1000 (by show 1 ≤ 1000; decide))
theorem three_seven {j : Nat} (h : j < 4) : ∃ m : Nat, [V.int 3, V.int 3, V.int 3, V.int 7][j]? = some (.int (m : Nat)) ∧ 0 < m ∧ m ≤ 7 := by
  match j, h with
  | 0, _ => exact ⟨3, rfl, by decide, by decide⟩
  | 1, _ => exact ⟨3, rfl, by decide, by decide⟩
  | 2, _ => exact ⟨3, rfl, by decide, by decide⟩
  | 3, _ => exact ⟨7, rfl, by decide, by decide⟩
theorem zero_two {j : Nat} (h : j < 4) : ∃ m : Nat, [V.int 0, V.int 0, V.int 1, V.int 2][j]? = some (.int (m : Nat)) ∧ m ≤ 2 := by
  match j, h with
  | 0, _ => exact ⟨0, rfl, by decide⟩
  | 1, _ => exact ⟨0, rfl, by decide⟩
  | 2, _ => exact ⟨1, rfl, by decide⟩
  | 3, _ => exact ⟨2, rfl, by decide⟩
theorem zero_one {t : Nat} (h : t < 2) : atI (Str.ofString "01").cps.toList ((t : Nat) : Int) = some (code (decide (t = 1))) := by
  match t, h with
  | 0, _ => decide +kernel
  | 1, _ => decide +kernel
section
variable {P : Program} {w : World} {K : PySem.W.Frag} {mg : Str → Option Value} {base : Heap}
/-! ### _law_sheet -/
abbrev s_law_sheet : Stmt := topS 19
/-- the scope of the comprehension whose test holds another -/
def scLeft : Scope := lcScope (valOf ((forBody ((C8.fnBody s_law_sheet).getD 5 pass0S)).getD 1 pass0S))
abbrev NS : List Str := ["store", "most", "ins", "outs", "names", "rows", "nodes", "k", "here", "left", "at", "fits", "name", "to"]
theorem sc_law_sheet : FnScope NS ["store", "most"] (C8.fnScope s_law_sheet) := C8.fnScope_by (by decide +kernel)
theorem inner_ok : BlkOk NS (relS scLeft (C8.fnScope s_law_sheet)) (lcScope (match (forBody ((C8.fnBody s_law_sheet).getD 5 pass0S)).getD 1 pass0S with
  | .Assign _ (.ListComp _ [⟨_, _, [.Compare _ _ [e] _], _⟩] _ _) _ => e
  | _ => .Constant .none 0 ⟨0, 0, 0, 0⟩)) [("name", 12), ("to", 13)] := blkOk_by (by decide +kernel)
def sp_law_sheet : Sp := fun vs H Q _ => ∃ st : Addr, vs = [.ref st, .int 12] ∧ StoreAt H st ∧
  ∀ H' t i o l ins outs first qs g, Kp st H H' → H' t = some (.tup [.ref i, .ref o, .str (bS first), .ref l]) → NamesAt H' i ins → NamesAt H' o outs → H' l = some (.lst (qs.map V.ref)) → At2 (NodeAt H') qs g → qs.Nodup →
    (∀ q ∈ qs, q ≠ i ∧ q ≠ o ∧ q ≠ l ∧ H q = none) → SheetOk ins outs first g → Q (.ref t) H'
theorem cal_law_sheet {f : Addr} {fd : FuncData} (F : C8.Def K mg "_law_sheet" s_law_sheet f fd) (b : Binds K fd ["store", "most"] []) (T : Bi mg) (cT : C8.Cal P w K mg base 1 "_law_take" sp_law_take []) (cN : C8.Cal P w K mg base 2 "_law_some_names" sp_law_some_names [])
    (cF : C8.Cal P w K mg base 1 "_law_flip" sp_law_flip []) : C8.Cal P w K mg base 3 "_law_sheet" sp_law_sheet [] := by
  refine C8.cal0 F b .nil sc_law_sheet (fun vs H Q E h => ?_) (fun cdv A outer s H vs Q E hr h => ?_)
  · obtain ⟨st, rfl, _⟩ := h
    rfl
  · obtain ⟨st, rfl, hst, q⟩ := h
    have nd := sc_law_sheet.nd
    refine ⟨_, pss_cons (ps_set (i := 2) nd rfl (Or.inl rfl) (C8.pe_c cT hr (by decide) (by rfl) (pa_cons (pv 0) (pa_cons pe_int pa_nil))))
      (pss_cons (ps_set (i := 3) nd rfl (Or.inl rfl) (pe_op op_add pe_int (C8.pe_c cT hr (by decide) (by rfl) (pa_cons (pv 0) (pa_cons
          (pe_ix ix_list (pe_lst (pa_cons pe_int (pa_cons pe_int (pa_cons pe_int (pa_cons pe_int pa_nil))))) (C8.pe_c cT hr (by decide) (by rfl) (pa_cons (pv 0) (pa_cons pe_int pa_nil))) (fun _ _ => rfl)) pa_nil)))))
      (pss_cons (ps_set (i := 4) nd rfl (Or.inr rfl) (C8.pe_c cN hr (by decide) (by rfl) (pa_cons (pv 0) (pa_cons (pe_op op_add (pv 2) (pv 3)) pa_nil))))
      (pss_cons (ps_set (i := 5) nd rfl (Or.inr rfl) (pe_lst (pa_cons (pe_join pe_str (pe_lc (own := [("name", 12)]) rfl nd (pi_list (pv 4)) (blkOk_by (N := NS) (sc := C8.fnScope s_law_sheet) (by decide +kernel))
          (fun _ _ _ _ _ => pg_name (i := 12) nd rfl (Or.inl rfl)) (fun _ _ _ _ _ => pts_nil) (fun _ _ _ _ _ => pe_ix ix_str pe_str (C8.pe_c cT hr (by decide) (by rfl) (pa_cons (pv 0) (pa_cons pe_int pa_nil))) (fun _ _ => rfl)))) pa_nil)))
      (pss_cons (ps_set (i := 6) nd rfl (Or.inr rfl) (pe_lst (pa_cons (pe_lst pa_nil) pa_nil)))
      (pss_cons (ps_for PassesOwn.never rfl (pi_range1 (by rfl) T.range (pa_cons (C8.pe_c cT hr (by decide) (by rfl) (pa_cons (pv 0) (pa_cons (pv 1) pa_nil))) pa_nil)) (pg_name (i := 7) nd rfl (Or.inl rfl))
        (pss_cons (ps_set (i := 8) nd rfl (Or.inr rfl) (C8.pe_c cT hr (by decide) (by rfl) (pa_cons (pv 0) (pa_cons (pe_callB call_len_seq (by rfl) T.len PySem.boot_len (pa_cons (pv 6) pa_nil)) pa_nil))))
        (pss_cons (ps_setLc (i := 9) (own := [("at", 10)]) rfl nd rfl rfl (sw_true rfl rfl rfl (by decide +kernel)) (pi_range1 (by rfl) T.range (pa_cons (pe_callB call_len_seq (by rfl) T.len PySem.boot_len (pa_cons (pv 4) pa_nil)) pa_nil))
            (blkOk_by (N := NS) (sc := C8.fnScope s_law_sheet) (by decide +kernel)) (fun _ _ _ _ _ => pg_name (i := 10) nd rfl (Or.inl rfl))
            (fun _ _ _ _ _ => pts_one (pt_cmpR (notIn_in (K := K) rfl) (pe_ix (ixL_in (K := K) rfl) (pv 4) (pv 10) (fun _ _ => rfl))
              (pe_lc (own := [("name", 12), ("to", 13)]) rfl nd (pi_list_in (K := K) rfl (pe_ix (ixL_in (K := K) rfl) (pv 6) (pv 8) (fun _ _ => rfl))) inner_ok
                (fun _ _ _ _ _ => pg_tup_in (K := K) (n := 2) rfl rfl (pgs_cons (pg_name (i := 12) nd rfl (Or.inl rfl)) (pgs_cons (pg_name (i := 13) nd rfl (Or.inl rfl)) pgs_nil))) (fun _ _ _ _ _ => pts_nil) (fun _ _ _ _ _ => pv 12)) (by rfl)))
            (fun _ _ _ _ _ => pv 10))
        (pss_one (ps_if (pt_cmpR (op_neD hr.units) (pv 9) (pe_lst pa_nil) (nomark _))
          (pss_cons (ps_set (i := 10) nd rfl (Or.inr rfl) (pe_ix ix_list (pv 9) (C8.pe_c cT hr (by decide) (by rfl) (pa_cons (pv 0) (pa_cons (pe_callB call_len_seq (by rfl) T.len PySem.boot_len (pa_cons (pv 9) pa_nil)) pa_nil))) (fun _ _ => rfl)))
          (pss_cons (ps_expr (pe_bm PySem.F.plainAttrs_list PySem.F.slot_list_append PySem.F.type_list_append mt_append (pe_ix ix_list (pv 6) (pv 8) (fun _ _ => rfl)) (pa_cons (pe_tup (pa_cons (pe_ix ix_list (pv 4) (pv 10) (fun _ _ => rfl)) (pa_cons (pe_callB call_len_seq (by rfl) T.len PySem.boot_len (pa_cons (pv 6) pa_nil)) pa_nil))) pa_nil)))
          (pss_cons (ps_expr (pe_bm PySem.F.plainAttrs_list PySem.F.slot_list_append PySem.F.type_list_append mt_append (pv 5) (pa_cons (C8.pe_c cF hr (by decide) (by rfl) (pa_cons (pe_ix ix_list (pv 5) (pv 8) (fun _ _ => rfl)) (pa_cons (pv 10) pa_nil))) pa_nil)))
          (pss_one (ps_expr (pe_bm PySem.F.plainAttrs_list PySem.F.slot_list_append PySem.F.type_list_append mt_append (pv 6) (pa_cons (pe_lst pa_nil) pa_nil)))))))
          pss_nil)))))
      (pss_cons (ps_for PassesOwn.never rfl (pi_range1 (by rfl) T.range (pa_cons (C8.pe_c cT hr (by decide) (by rfl) (pa_cons (pv 0) (pa_cons (pe_op op_mul pe_int (pv 1)) pa_nil))) pa_nil)) (pg_name (i := 7) nd rfl (Or.inl rfl))
        (pss_cons (ps_set (i := 8) nd rfl (Or.inr rfl) (C8.pe_c cT hr (by decide) (by rfl) (pa_cons (pv 0) (pa_cons (pe_callB call_len_seq (by rfl) T.len PySem.boot_len (pa_cons (pv 6) pa_nil)) pa_nil))))
        (pss_cons (ps_set (i := 10) nd rfl (Or.inr rfl) (C8.pe_c cT hr (by decide) (by rfl) (pa_cons (pv 0) (pa_cons (pe_callB call_len_seq (by rfl) T.len PySem.boot_len (pa_cons (pv 4) pa_nil)) pa_nil))))
        (pss_cons (ps_setLc (i := 11) (own := [("to", 13)]) rfl nd rfl rfl (sw_true rfl rfl rfl (by decide +kernel)) (pi_range1 (by rfl) T.range (pa_cons (pe_callB call_len_seq (by rfl) T.len PySem.boot_len (pa_cons (pv 6) pa_nil)) pa_nil))
            (blkOk_by (N := NS) (sc := C8.fnScope s_law_sheet) (by decide +kernel)) (fun _ _ _ _ _ => pg_name (i := 13) nd rfl (Or.inl rfl))
            (fun _ _ _ _ _ => pts_one (pt_cmpR op_eq (pe_ix (ixL_in (K := K) rfl) (pv 5) (pv 13) (fun _ _ => rfl)) (C8.pe_c cF hr (by decide) (by rfl) (pa_cons (pe_ix (ixL_in (K := K) rfl) (pv 5) (pv 8) (fun _ _ => rfl)) (pa_cons (pv 10) pa_nil))) (nomark _)))
            (fun _ _ _ _ _ => pv 13))
        (pss_one (ps_if (PW.pt (pw_and (pt_cmpR (op_neD hr.units) (pv 11) (pe_lst pa_nil) (nomark _)) (pw_and1 (pt_cmpR op_notIn_seq (pe_ix ix_list (pv 4) (pv 10) (fun _ _ => rfl))
              (pe_lc (own := [("name", 12), ("to", 13)]) rfl nd (pi_list (pe_ix ix_list (pv 6) (pv 8) (fun _ _ => rfl))) (blkOk_by (N := NS) (sc := C8.fnScope s_law_sheet) (by decide +kernel))
                (fun _ _ _ _ _ => pg_tup_in (K := K) (n := 2) rfl rfl (pgs_cons (pg_name (i := 12) nd rfl (Or.inl rfl)) (pgs_cons (pg_name (i := 13) nd rfl (Or.inl rfl)) pgs_nil))) (fun _ _ _ _ _ => pts_nil) (fun _ _ _ _ _ => pv 12)) (by rfl)))))
          (pss_one (ps_expr (pe_bm PySem.F.plainAttrs_list PySem.F.slot_list_append PySem.F.type_list_append mt_append (pe_ix ix_list (pv 6) (pv 8) (fun _ _ => rfl)) (pa_cons (pe_tup (pa_cons (pe_ix ix_list (pv 4) (pv 10) (fun _ _ => rfl)) (pa_cons
              (pe_ix ix_list (pv 11) (C8.pe_c cT hr (by decide) (by rfl) (pa_cons (pv 0) (pa_cons (pe_callB call_len_seq (by rfl) T.len PySem.boot_len (pa_cons (pv 11) pa_nil)) pa_nil))) (fun _ _ => rfl)) pa_nil))) pa_nil))))
          pss_nil))))))
      (pss_cons (ps_for PassesOwn.never rfl (pi_range1 (by rfl) T.range (pa_cons (pe_op op_mul (pe_ix ix_list (pe_lst (pa_cons pe_int (pa_cons pe_int (pa_cons pe_int (pa_cons pe_int pa_nil))))) (C8.pe_c cT hr (by decide) (by rfl) (pa_cons (pv 0) (pa_cons pe_int pa_nil))) (fun _ _ => rfl))
            (pe_callTy call_int1 (by rfl) T.int (by decide +kernel) (pa_cons (pe_cmpR op_lt (pe_callB call_len_seq (by rfl) T.len PySem.boot_len (pa_cons (pv 6) pa_nil)) pe_int (nomark _)) pa_nil))) pa_nil)) (pg_name (i := 7) nd rfl (Or.inl rfl))
        (pss_one (ps_expr (pe_bm PySem.F.plainAttrs_list PySem.F.slot_list_append PySem.F.type_list_append mt_append (pv 6) (pa_cons (pe_lst (pa_cons (pe_tup (pa_cons
            (pe_ix ix_list (pv 4) (C8.pe_c cT hr (by decide) (by rfl) (pa_cons (pv 0) (pa_cons (pe_callB call_len_seq (by rfl) T.len PySem.boot_len (pa_cons (pv 4) pa_nil)) pa_nil))) (fun _ _ => rfl))
            (pa_cons (C8.pe_c cT hr (by decide) (by rfl) (pa_cons (pv 0) (pa_cons (pe_op op_add (pe_callB call_len_seq (by rfl) T.len PySem.boot_len (pa_cons (pv 6) pa_nil)) pe_int) pa_nil))) pa_nil))) pa_nil)) pa_nil)))))
      (pss_one (ps_ret (pe_tup (pa_cons (pe_slice sl_list (pv 4) po_none (po_some (pv 2))) (pa_cons (pe_slice sl_list (pv 4) (po_some (pv 2)) po_none) (pa_cons (pe_ix ix_list (pv 5) pe_int (fun _ _ => rfl)) (pa_cons (pv 6) pa_nil)))))))))))))), ?_⟩
    -- ins, outs
    refine ⟨_, rfl, st, 5, rfl, by decide, by decide, hst, fun H1 ni k1 b1 => ?_⟩
    refine ⟨_, rfl, four_ok, fun c nc => ⟨_, rfl, st, 4, rfl, by decide, by decide, k1.now.same (sameU nc), fun H2 j k2 b2 => ?_⟩⟩
    obtain ⟨m, em, m0, m7⟩ := three_seven b2
    have k1c : Kp st H (upd H1 c (.lst [.int 3, .int 3, .int 3, .int 7])) := k1.same (sameU nc)
    have c2 : H2 c = some (.lst [.int 3, .int 3, .int 3, .int 7]) := k2.keep _ _ (k1.ne (k1.free nc)) upd_same
    have k2' := k1c.trans k2
    refine ⟨c, _, _, _, rfl, rfl, SqL.of c2, atI_nat em, st, m, rfl, m0, by omega, k2.now, fun H3 no k3 b3 => ?_⟩
    have k3' := k2'.trans k3
    refine ⟨_, _, rfl, rfl, ?_⟩
    -- names
    refine ⟨_, rfl, _, rfl, _, rfl, _, _, rfl, rfl, st, ni + (no + 1), ?_, by omega, k3.now, fun H4 a ns k4 na hna hlen hnd hnm => ?_⟩
    · show [V.ref st, V.int ((ni : Int) + (1 + (no : Int)))] ++ [] = _
      rw [show (ni : Int) + (1 + (no : Int)) = ((ni + (no + 1) : Nat) : Int) by omega]
      rfl
    have k4' := k3'.trans k4
    have na0 : H a = none := k3'.free na
    -- rows = ["".join(["01"[..] for name in names])]
    refine ⟨⟨_, rfl⟩, _, rfl, a, rfl, ⟨_, SqL.of hna⟩, fun D nD => lc_it (walk_list (xs := ns.map V.str)) (fun j H' => ∃ bs : List Bool, Kp st H4 H' ∧ H' D = some (.lst ((bs.map fun b => SX.S [code b]).map V.str)) ∧ bs.length = j) ⟨[], (Kp.refl k4.now).put nD, upd_same, rfl⟩ (fun i H1 _ ⟨_, k, _⟩ => SqL.of (k.strs hna)) ?_ ?_⟩
    · rintro j v H8 H7 hj ⟨bs, k7, d7, hbs⟩ ⟨rfl, _⟩
      rw [List.length_map] at hj
      refine ⟨rfl, _, rfl, st, 2, rfl, by decide, by decide, k7.now, fun H9 t k9 tm => ?_⟩
      have d9 := k9.keep _ _ (Kp.ne (Kp.refl k4.now) nD) d7
      refine ⟨_, _, _, rfl, rfl, by decide +kernel, zero_one tm, _, d9, small1000 ?_, bs ++ [decide (t = 1)], (k7.trans k9).put nD, ?_, ?_⟩
      · rw [List.length_map, List.length_map]
        omega
      · rw [upd_same, List.map_append, List.map_append]
        rfl
      · rw [List.length_append, hbs]
        rfl
    rintro H5 ⟨first, k5, d5, hfirst⟩
    rw [List.length_map] at hfirst
    refine ⟨_, D, _, rfl, rfl, .inl (SqL.of d5), by rw [ones_len]; omega, ?_⟩
    rw [join_bits]
    have k5' := k4'.trans k5
    refine ⟨one_ok, fun r nr => ?_⟩
    have r6 : (upd H5 r (.lst [.str (bS first)])) r = some (.lst [.str (bS first)]) := upd_same
    have s6 : Same H5 (upd H5 r (.lst [.str (bS first)])) := sameU nr
    have a5 : H5 a = some (.lst (ns.map V.str)) := k5.strs hna
    have ra : r ≠ a := (ne_of_none a5 nr).symm
    generalize upd H5 r (.lst [.str (bS first)]) = H6 at r6 s6
    have k6 := k5'.same s6
    have nr0 := k5'.free nr
    -- nodes = [[]]
    refine ⟨Nat.zero_le _, fun d nd7 => ⟨one_ok, fun l nl => ?_⟩⟩
    have d7 : (upd H6 d (.lst [])) d = some (.lst ([] : List V)) := upd_same
    have s7 : Same H6 (upd H6 d (.lst [])) := sameU nd7
    have dr : d ≠ r := (ne_of_none r6 nd7).symm
    have da : d ≠ a := (ne_of_none (s6 _ _ a5) nd7).symm
    generalize upd H6 d (.lst []) = H7 at d7 s7 nl
    have lr : l ≠ r := (ne_of_none (s7 _ _ r6) nl).symm
    have la : l ≠ a := (ne_of_none (s7 _ _ (s6 _ _ a5)) nl).symm
    have ld : l ≠ d := (ne_of_none d7 nl).symm
    have k7 := k6.same s7
    have s8 : Same H7 (upd H7 l (.lst [.ref d])) := sameU nl
    have D0 : Draft ns H (upd H7 l (.lst [.ref d])) st a r l [first] [d] [[]] 1 := {
      kp := k7.same s8
      names := s8 _ _ (s7 _ _ (s6 _ _ a5))
      rows := s8 _ _ (s7 _ _ r6)
      rlen := fun s hs => by rw [List.mem_singleton.mp hs]; exact hfirst
      nodes := upd_same
      at_ := At2.snoc At2.nil ⟨[], s8 _ _ d7, At2.nil⟩
      ndq := by simp
      off := fun q hq => by rw [List.mem_singleton.mp hq]; exact ⟨ld.symm, dr, da, k6.free nd7⟩
      pos := Nat.one_pos
      nd := fun n hn => by rw [List.mem_singleton.mp hn]; exact List.nodup_nil
      wire := fun n hn p hp => by rw [List.mem_singleton.mp hn] at hp; cases hp
      to := fun n hn p hp => by rw [List.mem_singleton.mp hn] at hp; cases hp
      oa := na0
      or := nr0
      ol := k7.free nl
      lr := lr
      la := la
      ra := ra }
    generalize upd H7 l (.lst [.ref d]) = H8 at D0
    clear s8 ld la lr s7 d7 da dr nd7 nl s6 r6 nr k7 k6 k5' k5 d5 nD a5 hna k4 k4' k3 k3' k2 k2' k1 k1c c2 nc
    have hn11 : ns.length ≤ 11 := by omega
    have hn1 : 1 ≤ ns.length := by omega
    -- the first loop
    refine ⟨_, rfl, _, rfl, st, 12, rfl, by decide, by decide, D0.kp.now, fun H9 n1 k9 b9 => ⟨_, rfl, by omega, by omega, ?_⟩⟩
    refine for_it walk_range (fun i σ H' => ∃ y7 y8 y9 y10 y11 rs qs g, σ = [some (.ref st), some (.int 12), some (.int (ni : Nat)), some (.int (1 + (no : Nat))), some (.ref a), some (.ref r), some (.ref l), y7, y8, y9, y10, y11, none, none] ∧ Draft ns H H' st a r l rs qs g g.length ∧ rs.length = g.length ∧ rs[0]? = some first ∧ g.length ≤ 1 + i)
      ⟨none, none, none, none, none, [first], [d], [[]], rfl, D0.then_kp k9, rfl, rfl, Nat.le_refl _⟩ (fun _ _ _ _ _ => True.intro) ?_ ?_
    · rintro i v σ H11 H10 hi ⟨y7, y8, y9, y10, y11, rs, qs, g, rfl, D, hrs, h0, hg⟩ ⟨rfl, rfl⟩
      have hi : i < 12 := by omega
      -- here
      refine ⟨_, rfl, _, rfl, l, _, rfl, .inl (SqL.of D.nodes), st, g.length, by rw [D.qlen]; rfl, D.pos, by omega, D.kp.now, fun H12 h k12 hb => ?_⟩
      have D := D.then_kp k12
      have eg : g[h]? = some g[h] := List.getElem?_eq_getElem hb
      generalize g[h] = node at eg
      obtain ⟨q', eq, hN⟩ := D.at_.left eg
      obtain ⟨ps, hp, hps⟩ := id hN
      have iq : (qs.map V.ref)[h]? = some (.ref q') := by rw [List.getElem?_map, eq]; rfl
      have hsh := D.short node (List.mem_of_getElem? eg)
      -- left
      refine ⟨_, rfl, a, _, rfl, .inl (SqL.of D.names), _, rfl, by omega, by rw [List.length_map]; omega, fun E nE => ?_⟩
      refine lc_it walk_range (fun i H' => ∃ js : List Nat, Same H12 H' ∧ H' E = some (.lst (js.map fun k => V.int ((k : Nat) : Int))) ∧ js.length ≤ i ∧ ∀ j ∈ js, ∃ x, ns[j]? = some x ∧ x ∉ node.map (·.1)) ⟨[], sameU nE, upd_same, Nat.zero_le _, fun j hj => by cases hj⟩ (fun _ _ _ _ => True.intro) ?_ ?_
      · rintro j v H14 H13 hj ⟨js, s13, e13, hjs, hall⟩ ⟨rfl, rfl⟩
        rw [List.length_map] at hj
        have hj : j < ns.length := by omega
        have ex : ns[j]? = some ns[j] := List.getElem?_eq_getElem hj
        generalize ns[j] = x at ex
        refine ⟨rfl, _, rfl, _, rfl, a, _, _, .str x, rfl, rfl, SqL.of (s13 _ _ D.names), ?_, _, rfl, _, rfl, l, _, _, .ref q', rfl, rfl, SqL.of (s13 _ _ D.nodes), atI_nat iq, q', rfl, ⟨_, SqL.of (s13 _ _ hp)⟩, fun E2 nE2 => lc_names (hN.same s13) (by omega) nE2 fun H15 s15 e15 => ⟨E2, _, rfl, .inl (SqL.of e15), rfl, flatStrs _, _, rfl, ite2 (fun hk => ?_) (fun _ => ?_)⟩⟩
        · rw [Int.zero_add]
          exact atI_nat (by rw [List.getElem?_map, ex]; rfl)
        · have hk : (!inV (.str x) ((node.map (·.1)).map V.str)) = true := hk
          have nx : x ∉ node.map (·.1) := fun z => by
            rw [inStrs.mpr z] at hk
            cases hk
          refine ⟨_, rfl, _, s15 _ _ e13, small1000 (by rw [List.length_map]; omega), js ++ [j], (s13.trans s15).put nE, ?_, by rw [List.length_append]; show js.length + 1 ≤ j + 1; omega, fun k hk2 => ?_⟩
          · rw [upd_same, List.map_append]
            show some (HO.lst (_ ++ [V.int (0 + ((j : Nat) : Int))])) = _
            rw [Int.zero_add]
            rfl
          · rcases List.mem_append.mp hk2 with z | z
            · exact hall k z
            · rw [List.mem_singleton.mp z]
              exact ⟨x, ex, nx⟩
        · exact ⟨js, s13.trans s15, s15 _ _ e13, Nat.le_succ_of_le hjs, hall⟩
      · rintro H13 ⟨js, s13, e13, hjs, hall⟩
        have nE0 := D.kp.free nE
        have D := D.same s13
        have hN := hN.same s13
        -- if left != []
        refine ⟨_, rfl, Nat.zero_le _, fun p np => ⟨.list (js.map fun k => .int (k : Nat)), .list [], .lst (SqL.of ((sameU np) _ _ e13)) (dpInts _ _ js), .lst (SqL.of upd_same) .nil, shaped_ints js, rfl, _, rfl, ?_⟩⟩
        rw [eqv_nil]
        have D := D.same (sameU (o := .lst []) np)
        have hN := hN.same (sameU (o := .lst []) np)
        have e14 := (sameU (o := .lst []) np) _ _ e13
        generalize upd H13 p (.lst []) = H14 at D hN e14
        cases js with
        | nil => exact iteF ⟨_, _, _, _, _, rs, qs, g, rfl, D, hrs, h0, by omega⟩
        | cons j0 jr =>
          rw [show (!((j0 :: jr).map fun k => PyData.int (k : Nat)).isEmpty) = true from rfl]
          have jpos : 0 < (j0 :: jr).length := Nat.succ_pos _
          generalize j0 :: jr = js at e14 hjs hall jpos
          rw [List.length_map] at hjs
          have hjs : js.length ≤ 11 := by omega
          -- at = left[..]
          refine iteT ⟨_, rfl, _, rfl, _, rfl, E, _, rfl, .inl (SqL.of e14), st, js.length, by rw [List.length_map]; rfl, jpos, by omega, D.kp.now, fun H17 t k17 tb => ?_⟩
          have e17 := k17.keep _ _ (D.kp.ne nE0) e14
          have D := D.then_kp k17
          have hN := hN.kp k17
          have ej : js[t]? = some js[t] := List.getElem?_eq_getElem tb
          generalize js[t] = j at ej
          obtain ⟨x, ex, nx⟩ := hall j (List.mem_of_getElem? ej)
          have exv : (ns.map V.str)[j]? = some (.str x) := by rw [List.getElem?_map, ex]; rfl
          refine ⟨E, _, _, .int (j : Nat), rfl, rfl, SqL.of e17, atI_nat (by rw [List.getElem?_map, ej]; rfl), ?_⟩
          -- nodes[here].append((names[at], len(nodes)))
          obtain ⟨ps, hp, hps⟩ := id hN
          refine ⟨_, rfl, _, rfl, l, _, _, .ref q', rfl, rfl, SqL.of D.nodes, atI_nat iq, .inl ⟨rfl, _, SqL.of hp⟩, _, rfl, _, rfl, a, _, _, .str x, rfl, rfl, SqL.of D.names, atI_nat exv, _, rfl, l, _, rfl, .inl (SqL.of D.nodes), two_ok, fun T nT => ?_⟩
          have sT : Same H17 (upd H17 T (.tup [.str x, .int ((qs.map V.ref).length : Nat)])) := sameU nT
          have tT : TurnAt (upd H17 T (.tup [.str x, .int ((qs.map V.ref).length : Nat)])) T (x, g.length) := by
            show upd H17 T _ T = _
            rw [upd_same, D.qlen]
          have hp := sT _ _ hp
          have hps : At2 (TurnAt (upd H17 T (.tup [.str x, .int ((qs.map V.ref).length : Nat)]))) ps node := hps.mono fun _ _ _ _ r => sT _ _ r
          have D := (D.same sT).more (Nat.le_succ g.length)
          generalize upd H17 T (.tup [.str x, .int ((qs.map V.ref).length : Nat)]) = H18 at tT hp hps D
          have lps : ps.length ≤ 11 := by rw [hps.1]; omega
          refine ⟨q', _, _, rfl, rfl, hp, small1000 (by rw [List.length_map]; omega), ?_⟩
          have D := D.turn eq eg hp hps tT (List.mem_of_getElem? ex) nx (Nat.lt_succ_self _)
          generalize upd H18 q' (.lst (ps.map V.ref ++ [.ref T])) = H19 at D
          -- rows.append(_law_flip(rows[here], at))
          have es : rs[h]? = some (rs[h]'(by omega)) := List.getElem?_eq_getElem _
          generalize rs[h]'(by omega) = sg at es
          have lsg := D.rlen sg (List.mem_of_getElem? es)
          have jn : j < ns.length := (List.getElem?_eq_some_iff.mp ex).1
          refine ⟨_, rfl, .inl ⟨rfl, _, SqL.of D.rows⟩, _, rfl, _, rfl, r, _, _, .str (bS sg), rfl, rfl, SqL.of D.rows, atI_nat (by rw [List.getElem?_map, es]; rfl), _, rfl, sg, j, rfl, by omega, by omega, r, _, _, rfl, rfl, D.rows, small1000 (by rw [List.length_map]; omega), ?_⟩
          have D := D.row (s := flipB sg j) (by rw [flipB_len]; exact lsg)
          generalize upd H19 r _ = H20 at D
          -- nodes.append([])
          refine ⟨_, rfl, .inl ⟨rfl, _, SqL.of D.nodes⟩, Nat.zero_le _, fun d2 nd2 => ?_⟩
          obtain ⟨f1, f2, f3, f4, f5⟩ := D.fresh nd2
          have D := D.same (sameU (o := .lst []) nd2)
          have d20 : (upd H20 d2 (.lst [])) d2 = some (.lst ([] : List V)) := upd_same
          have lq : qs.length = g.length := by have := D.at_.1; rw [List.length_set] at this; exact this
          have lg : (g.set h (node ++ [(x, g.length)]) ++ [[]]).length = g.length + 1 := by rw [List.length_append, List.length_set]; rfl
          refine ⟨l, _, _, rfl, rfl, D.nodes, small1000 (by rw [List.length_map]; omega), ?_⟩
          have D := D.node (ts := []) ⟨[], d20, At2.nil⟩ f1 f2 f3 f4 f5 List.nodup_nil (fun p hp => by cases hp) (fun p hp => by cases hp)
          refine ⟨_, _, _, _, _, rs ++ [flipB sg j], qs ++ [d2], g.set h (node ++ [(x, g.length)]) ++ [[]], rfl, by rw [lg]; exact D, by rw [lg, List.length_append, hrs]; rfl, ?_, by rw [lg]; omega⟩
          rw [List.getElem?_append_left (List.getElem?_eq_some_iff.mp h0).1]
          exact h0
    · rintro σ H10 ⟨y7, y8, y9, y10, y11, rs, qs0, g0, rfl, D, hrs, h0, hg⟩
      have hg : g0.length ≤ 12 := by omega
      -- the second loop
      refine ⟨_, rfl, _, rfl, _, _, rfl, rfl, .inl ⟨by decide, by decide⟩, st, 24, rfl, by decide, by decide, D.kp.now, fun H11 n2 k11 b11 => ⟨_, rfl, by omega, by omega, ?_⟩⟩
      refine for_it walk_range (fun i σ H' => ∃ y7 y8 y9 y10 y11 qs g, σ = [some (.ref st), some (.int 12), some (.int (ni : Nat)), some (.int (1 + (no : Nat))), some (.ref a), some (.ref r), some (.ref l), y7, y8, y9, y10, y11, none, none] ∧ Draft ns H H' st a r l rs qs g g.length ∧ g.length = g0.length)
        ⟨_, _, _, _, _, qs0, g0, rfl, D.then_kp k11, rfl⟩ (fun _ _ _ _ _ => True.intro) ?_ ?_
      · clear D
        rintro i v σ H13 H12 hi ⟨y7, y8, y9, y10, y11, qs, g, rfl, D, hgg⟩ ⟨rfl, rfl⟩
        -- here, at
        refine ⟨_, rfl, _, rfl, l, _, rfl, .inl (SqL.of D.nodes), st, g.length, by rw [D.qlen]; rfl, D.pos, by omega, D.kp.now, fun H14 h k14 hb => ?_⟩
        have D := D.then_kp k14
        refine ⟨_, rfl, _, rfl, a, _, rfl, .inl (SqL.of D.names), st, ns.length, by rw [List.length_map]; rfl, by omega, by omega, D.kp.now, fun H15 j k15 jn => ?_⟩
        have D := D.then_kp k15
        have eg : g[h]? = some g[h] := List.getElem?_eq_getElem hb
        generalize g[h] = node at eg
        obtain ⟨q', eq, hN⟩ := D.at_.left eg
        obtain ⟨ps, hp, hps⟩ := id hN
        have iq : (qs.map V.ref)[h]? = some (.ref q') := by rw [List.getElem?_map, eq]; rfl
        have hsh := D.short node (List.mem_of_getElem? eg)
        have ex : ns[j]? = some ns[j] := List.getElem?_eq_getElem jn
        generalize ns[j] = x at ex
        have exv : (ns.map V.str)[j]? = some (.str x) := by rw [List.getElem?_map, ex]; rfl
        have es : rs[h]? = some (rs[h]'(by omega)) := List.getElem?_eq_getElem _
        generalize rs[h]'(by omega) = sg at es
        have lsg := D.rlen sg (List.mem_of_getElem? es)
        -- fits
        refine ⟨_, rfl, l, _, rfl, .inl (SqL.of D.nodes), _, rfl, by omega, by rw [D.qlen]; omega, fun E nE => ?_⟩
        refine lc_it walk_range (fun i H' => ∃ js : List Nat, Same H15 H' ∧ H' E = some (.lst (js.map fun k => V.int ((k : Nat) : Int))) ∧ js.length ≤ i ∧ ∀ j ∈ js, j < g.length) ⟨[], sameU nE, upd_same, Nat.zero_le _, fun j hj => by cases hj⟩ (fun _ _ _ _ => True.intro) ?_ ?_
        · rintro m v H17 H16 hm ⟨js, s16, e16, hjs, hall⟩ ⟨rfl, rfl⟩
          rw [D.qlen] at hm
          have hm : m < g.length := by omega
          have es2 : rs[m]? = some (rs[m]'(by omega)) := List.getElem?_eq_getElem _
          generalize rs[m]'(by omega) = sg2 at es2
          have r16 := s16 _ _ D.rows
          refine ⟨rfl, _, rfl, _, rfl, r, _, _, .str (bS sg2), rfl, rfl, SqL.of r16, ?_, _, rfl, _, rfl, r, _, _, .str (bS sg), rfl, rfl, SqL.of r16, atI_nat (by rw [List.getElem?_map, es]; rfl), _, rfl, sg, j, rfl, by omega, by omega, rfl, _, rfl, ite2 (fun _ => ?_) (fun _ => ?_)⟩
          · rw [Int.zero_add]
            exact atI_nat (by rw [List.getElem?_map, es2]; rfl)
          · refine ⟨_, rfl, _, e16, small1000 (by rw [List.length_map]; omega), js ++ [m], s16.put nE, ?_, by rw [List.length_append]; show js.length + 1 ≤ m + 1; omega, fun k hk2 => ?_⟩
            · rw [upd_same, List.map_append]
              show some (HO.lst (_ ++ [V.int (0 + ((m : Nat) : Int))])) = _
              rw [Int.zero_add]
              rfl
            · rcases List.mem_append.mp hk2 with z | z
              · exact hall k z
              · rw [List.mem_singleton.mp z]
                exact hm
          · exact ⟨js, s16, e16, Nat.le_succ_of_le hjs, hall⟩
        · rintro H16 ⟨js, s16, e16, hjs, hall⟩
          rw [D.qlen] at hjs
          have hjs : js.length ≤ 12 := by omega
          have nE0 := D.kp.free nE
          have D := D.same s16
          have hN := hN.same s16
          -- if fits != [] and names[at] not in [name for name, to in nodes[here]]
          refine ⟨_, rfl, Nat.zero_le _, fun p np => ⟨.list (js.map fun k => .int (k : Nat)), .list [], .lst (SqL.of ((sameU np) _ _ e16)) (dpInts _ _ js), .lst (SqL.of upd_same) .nil, shaped_ints js, rfl, _, rfl, ?_⟩⟩
          rw [eqv_nil]
          have D := D.same (sameU (o := .lst []) np)
          have hN := hN.same (sameU (o := .lst []) np)
          have e17 := (sameU (o := .lst []) np) _ _ e16
          generalize upd H16 p (.lst []) = H17 at D hN e17
          cases js with
          | nil => exact iteF (iteF ⟨_, _, _, _, _, qs, g, rfl, D, hgg⟩)
          | cons j0 jr =>
            rw [show (!((j0 :: jr).map fun k => PyData.int (k : Nat)).isEmpty) = true from rfl]
            have jpos : 0 < (j0 :: jr).length := Nat.succ_pos _
            generalize j0 :: jr = js at e17 hjs hall jpos
            obtain ⟨ps, hp, hps⟩ := id hN
            refine iteT ⟨_, rfl, _, rfl, a, _, _, .str x, rfl, rfl, SqL.of D.names, atI_nat exv, _, rfl, _, rfl, l, _, _, .ref q', rfl, rfl, SqL.of D.nodes, atI_nat iq, q', rfl, ⟨_, SqL.of hp⟩, fun E2 nE2 => lc_names hN (by omega) nE2 fun H18 s18 e18 => ⟨E2, _, rfl, .inl (SqL.of e18), rfl, flatStrs _, _, rfl, ite2 (fun hk => ?_) (fun _ => ?_)⟩⟩
            · have hk : (!inV (.str x) ((node.map (·.1)).map V.str)) = true := hk
              have nx : x ∉ node.map (·.1) := fun z => by
                rw [inStrs.mpr z] at hk
                cases hk
              have D := D.same s18
              have hN := hN.same s18
              have e18 := s18 _ _ e17
              have hp := s18 _ _ hp
              -- nodes[here].append((names[at], fits[..]))
              refine ⟨_, rfl, _, rfl, l, _, _, .ref q', rfl, rfl, SqL.of D.nodes, atI_nat iq, .inl ⟨rfl, _, SqL.of hp⟩, _, rfl, _, rfl, a, _, _, .str x, rfl, rfl, SqL.of D.names, atI_nat exv, _, rfl, _, rfl, _, rfl, E, _, rfl, .inl (SqL.of e18), st, js.length, by rw [List.length_map]; rfl, jpos, by omega, D.kp.now, fun H19 t k19 tb => ?_⟩
              have e19 := k19.keep _ _ (D.kp.ne nE0) e18
              have D := D.then_kp k19
              have hN := hN.kp k19
              obtain ⟨ps, hp, hps⟩ := id hN
              have ej : js[t]? = some js[t] := List.getElem?_eq_getElem tb
              generalize js[t] = to at ej
              have hto := hall to (List.mem_of_getElem? ej)
              refine ⟨E, _, _, .int (to : Nat), rfl, rfl, SqL.of e19, atI_nat (by rw [List.getElem?_map, ej]; rfl), two_ok, fun T nT => ?_⟩
              have sT : Same H19 (upd H19 T (.tup [.str x, .int (to : Nat)])) := sameU nT
              have tT : TurnAt (upd H19 T (.tup [.str x, .int (to : Nat)])) T (x, to) := by
                show upd H19 T _ T = _
                rw [upd_same]
              have hp2 := sT _ _ hp
              have hps2 : At2 (TurnAt (upd H19 T (.tup [.str x, .int (to : Nat)]))) ps node := hps.mono fun _ _ _ _ r => sT _ _ r
              have D := D.same sT
              have lps : ps.length ≤ 11 := by rw [hps.1]; omega
              refine ⟨q', _, _, rfl, rfl, hp2, small1000 (by rw [List.length_map]; omega), ?_⟩
              have D := D.turn eq eg hp2 hps2 tT (List.mem_of_getElem? ex) nx hto
              exact ⟨_, _, _, _, _, qs, g.set h (node ++ [(x, to)]), rfl, by rw [List.length_set]; exact D, by rw [List.length_set]; exact hgg⟩
            · exact ⟨_, _, _, _, _, qs, g, rfl, D.same s18, hgg⟩
      · clear D
        rintro σ H12 ⟨y7, y8, y9, y10, y11, qs, g, rfl, D, hgg⟩
        have hg : g.length ≤ 12 := by omega
        -- the third loop
        refine ⟨four_ok, fun c nc => ⟨_, rfl, st, 4, rfl, by decide, by decide, (D.same (sameU nc)).kp.now, fun H13 j k13 bj => ?_⟩⟩
        obtain ⟨m, em, m2⟩ := zero_two bj
        have c13 : H13 c = some (.lst [.int 0, .int 0, .int 1, .int 2]) := k13.keep _ _ (D.kp.ne (D.kp.free nc)) upd_same
        have D := (D.same (sameU (o := .lst [.int 0, .int 0, .int 1, .int 2]) nc)).then_kp k13
        refine ⟨c, _, _, _, rfl, rfl, SqL.of c13, atI_nat em, _, rfl, l, _, rfl, .inl (SqL.of D.nodes), _, _, rfl, rfl, .inr ⟨_, rfl, _, _, rfl, rfl, .inl ⟨by omega, by omega⟩, ?_⟩⟩
        rw [D.qlen, decide_eq_true (show (g.length : Int) < 38 by omega)]
        refine ⟨_, rfl, ?_, ?_, ?_⟩
        · show -(2 ^ 62) ≤ (m : Int) * 1
          omega
        · show (m : Int) * 1 < 2 ^ 62
          omega
        refine for_it walk_range (fun i σ H' => ∃ y7 y8 y9 y10 y11 qs g, σ = [some (.ref st), some (.int 12), some (.int (ni : Nat)), some (.int (1 + (no : Nat))), some (.ref a), some (.ref r), some (.ref l), y7, y8, y9, y10, y11, none, none] ∧ Draft ns H H' st a r l rs qs g g.length ∧ g.length ≤ 12 + i)
          ⟨_, _, _, _, _, qs, g, rfl, D, hg⟩ (fun _ _ _ _ _ => True.intro) ?_ ?_
        · clear D hgg hg
          rintro i v σ H15 H14 hi ⟨y7, y8, y9, y10, y11, qs, g, rfl, D, hg⟩ ⟨rfl, rfl⟩
          have hi : i < ((m : Int) * 1).toNat := hi
          have hi : i < 2 := by omega
          refine ⟨_, rfl, .inl ⟨rfl, _, SqL.of D.nodes⟩, _, rfl, _, rfl, _, rfl, a, _, rfl, .inl (SqL.of D.names), st, ns.length, by rw [List.length_map]; rfl, by omega, by omega, D.kp.now, fun H16 j k16 jn => ?_⟩
          have D := D.then_kp k16
          have ex : ns[j]? = some ns[j] := List.getElem?_eq_getElem jn
          generalize ns[j] = x at ex
          refine ⟨a, _, _, .str x, rfl, rfl, SqL.of D.names, atI_nat (by rw [List.getElem?_map, ex]; rfl), _, rfl, _, rfl, l, _, rfl, .inl (SqL.of D.nodes), _, _, rfl, rfl, st, g.length + 1, by rw [D.qlen]; rfl, Nat.succ_pos _, by omega, D.kp.now, fun H17 to k17 tb => ⟨two_ok, fun T nT => ⟨one_ok, fun d nd2 => ?_⟩⟩⟩
          have D := (D.then_kp k17).more (Nat.le_succ g.length)
          have sT : Same H17 (upd H17 T (.tup [.str x, .int (to : Nat)])) := sameU nT
          have tT : TurnAt (upd H17 T (.tup [.str x, .int (to : Nat)])) T (x, to) := by
            show upd H17 T _ T = _
            rw [upd_same]
          have D := D.same sT
          generalize upd H17 T (.tup [.str x, .int (to : Nat)]) = H18 at tT D nd2
          obtain ⟨f1, f2, f3, f4, f5⟩ := D.fresh nd2
          have D := D.same (sameU (o := .lst [.ref T]) nd2)
          have dN : NodeAt (upd H18 d (.lst [.ref T])) d [(x, to)] := ⟨[T], upd_same, At2.snoc At2.nil ((sameU nd2) _ _ tT)⟩
          have lq := D.at_.1
          refine ⟨l, _, _, rfl, rfl, D.nodes, small1000 (by rw [List.length_map]; omega), ?_⟩
          have D := D.node dN f1 f2 f3 f4 f5 (by simp) (fun p hp => by rw [List.mem_singleton.mp hp]; exact List.mem_of_getElem? ex) (fun p hp => by rw [List.mem_singleton.mp hp]; exact tb)
          have lg : (g ++ [[(x, to)]]).length = g.length + 1 := List.length_append
          exact ⟨_, _, _, _, _, qs ++ [d], g ++ [[(x, to)]], rfl, by rw [lg]; exact D, by rw [lg]; omega⟩
        · clear D hgg hg
          rintro σ H14 ⟨y7, y8, y9, y10, y11, qs, g, rfl, D, hg⟩
          have hg : g.length ≤ 12 + ((m : Int) * 1).toNat := hg
          have hg : g.length ≤ 14 := by omega
          -- the tuple
          refine ⟨_, rfl, _, rfl, _, rfl, a, _, rfl, SqL.of D.names, fun i ni0 => ?_⟩
          rw [cutV_to, ← List.map_take]
          have i15 : (upd H14 i (.lst ((ns.take ni).map V.str))) i = some (.lst ((ns.take ni).map V.str)) := upd_same
          obtain ⟨_, _, _, _, iq⟩ := D.fresh ni0
          have D := D.same (sameU (o := .lst ((ns.take ni).map V.str)) ni0)
          generalize upd H14 i (.lst ((ns.take ni).map V.str)) = H15 at D i15
          refine ⟨_, rfl, _, rfl, _, rfl, a, _, rfl, SqL.of D.names, fun o no0 => ?_⟩
          rw [cutV_from, ← List.map_drop]
          have o16 : (upd H15 o (.lst ((ns.drop ni).map V.str))) o = some (.lst ((ns.drop ni).map V.str)) := upd_same
          obtain ⟨_, _, _, _, oq⟩ := D.fresh no0
          have i16 := (sameU (o := .lst ((ns.drop ni).map V.str)) no0) _ _ i15
          have D := D.same (sameU (o := .lst ((ns.drop ni).map V.str)) no0)
          generalize upd H15 o (.lst ((ns.drop ni).map V.str)) = H16 at D i16 o16
          refine ⟨_, rfl, r, _, 0, .str (bS first), rfl, rfl, SqL.of D.rows, atI_nat (j := 0) (by rw [List.getElem?_map, h0]; rfl), _, rfl, four_ok, fun t nt => ?_⟩
          have s17 : Same H16 (upd H16 t (.tup [.ref i, .ref o, .str (bS first), .ref l])) := sameU nt
          have D := D.same s17
          have tad : ns.take ni ++ ns.drop ni = ns := List.take_append_drop ni ns
          refine q _ t i o l (ns.take ni) (ns.drop ni) first qs g D.kp upd_same (s17 _ _ i16) (s17 _ _ o16) D.nodes D.at_ D.ndq (fun q hq => ⟨fun z => iq (z ▸ hq), fun z => oq (z ▸ hq), (D.off q hq).1, (D.off q hq).2.2.2⟩) ?_
          exact {
            names := by rw [tad]; exact hnm
            nd := by rw [tad]; exact hnd
            few := by rw [List.length_take]; omega
            one := by rw [List.length_drop]; omega
            few2 := by rw [List.length_drop]; omega
            len := by rw [tad]; exact hfirst
            shape := by
              rw [tad]
              exact ⟨D.pos, by omega, D.nd, D.wire, D.to⟩
            short := fun node hn => by
              have := D.short node hn
              omega }
end
end K31
set_option Elab.async false
set_option linter.all false
set_option maxRecDepth 100000
set_option maxHeartbeats 4000000
namespace K31
open PySem PySem.Spec PyProof.Rows L2
/-! ### the other sheets are sheets -/
section
variable {ins outs : List Str} {first : List Bool} {g g' : List (List (Str × Nat))}
theorem SheetOk.mixed (S : SheetOk ins outs first g) (M : Mixed g g') : SheetOk ins outs first g' :=
  { S with
    shape := M.shape S.shape
    short := fun n' hn => by
      obtain ⟨k, hk, e⟩ := List.getElem_of_mem hn
      have hk' : k < g.length := by rw [← M.1]; exact hk
      have pm := M.2 k g[k] n' (List.getElem?_eq_getElem hk') (by rw [List.getElem?_eq_getElem hk, e])
      rw [pm.length_eq]
      exact S.short _ (List.getElem_mem hk') }
theorem SheetOk.ren (S : SheetOk ins outs first g) {order : List Nat} (R : Ren order g g') : SheetOk ins outs first g' :=
  { S with
    shape := R.shape S.shape
    short := fun n' hn => by
      obtain ⟨k, hk, e⟩ := List.getElem_of_mem hn
      obtain ⟨old, node, _, h2, el, _⟩ := R.back (show g'[k]? = some n' by rw [List.getElem?_eq_getElem hk, e])
      rw [el]
      exact S.short _ (List.mem_of_getElem? h2) }
theorem SheetOk.bare (S : SheetOk ins outs first g) {L : List (Option (List Bool))} (h : L.length = g.length) : SheetOk ins outs first (bareG g L) :=
  { S with
    shape := bare_shape S.shape h
    short := fun n' hn => by
      unfold bareG at hn
      obtain ⟨p, hp, rfl⟩ := List.mem_map.mp hn
      by_cases c : p.2.isSome = true
      · rw [if_pos c]
        exact S.short _ (List.of_mem_zip hp).1
      · rw [if_neg c]
        exact Nat.zero_le _ }
theorem SheetOk.rew (S : SheetOk ins outs first g) {ins' outs' : List Str} {places : List Nat} (q1 : ins'.Perm ins) (q2 : outs'.Perm outs) (W : Rew places (ins ++ outs) (ins' ++ outs')) : SheetOk ins' outs' (pick places first) g where
  names := fun x hx => S.names x ((q1.append q2).mem_iff.mp hx)
  nd := (q1.append q2).nodup_iff.mpr S.nd
  few := by rw [q1.length_eq]; exact S.few
  one := by rw [q2.length_eq]; exact S.one
  few2 := by rw [q2.length_eq]; exact S.few2
  len := by rw [pick_len, W.len, W.len']
  shape := W.shape S.shape
  short := S.short
theorem SheetOk.lead (S : SheetOk ins outs first g) {h : Nat} {x : Str} {old to : Nat} {r : List (Str × Nat)} (eg : g[h]? = some ((x, old) :: r)) (ht : to < g.length) : SheetOk ins outs first (g.set h ((x, to) :: r)) := by
  have mem := List.mem_of_getElem? eg
  refine { S with
    shape := ⟨by rw [List.length_set]; exact S.shape.some, by rw [List.length_set]; exact S.shape.few, fun n hn => ?_, fun n hn p hp => ?_, fun n hn p hp => ?_⟩
    short := fun n hn => ?_ }
  · rcases mem_set_cases hn with h1 | h1
    · exact S.shape.nd n h1
    · rw [h1]
      have := S.shape.nd _ mem
      exact this
  · rcases mem_set_cases hn with h1 | h1
    · exact S.shape.wire n h1 p hp
    · rw [h1] at hp
      rcases List.mem_cons.mp hp with h2 | h2
      · rw [h2]
        exact S.shape.wire _ mem (x, old) List.mem_cons_self
      · exact S.shape.wire _ mem p (List.mem_cons_of_mem _ h2)
  · rw [List.length_set]
    rcases mem_set_cases hn with h1 | h1
    · exact S.shape.to n h1 p hp
    · rw [h1] at hp
      rcases List.mem_cons.mp hp with h2 | h2
      · rw [h2]
        exact ht
      · exact S.shape.to _ mem p (List.mem_cons_of_mem _ h2)
  · rcases mem_set_cases hn with h1 | h1
    · exact S.short n h1
    · rw [h1]
      have := S.short _ mem
      exact this
end
/-! ### told signs, compared -/
def optD : Option (List Bool) → PyData
  | none => .none
  | some s => .str (bS s)
theorem bS_ok (s : List Bool) : PyData.strOk (bS s) = true := by
  unfold PyData.strOk
  rw [← Array.all_toList, List.all_eq_true, bS_codes]
  intro c hc
  obtain ⟨b, _, rfl⟩ := List.mem_map.mp hc
  cases b <;> decide
theorem dpOpts (K : PySem.W.Frag) (H : Hp) : ∀ L : List (Option (List Bool)), DpAll K H (L.map optV) (L.map optD)
  | [] => .nil
  | none :: r => .cons .non (dpOpts K H r)
  | some s :: r => .cons (.str _) (dpOpts K H r)
theorem opts_lay : ∀ L : List (Option (List Bool)), PyData.canLayAll0 (L.map optD) = true ∧ PyData.depthAll (L.map optD) = 0
  | [] => ⟨rfl, rfl⟩
  | none :: r => ⟨by show (true && PyData.canLayAll0 _) = true; rw [(opts_lay r).1]; rfl, by show max 0 (PyData.depthAll _) = 0; rw [(opts_lay r).2]; rfl⟩
  | some s :: r => ⟨by show (PyData.strOk (bS s) && PyData.canLayAll0 _) = true; rw [bS_ok, (opts_lay r).1]; rfl, by show max 0 (PyData.depthAll _) = 0; rw [(opts_lay r).2]; rfl⟩
theorem opts_eqv : ∀ L : List (Option (List Bool)), PyData.eqvAll (L.map optD) (L.map optD) = true
  | [] => rfl
  | none :: r => by show (true && PyData.eqvAll _ _) = true; rw [opts_eqv r]; rfl
  | some s :: r => by
    show ((bS s == bS s) && PyData.eqvAll _ _) = true
    rw [opts_eqv r, beq_self_eq_true]
    rfl
theorem ne_opts {K : PySem.W.Frag} {H : Hp} {p q : Addr} {L : List (Option (List Bool))} {Q : VK} (hp : H p = some (.lst (L.map optV))) (hq : H q = some (.lst (L.map optV))) (h : Q (.bl false) H) : rNeD K (.ref p) (.ref q) H Q := by
  have sh : SeqAt.shaped (.list (L.map optD)) = true := by
    show (PyData.canLayAll0 _ && decide (PyData.depthAll _ + 1 ≤ 64)) = true
    rw [(opts_lay L).1, (opts_lay L).2]
    rfl
  refine ⟨.list (L.map optD), .list (L.map optD), .lst (SqL.of hp) (dpOpts K H L), .lst (SqL.of hq) (dpOpts K H L), sh, sh, ?_⟩
  have e : PyData.eqv (.list (L.map optD)) (.list (L.map optD)) = true := opts_eqv L
  rw [e]
  exact h
/-! ### turns in another order -/
theorem At2.uncons {α β : Type} {R : α → β → Prop} {x : α} {xs : List α} {ys : List β} (h : At2 R (x :: xs) ys) : ∃ y r, ys = y :: r ∧ R x y ∧ At2 R xs r := by
  cases ys with
  | nil => exact absurd h.1 (by simp)
  | cons y r => exact ⟨y, r, rfl, h.2 0 x y rfl rfl, Nat.succ.inj h.1, fun i u v a b => h.2 (i + 1) u v a b⟩
theorem At2.cons {α β : Type} {R : α → β → Prop} {x : α} {xs : List α} {y : β} {ys : List β} (r : R x y) (h : At2 R xs ys) : At2 R (x :: xs) (y :: ys) := by
  refine ⟨by rw [List.length_cons, List.length_cons, h.1], fun i u v a b => ?_⟩
  cases i with
  | zero =>
    have e1 : x = u := Option.some.inj a
    have e2 : y = v := Option.some.inj b
    rw [← e1, ← e2]
    exact r
  | succ i => exact h.2 i u v a b
theorem At2.perm {α β : Type} {R : α → β → Prop} {xs' xs : List α} (pm : xs'.Perm xs) : ∀ {ys : List β}, At2 R xs ys → ∃ ys' : List β, At2 R xs' ys' ∧ ys'.Perm ys := by
  induction pm with
  | nil => exact fun {ys} h => ⟨ys, h, List.Perm.refl _⟩
  | cons x p ih =>
    intro ys h
    obtain ⟨y, r, rfl, hr, ht⟩ := h.uncons
    obtain ⟨zs, h1, h2⟩ := ih ht
    exact ⟨y :: zs, h1.cons hr, h2.cons y⟩
  | swap x y l =>
    intro ys h
    obtain ⟨a, r, rfl, ha, ht⟩ := h.uncons
    obtain ⟨b, r2, rfl, hb, ht2⟩ := ht.uncons
    exact ⟨b :: a :: r2, (ht2.cons ha).cons hb, List.Perm.swap _ _ _⟩
  | trans p q ih1 ih2 =>
    intro ys h
    obtain ⟨zs, h1, h2⟩ := ih2 h
    obtain ⟨ws, h3, h4⟩ := ih1 h1
    exact ⟨ws, h3, h4.trans h2⟩
def unRef : V → Addr
  | .ref a => a
  | _ => 0
/-- what a node's list holds may be shuffled -/
theorem node_shuf {H : Hp} {ps : List Addr} {ts : List (Str × Nat)} (h : At2 (TurnAt H) ps ts) (ok : ∀ p ∈ ts, PyData.strOk p.1 = true) : ∀ v ∈ ps.map V.ref, Shuf H v := by
  intro v hv
  obtain ⟨p, hp, rfl⟩ := List.mem_map.mp hv
  obtain ⟨i, hi, e⟩ := List.getElem_of_mem hp
  obtain ⟨t, ht, ta⟩ := h.right (show ps[i]? = some p by rw [List.getElem?_eq_getElem hi, e])
  exact .turn ta (ok t (List.mem_of_getElem? ht))
end K31
set_option Elab.async false
set_option linter.all false
set_option maxRecDepth 100000
set_option maxHeartbeats 8000000
namespace K31
open PySem PySem.Spec PyProof.Rows L2
theorem three_ok {a b c : V} : [a, b, c].length ≤ sizeLine := Nat.le_of_lt (small1000 (by show 3 ≤ 1000; decide))
theorem ixN0 {n : Nat} (h : 0 < n) : ixN n 0 = some 0 := by
  unfold ixN
  rw [if_pos (Int.le_refl 0), if_pos (by omega)]
  rfl
abbrev s_law : Stmt := topS 26
/-- the statement in a list at a place -/
def stAt (b : List Stmt) (i : Nat) : Stmt := b.getD i pass0S
def ifBody : Stmt → List Stmt
  | .If _ b _ _ => b
  | _ => []
/-- bare = [[turn for turn in node if ..] for node, signs in ..]: the outer scope, the inner one -/
def eBare : Expr := valOf (stAt (ifBody (stAt (forBody (stAt (C8.fnBody s_law) 0)) 9)) 3)
def eTurn : Expr := match eBare with
  | .ListComp e _ _ _ => e
  | _ => .Constant .none 0 ⟨0, 0, 0, 0⟩
abbrev NL : List Str := ["script", "at", "store", "sheet", "here", "good", "order", "numbered", "places", "rewired", "others", "one", "told", "bare", "node", "old", "signs", "turn"]
theorem sc_law : FnScope NL ["script"] (C8.fnScope s_law) := C8.fnScope_by (by decide +kernel)
theorem turn_ok : BlkOk NL (relS (lcScope eBare) (C8.fnScope s_law)) (lcScope eTurn) [("turn", 17)] := blkOk_by (by decide +kernel)
def sp_law (K : PySem.W.Frag) : Sp := fun vs H Q _ => ∃ (a : Addr) (ns : List Int), vs = [.ref a] ∧ SqL K H a (ns.map V.int) ∧ ns.length ≤ 63 ∧ ∀ H', Q (.bl true) H'
section
variable {P : Program} {w : World} {K : PySem.W.Frag} {mg : Str → Option Value} {base : Heap}
theorem cal_law {f : Addr} {fd : FuncData} (F : C8.Def K mg "law" s_law f fd) (b : Binds K fd ["script"] []) (T : Bi mg) (cCe : C8.Cal P w K mg base 1 "_law_cell" (sp_law_cell K) []) (cSt : C8.Cal P w K mg base 1 "_law_store" sp_law_store [])
    (cT : C8.Cal P w K mg base 1 "_law_take" sp_law_take []) (cSh : C8.Cal P w K mg base 3 "_law_sheet" sp_law_sheet []) (cIs : C8.Cal P w K mg base 4 "is_sheet" sp_is_sheet []) (cSi : C8.Cal P w K mg base 3 "signs_of" sp_signs_of [])
    (cNu : C8.Cal P w K mg base 3 "_law_numbered" sp_law_numbered []) (cRe : C8.Cal P w K mg base 3 "_law_rewired" sp_law_rewired []) (cS : C8.Cal P w K mg base 2 "_law_shuffled" sp_law_shuffled []) (cPi : C8.Cal P w K mg base 1 "_law_picked" sp_law_picked []) : FnOk P w K mg base C8.CX0 5 f fd ["script"] (sp_law K) := by
  refine C8.fn0 F.fn sc_law (fun vs H Q E h => ?_) (fun cdv A outer s H vs Q E hr h => ?_)
  · obtain ⟨a, ns, rfl, _⟩ := h
    rfl
  · obtain ⟨a, ns, rfl, ha, hlen, q⟩ := h
    have nd := sc_law.nd
    have hu := hu_of hr
    refine ⟨_, pss_cons (ps_for PassesOwn.never rfl (pi_range1 (by rfl) T.range (pa_cons (pe_callB (call_min2 rfl) (by rfl) T.min (by decide +kernel) (pa_cons (pe_callB (call_max2 rfl) (by rfl) T.max (by decide +kernel)
          (pa_cons (pe_callB call_len_seq (by rfl) T.len PySem.boot_len (pa_cons (pv 0) pa_nil)) (pa_cons pe_int pa_nil))) (pa_cons pe_int pa_nil))) pa_nil)) (pg_name (i := 1) nd rfl (Or.inl rfl))
        (pss_cons (ps_set (i := 2) nd rfl (Or.inr rfl) (C8.pe_c cSt hr (by decide) (by rfl) (pa_cons (C8.pe_c cCe hr (by decide) (by rfl) (pa_cons (pv 0) (pa_cons (pv 1) pa_nil))) pa_nil)))
        (pss_cons (ps_set (i := 3) nd rfl (Or.inl rfl) (C8.pe_c cSh hr (by decide) (by rfl) (pa_cons (pv 2) (pa_cons pe_int pa_nil))))
        (pss_cons (ps_set (i := 4) nd rfl (Or.inl rfl) (C8.pe_c cT hr (by decide) (by rfl) (pa_cons (pv 2) (pa_cons (pe_callB call_len_seq (by rfl) T.len PySem.boot_len (pa_cons (pe_ix ix_tup (pv 3) pe_int (fun _ _ => rfl)) pa_nil)) pa_nil))))
        (C8.pss_cut (ps_if (PW.pt (pw_and (pt_cmpR (op_neD hr.units) (pe_ix ix_list (pe_ix ix_tup (pv 3) pe_int (fun _ _ => rfl)) (pv 4) (fun _ _ => rfl)) (pe_lst pa_nil) (nomark _))
              (pw_and1 (pt_cmpR op_eq (C8.pe_c cT hr (by decide) (by rfl) (pa_cons (pv 2) (pa_cons pe_int pa_nil))) pe_int (nomark _)))))
            (pss_one (ps_asg (pe_tup (pa_cons (pe_ix ix_tup (pe_ix ix_list (pe_ix ix_list (pe_ix ix_tup (pv 3) pe_int (fun _ _ => rfl)) (pv 4) (fun _ _ => rfl)) pe_int (fun _ _ => rfl)) pe_int (fun _ _ => rfl))
                (pa_cons (C8.pe_c cT hr (by decide) (by rfl) (pa_cons (pv 2) (pa_cons (pe_callB call_len_seq (by rfl) T.len PySem.boot_len (pa_cons (pe_ix ix_tup (pv 3) pe_int (fun _ _ => rfl)) pa_nil)) pa_nil))) pa_nil)))
              (pg_sub (pe_ix ix_list (pe_ix ix_tup (pv 3) pe_int (fun _ _ => rfl)) (pv 4) (fun _ _ => rfl)) pe_int set_list))) pss_nil)
        (C8.pss_cut (ps_set (i := 5) nd rfl (Or.inl rfl) (C8.pe_c cIs hr (by decide) (by rfl) (pa_cons (pv 3) pa_nil)))
        (pss_cons (ps_asg (C8.pe_c cNu hr (by decide) (by rfl) (pa_cons (pv 2) (pa_cons (pv 3) pa_nil))) (pg_tup rfl (pgs_cons (pg_name (i := 6) nd rfl (Or.inl rfl)) (pgs_cons (pg_name (i := 7) nd rfl (Or.inl rfl)) pgs_nil))))
        (pss_cons (ps_asg (C8.pe_c cRe hr (by decide) (by rfl) (pa_cons (pv 2) (pa_cons (pv 3) pa_nil))) (pg_tup rfl (pgs_cons (pg_name (i := 8) nd rfl (Or.inr rfl)) (pgs_cons (pg_name (i := 9) nd rfl (Or.inl rfl)) pgs_nil))))
        (pss_cons (ps_set (i := 10) nd rfl (Or.inl rfl) (pe_tup (pa_cons (pe_ix ix_tup (pv 3) pe_int (fun _ _ => rfl)) (pa_cons (pe_ix ix_tup (pv 3) pe_int (fun _ _ => rfl)) (pa_cons (pe_ix ix_tup (pv 3) pe_int (fun _ _ => rfl)) (pa_cons
            (pe_lc (own := [("node", 14)]) rfl nd (pi_list (pe_ix ix_tup (pv 3) pe_int (fun _ _ => rfl))) (blkOk_by (N := NL) (sc := C8.fnScope s_law) (by decide +kernel)) (fun _ _ _ _ _ => pg_name (i := 14) nd rfl (Or.inl rfl)) (fun _ _ _ _ _ => pts_nil)
              (fun _ _ _ _ _ => C8.pe_c cS hr (by decide) (by rfl) (pa_cons (pv 2) (pa_cons (pv 14) pa_nil)))) pa_nil))))))
        (pss_cons (ps_for PassesOwn.never rfl (pi_list (pe_lst (pa_cons (pv 7) (pa_cons (pv 9) (pa_cons (pv 10) pa_nil))))) (pg_name (i := 11) nd rfl (Or.inl rfl))
          (pss_one (ps_if (pt_cmpR op_ne (C8.pe_c cIs hr (by decide) (by rfl) (pa_cons (pv 11) pa_nil)) (pv 5) (nomark _)) (pss_one (ps_ret pe_bl)) pss_nil)))
        (pss_one (ps_if (pt_val (pv 5))
          (pss_cons (ps_set (i := 12) nd rfl (Or.inr rfl) (C8.pe_c cSi hr (by decide) (by rfl) (pa_cons (pv 3) pa_nil)))
          (pss_cons (ps_if (PW.pt (pw_or (pt_cmpR (op_neD hr.units) (C8.pe_c cSi hr (by decide) (by rfl) (pa_cons (pv 7) pa_nil))
                (pe_lc (own := [("old", 15)]) rfl nd (pi_list (pv 6)) (blkOk_by (N := NL) (sc := C8.fnScope s_law) (by decide +kernel)) (fun _ _ _ _ _ => pg_name (i := 15) nd rfl (Or.inl rfl)) (fun _ _ _ _ _ => pts_nil)
                  (fun _ _ _ _ _ => pe_ix (ixL_in (K := K) rfl) (pv 12) (pv 15) (fun _ _ => rfl))) (nomark _))
              (pw_or1 (pt_cmpR (op_neD hr.units) (C8.pe_c cSi hr (by decide) (by rfl) (pa_cons (pv 10) pa_nil)) (pv 12) (nomark _))))) (pss_one (ps_ret pe_bl)) pss_nil)
          (pss_cons (ps_if (pt_cmpR (op_neD hr.units) (C8.pe_c cSi hr (by decide) (by rfl) (pa_cons (pv 9) pa_nil))
              (pe_lc (own := [("one", 11)]) rfl nd (pi_list (pv 12)) (blkOk_by (N := NL) (sc := C8.fnScope s_law) (by decide +kernel)) (fun _ _ _ _ _ => pg_name (i := 11) nd rfl (Or.inl rfl)) (fun _ _ _ _ _ => pts_nil)
                (fun _ _ _ _ _ => C8.pe_c cPi hr (by decide) (by rfl) (pa_cons (pv 11) (pa_cons (pv 8) pa_nil)))) (nomark _)) (pss_one (ps_ret pe_bl)) pss_nil)
          (pss_cons (ps_setLc (i := 13) (own := [("node", 14), ("signs", 16)]) rfl nd rfl rfl (sw_true rfl rfl rfl (by decide +kernel)) (pi_zip (by rfl) T.zip (pa_cons (pe_ix ix_tup (pv 3) pe_int (fun _ _ => rfl)) (pa_cons (pv 12) pa_nil)))
              (blkOk_by (N := NL) (sc := C8.fnScope s_law) (by decide +kernel))
              (fun _ _ _ _ _ => pg_tup_in (K := K) (n := 2) rfl rfl (pgs_cons (pg_name (i := 14) nd rfl (Or.inl rfl)) (pgs_cons (pg_name (i := 16) nd rfl (Or.inr rfl)) pgs_nil))) (fun _ _ _ _ _ => pts_nil)
              (fun _ _ _ _ _ => pe_lc (own := [("turn", 17)]) rfl nd (pi_list_in (K := K) rfl (pv 14)) turn_ok (fun _ _ _ _ _ => pg_name (i := 17) nd rfl (Or.inl rfl)) (fun _ _ _ _ _ => pts_one (pt_cmpR op_notN (pv 16) pe_non (nomark _))) (fun _ _ _ _ _ => pv 17)))
          (pss_one (ps_if (pt_cmpR (op_neD hr.units) (C8.pe_c cSi hr (by decide) (by rfl) (pa_cons (pe_tup (pa_cons (pe_ix ix_tup (pv 3) pe_int (fun _ _ => rfl)) (pa_cons (pe_ix ix_tup (pv 3) pe_int (fun _ _ => rfl)) (pa_cons (pe_ix ix_tup (pv 3) pe_int (fun _ _ => rfl)) (pa_cons (pv 13) pa_nil))))) pa_nil)) (pv 12) (nomark _))
              (pss_one (ps_ret pe_bl)) pss_nil)))))) pss_nil))))))))))))
      (pss_one (ps_ret pe_bl)), ?_⟩
    have bound : ∀ n : Int, 0 ≤ n → 0 ≤ (if (12 : Int) < (if (3 : Int) > n then 3 else n) then 12 else if (3 : Int) > n then 3 else n) ∧ (if (12 : Int) < (if (3 : Int) > n then 3 else n) then 12 else if (3 : Int) > n then 3 else n) ≤ 12 := fun n hn => by
      split <;> (try split) <;> omega
    obtain ⟨b1, b2⟩ := bound ((ns.map V.int).length : Nat) (by omega)
    refine ⟨_, rfl, a, _, rfl, .inl ha, _, _, rfl, _, _, rfl, _, rfl, Int.le_trans (by decide) b1, Int.lt_of_le_of_lt b2 (by decide), ?_⟩
    generalize (if (12 : Int) < (if (3 : Int) > ((ns.map V.int).length : Nat) then 3 else ((ns.map V.int).length : Nat)) then 12 else if (3 : Int) > ((ns.map V.int).length : Nat) then 3 else ((ns.map V.int).length : Nat)) = cnt at b1 b2
    refine for_it walk_range (fun i σ H' => ∃ y1 y2 y3 y4 y5 y6 y7 y8 y9 y10 y11 y12 y13, σ = [some (.ref a), y1, y2, y3, y4, y5, y6, y7, y8, y9, y10, y11, y12, y13, none, none, none, none] ∧ Same H H')
      ⟨none, none, none, none, none, none, none, none, none, none, none, none, none, rfl, Same.refl H⟩ (fun _ _ _ _ _ => True.intro) ?_ (fun σ H' _ => q H')
    rintro i v σ G G0 hi ⟨y1, y2, y3, y4, y5, y6, y7, y8, y9, y10, y11, y12, y13, rfl, sH⟩ ⟨rfl, rfl⟩
    have hi : i ≤ 12 := by omega
    -- store, sheet, here
    refine ⟨_, rfl, _, rfl, a, ns, i, ?_, sH.seq ha, by omega, fun z => ⟨z, rfl, fun st j1 j2 j3 nst => ?_⟩⟩
    · show [V.ref a, V.int (0 + ((i : Nat) : Int))] ++ [] = _
      rw [Int.zero_add]
      rfl
    have sG : Same G0 (upd G0 st (.lst [.int j1, .int j2, .int j3])) := sameU nst
    have hst : StoreAt (upd G0 st (.lst [.int j1, .int j2, .int j3])) st := ⟨_, _, _, upd_same⟩
    generalize upd G0 st (.lst [.int j1, .int j2, .int j3]) = G1 at sG hst
    have nst0 : H st = none := sH.free nst
    have back : ∀ {G' : Hp}, Kp st G1 G' → Same H G' := fun k b o e => k.keep b o (ne_of_none e nst0) (sG _ _ (sH _ _ e))
    refine ⟨_, rfl, st, rfl, hst, fun G2 t ti to l ins outs first qs g k2 ht hti hto hl hat hndq hoff S => ?_⟩
    have lq : (qs.map V.ref).length = g.length := by rw [List.length_map, hat.1]
    have g40 := S.shape.few
    refine ⟨_, rfl, _, rfl, t, _, 3, .ref l, rfl, rfl, SqT.of ht, atI_nat (j := 3) rfl, l, _, rfl, .inl (SqL.of hl), st, g.length, by rw [lq]; rfl, S.shape.some, by omega, k2.now, fun G3 h k3 hb => ?_⟩
    have k3' := k2.trans k3
    have ht := k3.tup ht
    have hti := hti.kp k3
    have hto := hto.kp k3
    have hl := k3.refs hl
    have hat : At2 (NodeAt G3) qs g := hat.mono fun _ _ _ _ r => r.kp k3
    clear k2 k3
    -- one turn that leads elsewhere
    refine ⟨fun σ' G' => ∃ g', σ' = [some (.ref a), some (.int (0 + ((i : Nat) : Int))), some (.ref st), some (.ref t), some (.int (h : Nat)), y5, y6, y7, y8, y9, y10, y11, y12, y13, none, none, none, none] ∧ Kp st G1 G' ∧ SheetAt G' t ins outs first g' ∧ SheetOk ins outs first g', ?_, ?_⟩
    · have stay : ∀ {G' : Hp}, Kp st G3 G' → ∃ g', [some (V.ref a), some (.int (0 + ((i : Nat) : Int))), some (.ref st), some (.ref t), some (.int (h : Nat)), y5, y6, y7, y8, y9, y10, y11, y12, y13, none, none, none, none] = [some (V.ref a), some (.int (0 + ((i : Nat) : Int))), some (.ref st), some (.ref t), some (.int (h : Nat)), y5, y6, y7, y8, y9, y10, y11, y12, y13, none, none, none, none] ∧ Kp st G1 G' ∧ SheetAt G' t ins outs first g' ∧ SheetOk ins outs first g' :=
        fun k => ⟨g, rfl, k3'.trans k, SheetAt.kp k ⟨ti, to, l, ht, hti, hto, qs, hl, hat⟩, S⟩
      have eg : g[h]? = some g[h] := List.getElem?_eq_getElem hb
      generalize g[h] = node at eg
      have mem := List.mem_of_getElem? eg
      obtain ⟨q', eq, hN⟩ := hat.left eg
      obtain ⟨ps, hp, hps⟩ := id hN
      have iq : (qs.map V.ref)[h]? = some (.ref q') := by rw [List.getElem?_map, eq]; rfl
      refine ⟨_, rfl, t, _, 3, .ref l, rfl, rfl, SqT.of ht, atI_nat (j := 3) rfl, _, rfl, l, _, _, .ref q', rfl, rfl, SqL.of hl, atI_nat iq, Nat.zero_le _, fun p np => ?_⟩
      have sp : Same G3 (upd G3 p (.lst [])) := sameU np
      obtain ⟨ds, d1, d2, d3, d4⟩ := items_data K (upd G3 p (.lst [])) (ps.map V.ref) (node_shuf (hps.mono fun _ _ _ _ r => sp _ _ r) fun u hu => (S.names _ (S.shape.wire node mem u hu)).ok)
      refine ⟨.list ds, .list [], .lst (SqL.of (sp _ _ hp)) d1, .lst (SqL.of upd_same) .nil, items_shaped d2 d3, rfl, _, rfl, ?_⟩
      rw [eqv_nil, d4]
      have kp4 := Kp.of k3'.now sp
      generalize upd G3 p (.lst []) = G4 at kp4
      cases ps with
      | nil =>
        rw [show (!(([] : List Addr).map V.ref).isEmpty) = false from rfl]
        exact iteF (iteF (stay kp4))
      | cons p0 pr =>
        rw [show (!((p0 :: pr).map V.ref).isEmpty) = true from rfl]
        obtain ⟨⟨x, old⟩, r, rfl, ta0, tar⟩ := hps.uncons
        refine iteT ⟨_, rfl, st, 2, rfl, by decide, by decide, kp4.now, fun G5 t2 k5 _ => ⟨rfl, _, rfl, ite2 (fun _ => ?_) (fun _ => stay (kp4.trans k5))⟩⟩
        have k5' := kp4.trans k5
        have ht5 := k5'.tup ht
        have hl5 := k5'.refs hl
        have hp5 : G5 q' = some (.lst ((p0 :: pr).map V.ref)) := k5'.refs hp
        have ta5 : G5 p0 = some (.tup [.str x, .int (old : Nat)]) := k5'.tup ta0
        refine ⟨_, rfl, t, _, 3, .ref l, rfl, rfl, SqT.of ht5, atI_nat (j := 3) rfl, _, rfl, l, _, _, .ref q', rfl, rfl, SqL.of hl5, atI_nat iq, q', _, 0, .ref p0, rfl, rfl, SqL.of hp5, atI_nat (j := 0) rfl, p0, _, 0, .str x, rfl, rfl, SqT.of ta5, atI_nat (j := 0) rfl,
          _, rfl, _, rfl, t, _, 3, .ref l, rfl, rfl, SqT.of ht5, atI_nat (j := 3) rfl, l, _, rfl, .inl (SqL.of hl5), st, g.length, by rw [lq]; rfl, S.shape.some, by omega, k5.now, fun G6 to' k6 tb => ⟨two_ok, fun T nT => ?_⟩⟩
        have k6' := k5'.trans k6
        have sT : Same G6 (upd G6 T (.tup [.str x, .int (to' : Nat)])) := sameU nT
        have tT : (upd G6 T (.tup [.str x, .int (to' : Nat)])) T = some (.tup [.str x, .int (to' : Nat)]) := upd_same
        have k7 := k6'.same sT
        generalize upd G6 T (.tup [.str x, .int (to' : Nat)]) = G7 at tT k7
        have ht7 := k7.tup ht
        have hl7 := k7.refs hl
        have hp7 : G7 q' = some (.lst ((p0 :: pr).map V.ref)) := k7.refs hp
        refine ⟨_, rfl, t, _, 3, .ref l, rfl, rfl, SqT.of ht7, atI_nat (j := 3) rfl, _, rfl, l, _, _, .ref q', rfl, rfl, SqL.of hl7, atI_nat iq, q', _, 0, 0, rfl, rfl, hp7, ixN0 (Nat.succ_pos _), ?_⟩
        obtain ⟨o1, o2, o3, o4⟩ := hoff q' (List.mem_of_getElem? eq)
        have tup : ∀ {p : Addr} {u : Str × Nat} {o : HO}, TurnAt G7 p u → TurnAt (upd G7 q' o) p u := fun {p u o} e => by
          have e : G7 p = some (.tup [.str u.1, .int (u.2 : Nat)]) := e
          show upd G7 q' _ p = _
          rw [upd_ne (ne_of e hp7 (by intro z; cases z))]
          exact e
        have hat7 : At2 (NodeAt G7) qs g := hat.mono fun _ _ _ _ r => r.kp k7
        refine ⟨g.set h ((x, to') :: r), rfl, (k3'.trans k7).put o4, ⟨ti, to, l, ?_, ?_, ?_, qs, ?_, ?_⟩, S.lead eg tb⟩
        · rw [upd_ne (ne_of ht7 hp7 (by intro z; cases z))]
          exact ht7
        · show upd G7 q' _ ti = _
          rw [upd_ne o1.symm]
          exact hti.kp k7
        · show upd G7 q' _ to = _
          rw [upd_ne o2.symm]
          exact hto.kp k7
        · rw [upd_ne o3.symm]
          exact hl7
        · refine hat7.put (node := []) hndq eq hp7 ⟨T :: pr, upd_same, At2.cons (tup tT) ?_⟩
          exact tar.mono fun _ _ _ _ e => tup (k7.tup e)
    clear hat hl hto hti ht hndq hoff g40 lq hb
    rintro σ' G4 ⟨g', rfl, k4, hsh, S4⟩
    clear S k3'
    -- good = is_sheet(sheet)
    refine ⟨fun σ' G' => ∃ c : Bool, σ' = [some (.ref a), some (.int (0 + ((i : Nat) : Int))), some (.ref st), some (.ref t), some (.int (h : Nat)), some (.bl c), y6, y7, y8, y9, y10, y11, y12, y13, none, none, none, none] ∧ Kp st G1 G' ∧ SheetAt G' t ins outs first g' ∧ (c = true ↔ Cons (ins ++ outs) first g'),
      ⟨_, rfl, t, ins, outs, first, g', rfl, hsh, S4, fun G' s' => ⟨fun C => ⟨true, rfl, k4.same s', hsh.same s', ⟨fun _ => C, fun _ => rfl⟩⟩, fun C => ⟨false, rfl, k4.same s', hsh.same s', ⟨fun z => (nomatch z), fun z => absurd z C⟩⟩⟩⟩, ?_⟩
    rintro σ' G5 ⟨c, rfl, k5, hsh5, hc⟩
    -- order, numbered
    refine ⟨_, rfl, _, rfl, st, t, ins, outs, first, g', rfl, k5.now, hsh5, S4, fun G6 p6 oa nb order gn k6 e6 noa eoa hshn R => ⟨p6, _, rfl, SqT.of e6, rfl, _, _, rfl, _, _, rfl, rfl, ?_⟩⟩
    have k6' := k5.trans k6
    -- places, rewired
    refine ⟨_, rfl, _, rfl, st, t, ins, outs, first, g', rfl, k6.now, hsh5.kp k6, S4, fun G7 p7 pa rb places ins' outs' k7 e7 npa epa hshr q1 q2 W => ⟨p7, _, rfl, SqT.of e7, rfl, _, _, rfl, _, _, rfl, rfl, ?_⟩⟩
    have eoa7 := k7.keep _ _ (k6.ne noa) eoa
    have hshn7 := hshn.kp k7
    have hsh7 := (hsh5.kp k6).kp k7
    have npa5 := k7.ne npa
    have noa5 := k6.ne noa
    have k7' := k6'.trans k7
    clear hshn eoa e6 e7 hsh5 hsh npa noa k4
    -- others
    obtain ⟨ti, to, l, ht, hti, hto, qs, hl, hat⟩ := id hsh7
    have lq : (qs.map V.ref).length = g'.length := by rw [List.length_map, hat.1]
    have g40 := S4.shape.few
    refine ⟨_, rfl, t, _, 0, _, rfl, rfl, SqT.of ht, atI_nat (j := 0) rfl, _, rfl, t, _, 1, _, rfl, rfl, SqT.of ht, atI_nat (j := 1) rfl, _, rfl, t, _, 2, _, rfl, rfl, SqT.of ht, atI_nat (j := 2) rfl, _, rfl, t, _, 3, .ref l, rfl, rfl, SqT.of ht, atI_nat (j := 3) rfl, l, rfl, ⟨_, SqL.of hl⟩, fun E nE => ?_⟩
    refine lc_it (walk_list (xs := qs.map V.ref)) (fun j H' => ∃ qs2 gs, Kp st G7 H' ∧ H' E = some (.lst (qs2.map V.ref)) ∧ At2 (NodeAt H') qs2 gs ∧ gs.length = j ∧ (∀ q ∈ qs2, q ≠ E) ∧ ∀ (k : Nat) (node node' : List (Str × Nat)), g'[k]? = some node → gs[k]? = some node' → node'.Perm node)
      ⟨[], [], (Kp.refl k7.now).put nE, upd_same, At2.nil, rfl, (fun q hq => by cases hq), (fun k n n' _ h2 => by simp at h2)⟩ (fun i H' _ ⟨_, _, k, _⟩ => SqL.of (k.refs hl)) ?_ ?_
    · rintro j v H9 H8 hj ⟨qs2, gs, k8, e8, at8, lg, off, pms⟩ ⟨rfl, hv⟩
      rw [List.getElem?_map] at hv
      cases hp : qs[j]? with
      | none =>
        rw [hp] at hv
        cases hv
      | some q' =>
      rw [hp] at hv
      have ev : V.ref q' = v := Option.some.inj hv
      subst ev
      obtain ⟨node, hnode, hN⟩ := hat.right hp
      have mem := List.mem_of_getElem? hnode
      obtain ⟨ps, hq1, hq2⟩ := hN.kp k8
      have hj2 : j < g'.length := (List.getElem?_eq_some_iff.mp hnode).1
      refine ⟨rfl, _, rfl, _, rfl, st, q', _, rfl, k8.now, hq1, by rw [List.length_map, hq2.1]; exact S4.short node mem, node_shuf hq2 fun u hu => (S4.names _ (S4.shape.wire node mem u hu)).ok, fun H10 p ys k10 np ep pm => ?_⟩
      obtain ⟨ps2, rfl, pp⟩ := perm_of (f := V.ref) unRef (fun x => rfl) pm
      have e10 := k10.refs e8
      obtain ⟨node2, n2, pn⟩ := At2.perm pp (hq2.mono fun _ _ _ _ r => k10.tup r)
      have pE : p ≠ E := (ne_of_none e8 np).symm
      have N2 : NodeAt H10 p node2 := ⟨ps2, ep, n2⟩
      have lq2 := at8.1
      refine ⟨_, e10, small1000 (by rw [List.length_map]; omega), qs2 ++ [p], gs ++ [node2], (k8.trans k10).put nE, by rw [upd_same, List.map_append]; rfl, ?_, by rw [List.length_append, lg]; rfl, fun q hq => ?_, fun k n n' h1 h2 => ?_⟩
      · exact At2.snoc (at8.mono fun q u hq _ r => (r.kp k10).upd e10 (off q hq)) (N2.upd e10 pE)
      · rcases List.mem_append.mp hq with z | z
        · exact off q z
        · rw [List.mem_singleton.mp z]
          exact pE
      · by_cases hk : k < gs.length
        · rw [List.getElem?_append_left hk] at h2
          exact pms k n n' h1 h2
        · have hk2 : k = j := by
            have := (List.getElem?_eq_some_iff.mp h2).1
            rw [List.length_append] at this
            have one : [node2].length = 1 := rfl
            omega
          rw [hk2, hnode] at h1
          rw [hk2, ← lg, List.getElem?_append_right (Nat.le_refl _), Nat.sub_self] at h2
          rw [← Option.some.inj h1, ← Option.some.inj h2]
          exact pn
    rintro H8 ⟨qs2, go, k8, e8, at8, lg, off, pms⟩
    rw [lq] at lg
    have M : Mixed g' go := ⟨lg, pms⟩
    refine ⟨four_ok, fun ot not => ?_⟩
    have ht8 := k8.tup ht
    have s9 : Same H8 (upd H8 ot (.tup [.ref ti, .ref to, .str (bS first), .ref E])) := sameU not
    have k9 := k8.same s9
    have hsho : SheetAt (upd H8 ot (.tup [.ref ti, .ref to, .str (bS first), .ref E])) ot ins outs first go := ⟨ti, to, E, upd_same, (hti.kp k8).same s9, (hto.kp k8).same s9, NodesAt.same s9 ⟨qs2, e8, at8⟩⟩
    generalize upd H8 ot (.tup [.ref ti, .ref to, .str (bS first), .ref E]) = G9 at k9 hsho
    have eoa9 := k9.keep _ _ noa5 eoa7
    have epa9 := k9.keep _ _ npa5 epa
    have hshn9 := hshn7.kp k9
    have hshr9 := hshr.kp k9
    have hsh9 := hsh7.kp k9
    have k9' := k7'.trans k9
    clear s9 ht8 at8 e8 k8 hat hl hto hti ht hsh7 hshr hshn7 epa eoa7 k7' k7 k6' k6 k5 nE off pms lg lq
    have kinds : ∀ v ∈ [V.ref nb, V.ref rb, V.ref ot], ∃ (u : Addr) (is os : List Str) (f : List Bool) (gg : List (List (Str × Nat))), v = .ref u ∧ SheetAt G9 u is os f gg ∧ SheetOk is os f gg ∧ (Cons (ins ++ outs) first g' ↔ Cons (is ++ os) f gg) := by
      intro v hv
      rcases List.mem_cons.mp hv with e | hv
      · exact ⟨nb, ins, outs, first, gn, e, hshn9, S4.ren R, R.cons S4.shape⟩
      rcases List.mem_cons.mp hv with e | hv
      · exact ⟨rb, ins', outs', _, g', e, hshr9, S4.rew q1 q2 W, W.cons S4.len⟩
      · exact ⟨ot, ins, outs, first, go, List.mem_singleton.mp hv, hsho, S4.mixed M, Cons.congr M.reach⟩
    -- for one in [numbered, rewired, others]
    refine ⟨_, rfl, _, rfl, _, rfl, three_ok, fun N nN => ⟨N, rfl, ⟨_, SqL.of upd_same⟩, ?_⟩⟩
    have sN : Same G9 (upd G9 N (.lst [.ref nb, .ref rb, .ref ot])) := sameU nN
    have eN : (upd G9 N (.lst [.ref nb, .ref rb, .ref ot])) N = some (.lst [.ref nb, .ref rb, .ref ot]) := upd_same
    refine for_it (walk_list (xs := [.ref nb, .ref rb, .ref ot])) (fun j σ H' => ∃ y, σ = [some (.ref a), some (.int (0 + ((i : Nat) : Int))), some (.ref st), some (.ref t), some (.int (h : Nat)), some (.bl c), some (.ref oa), some (.ref nb), some (.ref pa), some (.ref rb), some (.ref ot), y, y12, y13, none, none, none, none] ∧ Same (upd G9 N (.lst [.ref nb, .ref rb, .ref ot])) H')
      ⟨y11, rfl, Same.refl _⟩ (fun _ _ H' _ ⟨_, _, s⟩ => SqL.of (s _ _ eN)) ?_ ?_
    · rintro j v σ G11 G10 hj ⟨y, rfl, s10⟩ ⟨rfl, hv⟩
      obtain ⟨u, is, os, f, gg, rfl, su, ok, iff⟩ := kinds v (List.mem_of_getElem? hv)
      refine ⟨_, rfl, u, is, os, f, gg, rfl, (su.same sN).same s10, ok, fun G12 s12 => ⟨fun C => ?_, fun C => ?_⟩⟩
      · have ec : c = true := hc.mpr (iff.mpr C)
        subst ec
        exact ⟨_, rfl, rfl, _, rfl, iteNS rfl ⟨_, rfl, s10.trans s12⟩⟩
      · have ec : c = false := by
          cases c with
          | false => rfl
          | true => exact absurd (iff.mp (hc.mp rfl)) C
        subst ec
        exact ⟨_, rfl, rfl, _, rfl, iteNS rfl ⟨_, rfl, s10.trans s12⟩⟩
    rintro σ G10 ⟨y, rfl, s10⟩
    have s10 := sN.trans s10
    have k10 := k9'.same s10
    refine ⟨_, rfl, c, rfl, ?_⟩
    cases c with
    | false => exact iteF ⟨_, _, _, _, _, _, _, _, _, _, _, _, _, rfl, back k10⟩
    | true =>
      have C := hc.mp rfl
      -- told
      refine iteT ⟨_, rfl, t, ins, outs, first, g', rfl, hsh9.same s10, S4, C, fun L IL G12 tl s12 ntl etl => ?_⟩
      have s12 := s10.trans s12
      have lenL := IL.len
      have g40 := S4.shape.few
      -- signs_of(numbered) != [told[old] for old in order]
      refine ⟨_, rfl, nb, ins, outs, first, gn, rfl, hshn9.same s12, S4.ren R, (R.cons S4.shape).mp C, fun L2 IL2 G13 p2 s13 np2 e13 => ?_⟩
      have e2 : L2 = order.map fun k => L.getD k none := by
        apply List.ext_getElem?
        intro m
        rw [R.signs IL IL2 m, List.getElem?_map]
        cases em : order[m]? with
        | none => rfl
        | some k =>
          have hk : k < L.length := by rw [lenL]; exact R.lt em
          show L[k]? = some (L.getD k none)
          rw [List.getD_eq_getElem?_getD, List.getElem?_eq_getElem hk]
          rfl
      have etl13 := s13 _ _ etl
      have s13 := s12.trans s13
      have lo := R.olen
      refine ⟨_, rfl, oa, rfl, ⟨_, SqL.of (s13 _ _ eoa9)⟩, fun D nD => ?_⟩
      refine lc_it (walk_list (xs := order.map fun k => V.int ((k : Nat) : Int))) (fun j H' => Same G13 H' ∧ H' D = some (.lst (((order.take j).map fun k => L.getD k none).map optV))) ⟨sameU nD, upd_same⟩ (fun _ H' _ p => SqL.of (p.1 _ _ (s13 _ _ eoa9))) ?_ ?_
      · rintro j v G15 G14 hj ⟨s14, d14⟩ ⟨rfl, hv⟩
        rw [List.getElem?_map] at hv
        cases ho : order[j]? with
        | none =>
          rw [ho] at hv
          cases hv
        | some old =>
        rw [ho] at hv
        have ev : V.int (old : Nat) = v := Option.some.inj hv
        subst ev
        have hk : old < L.length := by rw [lenL]; exact R.lt ho
        have hjl := (List.getElem?_eq_some_iff.mp ho).1
        refine ⟨rfl, _, rfl, _, rfl, tl, _, _, optV (L.getD old none), rfl, rfl, SqL.of (s14 _ _ etl13), atI_nat ?_, _, d14, small1000 ?_, s14.put nD, ?_⟩
        · rw [List.getElem?_map, List.getElem?_eq_getElem hk, List.getD_eq_getElem?_getD, List.getElem?_eq_getElem hk]
          rfl
        · rw [List.length_map, List.length_map, List.length_take]
          omega
        · rw [upd_same, List.take_add_one, ho, List.map_append, List.map_append]
          rfl
      rintro G14 ⟨s14, d14⟩
      rw [List.length_map, List.take_of_length_le (Nat.le_refl _), ← e2] at d14
      refine ne_opts (s14 _ _ e13) d14 ⟨_, rfl, iteF ?_⟩
      have etl14 := s14 _ _ etl13
      have s14 := s13.trans s14
      clear d14 nD e13
      -- signs_of(others) != told
      refine ⟨_, rfl, ot, ins, outs, first, go, rfl, hsho.same s14, S4.mixed M, (Cons.congr M.reach).mp C, fun L3 IL3 G15 p3 s15 np3 e15 => ⟨_, rfl, ?_⟩⟩
      rw [← IsSigns.uniq IL IL3 M.1.symm M.reach] at e15
      have etl15 := s15 _ _ etl14
      refine ne_opts e15 etl15 ⟨_, rfl, iteF ?_⟩
      have s15 := s14.trans s15
      clear e15 etl14 etl13
      -- signs_of(rewired) != [_law_picked(one, places) for one in told]
      refine ⟨_, rfl, rb, ins', outs', pick places first, g', rfl, hshr9.same s15, S4.rew q1 q2 W, (W.cons S4.len).mp C, fun L4 IL4 G16 p4 s16 np4 e16 => ?_⟩
      rw [W.signs S4.len IL IL4] at e16
      have etl16 := s16 _ _ etl15
      have s16 := s15.trans s16
      have many := S4.many
      have lenW := W.len
      refine ⟨_, rfl, tl, rfl, ⟨_, SqL.of etl16⟩, fun D nD => ?_⟩
      refine lc_it (walk_list (xs := L.map optV)) (fun j H' => Same G16 H' ∧ H' D = some (.lst (((L.take j).map fun o => o.map (pick places)).map optV))) ⟨sameU nD, upd_same⟩ (fun _ H' _ p => SqL.of (p.1 _ _ etl16)) ?_ ?_
      · rintro j v G18 G17 hj ⟨s17, d17⟩ ⟨rfl, hv⟩
        rw [List.getElem?_map] at hv
        cases ho : L[j]? with
        | none =>
          rw [ho] at hv
          cases hv
        | some o =>
        rw [ho] at hv
        have ev : optV o = v := Option.some.inj hv
        subst ev
        have hjl := (List.getElem?_eq_some_iff.mp ho).1
        refine ⟨rfl, _, rfl, _, rfl, o, pa, places, rfl, s17 _ _ (s16 _ _ epa9), by omega, fun s hs => ?_, fun G19 s19 => ⟨_, s19 _ _ d17, small1000 ?_, (s17.trans s19).put nD, ?_⟩⟩
        · rw [hs] at ho
          have r := ((IL.at_ j s).mp ho).1
          have el : s.length = (ins ++ outs).length := r.len.trans S4.len
          exact ⟨by omega, fun p hp => by rw [el]; exact W.lt p hp⟩
        · rw [List.length_map, List.length_map, List.length_take]
          omega
        · rw [upd_same, List.take_add_one, ho, List.map_append, List.map_append]
          rfl
      rintro G17 ⟨s17, d17⟩
      rw [List.length_map, List.take_of_length_le (Nat.le_refl _)] at d17
      refine ne_opts (s17 _ _ e16) d17 ⟨_, rfl, iteF ?_⟩
      have etl17 := s17 _ _ etl16
      have s17 := s16.trans s17
      clear d17 nD e16 etl16 etl15
      -- bare
      obtain ⟨ti', to', l', ht', hti', hto', qs', hl', hat'⟩ := hsh9.same s17
      have lq' : qs'.length = g'.length := hat'.1
      refine ⟨_, rfl, t, _, 3, .ref l', rfl, rfl, SqT.of ht', atI_nat (j := 3) rfl, _, rfl, l', tl, _, _, rfl, SqL.of hl', SqL.of etl17, fun D nD => ?_⟩
      refine lc_it (walk_zip (xs := qs'.map V.ref) (ys := L.map optV) (n := g'.length) (by rw [List.length_map, List.length_map]; omega)) (fun j H' => ∃ qs3 : List Addr, Same G17 H' ∧ H' D = some (.lst (qs3.map V.ref)) ∧ At2 (NodeAt H') qs3 ((bareG g' L).take j) ∧ ∀ q ∈ qs3, q ≠ D)
        ⟨[], sameU nD, upd_same, At2.nil, (fun q hq => by cases hq)⟩ (fun _ H' _ ⟨_, s, _⟩ => ⟨SqL.of (s _ _ hl'), SqL.of (s _ _ etl17)⟩) ?_ ?_
      · rintro j v G18 G19 hj ⟨qs3, s18, d18, at18, off⟩ ⟨T, x, y, rfl, nT, rfl, hx, hy⟩
        have hx : (qs'.map V.ref)[j]? = some x := hx
        have hy : (L.map optV)[j]? = some y := hy
        rw [List.getElem?_map] at hx hy
        cases hq : qs'[j]? with
        | none =>
          rw [hq] at hx
          cases hx
        | some q' =>
        cases ho : L[j]? with
        | none =>
          rw [ho] at hy
          cases hy
        | some o =>
        rw [hq] at hx
        rw [ho] at hy
        have ex : V.ref q' = x := Option.some.inj hx
        have ey : optV o = y := Option.some.inj hy
        subst ex ey
        obtain ⟨node, hnode, hN⟩ := hat'.right hq
        obtain ⟨ps, hp, hps⟩ := id hN
        have short := S4.short node (List.mem_of_getElem? hnode)
        have tT : (upd G18 T (.tup [.ref q', optV o])) T = some (.tup [.ref q', optV o]) := upd_same
        have sT : Same G18 (upd G18 T (.tup [.ref q', optV o])) := sameU nT
        have d19 := sT _ _ d18
        have s19 := s18.trans sT
        have at19 : At2 (NodeAt (upd G18 T (.tup [.ref q', optV o]))) qs3 ((bareG g' L).take j) := at18.mono fun _ _ _ _ r => r.same sT
        generalize upd G18 T (.tup [.ref q', optV o]) = G20 at tT s19 d19 at19
        refine ⟨T, _, rfl, SqT.of tT, rfl, _, _, rfl, _, _, rfl, rfl, rfl, ?_⟩
        refine ⟨_, rfl, q', rfl, ⟨_, SqL.of (s19 _ _ hp)⟩, fun D2 nD2 => ?_⟩
        refine lc_it (walk_list (xs := ps.map V.ref)) (fun k H' => Same G20 H' ∧ H' D2 = some (.lst ((if o.isSome then ps.take k else []).map V.ref))) ⟨sameU nD2, by rw [upd_same]; cases o <;> rfl⟩ (fun _ H' _ p => SqL.of (p.1 _ _ (s19 _ _ hp))) ?_ ?_
        · rintro k v G22 G21 hk ⟨s21, d21⟩ ⟨rfl, hv⟩
          rw [List.getElem?_map] at hv
          cases hpk : ps[k]? with
          | none =>
            rw [hpk] at hv
            cases hv
          | some p =>
          rw [hpk] at hv
          have ev : V.ref p = v := Option.some.inj hv
          subst ev
          cases o with
          | none => exact ⟨rfl, _, rfl, rfl, _, rfl, iteNS rfl ⟨s21, d21⟩⟩
          | some s =>
            refine ⟨rfl, _, rfl, rfl, _, rfl, ?_⟩
            rw [show decide (optV (some s) = V.non) = false from decide_eq_false (fun z => nomatch z)]
            refine iteT ⟨_, rfl, _, d21, small1000 ?_, s21.put nD2, ?_⟩
            · show ((ps.take k).map V.ref).length ≤ 1000
              have := hps.1
              rw [List.length_map, List.length_take]
              omega
            · rw [upd_same]
              show some (HO.lst ((ps.take k).map V.ref ++ [V.ref p])) = some (HO.lst ((ps.take (k + 1)).map V.ref))
              rw [List.take_add_one, hpk, List.map_append]
              rfl
        · rintro G21 ⟨s21, d21⟩
          rw [List.length_map, List.take_of_length_le (Nat.le_refl _)] at d21
          have s21' := s19.trans s21
          have e := bareG_get hnode ho
          have N2 : NodeAt G21 D2 (if o.isSome then node else []) := by
            refine ⟨_, d21, ?_⟩
            cases o with
            | none => exact At2.nil
            | some s => exact hps.mono fun _ _ _ _ r => s21' _ _ r
          have d22 := s21 _ _ d19
          have D2D : D2 ≠ D := (ne_of_none d19 nD2).symm
          have l3 := at19.1
          rw [List.length_take] at l3
          refine ⟨_, d22, small1000 (by rw [List.length_map]; omega), qs3 ++ [D2], s21'.put nD, by rw [upd_same, List.map_append]; rfl, ?_, fun q hq => ?_⟩
          · rw [List.take_add_one, e]
            exact At2.snoc (at19.mono fun q u hq _ r => (r.same s21).upd d22 (off q hq)) (N2.upd d22 D2D)
          · rcases List.mem_append.mp hq with z | z
            · exact off q z
            · rw [List.mem_singleton.mp z]
              exact D2D
      rintro G18 ⟨qs3, s18, d18, at18, off⟩
      rw [← bareG_len (g := g') (L := L) lenL, List.take_of_length_le (Nat.le_refl _)] at at18
      have ht18 := s18 _ _ ht'
      have etl18 := s18 _ _ etl17
      -- signs_of((.., bare)) != told
      refine ⟨_, rfl, t, _, 0, _, rfl, rfl, SqT.of ht18, atI_nat (j := 0) rfl, _, rfl, t, _, 1, _, rfl, rfl, SqT.of ht18, atI_nat (j := 1) rfl, _, rfl, t, _, 2, _, rfl, rfl, SqT.of ht18, atI_nat (j := 2) rfl, _, rfl, four_ok, fun bt nbt => ?_⟩
      have s19 : Same G18 (upd G18 bt (.tup [.ref ti', .ref to', .str (bS first), .ref D])) := sameU nbt
      have etl19 := s19 _ _ etl18
      refine ⟨bt, ins, outs, first, bareG g' L, rfl, ⟨ti', to', D, upd_same, (hti'.same s18).same s19, (hto'.same s18).same s19, NodesAt.same s19 ⟨qs3, d18, at18⟩⟩, S4.bare lenL, (Cons.congr (bare_reach S4.shape IL)).mp C, fun L5 IL5 G20 p5 s20 np5 e20 => ⟨_, rfl, ?_⟩⟩
      rw [← IsSigns.uniq IL IL5 (bareG_len lenL).symm (bare_reach S4.shape IL)] at e20
      refine ne_opts e20 (s20 _ _ etl19) ⟨_, rfl, iteF ⟨_, _, _, _, _, _, _, _, _, _, _, _, _, rfl, back (k9'.same (((s17.trans s18).trans s19).trans s20))⟩⟩
end
end K31
set_option Elab.async false
set_option linter.all false
set_option maxRecDepth 100000
set_option maxHeartbeats 4000000
namespace K31
open PySem PySem.Spec PyProof.Rows L2
theorem mk_def {K : PySem.W.Frag} {h : Heap} {mg : Str → Option Value} {x : Str} {st : Stmt} {f : Addr} {od an : Option Addr} {sl : Array (Option Value)} {oc kV dc pm cd ct : Value} (X : K.In h) (G : h.Ns mainGlobals mg)
    (a : PySem.W.nsIn K mainGlobals x = some (some (.ref f))) (l : K.lookup f = some ⟨oc, od, .func (PySem.W.fnOf x x (C8.fnArgs st) (C8.fnBody st) (C8.fnScope st) .none kV dc pm an cd ct), sl⟩) (c : PySem.W.codeIn K cd x = true) (k : PySem.W.keepIn K (.ref f) = true) :
    C8.Def K mg x st f (PySem.W.fnOf x x (C8.fnArgs st) (C8.fnBody st) (C8.fnScope st) .none kV dc pm an cd ct) :=
  ⟨⟨oc, od, .none, kV, dc, pm, an, cd, ct, sl, rfl, l, c⟩, PySem.W.mg_of X G a, k⟩
theorem all_mk {l : PySem.W.OpenLaw} {w : World} {K : PySem.W.Frag} {h : Heap} {mg : Str → Option Value} {fa : Addr} (X : K.In h) (G : h.Ns mainGlobals mg) (hfa : mg "law" = some (.ref fa))
    {f3 : Addr} {od3 an3 : Option Addr} {sl3 : Array (Option Value)} {oc3 kV3 dc3 pm3 cd3 ct3 : Value} (a3 : PySem.W.nsIn K mainGlobals "is_whole" = some (some (.ref f3))) (l3 : K.lookup f3 = some ⟨oc3, od3, .func (PySem.W.fnOf "is_whole" "is_whole" (C8.fnArgs s_is_whole) (C8.fnBody s_is_whole) (C8.fnScope s_is_whole) .none kV3 dc3 pm3 an3 cd3 ct3), sl3⟩) (c3 : PySem.W.codeIn K cd3 "is_whole" = true) (k3 : PySem.W.keepIn K (.ref f3) = true)
    {f4 : Addr} {od4 an4 : Option Addr} {sl4 : Array (Option Value)} {oc4 kV4 dc4 pm4 cd4 ct4 : Value} (a4 : PySem.W.nsIn K mainGlobals "is_name" = some (some (.ref f4))) (l4 : K.lookup f4 = some ⟨oc4, od4, .func (PySem.W.fnOf "is_name" "is_name" (C8.fnArgs s_is_name) (C8.fnBody s_is_name) (C8.fnScope s_is_name) .none kV4 dc4 pm4 an4 cd4 ct4), sl4⟩) (c4 : PySem.W.codeIn K cd4 "is_name" = true) (k4 : PySem.W.keepIn K (.ref f4) = true)
    {f5 : Addr} {od5 an5 : Option Addr} {sl5 : Array (Option Value)} {oc5 kV5 dc5 pm5 cd5 ct5 : Value} (a5 : PySem.W.nsIn K mainGlobals "are_names" = some (some (.ref f5))) (l5 : K.lookup f5 = some ⟨oc5, od5, .func (PySem.W.fnOf "are_names" "are_names" (C8.fnArgs s_are_names) (C8.fnBody s_are_names) (C8.fnScope s_are_names) .none kV5 dc5 pm5 an5 cd5 ct5), sl5⟩) (c5 : PySem.W.codeIn K cd5 "are_names" = true) (k5 : PySem.W.keepIn K (.ref f5) = true)
    {f6 : Addr} {od6 an6 : Option Addr} {sl6 : Array (Option Value)} {oc6 kV6 dc6 pm6 cd6 ct6 : Value} (a6 : PySem.W.nsIn K mainGlobals "are_signs" = some (some (.ref f6))) (l6 : K.lookup f6 = some ⟨oc6, od6, .func (PySem.W.fnOf "are_signs" "are_signs" (C8.fnArgs s_are_signs) (C8.fnBody s_are_signs) (C8.fnScope s_are_signs) .none kV6 dc6 pm6 an6 cd6 ct6), sl6⟩) (c6 : PySem.W.codeIn K cd6 "are_signs" = true) (k6 : PySem.W.keepIn K (.ref f6) = true)
    {f7 : Addr} {od7 an7 : Option Addr} {sl7 : Array (Option Value)} {oc7 kV7 dc7 pm7 cd7 ct7 : Value} (a7 : PySem.W.nsIn K mainGlobals "is_turn" = some (some (.ref f7))) (l7 : K.lookup f7 = some ⟨oc7, od7, .func (PySem.W.fnOf "is_turn" "is_turn" (C8.fnArgs s_is_turn) (C8.fnBody s_is_turn) (C8.fnScope s_is_turn) .none kV7 dc7 pm7 an7 cd7 ct7), sl7⟩) (c7 : PySem.W.codeIn K cd7 "is_turn" = true) (k7 : PySem.W.keepIn K (.ref f7) = true)
    {f8 : Addr} {od8 an8 : Option Addr} {sl8 : Array (Option Value)} {oc8 kV8 dc8 pm8 cd8 ct8 : Value} (a8 : PySem.W.nsIn K mainGlobals "is_node" = some (some (.ref f8))) (l8 : K.lookup f8 = some ⟨oc8, od8, .func (PySem.W.fnOf "is_node" "is_node" (C8.fnArgs s_is_node) (C8.fnBody s_is_node) (C8.fnScope s_is_node) .none kV8 dc8 pm8 an8 cd8 ct8), sl8⟩) (c8 : PySem.W.codeIn K cd8 "is_node" = true) (k8 : PySem.W.keepIn K (.ref f8) = true)
    {f9 : Addr} {od9 an9 : Option Addr} {sl9 : Array (Option Value)} {oc9 kV9 dc9 pm9 cd9 ct9 : Value} (a9 : PySem.W.nsIn K mainGlobals "behind_turn" = some (some (.ref f9))) (l9 : K.lookup f9 = some ⟨oc9, od9, .func (PySem.W.fnOf "behind_turn" "behind_turn" (C8.fnArgs s_behind_turn) (C8.fnBody s_behind_turn) (C8.fnScope s_behind_turn) .none kV9 dc9 pm9 an9 cd9 ct9), sl9⟩) (c9 : PySem.W.codeIn K cd9 "behind_turn" = true) (k9 : PySem.W.keepIn K (.ref f9) = true)
    {f10 : Addr} {od10 an10 : Option Addr} {sl10 : Array (Option Value)} {oc10 kV10 dc10 pm10 cd10 ct10 : Value} (a10 : PySem.W.nsIn K mainGlobals "rows_of" = some (some (.ref f10))) (l10 : K.lookup f10 = some ⟨oc10, od10, .func (PySem.W.fnOf "rows_of" "rows_of" (C8.fnArgs s_rows_of) (C8.fnBody s_rows_of) (C8.fnScope s_rows_of) .none kV10 dc10 pm10 an10 cd10 ct10), sl10⟩) (c10 : PySem.W.codeIn K cd10 "rows_of" = true) (k10 : PySem.W.keepIn K (.ref f10) = true)
    {f11 : Addr} {od11 an11 : Option Addr} {sl11 : Array (Option Value)} {oc11 kV11 dc11 pm11 cd11 ct11 : Value} (a11 : PySem.W.nsIn K mainGlobals "is_sheet" = some (some (.ref f11))) (l11 : K.lookup f11 = some ⟨oc11, od11, .func (PySem.W.fnOf "is_sheet" "is_sheet" (C8.fnArgs s_is_sheet) (C8.fnBody s_is_sheet) (C8.fnScope s_is_sheet) .none kV11 dc11 pm11 an11 cd11 ct11), sl11⟩) (c11 : PySem.W.codeIn K cd11 "is_sheet" = true) (k11 : PySem.W.keepIn K (.ref f11) = true)
    {f12 : Addr} {od12 an12 : Option Addr} {sl12 : Array (Option Value)} {oc12 kV12 dc12 pm12 cd12 ct12 : Value} (a12 : PySem.W.nsIn K mainGlobals "signs_of" = some (some (.ref f12))) (l12 : K.lookup f12 = some ⟨oc12, od12, .func (PySem.W.fnOf "signs_of" "signs_of" (C8.fnArgs s_signs_of) (C8.fnBody s_signs_of) (C8.fnScope s_signs_of) .none kV12 dc12 pm12 an12 cd12 ct12), sl12⟩) (c12 : PySem.W.codeIn K cd12 "signs_of" = true) (k12 : PySem.W.keepIn K (.ref f12) = true)
    {f14 : Addr} {od14 an14 : Option Addr} {sl14 : Array (Option Value)} {oc14 kV14 dc14 pm14 cd14 ct14 : Value} (a14 : PySem.W.nsIn K mainGlobals "_law_cell" = some (some (.ref f14))) (l14 : K.lookup f14 = some ⟨oc14, od14, .func (PySem.W.fnOf "_law_cell" "_law_cell" (C8.fnArgs s_law_cell) (C8.fnBody s_law_cell) (C8.fnScope s_law_cell) .none kV14 dc14 pm14 an14 cd14 ct14), sl14⟩) (c14 : PySem.W.codeIn K cd14 "_law_cell" = true) (k14 : PySem.W.keepIn K (.ref f14) = true)
    {f15 : Addr} {od15 an15 : Option Addr} {sl15 : Array (Option Value)} {oc15 kV15 dc15 pm15 cd15 ct15 : Value} (a15 : PySem.W.nsIn K mainGlobals "_law_store" = some (some (.ref f15))) (l15 : K.lookup f15 = some ⟨oc15, od15, .func (PySem.W.fnOf "_law_store" "_law_store" (C8.fnArgs s_law_store) (C8.fnBody s_law_store) (C8.fnScope s_law_store) .none kV15 dc15 pm15 an15 cd15 ct15), sl15⟩) (c15 : PySem.W.codeIn K cd15 "_law_store" = true) (k15 : PySem.W.keepIn K (.ref f15) = true)
    {f16 : Addr} {od16 an16 : Option Addr} {sl16 : Array (Option Value)} {oc16 kV16 dc16 pm16 cd16 ct16 : Value} (a16 : PySem.W.nsIn K mainGlobals "_law_take" = some (some (.ref f16))) (l16 : K.lookup f16 = some ⟨oc16, od16, .func (PySem.W.fnOf "_law_take" "_law_take" (C8.fnArgs s_law_take) (C8.fnBody s_law_take) (C8.fnScope s_law_take) .none kV16 dc16 pm16 an16 cd16 ct16), sl16⟩) (c16 : PySem.W.codeIn K cd16 "_law_take" = true) (k16 : PySem.W.keepIn K (.ref f16) = true)
    {f17 : Addr} {od17 an17 : Option Addr} {sl17 : Array (Option Value)} {oc17 kV17 dc17 pm17 cd17 ct17 : Value} (a17 : PySem.W.nsIn K mainGlobals "_law_some_names" = some (some (.ref f17))) (l17 : K.lookup f17 = some ⟨oc17, od17, .func (PySem.W.fnOf "_law_some_names" "_law_some_names" (C8.fnArgs s_law_some_names) (C8.fnBody s_law_some_names) (C8.fnScope s_law_some_names) .none kV17 dc17 pm17 an17 cd17 ct17), sl17⟩) (c17 : PySem.W.codeIn K cd17 "_law_some_names" = true) (k17 : PySem.W.keepIn K (.ref f17) = true)
    {f18 : Addr} {od18 an18 : Option Addr} {sl18 : Array (Option Value)} {oc18 kV18 dc18 pm18 cd18 ct18 : Value} (a18 : PySem.W.nsIn K mainGlobals "_law_flip" = some (some (.ref f18))) (l18 : K.lookup f18 = some ⟨oc18, od18, .func (PySem.W.fnOf "_law_flip" "_law_flip" (C8.fnArgs s_law_flip) (C8.fnBody s_law_flip) (C8.fnScope s_law_flip) .none kV18 dc18 pm18 an18 cd18 ct18), sl18⟩) (c18 : PySem.W.codeIn K cd18 "_law_flip" = true) (k18 : PySem.W.keepIn K (.ref f18) = true)
    {f19 : Addr} {od19 an19 : Option Addr} {sl19 : Array (Option Value)} {oc19 kV19 dc19 pm19 cd19 ct19 : Value} (a19 : PySem.W.nsIn K mainGlobals "_law_sheet" = some (some (.ref f19))) (l19 : K.lookup f19 = some ⟨oc19, od19, .func (PySem.W.fnOf "_law_sheet" "_law_sheet" (C8.fnArgs s_law_sheet) (C8.fnBody s_law_sheet) (C8.fnScope s_law_sheet) .none kV19 dc19 pm19 an19 cd19 ct19), sl19⟩) (c19 : PySem.W.codeIn K cd19 "_law_sheet" = true) (k19 : PySem.W.keepIn K (.ref f19) = true)
    {f22 : Addr} {od22 an22 : Option Addr} {sl22 : Array (Option Value)} {oc22 kV22 dc22 pm22 cd22 ct22 : Value} (a22 : PySem.W.nsIn K mainGlobals "_law_shuffled" = some (some (.ref f22))) (l22 : K.lookup f22 = some ⟨oc22, od22, .func (PySem.W.fnOf "_law_shuffled" "_law_shuffled" (C8.fnArgs s_law_shuffled) (C8.fnBody s_law_shuffled) (C8.fnScope s_law_shuffled) .none kV22 dc22 pm22 an22 cd22 ct22), sl22⟩) (c22 : PySem.W.codeIn K cd22 "_law_shuffled" = true) (k22 : PySem.W.keepIn K (.ref f22) = true)
    {f23 : Addr} {od23 an23 : Option Addr} {sl23 : Array (Option Value)} {oc23 kV23 dc23 pm23 cd23 ct23 : Value} (a23 : PySem.W.nsIn K mainGlobals "_law_numbered" = some (some (.ref f23))) (l23 : K.lookup f23 = some ⟨oc23, od23, .func (PySem.W.fnOf "_law_numbered" "_law_numbered" (C8.fnArgs s_law_numbered) (C8.fnBody s_law_numbered) (C8.fnScope s_law_numbered) .none kV23 dc23 pm23 an23 cd23 ct23), sl23⟩) (c23 : PySem.W.codeIn K cd23 "_law_numbered" = true) (k23 : PySem.W.keepIn K (.ref f23) = true)
    {f24 : Addr} {od24 an24 : Option Addr} {sl24 : Array (Option Value)} {oc24 kV24 dc24 pm24 cd24 ct24 : Value} (a24 : PySem.W.nsIn K mainGlobals "_law_rewired" = some (some (.ref f24))) (l24 : K.lookup f24 = some ⟨oc24, od24, .func (PySem.W.fnOf "_law_rewired" "_law_rewired" (C8.fnArgs s_law_rewired) (C8.fnBody s_law_rewired) (C8.fnScope s_law_rewired) .none kV24 dc24 pm24 an24 cd24 ct24), sl24⟩) (c24 : PySem.W.codeIn K cd24 "_law_rewired" = true) (k24 : PySem.W.keepIn K (.ref f24) = true)
    {f25 : Addr} {od25 an25 : Option Addr} {sl25 : Array (Option Value)} {oc25 kV25 dc25 pm25 cd25 ct25 : Value} (a25 : PySem.W.nsIn K mainGlobals "_law_picked" = some (some (.ref f25))) (l25 : K.lookup f25 = some ⟨oc25, od25, .func (PySem.W.fnOf "_law_picked" "_law_picked" (C8.fnArgs s_law_picked) (C8.fnBody s_law_picked) (C8.fnScope s_law_picked) .none kV25 dc25 pm25 an25 cd25 ct25), sl25⟩) (c25 : PySem.W.codeIn K cd25 "_law_picked" = true) (k25 : PySem.W.keepIn K (.ref f25) = true)
    {f26 : Addr} {od26 an26 : Option Addr} {sl26 : Array (Option Value)} {oc26 kV26 dc26 pm26 cd26 ct26 : Value} (a26 : PySem.W.nsIn K mainGlobals "law" = some (some (.ref f26))) (l26 : K.lookup f26 = some ⟨oc26, od26, .func (PySem.W.fnOf "law" "law" (C8.fnArgs s_law) (C8.fnBody s_law) (C8.fnScope s_law) .none kV26 dc26 pm26 an26 cd26 ct26), sl26⟩) (c26 : PySem.W.codeIn K cd26 "law" = true) (k26 : PySem.W.keepIn K (.ref f26) = true)
    {tl tm : Tok} (gL : PySem.W.nsIn K mainGlobals "LETTERS" = some (some (.str ("abcdefghijklmnopqrstuvwxyz" : Str) tl))) (gM : PySem.W.nsIn K mainGlobals "MOST_NODES" = some (some (.int 40 tm)))
    (z0 : PySem.W.nsIn K mainGlobals "isinstance" = some none) (z1 : PySem.W.nsIn K mainGlobals "int" = some none) (z2 : PySem.W.nsIn K mainGlobals "bool" = some none) (z3 : PySem.W.nsIn K mainGlobals "str" = some none) (z4 : PySem.W.nsIn K mainGlobals "list" = some none) (z5 : PySem.W.nsIn K mainGlobals "tuple" = some none) (z6 : PySem.W.nsIn K mainGlobals "set" = some none) (z7 : PySem.W.nsIn K mainGlobals "len" = some none) (z8 : PySem.W.nsIn K mainGlobals "range" = some none) (z9 : PySem.W.nsIn K mainGlobals "zip" = some none) (z10 : PySem.W.nsIn K mainGlobals "min" = some none) (z11 : PySem.W.nsIn K mainGlobals "max" = some none) :
    ∃ fd : FuncData, (∀ (s : Shared) (v : Value), BindsTo s fd ⟨[v], []⟩ [("script", v)]) ∧ ∀ base : Heap, K.In base → base.Ns mainGlobals mg → FnOk l.prog w K mg base C8.CX0 5 fa fd ["script"] (sp_law K) := by
  have e := hfa.symm.trans (PySem.W.mg_of X G a26)
  cases e
  have T : Bi mg := ⟨PySem.W.mg_none_of X G z0, PySem.W.mg_none_of X G z1, PySem.W.mg_none_of X G z2, PySem.W.mg_none_of X G z3, PySem.W.mg_none_of X G z4, PySem.W.mg_none_of X G z5, PySem.W.mg_none_of X G z6, PySem.W.mg_none_of X G z7, PySem.W.mg_none_of X G z8, PySem.W.mg_none_of X G z9, PySem.W.mg_none_of X G z10, PySem.W.mg_none_of X G z11⟩
  have D3 := mk_def (st := s_is_whole) X G a3 l3 c3 k3
  have B3 := D3.fn.binds rfl (ps := ["thing"]) fun _ _ _ _ _ _ us hl => match us, hl with | [_], _ => rfl
  have D4 := mk_def (st := s_is_name) X G a4 l4 c4 k4
  have B4 := D4.fn.binds rfl (ps := ["thing"]) fun _ _ _ _ _ _ us hl => match us, hl with | [_], _ => rfl
  have D5 := mk_def (st := s_are_names) X G a5 l5 c5 k5
  have B5 := D5.fn.binds rfl (ps := ["thing"]) fun _ _ _ _ _ _ us hl => match us, hl with | [_], _ => rfl
  have D6 := mk_def (st := s_are_signs) X G a6 l6 c6 k6
  have B6 := D6.fn.binds rfl (ps := ["thing", "many"]) fun _ _ _ _ _ _ us hl => match us, hl with | [_, _], _ => rfl
  have D7 := mk_def (st := s_is_turn) X G a7 l7 c7 k7
  have B7 := D7.fn.binds rfl (ps := ["thing", "names", "many"]) fun _ _ _ _ _ _ us hl => match us, hl with | [_, _, _], _ => rfl
  have D8 := mk_def (st := s_is_node) X G a8 l8 c8 k8
  have B8 := D8.fn.binds rfl (ps := ["thing", "names", "many"]) fun _ _ _ _ _ _ us hl => match us, hl with | [_, _, _], _ => rfl
  have D9 := mk_def (st := s_behind_turn) X G a9 l9 c9 k9
  have B9 := D9.fn.binds rfl (ps := ["names", "signs", "name"]) fun _ _ _ _ _ _ us hl => match us, hl with | [_, _, _], _ => rfl
  have D10 := mk_def (st := s_rows_of) X G a10 l10 c10 k10
  have B10 := D10.fn.binds rfl (ps := ["names", "first", "nodes"]) fun _ _ _ _ _ _ us hl => match us, hl with | [_, _, _], _ => rfl
  have D11 := mk_def (st := s_is_sheet) X G a11 l11 c11 k11
  have B11 := D11.fn.binds rfl (ps := ["thing"]) fun _ _ _ _ _ _ us hl => match us, hl with | [_], _ => rfl
  have D12 := mk_def (st := s_signs_of) X G a12 l12 c12 k12
  have B12 := D12.fn.binds rfl (ps := ["sheet"]) fun _ _ _ _ _ _ us hl => match us, hl with | [_], _ => rfl
  have D14 := mk_def (st := s_law_cell) X G a14 l14 c14 k14
  have B14 := D14.fn.binds rfl (ps := ["script", "k"]) fun _ _ _ _ _ _ us hl => match us, hl with | [_, _], _ => rfl
  have D15 := mk_def (st := s_law_store) X G a15 l15 c15 k15
  have B15 := D15.fn.binds rfl (ps := ["cell"]) fun _ _ _ _ _ _ us hl => match us, hl with | [_], _ => rfl
  have D16 := mk_def (st := s_law_take) X G a16 l16 c16 k16
  have B16 := D16.fn.binds rfl (ps := ["store", "many"]) fun _ _ _ _ _ _ us hl => match us, hl with | [_, _], _ => rfl
  have D17 := mk_def (st := s_law_some_names) X G a17 l17 c17 k17
  have B17 := D17.fn.binds rfl (ps := ["store", "many"]) fun _ _ _ _ _ _ us hl => match us, hl with | [_, _], _ => rfl
  have D18 := mk_def (st := s_law_flip) X G a18 l18 c18 k18
  have B18 := D18.fn.binds rfl (ps := ["signs", "at"]) fun _ _ _ _ _ _ us hl => match us, hl with | [_, _], _ => rfl
  have D19 := mk_def (st := s_law_sheet) X G a19 l19 c19 k19
  have B19 := D19.fn.binds rfl (ps := ["store", "most"]) fun _ _ _ _ _ _ us hl => match us, hl with | [_, _], _ => rfl
  have D22 := mk_def (st := s_law_shuffled) X G a22 l22 c22 k22
  have B22 := D22.fn.binds rfl (ps := ["store", "some"]) fun _ _ _ _ _ _ us hl => match us, hl with | [_, _], _ => rfl
  have D23 := mk_def (st := s_law_numbered) X G a23 l23 c23 k23
  have B23 := D23.fn.binds rfl (ps := ["store", "sheet"]) fun _ _ _ _ _ _ us hl => match us, hl with | [_, _], _ => rfl
  have D24 := mk_def (st := s_law_rewired) X G a24 l24 c24 k24
  have B24 := D24.fn.binds rfl (ps := ["store", "sheet"]) fun _ _ _ _ _ _ us hl => match us, hl with | [_, _], _ => rfl
  have D25 := mk_def (st := s_law_picked) X G a25 l25 c25 k25
  have B25 := D25.fn.binds rfl (ps := ["signs", "places"]) fun _ _ _ _ _ _ us hl => match us, hl with | [_, _], _ => rfl
  have D26 := mk_def (st := s_law) X G a26 l26 c26 k26
  have B26 := D26.fn.binds rfl (ps := ["script"]) fun _ _ _ _ _ _ us hl => match us, hl with | [_], _ => rfl
  have vL : ∃ u, mg "LETTERS" = some u ∧ RelV (.str letters) u := ⟨_, PySem.W.mg_of X G gL, _, rfl⟩
  have vM : ∃ u, mg "MOST_NODES" = some u ∧ RelV (.int 40) u := ⟨_, PySem.W.mg_of X G gM, _, rfl⟩
  refine ⟨PySem.W.fnOf "law" "law" (C8.fnArgs s_law) (C8.fnBody s_law) (C8.fnScope s_law) .none kV26 dc26 pm26 an26 cd26 ct26, fun s v => .of_eq rfl, fun base _ _ => ?_⟩
  have e3 : C8.Cal l.prog w K mg base 1 "is_whole" sp_is_whole [] := cal_is_whole D3 B3 T
  have e4 : C8.Cal l.prog w K mg base 1 "is_name" sp_is_name [] := cal_is_name D4 B4 T vL
  have e5 := cal_are_names D5 B5 T e4
  have e6 : C8.Cal l.prog w K mg base 1 "are_signs" sp_are_signs [] := cal_are_signs D6 B6 T
  have e7 := cal_is_turn D7 B7 T e3
  have e8 := cal_is_node D8 B8 T e7
  have e9 : C8.Cal l.prog w K mg base 1 "behind_turn" sp_behind_turn [] := cal_behind_turn D9 B9 T
  have e10 := cal_rows_of D10 B10 e9
  have e11 := cal_is_sheet D11 B11 T vM e5 e6 e8 e10
  have e12 := cal_signs_of D12 B12 T e10
  have e14 : C8.Cal l.prog w K mg base 1 "_law_cell" (sp_law_cell K) [] := cal_law_cell D14 B14 T
  have e15 : C8.Cal l.prog w K mg base 1 "_law_store" sp_law_store [] := cal_law_store D15 B15
  have e16 : C8.Cal l.prog w K mg base 1 "_law_take" sp_law_take [] := cal_law_take D16 B16
  have e17 := cal_law_some_names D17 B17 T e16
  have e18 : C8.Cal l.prog w K mg base 1 "_law_flip" sp_law_flip [] := cal_law_flip D18 B18 T
  have e19 := cal_law_sheet D19 B19 T e16 e17 e18
  have e22 := cal_law_shuffled D22 B22 T e16
  have e23 := cal_law_numbered D23 B23 T e22
  have e24 := cal_law_rewired D24 B24 T e22
  have e25 : C8.Cal l.prog w K mg base 1 "_law_picked" sp_law_picked [] := cal_law_picked D25 B25
  exact cal_law D26 B26 T e14 e15 e16 e19 e11 e12 e23 e24 e22 e25
end K31
open PySem PySem.W PyProof.Rows
set_option maxRecDepth 100000 in
set_option maxHeartbeats 0 in
theorem PySem.Challenge.cw_anydelay_k31_whole_sheets_otherwise_holds : PySem.Challenge.rw_anydelay_k31_whole_sheets_otherwise.Holds := by
  w_on; o_law; k_head; (case hw => w_witness2)
  k_fill
  refine L2.walk_of (l := PySem.Challenge.rw_anydelay_k31_whole_sheets_otherwise) (n := 63) (k := 5) (x := "script") (CX := fun _ => C8.CX0) (sp := fun w => K31.sp_law _) rfl (by decide) rfl ⟨rfl, by decide, by decide⟩ (fun w h Y => PySem.W.kIn_of Y) ?F (fun _ _ a ns hl _ hS => ⟨a, ns, rfl, hS, hl, fun _ => rfl⟩) (fun _ _ _ _ _ h => h)
  case F =>
    intro w mg fa h KX G hmg
    refine' K31.all_mk KX G hmg ?a3 ?l3 ?c3 ?k3 ?a4 ?l4 ?c4 ?k4 ?a5 ?l5 ?c5 ?k5 ?a6 ?l6 ?c6 ?k6 ?a7 ?l7 ?c7 ?k7 ?a8 ?l8 ?c8 ?k8 ?a9 ?l9 ?c9 ?k9 ?a10 ?l10 ?c10 ?k10 ?a11 ?l11 ?c11 ?k11 ?a12 ?l12 ?c12 ?k12 ?a14 ?l14 ?c14 ?k14 ?a15 ?l15 ?c15 ?k15 ?a16 ?l16 ?c16 ?k16 ?a17 ?l17 ?c17 ?k17 ?a18 ?l18 ?c18 ?k18 ?a19 ?l19 ?c19 ?k19 ?a22 ?l22 ?c22 ?k22 ?a23 ?l23 ?c23 ?k23 ?a24 ?l24 ?c24 ?k24 ?a25 ?l25 ?c25 ?k25 ?a26 ?l26 ?c26 ?k26 ?gL ?gM ?z0 ?z1 ?z2 ?z3 ?z4 ?z5 ?z6 ?z7 ?z8 ?z9 ?z10 ?z11
    (case a3 => k_is); (case l3 => k_is); (case c3 => k_is); (case k3 => k_is)
    (case a4 => k_is); (case l4 => k_is); (case c4 => k_is); (case k4 => k_is)
    (case a5 => k_is); (case l5 => k_is); (case c5 => k_is); (case k5 => k_is)
    (case a6 => k_is); (case l6 => k_is); (case c6 => k_is); (case k6 => k_is)
    (case a7 => k_is); (case l7 => k_is); (case c7 => k_is); (case k7 => k_is)
    (case a8 => k_is); (case l8 => k_is); (case c8 => k_is); (case k8 => k_is)
    (case a9 => k_is); (case l9 => k_is); (case c9 => k_is); (case k9 => k_is)
    (case a10 => k_is); (case l10 => k_is); (case c10 => k_is); (case k10 => k_is)
    (case a11 => k_is); (case l11 => k_is); (case c11 => k_is); (case k11 => k_is)
    (case a12 => k_is); (case l12 => k_is); (case c12 => k_is); (case k12 => k_is)
    (case a14 => k_is); (case l14 => k_is); (case c14 => k_is); (case k14 => k_is)
    (case a15 => k_is); (case l15 => k_is); (case c15 => k_is); (case k15 => k_is)
    (case a16 => k_is); (case l16 => k_is); (case c16 => k_is); (case k16 => k_is)
    (case a17 => k_is); (case l17 => k_is); (case c17 => k_is); (case k17 => k_is)
    (case a18 => k_is); (case l18 => k_is); (case c18 => k_is); (case k18 => k_is)
    (case a19 => k_is); (case l19 => k_is); (case c19 => k_is); (case k19 => k_is)
    (case a22 => k_is); (case l22 => k_is); (case c22 => k_is); (case k22 => k_is)
    (case a23 => k_is); (case l23 => k_is); (case c23 => k_is); (case k23 => k_is)
    (case a24 => k_is); (case l24 => k_is); (case c24 => k_is); (case k24 => k_is)
    (case a25 => k_is); (case l25 => k_is); (case c25 => k_is); (case k25 => k_is)
    (case a26 => k_is); (case l26 => k_is); (case c26 => k_is); (case k26 => k_is)
    (case gL => k_is); (case gM => k_is); (case z0 => k_is); (case z1 => k_is)
    (case z2 => k_is); (case z3 => k_is); (case z4 => k_is); (case z5 => k_is)
    (case z6 => k_is); (case z7 => k_is); (case z8 => k_is); (case z9 => k_is)
    (case z10 => k_is); (case z11 => k_is)
