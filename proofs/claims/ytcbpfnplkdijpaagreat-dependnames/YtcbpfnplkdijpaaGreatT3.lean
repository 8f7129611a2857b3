/- A part of a proof: an abstract machine, proved sound, or contracts of functions. No condition. -/
import Derived.RangeFuncCalls
import Derived.RangeFuncRecord
import Derived.RangeFuncLeaves
import Derived.OrdersIn
import Derived.Test.YtcbpfnplkdijpaaGreatT2
set_option linter.unusedVariables false
set_option linter.unusedSimpArgs false
namespace Abs
open Go
structure LPar (W : List Nat) (s u s' u' : St) : Prop where
  e1 : s'.env = s.env
  e2 : u'.env = u.env
  h1 : s'.H = s.H
  h2 : u'.H = u.H
  R : ∀ k, (s'.R k = s.R k ∧ u'.R k = u.R k) ∨ (s'.R k = u'.R k ∧ k ∈ W)
def AgrL (W : List Nat) (s u : St) : Prop := ∀ k ∈ W, s.R k = u.R k
theorem LPar.refl (W : List Nat) (s u : St) : LPar W s u s u := ⟨rfl, rfl, rfl, rfl, fun _ => .inl ⟨rfl, rfl⟩⟩
theorem LPar.trans {W V : List Nat} {s u s1 u1 s2 u2 : St} (h : LPar W s u s1 u1) (k : LPar V s1 u1 s2 u2) : LPar (W ++ V) s u s2 u2 :=
  ⟨k.e1.trans h.e1, k.e2.trans h.e2, k.h1.trans h.h1, k.h2.trans h.h2, fun x => by
    rcases k.R x with ⟨a, b⟩ | ⟨a, b⟩
    · rcases h.R x with ⟨c, d⟩ | ⟨c, d⟩
      · exact .inl ⟨a.trans c, b.trans d⟩
      · exact .inr ⟨by rw [a, b, c], by simp [d]⟩
    · exact .inr ⟨a, by simp [b]⟩⟩
theorem LPar.sub {W V : List Nat} {s u s1 u1 : St} (h : LPar W s u s1 u1) (hs : ∀ k ∈ W, k ∈ V) : LPar V s u s1 u1 :=
  ⟨h.e1, h.e2, h.h1, h.h2, fun x => (h.R x).imp id fun ⟨a, b⟩ => ⟨a, hs _ b⟩⟩
theorem LPar.agr {W V : List Nat} {s u s1 u1 : St} (h : LPar W s u s1 u1) (k : AgrL V s u) : AgrL V s1 u1 := fun x hx => by
  rcases h.R x with ⟨a, b⟩ | ⟨a, _⟩
  · rw [a, b]; exact k x hx
  · exact a
theorem AgrL.left {W V : List Nat} {s u : St} (h : AgrL (W ++ V) s u) : AgrL W s u := fun k hk => h k (by simp [hk])
theorem AgrL.right {W V : List Nat} {s u : St} (h : AgrL (W ++ V) s u) : AgrL V s u := fun k hk => h k (by simp [hk])
def refsD (d : Dat) : List Nat := match pureD d with | true => [] | false => refsIn d
theorem loc_leakCell {s : St} {d : Dat} {K : St → Dat → Prop} (hk : leakCell s d K) (W : List Nat) (hW : ∀ k n, d = .ref k n → k ∈ W) :
    ∃ s' d', K s' d' ∧ ∀ u, AgrL W s u → ∃ u', LPar W s u s' u' ∧ ∀ K', K' u' d' → leakCell u d K' := by
  cases d with
  | ref k n =>
    simp only [leakCell] at hk
    cases hr : s.R k with
    | none => rw [hr] at hk; exact hk.elim
    | some r =>
      rw [hr] at hk
      dsimp only at hk
      split at hk
      · exact hk.elim
      rename_i hz
      refine ⟨_, _, hk.k, fun u hu => ?_⟩
      have hu' : u.R k = some r := by rw [← hu k (hW k n rfl)]; exact hr
      refine ⟨u.freeze k r, ⟨rfl, rfl, rfl, rfl, fun x => ?_⟩, fun K' hK' => ?_⟩
      · by_cases hx : x = k
        · subst hx; exact .inr ⟨by simp [St.freeze, upd_eq], hW x n rfl⟩
        · exact .inl ⟨by simp [St.freeze, upd_ne _ _ _ _ hx], by simp [St.freeze, upd_ne _ _ _ _ hx]⟩
      · simp only [leakCell, hu', hz]
        exact ⟨hk.h, hK'⟩
  | sl z es b =>
    simp only [leakCell] at hk
    exact ⟨s, _, hk, fun u _ => ⟨u, LPar.refl _ _ _, fun K' h => h⟩⟩
  | _ =>
    simp only [leakCell] at hk
    split at hk
    · rename_i hp
      exact ⟨s, _, hk, fun u _ => ⟨u, LPar.refl _ _ _, fun K' h => by simp only [leakCell]; rw [hp]; exact h⟩⟩
    · exact hk.elim
theorem loc_leakCells : ∀ {ds : List Dat} {s : St} {K : St → List Dat → Prop}, leakCells s ds K →
    ∃ s' ds', K s' ds' ∧ ∀ u, AgrL (refsIn.go ds) s u → ∃ u', LPar (refsIn.go ds) s u s' u' ∧ ∀ K', K' u' ds' → leakCells u ds K'
  | [], s, K, hk => ⟨s, [], hk, fun u _ => ⟨u, LPar.refl _ _ _, fun K' h => h⟩⟩
  | d :: ds, s, K, hk => by
    have e1 : ∀ k n, d = .ref k n → k ∈ refsIn.go (d :: ds) := by intro k n e; subst e; simp [refsIn.go]
    have e2 : ∀ k ∈ refsIn.go ds, k ∈ refsIn.go (d :: ds) := by
      intro x hx
      clear hk
      cases d <;> first | exact hx | exact List.mem_cons_of_mem _ hx
    rw [leakCells_cons] at hk
    obtain ⟨s1, d1, k1, l1⟩ := loc_leakCell hk (refsIn.go (d :: ds)) e1
    obtain ⟨s2, ds2, k2, l2⟩ := loc_leakCells k1
    refine ⟨s2, d1 :: ds2, k2, fun u hu => ?_⟩
    obtain ⟨u1, p1, q1⟩ := l1 u hu
    obtain ⟨u2, p2, q2⟩ := l2 u1 (p1.agr fun k hk => hu k (e2 k hk))
    refine ⟨u2, (p1.trans p2).sub fun k hk => ?_, fun K' hK => by rw [leakCells_cons]; exact q1 _ (q2 _ hK)⟩
    rcases List.mem_append.1 hk with h | h
    · exact h
    · exact e2 k h
theorem loc_leak {s : St} {d : Dat} {K : St → Dat → Prop} (hk : leak s d K) :
    ∃ s' d', K s' d' ∧ ∀ u, AgrL (refsD d) s u → ∃ u', LPar (refsD d) s u s' u' ∧ ∀ K', K' u' d' → leak u d K' := by
  unfold leak at hk
  split at hk
  · rename_i hp
    refine ⟨s, d, hk, fun u _ => ⟨u, LPar.refl _ _ _, fun K' h => ?_⟩⟩
    unfold leak; rw [hp]; exact h
  · rename_i hp
    have er : refsD d = refsIn d := by simp [refsD, hp]
    rw [er]
    split at hk
    · rename_i cs
      obtain ⟨s', ds', k1, l1⟩ := loc_leakCells hk
      refine ⟨s', _, k1, fun u hu => ?_⟩
      obtain ⟨u', p, q⟩ := l1 u hu
      refine ⟨u', p, fun K' h => ?_⟩
      unfold leak; rw [hp]; exact q _ h
    · rename_i k n
      obtain ⟨s', d', k1, l1⟩ := loc_leakCell hk [k] (by intro k' n' e; cases e; simp)
      refine ⟨s', d', k1, fun u hu => ?_⟩
      obtain ⟨u', p, q⟩ := l1 u hu
      refine ⟨u', p, fun K' h => ?_⟩
      unfold leak; rw [hp]; exact q _ h
    · rename_i z es b
      obtain ⟨s', d', k1, l1⟩ := loc_leakCell hk [] (by intro k' n' e; cases e)
      refine ⟨s', d', k1, fun u hu => ?_⟩
      obtain ⟨u', p, q⟩ := l1 u (fun k hk => by cases hk)
      refine ⟨u', p.sub (by simp), fun K' h => ?_⟩
      unfold leak; rw [hp]; exact q _ h
    · exact hk.elim
theorem refsOf_one {d : Dat} : ∀ {r : List Dat}, (∀ fn f c, d ≠ .clo fn f c) → refsOf (d :: r) = refsD d ++ refsOf r := by
  intro r h
  cases d <;> first | rfl | exact absurd rfl (h _ _ _)
theorem refsOf_cons (d : Dat) (r : List Dat) : refsOf (d :: r) = refsOf [d] ++ refsOf r := by
  cases d <;> simp [refsOf]
theorem refsD_of {d : Dat} {x : Nat} (hx : x ∈ refsD d) : x ∈ refsOf [d] := by
  by_cases hc : ∃ fn f c, d = .clo fn f c
  · obtain ⟨fn, f, c, rfl⟩ := hc
    have : refsD (.clo fn f c) = [] := by unfold refsD; split <;> rfl
    rw [this] at hx; cases hx
  · rw [refsOf_one (fun fn f c e => hc ⟨fn, f, c, e⟩)]
    simp [hx]
theorem loc_leakAll : ∀ {ds : List Dat} {s : St} {K : St → List Dat → Prop}, leakAll s ds K →
    ∃ s' ds', K s' ds' ∧ ∀ u, AgrL (refsOf ds) s u → ∃ u', LPar (refsOf ds) s u s' u' ∧ ∀ K', K' u' ds' → leakAll u ds K'
  | [], s, K, hk => ⟨s, [], hk, fun u _ => ⟨u, LPar.refl _ _ _, fun K' h => h⟩⟩
  | d :: ds, s, K, hk => by
    rw [leakAll_cons] at hk
    obtain ⟨s1, d1, k1, l1⟩ := loc_leak hk
    obtain ⟨s2, ds2, k2, l2⟩ := loc_leakAll k1
    refine ⟨s2, d1 :: ds2, k2, fun u hu => ?_⟩
    rw [refsOf_cons] at hu ⊢
    obtain ⟨u1, p1, q1⟩ := l1 u (fun x hx => hu.left x (refsD_of hx))
    obtain ⟨u2, p2, q2⟩ := l2 u1 (p1.agr hu.right)
    exact ⟨u2, (p1.sub fun _ h => refsD_of h).trans p2, fun K' hK => by rw [leakAll_cons]; exact q1 _ (q2 _ hK)⟩
theorem loc_handPins : ∀ {ds : List Dat} {ls : List Nat} {K : List Nat → List Dat → Prop}, handPins ls ds K →
    ∃ ls' ds', K ls' ds' ∧ (∀ l ∈ ls', l ∈ ls ∨ l ∈ ptrs0 ds) ∧ ∀ K', K' ls' ds' → handPins ls ds K'
  | [], ls, K, hk => ⟨ls, [], hk, fun l h => .inl h, fun K' h => h⟩
  | d :: ds, ls, K, hk => by
    have join : ∀ {ls1 : List Nat} {d1 : Dat}, (∀ l ∈ ls1, l ∈ ls ∨ l ∈ ptrs0 [d]) → (∀ K' : List Nat → List Dat → Prop, handPins ls1 ds (fun ls ds => K' ls (d1 :: ds)) → handPins ls (d :: ds) K') →
        handPins ls1 ds (fun ls ds => K ls (d1 :: ds)) → ∃ ls' ds', K ls' ds' ∧ (∀ l ∈ ls', l ∈ ls ∨ l ∈ ptrs0 (d :: ds)) ∧ ∀ K', K' ls' ds' → handPins ls (d :: ds) K' := by
      intro ls1 d1 m1 l1 hk
      obtain ⟨ls2, ds2, k2, m2, l2⟩ := loc_handPins hk
      refine ⟨ls2, d1 :: ds2, k2, fun l hl => ?_, fun K' hK => l1 K' (l2 _ hK)⟩
      rcases m2 l hl with h | h
      · rcases m1 l h with h | h
        · exact .inl h
        · refine .inr ?_
          cases d <;> simp [ptrs0] at h ⊢
          exact .inl h
      · refine .inr ?_
        cases d <;> simp [ptrs0] at h ⊢ <;> first | exact h | exact .inr h
    simp only [handPins_cons] at hk
    split at hk
    · rename_i l off
      split at hk
      · rename_i i hi
        refine join (fun l h => .inl h) (fun K' h => ?_) hk
        simp only [handPins_cons, hi]; exact h
      · rename_i hi
        refine join (fun x h => ?_) (fun K' h => ?_) hk
        · rcases List.mem_append.1 h with h | h
          · exact .inl h
          · exact .inr (by simpa [ptrs0] using h)
        · simp only [handPins_cons, hi]; exact h
    · rename_i hnp
      split at hk
      · rename_i hp
        refine join (fun l h => .inl h) (fun K' h => ?_) hk
        have e : handPins ls (d :: ds) K' = match pureD d with
            | true => handPins ls ds fun ls ds => K' ls (d :: ds)
            | false => False := by
          cases d <;> first | rfl | exact absurd rfl (hnp _ _)
        rw [e, hp]; exact h
      · exact hk.elim
theorem loc_handPin {ls : List Nat} {d : Dat} {K : List Nat → Dat → Prop} (hk : handPin ls d K) : ∃ ls' d', K ls' d' ∧ (∀ l ∈ ls', l ∈ ls ∨ l ∈ pin0 d) ∧ ∀ K', K' ls' d' → handPin ls d K' := by
  unfold handPin at hk
  split at hk
  · rename_i f a b
    obtain ⟨ls1, a', k1, m1, l1⟩ := loc_handPins hk
    obtain ⟨ls2, b', k2, m2, l2⟩ := loc_handPins k1
    refine ⟨ls2, _, k2, fun l hl => ?_, fun K' h => ?_⟩
    · show l ∈ ls ∨ l ∈ ptrs0 a ++ ptrs0 b
      rcases m2 l hl with h | h
      · rcases m1 l h with h | h
        · exact .inl h
        · exact .inr (List.mem_append_left _ h)
      · exact .inr (List.mem_append_right _ h)
    · exact l1 _ (l2 _ h)
  · exact hk.elim
theorem loc_handCaps : ∀ {ds : List Dat} {s : St} {ls ks : List Nat} {K : St → List Nat → List Nat → List Dat → Prop}, handCaps s ls ks ds K →
    ∃ s' ls' ks' ds', K s' ls' ks' ds' ∧ (∀ l ∈ ls', l ∈ ls ∨ l ∈ ptrsIn.go ds) ∧ ks' = ks ∧ s'.H = s.H ∧
      ∀ u, AgrL (refsOf.caps ds) s u → ∃ u', LPar (refsOf.caps ds) s u s' u' ∧ ∀ K', K' u' ls' ks' ds' → handCaps u ls ks ds K'
  | [], s, ls, ks, K, hk => ⟨s, ls, ks, [], hk, fun l h => .inl h, rfl, rfl, fun u _ => ⟨u, LPar.refl _ _ _, fun K' h => h⟩⟩
  | d :: ds, s, ls, ks, K, hk => by
    have join : ∀ {s1 : St} {ls1 : List Nat} {d1 : Dat}, (∀ l ∈ ls1, l ∈ ls ∨ l ∈ ptrsIn.go [d]) → s1.H = s.H →
        (∀ u, AgrL (refsD d) s u → ∃ u', LPar (refsD d) s u s1 u' ∧ ∀ K' : St → List Nat → List Nat → List Dat → Prop, handCaps u' ls1 ks ds (fun s ls ks ds => K' s ls ks (d1 :: ds)) → handCaps u ls ks (d :: ds) K') →
        handCaps s1 ls1 ks ds (fun s ls ks ds => K s ls ks (d1 :: ds)) →
        ∃ s' ls' ks' ds', K s' ls' ks' ds' ∧ (∀ l ∈ ls', l ∈ ls ∨ l ∈ ptrsIn.go (d :: ds)) ∧ ks' = ks ∧ s'.H = s.H ∧
          ∀ u, AgrL (refsOf.caps (d :: ds)) s u → ∃ u', LPar (refsOf.caps (d :: ds)) s u s' u' ∧ ∀ K', K' u' ls' ks' ds' → handCaps u ls ks (d :: ds) K' := by
      intro s1 ls1 d1 m1 h1 l1 hk
      obtain ⟨s2, ls2, ks2, ds2, k2, m2, n2, h2, l2⟩ := loc_handCaps hk
      subst n2
      refine ⟨s2, ls2, ks2, d1 :: ds2, k2, fun l hl => ?_, rfl, h2.trans h1, fun u hu => ?_⟩
      · rcases m2 l hl with h | h
        · rcases m1 l h with h | h
          · exact .inl h
          · refine .inr ?_
            cases d <;> simp [ptrsIn.go] at h ⊢
            all_goals exact .inl h
        · refine .inr ?_
          cases d <;> simp [ptrsIn.go] at h ⊢ <;> first | exact h | exact .inr h
      · have hu : AgrL (refsD d ++ refsOf.caps ds) s u := hu
        obtain ⟨u1, p1, q1⟩ := l1 u hu.left
        obtain ⟨u2, p2, q2⟩ := l2 u1 (p1.agr hu.right)
        exact ⟨u2, p1.trans p2, fun K' hK => q1 K' (q2 _ hK)⟩
    simp only [handCaps_nil, handCaps_cons] at hk
    split at hk
    · rename_i l off
      split at hk
      · rename_i i hi
        refine join (fun l h => .inl h) rfl (fun u _ => ⟨u, LPar.refl _ _ _, fun K' h => ?_⟩) hk
        simp only [handCaps_nil, handCaps_cons, hi]; exact h
      · rename_i hi
        refine join (fun x h => ?_) rfl (fun u _ => ⟨u, LPar.refl _ _ _, fun K' h => ?_⟩) hk
        · rcases List.mem_append.1 h with h | h
          · exact .inl h
          · exact .inr (by simpa [ptrsIn.go] using h)
        · simp only [handCaps_nil, handCaps_cons, hi]; exact h
    · rename_i x
      obtain ⟨ls1, d1, k1, m1, l1⟩ := loc_handPin hk
      refine join (fun y h => (m1 y h).imp id fun h => by simpa [ptrsIn.go] using h) rfl (fun u _ => ⟨u, LPar.refl _ _ _, fun K' h => ?_⟩) k1
      simp only [handCaps_cons]; exact l1 _ h
    · rename_i hnp hnq
      obtain ⟨s1, d1, k1, l1⟩ := loc_leak hk
      have hH : s1.H = s.H := by
        obtain ⟨u', p, _⟩ := l1 s (fun k _ => rfl)
        exact p.h1
      refine join (fun l h => .inl h) hH (fun u hu => ?_) k1
      obtain ⟨u1, p1, q1⟩ := l1 u hu
      refine ⟨u1, p1, fun K' h => ?_⟩
      have e : handCaps u ls ks (d :: ds) K' = leak u d (fun s d => handCaps s ls ks ds fun s ls ks ds => K' s ls ks (d :: ds)) := by
        cases d <;> first | rfl | exact absurd rfl (hnp _ _) | exact absurd rfl (hnq _)
      rw [e]
      exact q1 _ h
theorem loc_handCell {d : Dat} {s : St} {ls ks : List Nat} {K : St → List Nat → List Nat → Dat → Prop} (hk : handCell s ls ks d K) :
    ∃ s' ls' d', K s' ls' ks d' ∧ (∀ l ∈ ls', l ∈ ls ∨ l ∈ ptrsIn d) ∧ s'.H = s.H ∧
      ∀ u, AgrL (refsOf [d]) s u → ∃ u', LPar (refsOf [d]) s u s' u' ∧ ∀ K', K' u' ls' ks d' → handCell u ls ks d K' := by
  unfold handCell at hk
  split at hk
  · rename_i l off
    split at hk
    · rename_i i hi
      refine ⟨s, ls, _, hk, fun l h => .inl h, rfl, fun u _ => ⟨u, LPar.refl _ _ _, fun K' h => ?_⟩⟩
      simp only [handCell, hi]; exact h
    · rename_i hi
      refine ⟨s, _, _, hk, fun l h => ?_, rfl, fun u _ => ⟨u, LPar.refl _ _ _, fun K' h => ?_⟩⟩
      · rcases List.mem_append.1 h with h | h
        · exact .inl h
        · exact .inr (by simpa [ptrsIn] using h)
      · simp only [handCell, hi]; exact h
  · rename_i fn first cap
    obtain ⟨s1, ls1, ks1, first', k0, m0, n0, h0, l0⟩ := loc_handCaps hk
    subst n0
    obtain ⟨s', ls', ks', ds', k1, m1, n1, h1, l1⟩ := loc_handCaps k0
    subst n1
    refine ⟨s', ls', _, k1, fun l hl => ?_, h1.trans h0, fun u hu => ?_⟩
    · show l ∈ ls ∨ l ∈ ptrsIn.go first ++ ptrsIn.go cap
      rcases m1 l hl with h | h
      · rcases m0 l h with h | h
        · exact .inl h
        · exact .inr (List.mem_append_left _ h)
      · exact .inr (List.mem_append_right _ h)
    · have er : refsOf [Dat.clo fn first cap] = (refsOf.caps first ++ refsOf.caps cap) ++ [] := rfl
      rw [er, List.append_nil] at hu ⊢
      obtain ⟨u1, p1, q1⟩ := l0 u hu.left
      obtain ⟨u2, p2, q2⟩ := l1 u1 (p1.agr hu.right)
      exact ⟨u2, p1.trans p2, fun K' h => q1 _ (q2 _ h)⟩
  · rename_i x
    obtain ⟨ls1, d1, k1, m1, l1⟩ := loc_handPin hk
    exact ⟨s, ls1, d1, k1, m1, rfl, fun u _ => ⟨u, LPar.refl _ _ _, fun K' h => by simp only [handCell]; exact l1 _ h⟩⟩
  · rename_i hnp hnc hnq
    obtain ⟨s', d', k1, l1⟩ := loc_leak hk
    have hH : s'.H = s.H := by
      obtain ⟨u', p, _⟩ := l1 s (fun k _ => rfl)
      exact p.h1
    refine ⟨s', ls, d', k1, fun l h => .inl h, hH, fun u hu => ?_⟩
    rw [refsOf_one hnc] at hu ⊢
    simp only [refsOf, List.append_nil] at hu ⊢
    obtain ⟨u', p, q⟩ := l1 u hu
    refine ⟨u', p, fun K' h => ?_⟩
    have e : handCell u ls ks d K' = leak u d (fun s d => K' s ls ks d) := by
      cases d <;> first | rfl | exact absurd rfl (hnp _ _) | exact absurd rfl (hnc _ _ _) | exact absurd rfl (hnq _)
    rw [e]
    exact q _ h
theorem loc_named {ks : List Nat} {k : Nat} {K : List Nat → Nat → Prop} (hk : named ks k K) : ∃ ks' i, K ks' i ∧ (∀ x ∈ ks', x ∈ ks ∨ x = k) ∧ ∀ K', K' ks' i → named ks k K' := by
  unfold named at hk
  split at hk
  · rename_i i hi
    exact ⟨ks, _, hk, fun x h => .inl h, fun K' h => by unfold named; rw [hi]; exact h⟩
  · rename_i hi
    refine ⟨_, _, hk, fun x h => ?_, fun K' h => by unfold named; rw [hi]; exact h⟩
    rcases List.mem_append.1 h with h | h
    · exact .inl h
    · exact .inr (by simpa using h)
theorem loc_handRow {s : St} {ks : List Nat} {k n : Nat} {K : List Nat → Dat → Prop} (hk : handRow s ks k n K) :
    ∃ ks' d', K ks' d' ∧ (∀ x ∈ ks', x ∈ ks ∨ x = k) ∧ ∀ u : St, s.R k = u.R k → ∀ K', K' ks' d' → handRow u ks k n K' := by
  unfold handRow at hk
  split at hk
  · rename_i r hr
    obtain ⟨hn, hk⟩ := hk
    split at hk
    · rename_i hown
      obtain ⟨ks', i, h1, h2, h3⟩ := loc_named hk
      refine ⟨ks', _, h1, h2, fun u hu K' h => ?_⟩
      unfold handRow
      rw [← hu, hr]
      refine ⟨hn, ?_⟩
      rw [hown]
      exact h3 _ h
    · rename_i hown
      refine ⟨ks, _, hk, fun x h => .inl h, fun u hu K' h => ?_⟩
      unfold handRow
      rw [← hu, hr]
      refine ⟨hn, ?_⟩
      rw [hown]
      exact h
  · exact hk.elim
theorem loc_handMap {s : St} {ks : List Nat} {k : Nat} {K : List Nat → Dat → Prop} (hk : handMap s ks k K) :
    ∃ ks' d', K ks' d' ∧ (∀ x ∈ ks', x ∈ ks ∨ x = k) ∧ ∀ u : St, s.R k = u.R k → ∀ K', K' ks' d' → handMap u ks k K' := by
  unfold handMap at hk
  split at hk
  · rename_i r hr
    obtain ⟨ks', i, h1, h2, h3⟩ := loc_named hk
    refine ⟨ks', _, h1, h2, fun u hu K' h => ?_⟩
    unfold handMap
    rw [← hu, hr]
    exact h3 _ h
  · exact hk.elim
theorem loc_handArgs {byref : Bool} : ∀ {ds : List Dat} {s : St} {ls ks : List Nat} {K : St → List Nat → List Nat → List Dat → Prop}, handArgs byref s ls ks ds K →
    ∃ s' ls' ks' ds', K s' ls' ks' ds' ∧ (∀ l ∈ ls', l ∈ ls ∨ l ∈ ptrsOf ds) ∧ (∀ k ∈ ks', k ∈ ks ∨ k ∈ refsOf ds) ∧ s'.H = s.H ∧
      ∀ u, AgrL (refsOf ds) s u → ∃ u', LPar (refsOf ds) s u s' u' ∧ ∀ K', K' u' ls' ks' ds' → handArgs byref u ls ks ds K'
  | [], s, ls, ks, K, hk => ⟨s, ls, ks, [], hk, fun l h => .inl h, fun l h => .inl h, rfl, fun u _ => ⟨u, LPar.refl _ _ _, fun K' h => h⟩⟩
  | d :: ds, s, ls, ks, K, hk => by
    have join : ∀ {s1 : St} {ls1 ks1 : List Nat} {d1 : Dat}, (∀ l ∈ ls1, l ∈ ls ∨ l ∈ ptrsIn d) → (∀ l ∈ ks1, l ∈ ks ∨ l ∈ refsOf [d]) → s1.H = s.H →
        (∀ u, AgrL (refsOf [d]) s u → ∃ u', LPar (refsOf [d]) s u s1 u' ∧ ∀ K' : St → List Nat → List Nat → List Dat → Prop, handArgs byref u' ls1 ks1 ds (fun s ls ks ds => K' s ls ks (d1 :: ds)) → handArgs byref u ls ks (d :: ds) K') →
        handArgs byref s1 ls1 ks1 ds (fun s ls ks ds => K s ls ks (d1 :: ds)) →
        ∃ s' ls' ks' ds', K s' ls' ks' ds' ∧ (∀ l ∈ ls', l ∈ ls ∨ l ∈ ptrsOf (d :: ds)) ∧ (∀ k ∈ ks', k ∈ ks ∨ k ∈ refsOf (d :: ds)) ∧ s'.H = s.H ∧
          ∀ u, AgrL (refsOf (d :: ds)) s u → ∃ u', LPar (refsOf (d :: ds)) s u s' u' ∧ ∀ K', K' u' ls' ks' ds' → handArgs byref u ls ks (d :: ds) K' := by
      intro s1 ls1 ks1 d1 m1 n1 h1 l1 hk
      obtain ⟨s2, ls2, ks2, ds2, k2, m2, n2, h2, l2⟩ := loc_handArgs hk
      refine ⟨s2, ls2, ks2, d1 :: ds2, k2, fun l hl => ?_, fun l hl => ?_, h2.trans h1, fun u hu => ?_⟩
      · simp only [ptrsOf, List.mem_append]
        rcases m2 l hl with h | h
        · rcases m1 l h with h | h
          · exact .inl h
          · exact .inr (.inl h)
        · exact .inr (.inr h)
      · rw [refsOf_cons, List.mem_append]
        rcases n2 l hl with h | h
        · rcases n1 l h with h | h
          · exact .inl h
          · exact .inr (.inl h)
        · exact .inr (.inr h)
      · rw [refsOf_cons] at hu ⊢
        obtain ⟨u1, p1, q1⟩ := l1 u hu.left
        obtain ⟨u2, p2, q2⟩ := l2 u1 (p1.agr hu.right)
        exact ⟨u2, p1.trans p2, fun K' hK => q1 K' (q2 _ hK)⟩
    simp only [handArgs_nil, handArgs_cons] at hk
    split at hk
    · rename_i k n
      obtain ⟨ks', d', h1, h2, h3⟩ := loc_handRow hk
      have er : refsOf [Dat.ref k n] = [k] := rfl
      refine join (fun l h => .inl h) (fun x h => ?_) rfl (fun u hu => ⟨u, LPar.refl _ _ _, fun K' h => ?_⟩) h1
      · rw [er]; simpa using h2 x h
      · simp only [handArgs_nil, handArgs_cons]
        exact h3 u (hu k (by rw [er]; simp)) _ h
    · rename_i k
      obtain ⟨ks', d', h1, h2, h3⟩ := loc_handMap hk
      have er : refsOf [Dat.mref k] = [k] := rfl
      refine join (fun l h => .inl h) (fun x h => ?_) rfl (fun u hu => ⟨u, LPar.refl _ _ _, fun K' h => ?_⟩) h1
      · rw [er]; simpa using h2 x h
      · simp only [handArgs_nil, handArgs_cons]
        exact h3 u (hu k (by rw [er]; simp)) _ h
    · rename_i hnm hnr
      obtain ⟨s1, ls1, d1, k1, m1, h1, l1⟩ := loc_handCell hk
      refine join m1 (fun l h => .inl h) h1 (fun u hu => ?_) k1
      obtain ⟨u1, p1, q1⟩ := l1 u hu
      refine ⟨u1, p1, fun K' h => ?_⟩
      have e : handArgs byref u ls ks (d :: ds) K' = handCell u ls ks d (fun s ls ks d => handArgs byref s ls ks ds fun s ls ks ds => K' s ls ks (d :: ds)) := by
        cases d with
        | ref k n =>
          cases byref with
          | false => rfl
          | true => exact absurd rfl (hnr k n rfl)
        | mref k => exact absurd rfl (hnm k)
        | _ => rfl
      rw [e]
      exact q1 _ h
theorem loc_handBody {s : St} : ∀ {ds : List Dat} {ks : List Nat} {K : List Nat → List Dat → Prop}, handBody s ks ds K →
    ∃ ks' ds', K ks' ds' ∧ (∀ k ∈ ks', k ∈ ks ∨ k ∈ refsIn.go ds) ∧ ∀ u : St, AgrL (refsIn.go ds) s u → ∀ K', K' ks' ds' → handBody u ks ds K'
  | [], ks, K, hk => ⟨ks, [], hk, fun k h => .inl h, fun u _ K' h => h⟩
  | d :: ds, ks, K, hk => by
    cases d with
    | ref k n =>
      simp only [handBody_nil, handBody_cons] at hk
      obtain ⟨ks1, d1, k1, m1, l1⟩ := loc_handRow hk
      obtain ⟨ks2, ds2, k2, m2, l2⟩ := loc_handBody k1
      refine ⟨ks2, _, k2, fun x hx => ?_, fun u hu K' h => ?_⟩
      · simp only [refsIn.go, List.mem_cons]
        rcases m2 x hx with h | h
        · rcases m1 x h with h | h
          · exact .inl h
          · exact .inr (.inl h)
        · exact .inr (.inr h)
      · simp only [handBody_nil, handBody_cons]
        refine l1 u (hu k (by simp [refsIn.go])) _ (l2 u (fun x hx => hu x (by simp [refsIn.go, hx])) _ h)
    | mref k =>
      simp only [handBody_nil, handBody_cons] at hk
      obtain ⟨ks1, d1, k1, m1, l1⟩ := loc_handMap hk
      obtain ⟨ks2, ds2, k2, m2, l2⟩ := loc_handBody k1
      refine ⟨ks2, _, k2, fun x hx => ?_, fun u hu K' h => ?_⟩
      · simp only [refsIn.go, List.mem_cons]
        rcases m2 x hx with h | h
        · rcases m1 x h with h | h
          · exact .inl h
          · exact .inr (.inl h)
        · exact .inr (.inr h)
      · simp only [handBody_nil, handBody_cons]
        refine l1 u (hu k (by simp [refsIn.go])) _ (l2 u (fun x hx => hu x (by simp [refsIn.go, hx])) _ h)
    | _ =>
      first
        | (simp only [handBody_nil, handBody_cons] at hk; done)
        | (simp only [handBody_nil, handBody_cons] at hk
           obtain ⟨ks2, ds2, k2, m2, l2⟩ := loc_handBody hk
           refine ⟨ks2, _, k2, m2, fun u hu K' h => ?_⟩
           simp only [handBody_nil, handBody_cons]
           exact l2 u hu _ h)
theorem loc_handBox {s : St} {ks : List Nat} {d : Dat} {K : List Nat → Dat → Prop} (hk : handBox s ks d K) :
    ∃ ks' d', K ks' d' ∧ (∀ k ∈ ks', k ∈ ks ∨ k ∈ refsD d) ∧ ∀ u : St, AgrL (refsD d) s u → ∀ K', K' ks' d' → handBox u ks d K' := by
  unfold handBox at hk
  split at hk
  · rename_i hp
    exact ⟨ks, d, hk, fun k h => .inl h, fun u _ K' h => by unfold handBox; rw [hp]; exact h⟩
  · rename_i hp
    have er : refsD d = refsIn d := by simp [refsD, hp]
    rw [er]
    split at hk
    · rename_i cs
      obtain ⟨ks', ds', k1, m1, l1⟩ := loc_handBody hk
      exact ⟨ks', _, k1, m1, fun u hu K' h => by unfold handBox; rw [hp]; exact l1 u hu _ h⟩
    · rename_i hna
      obtain ⟨ks', ds', k1, m1, l1⟩ := loc_handBody hk
      split at k1
      · rename_i d'
        have e : refsIn.go [d] = refsIn d := by cases d <;> first | rfl | exact absurd rfl (hna _)
        rw [e] at m1 l1
        refine ⟨ks', d', k1, m1, fun u hu K' h => ?_⟩
        have e2 : handBox u ks d K' = handBody u ks [d] (fun ks ds => match ds with | [d] => K' ks d | _ => False) := by
          unfold handBox; rw [hp]
          cases d <;> first | rfl | exact absurd rfl (hna _)
        rw [e2]
        exact l1 u hu _ h
      · exact k1.elim
theorem refsAt_cons (H : Nat → Option Dat) (l : Nat) (ls : List Nat) : refsAt H (l :: ls) = (match H l with | some d => refsD d | none => []) ++ refsAt H ls := rfl
theorem loc_handBoxes {s : St} : ∀ {ls ks : List Nat} {K : List Nat → List Dat → Prop}, handBoxes s ks ls K →
    ∃ ks' H, K ks' H ∧ (∀ k ∈ ks', k ∈ ks ∨ k ∈ refsAt s.H ls) ∧ ∀ u : St, (∀ l ∈ ls, s.H l = u.H l) → AgrL (refsAt s.H ls) s u → ∀ K', K' ks' H → handBoxes u ks ls K'
  | [], ks, K, hk => ⟨ks, [], hk, fun k h => .inl h, fun u _ _ K' h => h⟩
  | l :: ls, ks, K, hk => by
    simp only [handBoxes_nil, handBoxes_cons] at hk
    split at hk
    · rename_i d hd
      obtain ⟨ks1, d1, k1, m1, l1⟩ := loc_handBox hk
      obtain ⟨ks2, H2, k2, m2, l2⟩ := loc_handBoxes k1
      rw [refsAt_cons, hd]
      refine ⟨ks2, _, k2, fun x hx => ?_, fun u hH hu K' h => ?_⟩
      · rw [List.mem_append]
        rcases m2 x hx with h | h
        · rcases m1 x h with h | h
          · exact .inl h
          · exact .inr (.inl h)
        · exact .inr (.inr h)
      · simp only [handBoxes_nil, handBoxes_cons]
        rw [← hH l (by simp), hd]
        exact l1 u hu.left _ (l2 u (fun x hx => hH x (by simp [hx])) hu.right _ h)
    · exact hk.elim
theorem loc_rowsOf {s u : St} : ∀ {ks : List Nat}, AgrL ks s u → rowsOf s ks = rowsOf u ks
  | [], _ => rfl
  | k :: ks, h => by
    simp only [rowsOf]
    rw [h k (by simp), loc_rowsOf (fun x hx => h x (by simp [hx]))]
theorem refsAt_mem {H : Nat → Option Dat} {ls ms : List Nat} (h : ∀ l ∈ ls, l ∈ ms) : ∀ k ∈ refsAt H ls, k ∈ refsAt H ms := by
  have key : ∀ (ls : List Nat) (k : Nat), k ∈ refsAt H ls ↔ ∃ l ∈ ls, ∃ d, H l = some d ∧ k ∈ refsD d := by
    intro ls
    induction ls with
    | nil => intro k; simp [refsAt]
    | cons l ls ih =>
      intro k
      rw [refsAt_cons, List.mem_append, ih]
      constructor
      · rintro (h1 | ⟨x, hx, d, hd, hk⟩)
        · cases hl : H l with
          | none => rw [hl] at h1; cases h1
          | some d => rw [hl] at h1; exact ⟨l, by simp, d, hl, h1⟩
        · exact ⟨x, by simp [hx], d, hd, hk⟩
      · rintro ⟨x, hx, d, hd, hk⟩
        rcases List.mem_cons.1 hx with e | e
        · subst e; rw [hd]; exact .inl hk
        · exact .inr ⟨x, e, d, hd, hk⟩
  intro k hk
  rw [key] at hk ⊢
  obtain ⟨l, hl, r⟩ := hk
  exact ⟨l, h l hl, r⟩
theorem loc_newRowsDead {ks : List Nat} {t : Nat} {R R' : Nat → Option Row} : ∀ {rs : List Row} {i : Nat}, i + rs.length ≤ ks.length + 4 →
    (∀ j, j < 4 → R (5000 + 10 * t + j) = R' (5000 + 10 * t + j)) → newRowsDead ks t R i rs = newRowsDead ks t R' i rs
  | [], _, _, _ => rfl
  | r :: rs, i, h1, h2 => by
    simp only [newRowsDead]
    simp only [List.length_cons] at h1
    rw [loc_newRowsDead (i := i + 1) (by omega) h2]
    cases hn : nth ks i with
    | some k => rfl
    | none =>
      have hge : ks.length ≤ i := by
        rcases Nat.lt_or_ge i ks.length with h | h
        · obtain ⟨x, hx⟩ := nth_lt h; rw [hn] at hx; cases hx
        · exact h
      dsimp only
      rw [h2 (i - ks.length) (by omega)]
end Abs
namespace Abs
open Go
structure Par (s u s' u' : St) (dst : Option Nat) (wh wr : List Nat) : Prop where
  env : ∀ t, (s'.env t = s.env t ∧ u'.env t = u.env t) ∨ (s'.env t = u'.env t ∧ dst = some t)
  H : ∀ l, (s'.H l = s.H l ∧ u'.H l = u.H l) ∨ (s'.H l = u'.H l ∧ l ∈ wh)
  R : ∀ k, (s'.R k = s.R k ∧ u'.R k = u.R k) ∨ (s'.R k = u'.R k ∧ k ∈ wr)
structure Agr (r : Rec) (s u : St) : Prop where
  H : ∀ l, l ∈ r.rh ∨ l ∈ r.wh → s.H l = u.H l
  R : ∀ k, k ∈ r.rr ∨ k ∈ r.wr → s.R k = u.R k
  L : ∀ q ∈ r.ld, pr (s.H q.1) q = pr (u.H q.1) q
theorem par_upd {α : Type} (e f : Nat → Option α) (t : Nat) (d : Option α) (x : Nat) : (upd e t d x = e x ∧ upd f t d x = f x) ∨ (upd e t d x = upd f t d x ∧ x = t) := by
  by_cases h : x = t
  · exact .inr ⟨by rw [h, upd_eq, upd_eq], h⟩
  · exact .inl ⟨upd_ne _ _ _ _ h, upd_ne _ _ _ _ h⟩
theorem Par.put (s u : St) (dst : Option Nat) (d : Dat) (wh wr : List Nat) : Par s u (s.put dst d) (u.put dst d) dst wh wr := by
  cases dst with
  | none => exact ⟨fun _ => .inl ⟨rfl, rfl⟩, fun _ => .inl ⟨rfl, rfl⟩, fun _ => .inl ⟨rfl, rfl⟩⟩
  | some t =>
    refine ⟨fun x => ?_, fun _ => .inl ⟨rfl, rfl⟩, fun _ => .inl ⟨rfl, rfl⟩⟩
    exact (par_upd s.env u.env t (some d) x).imp id fun ⟨a, b⟩ => ⟨a, by rw [b]⟩
theorem Par.forget (s u : St) (dst : Option Nat) (wh wr : List Nat) : Par s u (s.forget dst) (u.forget dst) dst wh wr := by
  cases dst with
  | none => exact ⟨fun _ => .inl ⟨rfl, rfl⟩, fun _ => .inl ⟨rfl, rfl⟩, fun _ => .inl ⟨rfl, rfl⟩⟩
  | some t =>
    refine ⟨fun x => ?_, fun _ => .inl ⟨rfl, rfl⟩, fun _ => .inl ⟨rfl, rfl⟩⟩
    exact (par_upd s.env u.env t (some (.tup [])) x).imp id fun ⟨a, b⟩ => ⟨a, by rw [b]⟩
theorem LPar.comp {W : List Nat} {s u s1 u1 s2 u2 : St} {dst : Option Nat} {wh wr : List Nat} (h : LPar W s u s1 u1) (hW : ∀ k ∈ W, k ∈ wr) (k : Par s1 u1 s2 u2 dst wh wr) : Par s u s2 u2 dst wh wr :=
  ⟨fun t => by have := k.env t; rw [h.e1, h.e2] at this; exact this, fun t => by have := k.H t; rw [h.h1, h.h2] at this; exact this, fun x => by
    rcases k.R x with ⟨a, b⟩ | ⟨a, b⟩
    · rcases h.R x with ⟨c, d⟩ | ⟨c, d⟩
      · exact .inl ⟨a.trans c, b.trans d⟩
      · exact .inr ⟨by rw [a, b, c], hW x d⟩
    · exact .inr ⟨a, b⟩⟩
theorem Par.of {s u s' u' : St} {dst : Option Nat} {wh wr : List Nat} (he : (s'.env = s.env ∧ u'.env = u.env) ∨ ∃ t d, dst = some t ∧ s'.env = upd s.env t d ∧ u'.env = upd u.env t d)
    (hH : (s'.H = s.H ∧ u'.H = u.H) ∨ ∃ t d, t ∈ wh ∧ s'.H = upd s.H t d ∧ u'.H = upd u.H t d)
    (hR : (s'.R = s.R ∧ u'.R = u.R) ∨ ∃ t d, t ∈ wr ∧ s'.R = upd s.R t d ∧ u'.R = upd u.R t d) : Par s u s' u' dst wh wr := by
  refine ⟨fun x => ?_, fun x => ?_, fun x => ?_⟩
  · rcases he with ⟨a, b⟩ | ⟨t, d, h, a, b⟩
    · exact .inl ⟨by rw [a], by rw [b]⟩
    · rw [a, b]; exact (par_upd _ _ t d x).imp id fun ⟨a, b⟩ => ⟨a, by rw [b, h]⟩
  · rcases hH with ⟨a, b⟩ | ⟨t, d, h, a, b⟩
    · exact .inl ⟨by rw [a], by rw [b]⟩
    · rw [a, b]; exact (par_upd _ _ t d x).imp id fun ⟨a, b⟩ => ⟨a, by rw [b]; exact h⟩
  · rcases hR with ⟨a, b⟩ | ⟨t, d, h, a, b⟩
    · exact .inl ⟨by rw [a], by rw [b]⟩
    · rw [a, b]; exact (par_upd _ _ t d x).imp id fun ⟨a, b⟩ => ⟨a, by rw [b]; exact h⟩
theorem loc_rowSz {s u : St} {sz : Nat} {d : Dat} (h : AgrL (refsOf [d]) s u) : rowSz s sz d = rowSz u sz d := by
  cases d with
  | ref k n => simp only [rowSz]; rw [h k (by simp [refsOf, pureD, refsIn])]
  | _ => rfl
theorem loc_rdRow {s u : St} {d : Dat} {K : List Dat → Prop} (hk : rdRow s d K) : ∃ es, K es ∧ (AgrL (refsOf [d]) s u → ∀ K', K' es → rdRow u d K') := by
  cases d with
  | ref k n =>
    simp only [rdRow] at hk
    split at hk
    · rename_i r hr
      refine ⟨_, hk.k, fun h K' hK => ?_⟩
      simp only [rdRow]
      rw [← h k (by simp [refsOf, pureD, refsIn]), hr]
      exact ⟨hk.h, hK⟩
    · exact hk.elim
  | sl z es b => exact ⟨_, hk, fun _ K' h => h⟩
  | str b => exact ⟨_, hk, fun _ K' h => h⟩
  | _ => exact hk.elim
theorem loc_Idx {n : Nat} {es : List Dat} {i : Int} {K : Dat → Prop} (hk : Idx n es i K) : ∃ d, K d ∧ nth es i.toNat = some d ∧ ∀ K' : Dat → Prop, K' d → Idx n es i K' := by
  obtain ⟨d, h1, h2, h3, h4⟩ := hk.out
  exact ⟨d, h4, h3, fun K' h => ⟨d, h1, h2, h3, h⟩⟩
end Abs
namespace Abs
open Go
theorem putBoxes_par {ks : List Nat} {t : Nat} : ∀ {ls : List Nat} {ds : List Dat} {H H' : Nat → Option Dat} (l : Nat),
    (putBoxes ks t H ls ds l = H l ∧ putBoxes ks t H' ls ds l = H' l) ∨ (putBoxes ks t H ls ds l = putBoxes ks t H' ls ds l ∧ l ∈ ls)
  | [], ds, H, H', l => by cases ds <;> exact .inl ⟨rfl, rfl⟩
  | x :: ls, [], H, H', l => .inl ⟨rfl, rfl⟩
  | x :: ls, d :: ds, H, H', l => by
    simp only [putBoxes]
    rcases putBoxes_par (ks := ks) (t := t) (ls := ls) (ds := ds) (H := upd H x (some (back ks t d))) (H' := upd H' x (some (back ks t d))) l with ⟨a, b⟩ | ⟨a, b⟩
    · rw [a, b]
      exact (par_upd H H' x _ l).imp id fun ⟨c, d⟩ => ⟨c, by simp [d]⟩
    · exact .inr ⟨a, by simp [b]⟩
theorem putRows_par {ks : List Nat} {t : Nat} (hn : ks.Nodup ∨ True) : ∀ {rs : List Row} {i : Nat} {R R' : Nat → Option Row} {rn rn' : List Nat} (_ : i + rs.length ≤ ks.length + 4) (k : Nat),
    ((putRows ks t R rn i rs).1 k = R k ∧ (putRows ks t R' rn' i rs).1 k = R' k) ∨ ((putRows ks t R rn i rs).1 k = (putRows ks t R' rn' i rs).1 k ∧ (k ∈ ks ∨ ∃ j, j < 4 ∧ k = 5000 + 10 * t + j))
  | [], i, R, R', rn, rn', _, k => .inl ⟨rfl, rfl⟩
  | r :: rs, i, R, R', rn, rn', h, k => by
    simp only [List.length_cons] at h
    simp only [putRows]
    cases hi : nth ks i with
    | some k0 =>
      dsimp only
      rcases putRows_par (ks := ks) (t := t) hn (rs := rs) (i := i + 1) (R := upd R k0 (some r)) (R' := upd R' k0 (some r)) (rn := rn) (rn' := rn') (by omega) k with ⟨a, b⟩ | ⟨a, b⟩
      · rw [a, b]
        exact (par_upd R R' k0 _ k).imp id fun ⟨c, d⟩ => ⟨c, .inl (by rw [d]; exact mem_of_nth' hi)⟩
      · exact .inr ⟨a, b⟩
    | none =>
      dsimp only
      have hge : ks.length ≤ i := by
        rcases Nat.lt_or_ge i ks.length with h | h
        · obtain ⟨x, hx⟩ := nth_lt h; rw [hi] at hx; cases hx
        · exact h
      rcases putRows_par (ks := ks) (t := t) hn (rs := rs) (i := i + 1) (R := upd R (5000 + 10 * t + (i - ks.length)) (some r)) (R' := upd R' (5000 + 10 * t + (i - ks.length)) (some r))
        (rn := (5000 + 10 * t + (i - ks.length)) :: rn) (rn' := (5000 + 10 * t + (i - ks.length)) :: rn') (by omega) k with ⟨a, b⟩ | ⟨a, b⟩
      · rw [a, b]
        exact (par_upd R R' _ _ k).imp id fun ⟨c, d⟩ => ⟨c, .inr ⟨i - ks.length, by omega, d⟩⟩
      · exact .inr ⟨a, b⟩
theorem loc_plan {P : Program} {c : Cfg} {dst : Option Nat} {s : St} {K : St → Prop} {p : Plan} (hk : exPlan P c dst s K p) :
    ∃ s', K s' ∧ ∀ u, Agr (touch dst s p) s u → ∃ u', Par s u s' u' dst (touch dst s p).wh (touch dst s p).wr ∧ ∀ K' : St → Prop, K' u' → exPlan P c dst u K' p := by
  have putting : ∀ {d : Dat} {r : Rec}, K (s.put dst d) → (∀ u, Agr r s u → ∀ K' : St → Prop, K' (u.put dst d) → exPlan P c dst u K' p) →
      ∃ s', K s' ∧ ∀ u, Agr r s u → ∃ u', Par s u s' u' dst r.wh r.wr ∧ ∀ K' : St → Prop, K' u' → exPlan P c dst u K' p :=
    fun {d r} h1 h2 => ⟨_, h1, fun u hu => ⟨_, Par.put s u dst d _ _, h2 u hu⟩⟩
  cases p with
  | val d => exact putting hk fun u _ K' h => h
  | need q d => exact putting hk.k fun u _ K' h => ⟨hk.h, h⟩
  | arith k x => exact putting hk.out fun u _ K' h => ⟨h⟩
  | load a n agg =>
    cases a with
    | ptr l off =>
      simp only [exPlan] at hk
      split at hk
      · rename_i d hd
        split at hk
        · rename_i e he
          refine putting hk fun u hu K' h => ?_
          simp only [exPlan]
          have hq := hu.L (l, off, n, agg) (by simp [touch])
          rw [hd] at hq
          simp only [pr, he] at hq
          cases hdu : u.H l with
          | none => rw [hdu] at hq; cases hq
          | some du =>
            rw [hdu] at hq
            dsimp only at hq ⊢
            rw [← hq]; exact h
        · exact hk.elim
      · exact hk.elim
    | vptr l off =>
      simp only [exPlan] at hk
      split at hk
      · rename_i d hd
        obtain ⟨e, h1, _, h2⟩ := loc_Idx hk
        refine putting h1 fun u hu K' h => ?_
        simp only [exPlan]
        rw [← hu.H l (.inl (by simp [touch])), hd]
        exact h2 _ h
      · exact hk.elim
    | imm d off =>
      simp only [exPlan] at hk
      split at hk
      · rename_i e he
        refine putting hk fun u hu K' h => ?_
        simp only [exPlan]
        rw [he]; exact h
      · exact hk.elim
    | pin d =>
      simp only [exPlan] at hk
      split at hk
      · rename_i f p q hz
        refine putting hk fun u hu K' h => ?_
        simp only [exPlan]
        rw [hz]; exact h
      · exact hk.elim
    | eptr k m i off =>
      simp only [exPlan] at hk
      split at hk
      · rename_i r hr
        obtain ⟨e, h1, _, h2⟩ := loc_Idx hk
        split at h1
        · rename_i x hx
          refine putting h1 fun u hu K' h => ?_
          simp only [exPlan]
          rw [← hu.R k (.inl (by simp [touch])), hr]
          refine h2 _ ?_
          try dsimp only
          rw [hx]; exact h
        · exact h1.elim
      · exact hk.elim
    | _ => exact hk.elim
  | store a v n =>
    simp only [exPlan] at hk
    split at hk
    · exact hk.elim
    rename_i hlen
    cases a with
    | ptr l off =>
      dsimp only at hk
      split at hk
      · rename_i d hd
        split at hk
        · rename_i d' hd'
          refine ⟨_, hk, fun u hu => ⟨{ u with H := upd u.H l (some d') }, Par.of (.inl ⟨rfl, rfl⟩) (.inr ⟨l, some d', by simp [touch], rfl, rfl⟩) (.inl ⟨rfl, rfl⟩), fun K' h => ?_⟩⟩
          simp only [exPlan]
          rw [hlen]; dsimp only
          rw [← hu.H l (.inr (by simp [touch])), hd]; dsimp only
          rw [hd']; exact h
        · exact hk.elim
      · exact hk.elim
    | vptr l off =>
      dsimp only at hk
      split at hk
      · rename_i cs hd
        split at hk
        · exact hk.elim
        · exact hk.elim
        · rename_i hn1 hn2
          refine ⟨_, hk.k, fun u hu => ⟨{ u with H := upd u.H l (some (.agg (cs.set off v))) }, Par.of (.inl ⟨rfl, rfl⟩) (.inr ⟨l, _, by simp [touch], rfl, rfl⟩) (.inl ⟨rfl, rfl⟩), fun K' h => ?_⟩⟩
          simp only [exPlan]
          rw [hlen]; dsimp only
          rw [← hu.H l (.inr (by simp [touch])), hd]; dsimp only
          cases v with
          | agg xs => exact absurd rfl (hn1 _)
          | tup xs => exact absurd rfl (hn2 _)
          | _ => exact ⟨hk.h, h⟩
      · exact hk.elim
    | eptr k m i off =>
      dsimp only at hk
      obtain ⟨s1, v1, k1, l1⟩ := loc_leak hk
      split at k1
      · rename_i r hr
        split at k1
        · rename_i hown
          obtain ⟨e, h1, _, h2⟩ := loc_Idx k1
          split at h1
          · rename_i d' hd'
            have hW : ∀ x ∈ refsD v, x ∈ (touch dst s (.store (.eptr k m i off) v n)).wr := by
              intro x hx
              simp only [touch]
              refine List.mem_cons_of_mem _ ?_
              exact refsD_of hx
            refine ⟨_, h1, fun u hu => ?_⟩
            obtain ⟨u1, p1, q1⟩ := l1 u (fun x hx => hu.R x (.inr (hW x hx)))
            have hk1 : s1.R k = u1.R k := by
              rcases p1.R k with ⟨a, b⟩ | ⟨a, _⟩
              · rw [a, b]; exact hu.R k (.inr (by simp [touch]))
              · exact a
            refine ⟨{ u1 with R := upd u1.R k (some { r with es := r.es.set i.toNat d' }) }, p1.comp hW (Par.of (.inl ⟨rfl, rfl⟩) (.inl ⟨rfl, rfl⟩) (.inr ⟨k, _, by simp [touch], rfl, rfl⟩)), fun K' h => ?_⟩
            simp only [exPlan]
            rw [hlen]; dsimp only
            refine q1 _ ?_
            rw [← hk1, hr]; dsimp only
            rw [hown]; dsimp only
            refine h2 _ ?_
            try dsimp only
            rw [hd']; exact h
          · exact h1.elim
        · exact k1.elim
      · exact k1.elim
    | _ => exact hk.elim
  | alloc d =>
    simp only [exPlan] at hk
    split at hk
    · rename_i t
      split at hk
      · rename_i hh
        split at hk
        · rename_i ht
          refine ⟨_, hk, fun u hu => ⟨{ env := upd u.env t (some (.ptr t 0)), H := upd u.H t (some d), hn := t :: u.hn, R := u.R, rn := u.rn, y := u.y },
            Par.of (.inr ⟨t, _, rfl, rfl, rfl⟩) (.inr ⟨t, _, by simp [touch, tmpOf], rfl, rfl⟩) (.inl ⟨rfl, rfl⟩), fun K' h => ?_⟩⟩
          simp only [exPlan]
          rw [hh]; dsimp only
          rw [← hu.H t (.inr (by simp [touch, tmpOf])), ht]; exact h
        · exact hk.elim
      · rename_i hh
        unfold putImm at hk
        split at hk
        · rename_i hp
          refine ⟨_, hk, fun u hu => ⟨{ env := upd u.env t (some (.imm d 0)), H := u.H, hn := u.hn, R := u.R, rn := u.rn, y := u.y },
            Par.of (.inr ⟨t, _, rfl, rfl, rfl⟩) (.inl ⟨rfl, rfl⟩) (.inl ⟨rfl, rfl⟩), fun K' h => ?_⟩⟩
          simp only [exPlan]
          rw [hh]; dsimp only
          unfold putImm
          rw [hp]; exact h
        · rename_i hp
          split at hk
          · rename_i f p q
            refine ⟨_, hk, fun u hu => ⟨{ env := upd u.env t (some (.pin (.clo f p q))), H := u.H, hn := u.hn, R := u.R, rn := u.rn, y := u.y },
              Par.of (.inr ⟨t, _, rfl, rfl, rfl⟩) (.inl ⟨rfl, rfl⟩) (.inl ⟨rfl, rfl⟩), fun K' h => ?_⟩⟩
            simp only [exPlan]
            rw [hh]; dsimp only
            unfold putImm
            rw [hp]; exact h
          · exact hk.elim
    · exact hk.elim
  | row sz es =>
    simp only [exPlan] at hk
    split at hk
    · rename_i t
      obtain ⟨s1, es1, k1, l1⟩ := loc_leakAll hk
      split at k1
      · rename_i ht
        refine ⟨_, k1, fun u hu => ?_⟩
        obtain ⟨u1, p1, q1⟩ := l1 u (fun x hx => hu.R x (.inr (by simp [touch, hx])))
        have hk1 : s1.R t = u1.R t := by
          rcases p1.R t with ⟨a, b⟩ | ⟨a, _⟩
          · rw [a, b]; exact hu.R t (.inr (by simp [touch, tmpOf]))
          · exact a
        refine ⟨{ env := upd u1.env t (some (.ref t es1.length)), H := u1.H, hn := u1.hn, R := upd u1.R t (some ⟨sz, true, es1⟩), rn := t :: u1.rn, y := u1.y },
          p1.comp (fun x hx => by simp [touch, hx]) (Par.of (.inr ⟨t, _, rfl, rfl, rfl⟩) (.inl ⟨rfl, rfl⟩) (.inr ⟨t, _, by simp [touch, tmpOf], rfl, rfl⟩)), fun K' h => ?_⟩
        simp only [exPlan]
        refine q1 _ ?_
        rw [← hk1, ht]; exact h
      · exact k1.elim
    · exact hk.elim
  | idx sz a i =>
    simp only [exPlan] at hk
    split at hk
    · exact hk.elim
    rename_i hz
    cases a with
    | sl z es b =>
      obtain ⟨e, h1, _, h2⟩ := loc_Idx hk
      refine putting h1 fun u hu K' h => ?_
      simp only [exPlan]
      have hz' : rowSz u sz (.sl z es b) = true := hz
      rw [hz']
      exact h2 _ h
    | ref k n =>
      dsimp only at hk
      have hzu : ∀ u, Agr (touch dst s (.idx sz (.ref k n) i)) s u → rowSz u sz (.ref k n) = true := fun u hu => by
        rw [← hz]; simp only [rowSz]; rw [hu.R k (.inl (by simp [touch]))]
      split at hk
      · rename_i r hr
        split at hk
        · rename_i hown
          obtain ⟨e, h1, _, h2⟩ := loc_Idx hk
          refine putting h1 fun u hu K' h => ?_
          simp only [exPlan]
          rw [hzu u hu]; dsimp only
          rw [← hu.R k (.inl (by simp [touch])), hr]; dsimp only
          rw [hown]
          exact h2 _ h
        · rename_i hown
          obtain ⟨e, h1, _, h2⟩ := loc_Idx hk
          refine putting h1 fun u hu K' h => ?_
          simp only [exPlan]
          rw [hzu u hu]; dsimp only
          rw [← hu.R k (.inl (by simp [touch])), hr]; dsimp only
          rw [hown]
          exact h2 _ h
      · exact hk.elim
    | _ => exact hk.elim
  | mnew =>
    simp only [exPlan] at hk
    split at hk
    · rename_i t
      split at hk
      · rename_i ht
        refine ⟨_, hk, fun u hu => ⟨{ env := upd u.env t (some (.mref t)), H := u.H, hn := u.hn, R := upd u.R t (some ⟨0, true, []⟩), rn := t :: u.rn, y := u.y },
          Par.of (.inr ⟨t, _, rfl, rfl, rfl⟩) (.inl ⟨rfl, rfl⟩) (.inr ⟨t, _, by simp [touch, tmpOf], rfl, rfl⟩), fun K' h => ?_⟩⟩
        simp only [exPlan]
        rw [← hu.R t (.inr (by simp [touch, tmpOf])), ht]; exact h
      · exact hk.elim
    · exact hk.elim
  | mput k q n v =>
    simp only [exPlan] at hk
    split at hk
    · exact hk.elim
    split at hk
    · exact hk.elim
    rename_i hp
    split at hk
    · rename_i r hr
      split at hk
      · rename_i hz
        obtain ⟨i, hf, hk⟩ := hk
        cases i with
        | none =>
          refine ⟨_, hk, fun u hu => ⟨{ u with R := upd u.R k (some ⟨0, true, r.es ++ [.me (.int q n) v]⟩) }, Par.of (.inl ⟨rfl, rfl⟩) (.inl ⟨rfl, rfl⟩) (.inr ⟨k, _, by simp [touch], rfl, rfl⟩), fun K' h => ?_⟩⟩
          simp only [exPlan]
          rw [hp]; dsimp only
          rw [← hu.R k (.inr (by simp [touch])), hr]; dsimp only
          rw [hz]
          exact ⟨none, hf, h⟩
        | some i =>
          refine ⟨_, hk, fun u hu => ⟨{ u with R := upd u.R k (some ⟨0, true, r.es.set i (.me (.int q n) v)⟩) }, Par.of (.inl ⟨rfl, rfl⟩) (.inl ⟨rfl, rfl⟩) (.inr ⟨k, _, by simp [touch], rfl, rfl⟩), fun K' h => ?_⟩⟩
          simp only [exPlan]
          rw [hp]; dsimp only
          rw [← hu.R k (.inr (by simp [touch])), hr]; dsimp only
          rw [hz]
          exact ⟨some i, hf, h⟩
      · exact hk.elim
    · exact hk.elim
  | mget k q n z ok =>
    simp only [exPlan] at hk
    split at hk
    · rename_i r hr
      split at hk
      · rename_i hz
        obtain ⟨i, hf, hk⟩ := hk
        cases i with
        | none =>
          refine putting hk fun u hu K' h => ?_
          simp only [exPlan]
          rw [← hu.R k (.inl (by simp [touch])), hr]; dsimp only
          rw [hz]
          exact ⟨none, hf, h⟩
        | some i =>
          obtain ⟨kd, v, hv, hk⟩ := hk
          refine putting hk fun u hu K' h => ?_
          simp only [exPlan]
          rw [← hu.R k (.inl (by simp [touch])), hr]; dsimp only
          rw [hz]
          exact ⟨some i, hf, kd, v, hv, h⟩
      · exact hk.elim
    · exact hk.elim
  | mdel k q n =>
    simp only [exPlan] at hk
    split at hk
    · exact hk.elim
    split at hk
    · rename_i r hr
      split at hk
      · rename_i hz
        obtain ⟨i, hf, hk⟩ := hk
        cases i with
        | none =>
          refine ⟨_, hk, fun u hu => ⟨u, Par.of (.inl ⟨rfl, rfl⟩) (.inl ⟨rfl, rfl⟩) (.inl ⟨rfl, rfl⟩), fun K' h => ?_⟩⟩
          simp only [exPlan]
          rw [← hu.R k (.inr (by simp [touch])), hr]; dsimp only
          rw [hz]
          exact ⟨none, hf, h⟩
        | some i =>
          refine ⟨_, hk, fun u hu => ⟨{ u with R := upd u.R k (some ⟨0, true, r.es.set i .md⟩) }, Par.of (.inl ⟨rfl, rfl⟩) (.inl ⟨rfl, rfl⟩) (.inr ⟨k, _, by simp [touch], rfl, rfl⟩), fun K' h => ?_⟩⟩
          simp only [exPlan]
          rw [← hu.R k (.inr (by simp [touch])), hr]; dsimp only
          rw [hz]
          exact ⟨some i, hf, h⟩
      · exact hk.elim
    · exact hk.elim
  | mlen k =>
    simp only [exPlan] at hk
    split at hk
    · rename_i r hr
      split at hk
      · rename_i hz
        refine putting hk fun u hu K' h => ?_
        simp only [exPlan]
        rw [← hu.R k (.inl (by simp [touch])), hr]; dsimp only
        rw [hz]
        exact h
      · exact hk.elim
    · exact hk.elim
  | aidx l off m sz i => exact putting hk.k fun u hu K' h => ⟨hk.h, h⟩
  | part cs i =>
    obtain ⟨e, h1, _, h2⟩ := loc_Idx hk
    exact putting h1 fun u hu K' h => h2 _ h
  | sidx b i =>
    obtain ⟨x, h1, h2, h3⟩ := hk.out
    exact putting h3 fun u hu K' h => ⟨x, h1, h2, h⟩
  | app sz a b =>
    simp only [exPlan] at hk
    split at hk
    · exact hk.elim
    rename_i hz
    split at hk
    · rename_i z es t
      obtain ⟨xs, h1, h2⟩ := loc_rdRow (u := s) hk
      have key : ∀ u, Agr (touch (some t) s (.app sz (.sl z es true) b)) s u → AgrL (refsOf [b]) s u := fun u hu x hx => hu.R x (.inl (by simpa [touch] using hx))
      have hR := h1.k
      split at hR
      · rename_i ht
        refine ⟨_, hR, fun u hu => ⟨{ env := upd u.env t (some (.ref t xs.length)), H := u.H, hn := u.hn, R := upd u.R t (some ⟨sz, true, xs⟩), rn := t :: u.rn, y := u.y },
          Par.of (.inr ⟨t, _, rfl, rfl, rfl⟩) (.inl ⟨rfl, rfl⟩) (.inr ⟨t, _, by simp [touch, tmpOf], rfl, rfl⟩), fun K' h => ?_⟩⟩
        simp only [exPlan]
        have hz' : (rowSz u sz (.sl z es true) && rowSz u sz b) = true := by
          rw [← loc_rowSz (key u hu)]; exact hz
        rw [hz']; dsimp only
        have hk' : rdRow s b fun ys => ys = xs := h2 (fun _ _ => rfl) _ rfl
        obtain ⟨ys, e1, e2⟩ := loc_rdRow (u := u) hk'
        subst e1
        refine e2 (key u hu) _ ⟨h1.h, ?_⟩
        rw [← hu.R t (.inr (by simp [touch, tmpOf])), ht]; exact h
      · exact hR.elim
    · rename_i k n t
      have key : ∀ u, Agr (touch (some t) s (.app sz (.ref k n) b)) s u → AgrL (refsOf [b]) s u := fun u hu x hx => hu.R x (.inl (by simpa [touch] using hx))
      split at hk
      · rename_i r hr
        obtain ⟨xs, h1, h2⟩ := loc_rdRow (u := s) hk
        refine ⟨_, h1.k, fun u hu => ⟨{ u with env := upd u.env t (some (.ref k (r.es ++ xs).length)), R := upd u.R k (some { r with es := r.es ++ xs }) },
          Par.of (.inr ⟨t, _, rfl, rfl, rfl⟩) (.inl ⟨rfl, rfl⟩) (.inr ⟨k, _, by simp [touch], rfl, rfl⟩), fun K' h => ?_⟩⟩
        simp only [exPlan]
        have hku : s.R k = u.R k := hu.R k (.inr (by simp [touch]))
        have hz' : (rowSz u sz (.ref k n) && rowSz u sz b) = true := by
          rw [← loc_rowSz (key u hu)]
          have : rowSz u sz (.ref k n) = rowSz s sz (.ref k n) := by simp only [rowSz]; rw [hku]
          rw [this]; exact hz
        rw [hz']; dsimp only
        rw [← hku, hr]; dsimp only
        have hk' : rdRow s b fun ys => ys = xs := h2 (fun _ _ => rfl) _ rfl
        obtain ⟨ys, e1, e2⟩ := loc_rdRow (u := u) hk'
        subst e1
        exact e2 (key u hu) _ ⟨h1.h, h⟩
      · exact hk.elim
    · exact hk.elim
  | sub sz a lo hi =>
    simp only [exPlan] at hk
    split at hk
    · rename_i b
      exact putting hk.k fun u hu K' h => ⟨hk.h, h⟩
    · rename_i hns
      split at hk
      · exact hk.elim
      rename_i hz
      obtain ⟨s1, a1, k1, l1⟩ := loc_leak hk
      have hW : ∀ x ∈ refsD a, x ∈ refsOf [a] := by
        intro x hx
        exact refsD_of hx
      split at k1
      · rename_i z es bb
        split at k1
        · rename_i hzz
          refine ⟨_, k1.k, fun u hu => ?_⟩
          have hag : AgrL (refsOf [a]) s u := fun x hx => hu.R x (.inr (by simpa [touch] using hx))
          obtain ⟨u1, p1, q1⟩ := l1 u (fun x hx => hag x (hW x hx))
          refine ⟨_, p1.comp (wr := (touch dst s (.sub sz a lo hi)).wr) (fun x hx => by simpa [touch] using hW x hx) (Par.put s1 u1 dst (.sl sz (cut es lo hi) false) _ _), fun K' h => ?_⟩
          have e : exPlan P c dst u K' (.sub sz a lo hi) = (match rowSz u sz a with
            | false => False
            | true => leak u a fun s a => match a with
              | .sl z es _ => match Nat.beq z sz with
                | true => Need (0 ≤ lo.getD 0 ∧ lo.getD 0 ≤ hi.getD es.length ∧ hi.getD es.length ≤ es.length) (K' (s.put dst (.sl sz (cut es lo hi) false)))
                | false => False
              | _ => False) := by
            cases a <;> first | rfl | exact absurd rfl (hns _)
          rw [e, ← loc_rowSz hag, hz]
          refine q1 _ ?_
          dsimp only
          rw [hzz]
          exact ⟨k1.h, h⟩
        · exact k1.elim
      · exact k1.elim
  | sel b x y =>
    simp only [exPlan] at hk
    cases b with
    | true =>
      have := hk.t rfl
      split at this
      · rename_i d
        exact putting this fun u _ K' h => ⟨fun _ => h, fun e => by cases e⟩
      · exact this.elim
    | false =>
      have := hk.f rfl
      split at this
      · rename_i d
        exact putting this fun u _ K' h => ⟨fun e => (by cases e), fun _ => h⟩
      · exact this.elim
  | bytes e b =>
    simp only [exPlan] at hk
    split at hk
    · rename_i t
      split at hk
      · rename_i ht
        refine ⟨_, hk, fun u hu => ⟨{ env := upd u.env t (some (.ref t b.length)), H := u.H, hn := u.hn, R := upd u.R t (some ⟨1, true, b.map fun c => .int .u8 c.toNat⟩), rn := t :: u.rn, y := u.y },
          Par.of (.inr ⟨t, _, rfl, rfl, rfl⟩) (.inl ⟨rfl, rfl⟩) (.inr ⟨t, _, by simp [touch, tmpOf], rfl, rfl⟩), fun K' h => ?_⟩⟩
        simp only [exPlan]
        rw [← hu.R t (.inr (by simp [touch, tmpOf])), ht]; exact h
      · exact hk.elim
    · exact hk.elim
  | text a =>
    simp only [exPlan] at hk
    split at hk
    · exact hk.elim
    rename_i hz
    obtain ⟨es, h1, h2⟩ := loc_rdRow (u := s) hk
    obtain ⟨b, hb, h1⟩ := h1.out
    refine putting h1 fun u hu K' h => ?_
    have hag : AgrL (refsOf [a]) s u := fun x hx => hu.R x (.inl (by simpa [touch] using hx))
    simp only [exPlan]
    rw [← loc_rowSz hag, hz]; dsimp only
    have hk' : rdRow s a fun ys => ys = es := h2 (fun _ _ => rfl) _ rfl
    obtain ⟨ys, e1, e2⟩ := loc_rdRow (u := u) hk'
    subst e1
    refine e2 hag _ ?_
    exact ⟨b, hb, h⟩
  | call f args =>
    simp only [exPlan] at hk
    split at hk
    rotate_left
    · exact hk.elim
    rename_i t
    obtain ⟨s1, ls, ks1, args', k1, m1, n1, hH1, l1⟩ := loc_handArgs hk
    obtain ⟨ks, H, k2, m2, l2⟩ := loc_handBoxes k1
    split at k2
    rotate_left
    · exact k2.elim
    rename_i R hR
    obtain ⟨r, m, hc, k3⟩ := k2.out
    split at k3
    rotate_left
    · exact k3.elim
    rename_i hb
    have hb' := hb
    simp only [Bool.and_eq_true] at hb'
    have hlen := Nat.le_of_ble_eq_true hb'.2.2
    have hls : ∀ l ∈ ls, l ∈ ptrsOf args := fun l hl => (m1 l hl).resolve_left (by simp)
    have hks1 : ∀ k ∈ ks1, k ∈ refsOf args := fun l hl => (n1 l hl).resolve_left (by simp)
    have hks : ∀ k ∈ ks, k ∈ (touch (some t) s (.call f args)).wr := fun k hk => by
      simp only [touch, List.mem_append]
      refine .inr ?_
      rcases m2 k hk with h | h
      · exact .inl (hks1 k h)
      · rw [hH1] at h; exact .inr (refsAt_mem hls k h)
    refine ⟨_, k3, fun u hu => ?_⟩
    have hRu : ∀ k ∈ (touch (some t) s (.call f args)).wr, s.R k = u.R k := fun k hk => hu.R k (.inr hk)
    obtain ⟨u1, p1, q1⟩ := l1 u (fun x hx => hRu x (by simp [touch, hx]))
    have hR1 : ∀ k ∈ (touch (some t) s (.call f args)).wr, s1.R k = u1.R k := fun k hk => by
      rcases p1.R k with ⟨a, b⟩ | ⟨a, _⟩
      · rw [a, b]; exact hRu k hk
      · exact a
    have hHu : ∀ l ∈ ls, s1.H l = u1.H l := fun l hl => by
      rw [hH1, p1.h2]
      exact hu.H l (.inr (by simpa [touch] using hls l hl))
    have new4 : ∀ j, j < 4 → (5000 + 10 * t + j) ∈ (touch (some t) s (.call f args)).wr := fun j hj => by
      simp only [touch, tmpOf, List.mem_append]
      refine .inl ?_
      have : j = 0 ∨ j = 1 ∨ j = 2 ∨ j = 3 := by omega
      simp only [List.flatMap_cons, List.flatMap_nil, List.append_nil, List.mem_cons, List.not_mem_nil, or_false]
      omega
    refine ⟨{ env := upd u1.env t (some (back ks t r)), H := putBoxes ks t u1.H ls m.H, hn := u1.hn, R := (putRows ks t u1.R u1.rn 0 m.R).1, rn := (putRows ks t u1.R u1.rn 0 m.R).2, y := u1.y },
      p1.comp (fun x hx => by simp [touch, hx]) ⟨fun x => ?_, fun x => ?_, fun x => ?_⟩, fun K' h => ?_⟩
    · exact (par_upd s1.env u1.env t _ x).imp id fun ⟨a, b⟩ => ⟨a, by rw [b]⟩
    · exact (putBoxes_par x).imp id fun ⟨a, b⟩ => ⟨a, by simpa [touch] using hls x b⟩
    · refine (putRows_par (.inr trivial) (by omega) x).imp id fun ⟨a, b⟩ => ⟨a, ?_⟩
      rcases b with b | ⟨j, hj, rfl⟩
      · exact hks x b
      · exact new4 j hj
    · simp only [exPlan]
      refine q1 _ (l2 u1 hHu (fun x hx => hR1 x ?_) _ ?_)
      · simp only [touch, List.mem_append]
        rw [hH1] at hx
        exact .inr (.inr (refsAt_mem hls x hx))
      · rw [← loc_rowsOf (s := s1) (fun x hx => hR1 x (hks x hx)), hR]
        dsimp only
        refine ⟨r, m, hc, ?_⟩
        rw [← loc_newRowsDead (R := s1.R) (by omega) (fun j hj => hR1 _ (new4 j hj)), hb]
        exact h
  | yield => exact hk.elim
  | ycall => exact hk.elim
  | bad => exact hk.elim
end Abs
namespace Abs
open Go
theorem allSome_congr {ρ ρ' : TypeId → Operand → Option Dat} : ∀ {l : List Operand} {ts : List TypeId}, (∀ t x, x ∈ l → ρ t x = ρ' t x) → typedArgs ρ l ts = typedArgs ρ' l ts
  | [], ts, _ => by cases ts <;> rfl
  | x :: l, [], h => by
    simp only [typedArgs]
    rw [h 0 x (by simp), allSome_congr (fun t y hy => h t y (by simp [hy]))]
  | x :: l, t :: ts, h => by
    simp only [typedArgs]
    rw [h t x (by simp), allSome_congr (fun t y hy => h t y (by simp [hy]))]
theorem plan_congr {P : Program} {o : Oper} {ρ ρ' : TypeId → Operand → Option Dat} (h : ∀ t x, x ∈ o.op.operands → ρ t x = ρ' t x) : plan P o ρ = plan P o ρ' := by
  have two : ∀ {x y : Operand}, o.op.operands = #[x, y] → (∀ t, ρ t x = ρ' t x) ∧ ∀ t, ρ t y = ρ' t y := fun {x y} e =>
    ⟨fun t => h t x (by rw [e]; simp), fun t => h t y (by rw [e]; simp)⟩
  have one : ∀ {x : Operand}, o.op.operands = #[x] → ∀ t, ρ t x = ρ' t x := fun {x} e t => h t x (by rw [e]; simp)
  have parts : ∀ (ps : Array (Nat × Operand)) (τ : Nat × Operand → TypeId), (∀ x ∈ ps.toList.map (·.2), ∀ t, ρ t x = ρ' t x) → (ps.toList.map fun p => (p.1, ρ (τ p) p.2)) = ps.toList.map fun p => (p.1, ρ' (τ p) p.2) := by
    intro ps τ hp
    refine List.map_congr_left fun p hm => ?_
    rw [hp p.2 (List.mem_map.2 ⟨p, hm, rfl⟩)]
  have opt : ∀ {x : Option Operand}, (∀ y, x = some y → ∀ t, ρ t y = ρ' t y) → optInt ρ x = optInt ρ' x := by
    intro x hx
    cases x with
    | none => rfl
    | some y => simp only [optInt]; rw [hx y rfl]
  unfold plan
  cases ho : o.op with
  | move x => dsimp only; rw [one (by rw [ho]; rfl)]
  | assign x => dsimp only; rw [one (by rw [ho]; rfl)]
  | pick c x y =>
    have hh : ∀ z ∈ #[c, x, y], ∀ t, ρ t z = ρ' t z := fun z hz t => h t z (by rw [ho]; exact hz)
    dsimp only
    rw [hh c (by simp), hh x (by simp), hh y (by simp)]
  | alloc t => rfl
  | box t x => dsimp only; rw [one (by rw [ho]; rfl)]
  | build t ps =>
    dsimp only
    rw [parts ps (fun p => (fieldAt P t p.1).2) fun x hx t => h t x (by rw [ho]; simpa [Op.operands] using hx)]
  | buildSlice t n ps =>
    dsimp only
    rw [parts ps (fun p => elemT P t) fun x hx t => h t x (by rw [ho]; simpa [Op.operands] using hx)]
  | load t x => dsimp only; rw [one (by rw [ho]; rfl)]
  | store t x y =>
    obtain ⟨h1, h2⟩ := two (by rw [ho]; rfl)
    dsimp only; rw [h1, h2]
  | nilCheck x => dsimp only; rw [one (by rw [ho]; rfl)]
  | binOp op t x y t' =>
    obtain ⟨h1, h2⟩ := two (by rw [ho]; rfl)
    dsimp only; rw [h1, h2]
  | unOp op t x => dsimp only; rw [one (by rw [ho]; rfl)]
  | convert s d x => dsimp only; rw [one (by rw [ho]; rfl)]
  | makeFunc fn first cap =>
    dsimp only
    rw [List.map_congr_left (l := first.toList) fun x hx => h 0 x (by rw [ho]; simp [Op.operands]; exact .inl (by simpa using hx)),
      List.map_congr_left (l := cap.toList) fun x hx => h 0 x (by rw [ho]; simp [Op.operands]; exact .inr (by simpa using hx))]
  | slice t x lo hi mx =>
    cases mx with
    | some m => rfl
    | none =>
      dsimp only
      rw [h t x (by rw [ho]; simp [Op.operands]), opt (x := lo) fun y hy t => h t y (by subst hy; rw [ho]; simp [Op.operands]), opt (x := hi) fun y hy t => h t y (by subst hy; rw [ho]; simp [Op.operands])]
  | fieldAddr t x f => dsimp only; rw [one (by rw [ho]; rfl)]
  | field t x f => dsimp only; rw [one (by rw [ho]; rfl)]
  | indexAddr t x y =>
    obtain ⟨h1, h2⟩ := two (by rw [ho]; rfl)
    dsimp only; rw [h1, h2]
  | index t x y =>
    obtain ⟨h1, h2⟩ := two (by rw [ho]; rfl)
    dsimp only; rw [h1, h2]
  | extract x i => dsimp only; rw [one (by rw [ho]; rfl)]
  | call c =>
    dsimp only
    unfold callPlan
    rw [allSome_congr (ρ := ρ) (ρ' := ρ') (l := c.args.toList) fun t x hx => h t x (by rw [ho]; simp [Op.operands, Call.operands]; exact .inr (by simpa using hx))]
    cases hc : c.callee with
    | value f => dsimp only; rw [h 0 f (by rw [ho]; simp [Op.operands, Call.operands, hc])]
    | _ => rfl
  | makeMap t r => cases r <;> rfl
  | mapUpdate t m k x =>
    have hh : ∀ z ∈ #[m, k, x], ∀ t, ρ t z = ρ' t z := fun z hz t => h t z (by rw [ho]; exact hz)
    dsimp only
    rw [hh m (by simp), hh k (by simp), hh x (by simp)]
  | insert t m k x =>
    have hh : ∀ z ∈ #[m, k, x], ∀ t, ρ t z = ρ' t z := fun z hz t => h t z (by rw [ho]; exact hz)
    dsimp only
    rw [hh m (by simp), hh k (by simp), hh x (by simp)]
  | lookup t x i ok =>
    obtain ⟨h1, h2⟩ := two (by rw [ho]; rfl)
    dsimp only; rw [h1, h2]
  | _ => rfl
def opEx (P : Program) (c : Cfg) (all : List Oper) (o : Oper) (s : St) (K : Rec → St → Prop) : Prop :=
  guardOf all s o (exPlan P c o.dst s (fun s' => K ((touch o.dst s (plan P o (getT P s))).seen s s') s') (plan P o (getT P s))) (K .nil (s.forget o.dst))
def opTo (P : Program) (c : Cfg) (all : List Oper) (o : Oper) (u u' : St) : Prop :=
  guardOf all u o (∀ K : St → Prop, K u' → exPlan P c o.dst u K (plan P o (getT P u))) (u' = u.forget o.dst)
structure LocStep (P : Program) (c : Cfg) (all : List Oper) (o : Oper) (s s' : St) (r : Rec) : Prop where
  out : ∀ u, Agr r s u → (∀ t ∈ readsOf all o, s.env t = u.env t) → ∃ u', Par s u s' u' o.dst r.wh r.wr ∧ opTo P c all o u u'
  wv : ∀ l ∈ r.wh, (l, s.H l, s'.H l) ∈ r.wv
  wv' : ∀ x ∈ r.wv, x.1 ∈ r.wh
theorem guardOf_mono {all : List Oper} {s : St} {o : Oper} {X Y X' Y' : Prop} (h : guardOf all s o X Y) (hx : X → X') (hy : Y → Y') : guardOf all s o X' Y' := by
  unfold guardOf at *
  split at h
  · exact hx h
  · split at h
    · split at h
      · split at h
        · exact BrW_of ⟨fun e => hx ((BrW_to h).t e), fun e => hy ((BrW_to h).f e)⟩
        · exact hy h
        · exact h.elim
      · exact h.elim
    · exact h.elim
theorem guardOf_cases {all : List Oper} {s : St} {o : Oper} {X Y : Prop} (h : guardOf all s o X Y) :
    (X ∧ ∀ u : St, (∀ t ∈ readsOf all o, s.env t = u.env t) → ∀ X' Y' : Prop, X' → guardOf all u o X' Y') ∨
    (Y ∧ ∀ u : St, (∀ t ∈ readsOf all o, s.env t = u.env t) → ∀ X' Y' : Prop, Y' → guardOf all u o X' Y') := by
  unfold guardOf at h
  split at h
  · rename_i hg
    exact .inl ⟨h, fun u _ X' Y' hx => by unfold guardOf; rw [hg]; exact hx⟩
  · rename_i j want hg
    split at h
    · rename_i oj hj
      split at h
      · rename_i t ht
        have hmem : t ∈ readsOf all o := by
          unfold readsOf Oper.looksAt
          refine List.mem_append_right _ ?_
          rw [hg]
          rw [nth_eq] at hj
          simp [hj, ht]
        split at h
        · rename_i b hb
          cases hbw : (b == want) with
          | true =>
            refine .inl ⟨(BrW_to h).t hbw, fun u hu X' Y' hx => ?_⟩
            unfold guardOf
            rw [hg]; dsimp only
            rw [hj]; dsimp only
            rw [ht]; dsimp only
            rw [← hu t hmem, hb]
            exact BrW_of ⟨fun _ => hx, fun e => by rw [hbw] at e; cases e⟩
          | false =>
            refine .inr ⟨(BrW_to h).f hbw, fun u hu X' Y' hx => ?_⟩
            unfold guardOf
            rw [hg]; dsimp only
            rw [hj]; dsimp only
            rw [ht]; dsimp only
            rw [← hu t hmem, hb]
            exact BrW_of ⟨fun e => by (rw [hbw] at e; cases e), fun _ => hx⟩
        · rename_i hb
          refine .inr ⟨h, fun u hu X' Y' hx => ?_⟩
          unfold guardOf
          rw [hg]; dsimp only
          rw [hj]; dsimp only
          rw [ht]; dsimp only
          rw [← hu t hmem, hb]
          exact hx
        · exact h.elim
      · exact h.elim
    · exact h.elim
theorem getT_congr {P : Program} {s u : St} {o : Oper} {all : List Oper} (h : ∀ t ∈ readsOf all o, s.env t = u.env t) : ∀ t x, x ∈ o.op.operands → getT P s t x = getT P u t x := by
  intro t x hx
  cases x with
  | tmp n =>
    refine h n ?_
    unfold readsOf Oper.looksAt
    refine List.mem_append_left _ (List.mem_filterMap.2 ⟨.tmp n, by simpa using hx, rfl⟩)
  | _ => rfl
theorem loc_op {P : Program} {c : Cfg} {all : List Oper} {o : Oper} {s : St} {K : Rec → St → Prop} (hk : opEx P c all o s K) :
    ∃ r s', K r s' ∧ LocStep P c all o s s' r := by
  rcases guardOf_cases hk with ⟨h, hg⟩ | ⟨h, hg⟩
  · obtain ⟨s', k1, l1⟩ := loc_plan h
    refine ⟨_, s', k1, ⟨fun u hu he => ?_, fun l hl => List.mem_map.2 ⟨l, hl, rfl⟩, fun x hx => by obtain ⟨l, hl, rfl⟩ := List.mem_map.1 hx; exact hl⟩⟩
    obtain ⟨u', p, q⟩ := l1 u ⟨hu.H, hu.R, hu.L⟩
    refine ⟨u', p, ?_⟩
    have e := plan_congr (P := P) (o := o) (getT_congr (P := P) he)
    refine hg u he _ _ ?_
    rw [← e]
    exact q
  · refine ⟨_, _, h, ⟨fun u _ he => ⟨u.forget o.dst, Par.forget s u _ _ _, ?_⟩, (fun l hl => by cases hl), (fun x hx => by cases hx)⟩⟩
    exact hg u he _ _ rfl
theorem exOps_trace {P : Program} {c : Cfg} {all : List Oper} : ∀ {l : List Oper} {rs : List Rec} {s : St} {K : List Rec → St → Prop}, exOps P c all l rs s K →
    ∃ (S : Nat → St) (T : List Rec), S 0 = s ∧ T.length = l.length ∧ K (T.reverse ++ rs) (S l.length) ∧
      ∀ (i : Nat) o r, nth l i = some o → nth T i = some r → LocStep P c all o (S i) (S (i + 1)) r
  | [], rs, s, K, h => ⟨fun _ => s, [], rfl, rfl, h, fun i o r hi => by simp [nth] at hi⟩
  | o :: l, rs, s, K, h => by
    have h' : opEx P c all o s (fun r s' => exOps P c all l (r :: rs) s' K) := h
    obtain ⟨r, s', k1, l1⟩ := loc_op h'
    obtain ⟨S, T, e1, e2, k2, l2⟩ := exOps_trace k1
    refine ⟨fun i => match i with | 0 => s | i + 1 => S i, r :: T, rfl, by simp [e2], by simpa using k2, fun i o' r' ho hr => ?_⟩
    cases i with
    | zero =>
      simp [nth] at ho hr; subst ho; subst hr
      show LocStep P c all o s (S 0) r
      rw [e1]; exact l1
    | succ i => exact l2 i o' r' (by simpa [nth] using ho) (by simpa [nth] using hr)
def Closed (all : List Oper) (D : Nat → Prop) : Prop := ∀ k o, nth all k = some o → D k → ∀ e ∈ o.after, Region.binds .any e = true → D e.on
def Pre (o : Oper) (D : Nat → Prop) : Prop := ∀ e ∈ o.after, Region.binds .any e = true → D e.on
theorem memB_iff {l : List Nat} {x : Nat} : memB l x = true ↔ x ∈ l := by
  induction l with
  | nil => simp [memB]
  | cons y l ih =>
    simp only [memB, Bool.or_eq_true, List.mem_cons, ih]
    constructor
    · rintro (h | h)
      · exact .inl (Nat.eq_of_beq_eq_true h).symm
      · exact .inr h
    · rintro (h | h)
      · subst h; exact .inl (by simp)
      · exact .inr h
theorem inB_iff (b i : Nat) : inB b i = b.testBit i := by
  have h : Nat.land (Nat.shiftRight b i) 1 = (b >>> i) % 2 := Nat.and_one_is_mod _
  unfold inB
  rw [h, Nat.testBit_eq_decide_div_mod_eq, Nat.shiftRight_eq_div_pow]
  rcases Nat.mod_two_eq_zero_or_one (b / 2 ^ i) with e | e <;> rw [e] <;> rfl
theorem inB_lor (a b i : Nat) : inB (Nat.lor a b) i = (inB a i || inB b i) := by
  rw [inB_iff, inB_iff, inB_iff]; exact Nat.testBit_or a b i
theorem inB_pow {n i : Nat} (h : inB (Nat.pow 2 n) i = true) : i = n := by
  rw [inB_iff] at h
  have : (2 ^ n).testBit i = true := h
  rw [Nat.testBit_two_pow] at this
  exact (of_decide_eq_true this).symm
theorem inB_zero (i : Nat) : inB 0 i = false := by rw [inB_iff]; exact Nat.zero_testBit i
theorem befores_spec {all : List Oper} {D : Nat → Prop} (hD : Closed all D) : ∀ {l : List Oper} {acc : List Nat} (_ : ∀ k o, nth l k = some o → nth all (acc.length + k) = some o)
    (_ : ∀ (k : Nat) o b, nth all k = some o → nth acc k = some b → Pre o D → ∀ i, inB b i = true → D i),
    ∀ (k : Nat) o b, nth all k = some o → nth (l.foldl (fun acc o => acc ++ [o.after.toList.foldl (fun m e => bif Region.binds .any e then Nat.lor m (Nat.lor (Nat.pow 2 e.on) ((nth acc e.on).getD 0)) else m) 0]) acc) k = some b → Pre o D → ∀ i, inB b i = true → D i
  | [], acc, _, h, k, o, b, ho, hb, hp => h k o b ho hb hp
  | x :: l, acc, hl, h, k, o, b, ho, hb, hp => by
    simp only [List.foldl_cons] at hb
    refine befores_spec hD (l := l) ?_ ?_ k o b ho hb hp
    · intro k o hk
      have := hl (k + 1) o (by simpa [nth] using hk)
      simp only [List.length_append, List.length_cons, List.length_nil]
      rw [show acc.length + (0 + 1) + k = acc.length + (k + 1) by omega]; exact this
    · intro k o b ho hb hp
      by_cases hk : k < acc.length
      · refine h k o b ho ?_ hp
        rw [nth_eq] at hb ⊢
        rwa [List.getElem?_append_left hk] at hb
      · have hk2 : k = acc.length := by
          have := lt_of_nth hb
          simp at this; omega
        subst hk2
        have hx : nth all acc.length = some x := hl 0 x rfl
        rw [ho] at hx; cases hx
        rw [nth_eq, List.getElem?_append_right (Nat.le_refl _), Nat.sub_self] at hb
        simp at hb
        subst hb
        have key : ∀ (es : List Edge) (l0 : Nat), (∀ e ∈ es, Region.binds .any e = true → D e.on) → (∀ i, inB l0 i = true → D i) →
            ∀ i, inB (es.foldl (fun m e => bif Region.binds .any e then Nat.lor m (Nat.lor (Nat.pow 2 e.on) ((nth acc e.on).getD 0)) else m) l0) i = true → D i := by
          intro es
          induction es with
          | nil => intro l0 _ h0; exact h0
          | cons e es ih =>
            intro l0 he h0
            simp only [List.foldl_cons]
            refine ih _ (fun e' he' => he e' (by simp [he'])) ?_
            cases hbind : Region.binds .any e with
            | true =>
              have hon := he e (by simp) hbind
              intro i hi
              simp only [cond_true] at hi
              rw [inB_lor, inB_lor, Bool.or_eq_true, Bool.or_eq_true] at hi
              rcases hi with e2 | e1 | e2
              · exact h0 i e2
              · have := inB_pow e1; subst this; exact hon
              · cases hn : nth acc e.on with
                | none => rw [hn] at e2; rw [show (Option.none.getD 0 : Nat) = 0 from rfl, inB_zero] at e2; cases e2
                | some b' =>
                  rw [hn] at e2
                  cases hoe : nth all e.on with
                  | none =>
                    exfalso
                    have h1 := lt_of_nth hn
                    have h2 := lt_of_nth ho
                    have h3 : e.on < all.length := by omega
                    obtain ⟨y, hy⟩ := nth_lt h3
                    rw [hoe] at hy; cases hy
                  | some oe => exact h e.on oe b' hoe hn (fun e' he' hb' => hD e.on oe hoe hon e' he' hb') i e2
            | false => exact h0
        have := key x.after.toList 0 (fun e he hb => hp e (by simpa using he) hb) (fun i hi => by rw [inB_zero] at hi; cases hi)
        simpa using this
end Abs
namespace Abs
open Go
theorem meets_iff {a b : List Nat} : meets a b = true ↔ ∃ x, x ∈ a ∧ x ∈ b := by
  unfold meets
  rw [List.any_eq_true]
  constructor
  · rintro ⟨x, h1, h2⟩; exact ⟨x, h1, memB_iff.1 h2⟩
  · rintro ⟨x, h1, h2⟩; exact ⟨x, h1, memB_iff.2 h2⟩
theorem meets_not {a b : List Nat} (h : meets a b = false) {x : Nat} (h1 : x ∈ a) (h2 : x ∈ b) : False := by
  rw [meets_iff.2 ⟨x, h1, h2⟩] at h; cases h
structure Indep (ops : Array Oper) (T : List Rec) : Prop where
  down : ∀ j o, nth ops.toList j = some o → ∀ e ∈ o.after, Region.binds .any e = true → e.on < j
  apart : ∀ (D : Nat → Prop), Closed ops.toList D → ∀ i j, i < j → ∀ oi oj ri rj, nth ops.toList i = some oi → nth ops.toList j = some oj → nth T i = some ri → nth T j = some rj →
    apartB ops.toList oi oj ri rj = true ∨ (Pre oj D → D i)
def LdHold (qs : List (Nat × Nat × Nat × Bool)) (wv : List (Nat × Option Dat × Option Dat)) : Prop := ∀ q ∈ qs, ∀ x ∈ wv, q.1 = x.1 → pr x.2.1 q = pr x.2.2 q
structure IndepL (ops : Array Oper) (T : List Rec) : Prop where
  ld : ∀ (D : Nat → Prop), Closed ops.toList D → ∀ i j, i < j → ∀ oj ri rj, nth ops.toList j = some oj → nth T i = some ri → nth T j = some rj →
    (LdHold ri.ld rj.wv ∧ LdHold rj.ld ri.wv) ∨ (Pre oj D → D i)
theorem ldOne_spec {q : Nat × Nat × Nat × Bool} : ∀ {wv : List (Nat × Option Dat × Option Dat)} {K : Prop}, ldOne q wv K → K ∧ ∀ x ∈ wv, q.1 = x.1 → pr x.2.1 q = pr x.2.2 q
  | [], K, h => ⟨h, fun x hx => by cases hx⟩
  | (l, a, b) :: r, K, h => by
    simp only [ldOne_nil, ldOne_cons] at h
    cases hb : Nat.beq q.1 l with
    | true =>
      rw [hb] at h
      obtain ⟨h1, h2⟩ := ldOne_spec h.k
      refine ⟨h1, fun x hx e => ?_⟩
      rcases List.mem_cons.1 hx with rfl | hx
      · exact h.h
      · exact h2 x hx e
    | false =>
      rw [hb] at h
      obtain ⟨h1, h2⟩ := ldOne_spec h
      refine ⟨h1, fun x hx e => ?_⟩
      rcases List.mem_cons.1 hx with rfl | hx
      · exfalso
        have e' : q.1 = l := e
        rw [e'] at hb
        rw [Nat.beq_refl] at hb; cases hb
      · exact h2 x hx e
theorem ldAll_spec : ∀ {qs : List (Nat × Nat × Nat × Bool)} {wv : List (Nat × Option Dat × Option Dat)} {K : Prop}, ldAll qs wv K → K ∧ LdHold qs wv
  | [], wv, K, h => ⟨h, fun q hq => by cases hq⟩
  | q :: qs, wv, K, h => by
    obtain ⟨h1, h2⟩ := ldOne_spec h
    obtain ⟨h3, h4⟩ := ldAll_spec h1
    refine ⟨h3, fun q' hq => ?_⟩
    rcases List.mem_cons.1 hq with rfl | hq
    · exact h2
    · exact h4 q' hq
theorem eqRow_spec {bj : Nat} {rj : Rec} : ∀ {rs : List Rec} {i : Nat} {K : Prop}, eqRow bj rj i rs K →
    K ∧ ∀ k ri, nth rs k = some ri → inB bj (i + k) = true ∨ (LdHold ri.ld rj.wv ∧ LdHold rj.ld ri.wv)
  | [], i, K, h => ⟨h, fun k ri hk => by simp [nth] at hk⟩
  | r :: rs, i, K, h => by
    simp only [eqRow_nil, eqRow_cons] at h
    cases hb : inB bj i with
    | true =>
      rw [hb] at h
      obtain ⟨h1, h2⟩ := eqRow_spec h
      refine ⟨h1, fun k ri hk => ?_⟩
      cases k with
      | zero => exact .inl hb
      | succ k => rw [show i + (k + 1) = i + 1 + k by omega]; exact h2 k ri (by simpa [nth] using hk)
    | false =>
      rw [hb] at h
      obtain ⟨h1, h2⟩ := ldAll_spec h
      obtain ⟨h3, h4⟩ := ldAll_spec h1
      obtain ⟨h5, h6⟩ := eqRow_spec h3
      refine ⟨h5, fun k ri hk => ?_⟩
      cases k with
      | zero => simp [nth] at hk; subst hk; exact .inr ⟨h2, h4⟩
      | succ k => rw [show i + (k + 1) = i + 1 + k by omega]; exact h6 k ri (by simpa [nth] using hk)
theorem eqGo_spec {all : List Rec} {bs : List Nat} : ∀ {rs : List Rec} {j : Nat} {K : Prop}, eqGo all bs j rs K →
    K ∧ ∀ k rj, nth rs k = some rj → ∃ bj, nth bs (j + k) = some bj ∧ ∀ i ri, i < j + k → nth all i = some ri → inB bj i = true ∨ (LdHold ri.ld rj.wv ∧ LdHold rj.ld ri.wv)
  | [], j, K, h => ⟨h, fun k ri hk => by simp [nth] at hk⟩
  | r :: rs, j, K, h => by
    simp only [eqGo_nil, eqGo_cons] at h
    split at h
    · rename_i bj hbj
      obtain ⟨h1, h2⟩ := eqRow_spec h
      obtain ⟨h3, h4⟩ := eqGo_spec h1
      refine ⟨h3, fun k rj hk => ?_⟩
      cases k with
      | zero =>
        simp [nth] at hk; subst hk
        refine ⟨bj, hbj, fun i ri hi hr => ?_⟩
        have := h2 i ri (by rw [nth_eq] at hr ⊢; rw [List.getElem?_take]; simp [show i < j by omega, hr])
        simpa using this
      | succ k => rw [show j + (k + 1) = j + 1 + k by omega]; exact h4 k rj (by simpa [nth] using hk)
    · exact h.elim
theorem anyLd_no {ls : List Nat} : ∀ {rs : List Rec}, anyLd ls rs = false → ∀ r ∈ rs, ∀ q ∈ r.ld, q.1 ∉ ls
  | [], _, r, hr => by cases hr
  | x :: rs, h, r, hr => by
    simp only [anyLd, Bool.or_eq_false_iff] at h
    rcases List.mem_cons.1 hr with rfl | hr
    · intro q hq hm
      have := List.any_eq_false.1 h.1 q hq
      exact this (memB_iff.2 hm)
    · exact anyLd_no h.2 r hr
theorem mem_nth {α : Type} {l : List α} {i : Nat} {x : α} (h : nth l i = some x) : x ∈ l := by rw [nth_eq] at h; exact List.mem_of_getElem? h
theorem eqP_spec {ops : Array Oper} {T : List Rec} {K : Prop} (h : eqP ops.toList T K) (hw : ∀ r ∈ T, ∀ x ∈ r.wv, x.1 ∈ r.wh) : K ∧ IndepL ops T := by
  unfold eqP at h
  split at h
  · rename_i hn
    refine ⟨h, ⟨fun D hD i j hij oj ri rj ho hi hj => .inl ⟨fun q hq x hx e => ?_, fun q hq x hx e => ?_⟩⟩⟩
    · exact absurd (List.mem_flatMap.2 ⟨rj, mem_nth hj, e ▸ hw rj (mem_nth hj) x hx⟩) (anyLd_no hn ri (mem_nth hi) q hq)
    · exact absurd (List.mem_flatMap.2 ⟨ri, mem_nth hi, e ▸ hw ri (mem_nth hi) x hx⟩) (anyLd_no hn rj (mem_nth hj) q hq)
  · obtain ⟨h1, h2⟩ := eqGo_spec h
    refine ⟨h1, ⟨fun D hD i j hij oj ri rj ho hi hj => ?_⟩⟩
    obtain ⟨bj, hb, hr⟩ := h2 j rj hj
    rw [Nat.zero_add] at hb hr
    rcases hr i ri hij hi with hm | hm
    · refine .inr fun hp => ?_
      exact befores_spec hD (l := ops.toList) (acc := []) (fun k o hk => by simpa using hk) (fun k o b _ hb => by simp [nth] at hb) j oj bj ho hb hp i hm
    · exact .inl hm
theorem ldOne_det {q : Nat × Nat × Nat × Bool} : ∀ {wv : List (Nat × Option Dat × Option Dat)} {K : Prop}, ldOne q wv K → K ∧ ∀ K', K' → ldOne q wv K'
  | [], K, h => ⟨h, fun _ h => h⟩
  | (l, a, b) :: r, K, h => by
    simp only [ldOne_nil, ldOne_cons] at h ⊢
    cases hb : Nat.beq q.1 l with
    | true =>
      rw [hb] at h
      obtain ⟨h1, h2⟩ := ldOne_det h.k
      exact ⟨h1, fun K' hk => ⟨h.h, h2 K' hk⟩⟩
    | false => rw [hb] at h; exact ldOne_det h
theorem ldAll_det : ∀ {qs : List (Nat × Nat × Nat × Bool)} {wv : List (Nat × Option Dat × Option Dat)} {K : Prop}, ldAll qs wv K → K ∧ ∀ K', K' → ldAll qs wv K'
  | [], wv, K, h => ⟨h, fun _ h => h⟩
  | q :: qs, wv, K, h => by
    obtain ⟨h1, h2⟩ := ldOne_det (q := q) h
    obtain ⟨h3, h4⟩ := ldAll_det h1
    exact ⟨h3, fun K' hk => h2 _ (h4 K' hk)⟩
theorem eqRow_det {bj : Nat} {rj : Rec} : ∀ {rs : List Rec} {i : Nat} {K : Prop}, eqRow bj rj i rs K → K ∧ ∀ K', K' → eqRow bj rj i rs K'
  | [], i, K, h => ⟨h, fun _ h => h⟩
  | r :: rs, i, K, h => by
    simp only [eqRow_nil, eqRow_cons] at h ⊢
    cases hb : inB bj i with
    | true => rw [hb] at h; exact eqRow_det h
    | false =>
      rw [hb] at h
      obtain ⟨h1, q1⟩ := ldAll_det h
      obtain ⟨h3, q2⟩ := ldAll_det h1
      obtain ⟨h5, q3⟩ := eqRow_det h3
      exact ⟨h5, fun K' hk => q1 _ (q2 _ (q3 K' hk))⟩
theorem eqGo_det {all : List Rec} {bs : List Nat} : ∀ {rs : List Rec} {j : Nat} {K : Prop}, eqGo all bs j rs K → K ∧ ∀ K', K' → eqGo all bs j rs K'
  | [], j, K, h => ⟨h, fun _ h => h⟩
  | r :: rs, j, K, h => by
    simp only [eqGo_nil, eqGo_cons] at h ⊢
    split at h
    · obtain ⟨h1, q1⟩ := eqRow_det h
      obtain ⟨h3, q2⟩ := eqGo_det h1
      exact ⟨h3, fun K' hk => q1 _ (q2 K' hk)⟩
    · exact h.elim
theorem eqP_det {ops : List Oper} {T : List Rec} {K : Prop} (h : eqP ops T K) : K ∧ ∀ K', K' → eqP ops T K' := by
  unfold eqP at *
  split at h
  · exact ⟨h, fun _ h => h⟩
  · exact eqGo_det h
theorem indepB_spec {ops : Array Oper} {T : List Rec} (h : indepB ops.toList T = true) : Indep ops T := by
  have h' : ∀ j, j < ops.toList.length → edgesDown ops.toList j = true ∧ (match nth ops.toList j, nth T j, nth (befores ops.toList []) j with
    | some oj, some rj, some bj => (List.range j).all fun i => inB bj i || match nth ops.toList i, nth T i with
      | some oi, some ri => apartB ops.toList oi oj ri rj
      | _, _ => false
    | _, _, _ => false) = true := by
    intro j hj
    have h := h
    unfold indepB at h
    simp only [List.all_eq_true, List.mem_range, Bool.and_eq_true] at h
    obtain ⟨h1, h2⟩ := h j hj
    refine ⟨h1, ?_⟩
    split
    · rename_i oj rj bj e1 e2 e3
      rw [e1, e2, e3] at h2
      dsimp only at h2
      exact h2
    · rename_i hno
      split at h2
      · rename_i oj rj bj e1 e2 e3
        exact (hno _ _ _ e1 e2 e3).elim
      · exact h2
  refine ⟨fun j o ho e he hbd => ?_, fun D hD i j hij oi oj ri rj h1 h2 h3 h4 => ?_⟩
  · have h1 := (h' j (lt_of_nth ho)).1
    unfold edgesDown at h1
    dsimp only at h1
    rw [ho] at h1
    simp only [List.all_eq_true] at h1
    have := h1 e (by simpa using he)
    rw [hbd] at this
    simpa [Nat.blt_eq] using this
  · have hb := (h' j (lt_of_nth h2)).2
    rw [h2, h4] at hb
    split at hb
    · rename_i oj' rj' bj e1 e2 e3
      cases e1; cases e2
      simp only [List.all_eq_true, List.mem_range] at hb
      have hbi := hb i hij
      rw [h1, h3] at hbi
      dsimp only at hbi
      rw [Bool.or_eq_true] at hbi
      rcases hbi with hbi | hbi
      · refine .inr fun hp => ?_
        exact befores_spec hD (l := ops.toList) (acc := []) (fun k o hk => by simpa using hk) (fun k o b _ hb => by simp [nth] at hb) j oj bj h2 e3 hp i hbi
      · exact .inl hbi
    · cases hb
section
variable {P : Program} {cx : Cx} {c : Cfg} {ops : Array Oper} {S : Nat → St} {T : List Rec}
structure Inv (ops : Array Oper) (S : Nat → St) (T : List Rec) (D : Nat → Prop) (u : St) : Prop where
  env : ∀ x m, m ≤ ops.size → (∀ i o, i < m → nth ops.toList i = some o → o.dst = some x → D i) → (∀ i o, m ≤ i → nth ops.toList i = some o → o.dst = some x → ¬ D i) → u.env x = (S m).env x
  H : ∀ x m, m ≤ ops.size → (∀ i r, i < m → nth T i = some r → x ∈ r.wh → D i) → (∀ i r, m ≤ i → nth T i = some r → x ∈ r.wh → ¬ D i) → u.H x = (S m).H x
  R : ∀ x m, m ≤ ops.size → (∀ i r, i < m → nth T i = some r → x ∈ r.wr → D i) → (∀ i r, m ≤ i → nth T i = some r → x ∈ r.wr → ¬ D i) → u.R x = (S m).R x
  L : ∀ q m, m ≤ ops.size → (∀ i, i < m → i < ops.size → pr ((S (i+1)).H q.1) q ≠ pr ((S i).H q.1) q → D i) →
    (∀ i, m ≤ i → i < ops.size → pr ((S (i+1)).H q.1) q ≠ pr ((S i).H q.1) q → ¬ D i) → pr (u.H q.1) q = pr ((S m).H q.1) q
theorem key_step {α : Type} {n : Nat} {V : Nat → α} {W : Nat → Prop} {D : Nat → Prop} {j : Nat} (hj : j < n) {v v' : α}
    (hinv : ∀ m, m ≤ n → (∀ i, i < m → W i → D i) → (∀ i, m ≤ i → W i → ¬ D i) → v = V m)
    (hkeep : ∀ i, i < n → ¬ W i → V (i + 1) = V i) (hWn : ∀ i, W i → i < n)
    (hjD : ¬ D j) (hord1 : ∀ i, i < j → W i → W j → D i) (hord2 : ∀ i, j < i → W i → W j → ¬ D i)
    (hp : (V (j + 1) = V j ∧ v' = v) ∨ (V (j + 1) = v' ∧ W j)) :
    ∀ m, m ≤ n → (∀ i, i < m → W i → (D i ∨ i = j)) → (∀ i, m ≤ i → W i → ¬ (D i ∨ i = j)) → v' = V m := by
  intro m hm h1 h2
  by_cases hW : W j
  · have hjm : j < m := by
      rcases Nat.lt_or_ge j m with h | h
      · exact h
      · exact absurd (.inr rfl) (h2 j h hW)
    have hconst : ∀ k, j + 1 + k ≤ m → V (j + 1 + k) = V (j + 1) := by
      intro k
      induction k with
      | zero => intro _; rfl
      | succ k ih =>
        intro hk
        have hnw : ¬ W (j + 1 + k) := by
          intro hw
          rcases h1 (j + 1 + k) (by omega) hw with h | h
          · exact hord2 (j + 1 + k) (by omega) hw hW h
          · omega
        rw [show j + 1 + (k + 1) = (j + 1 + k) + 1 by omega, hkeep (j + 1 + k) (by omega) hnw]
        exact ih (by omega)
    have hVm : V m = V (j + 1) := by
      have := hconst (m - (j + 1)) (by omega)
      rwa [show j + 1 + (m - (j + 1)) = m by omega] at this
    rcases hp with ⟨a, b⟩ | ⟨a, _⟩
    · rw [hVm, a, b]
      refine hinv j (by omega) (fun i hi hw => hord1 i hi hw hW) (fun i hi hw => ?_)
      rcases Nat.lt_or_ge j i with h | h
      · exact hord2 i h hw hW
      · have : i = j := by omega
        subst this; exact hjD
    · rw [hVm, a]
  · rcases hp with ⟨a, b⟩ | ⟨_, b⟩
    · rw [b]
      refine hinv m hm (fun i hi hw => ?_) (fun i hi hw hd => h2 i hi hw (.inl hd))
      rcases h1 i hi hw with h | h
      · exact h
      · subst h; exact absurd hw hW
    · exact absurd b hW
theorem key_at {α : Type} {n : Nat} {V : Nat → α} {W : Nat → Prop} {D : Nat → Prop} {j : Nat} (hj : j < n) {v : α}
    (hinv : ∀ m, m ≤ n → (∀ i, i < m → W i → D i) → (∀ i, m ≤ i → W i → ¬ D i) → v = V m)
    (hjD : ¬ D j) (hord1 : ∀ i, i < j → W i → D i) (hord2 : ∀ i, j < i → W i → ¬ D i) : v = V j := by
  refine hinv j (by omega) hord1 (fun i hi hw => ?_)
  rcases Nat.lt_or_ge j i with h | h
  · exact hord2 i h hw
  · have : i = j := by omega
    subst this; exact hjD
end
end Abs
namespace Abs
open Go
def FW (ro : Option Nat) : Fence := { fn := fun _ => True, depth := none, alive := false, round := ro }
theorem FW_calls {ro : Option Nat} {n : Nat} {P : Program} {f : FuncId} {args : Array Value} {w : World} {R : Ending → World → Prop} : CallsIn (FW ro) n P f args w R ↔ Calls P f args w R := by
  cases ro with
  | none => exact callsIn_wide
  | some l => exact ⟨fun h => (callsIn_wide (n := n)).1 (CallsIn.outOfRound (F := Fence.wide) (l := l) h), fun h => CallsIn.inRound (F := Fence.wide) l (callsIn_wide.2 h)⟩
theorem FW_rows {ro : Option Nat} {n : Nat} {P : Program} {row : String} {args : Array Value} {w : World} {R : Value → World → Prop} (h : Rows P row args w R) : RowsIn (FW ro) n P row args w R := by
  cases ro with
  | none => exact fun c cs _ => let ⟨v, w', r, s⟩ := h c cs; ⟨v, w', r, stepsIn_wide.2 s⟩
  | some l => exact fun c cs _ => let ⟨v, w', r, s⟩ := h c cs; ⟨v, w', r, stepsIn_wide.2 s⟩
theorem FW_round {ro : Option Nat} {n : Nat} {P : Program} {l : Nat} {f : FuncId} {tmps : Array Value} {asg body : Code} {w : World} {R : Ending → World → Prop} (h : RoundIn Fence.wide n P l f tmps asg body w R) :
    RoundIn (FW ro) n P l f tmps asg body w R := by
  cases ro with
  | none => exact h
  | some l => exact h
theorem wpIn_of_wp {P : Program} {ro : Option Nat} {n : Nat} {o : Oper} {a : Act} {w : World} {M : Act → World → Prop} {Q : Go.Exit → Act → World → Prop} (hd : ∀ c, o.op ≠ .defer c) (h : o.wp P a w M Q) :
    o.wpIn (FW ro) n P a w M Q := by
  refine ⟨fun _ _ => trivial, ?_⟩
  rw [Oper.semAt_eq _ _ _ hd]
  unfold Oper.wp at h
  generalize (execOp a.eval o).run P w = r at h
  cases r with
  | ok x w' =>
    cases x <;> simp only [Oper.upon, Oper.uponIn] at h ⊢ <;>
      first
        | exact h
        | exact ⟨fun e => by simp [FW] at e, FW_calls.2 h⟩
        | exact ⟨fun e => by simp [FW] at e, FW_rows h⟩
        | exact h.elim
  | halt x w' => cases x <;> simp only [Oper.upon, Oper.uponIn] at h ⊢ <;> exact h
theorem RowAt.mine {cx cx' : Cx} {g : Gh} {w : World} {t : Tv} {r : Row} (h : ∀ b, t.base = some b → cx.mine b → cx'.mine b) (k : RowAt cx g w t r) : RowAt cx' g w t r := by
  refine ⟨fun hz => ?_, fun hz => ?_⟩
  · have k := k.o hz
    unfold RowO at *
    cases hb : t.base with
    | none => rw [hb] at k; exact k
    | some b => rw [hb] at k; exact ⟨k.1, h b hb k.2.1, k.2.2⟩
  · obtain ⟨o1, b, es, clock, k1, k2, k3⟩ := k.m hz
    exact ⟨o1, b, es, clock, k1, h b k1 k2, k3⟩
theorem ext_I {g : Gh} {I' : Nat → Nat → Option Value} (h : SubI g.I I') : Ext g { g with I := I' } := ⟨h, fun _ _ e => e, fun _ t e => ⟨t, e, rfl, .inr rfl⟩⟩
theorem Mem.after {cx cx' : Cx} {g : Gh} {s : St} {w w' : World} (m : Mem cx g s w) {I' : Nat → Nat → Option Value} (hI : SubI g.I I') (hc : Cells I' w')
    (hkeep : ∀ b, b < w.heap.size → cx.mine b → w'.heap[b]? = w.heap[b]?) (hold : ∀ b o v, I' b o = some v → cx.mine b → b < w.heap.size → g.I b o = some v)
    (hmine : ∀ b, b < w.heap.size → cx.mine b → cx'.mine b) (hnewI : ∀ b o v, I' b o = some v → cx'.I0 b o = some v ∨ cx'.mine b)
    (hfr : cx'.Fr I' w') (hnew : ∀ b, w'.heap.size ≤ b → cx'.mine b) : Mem cx' { g with I := I' } s w' where
  iw := hc
  box l d h := by
    obtain ⟨b, h1, h2, h3⟩ := m.box l d h
    exact ⟨b, h1, h2.mono (ext_I hI) (hkeep b h2.lt h3), hmine b h2.lt h3⟩
  nobox := m.nobox
  inj := m.inj
  dis l b h o := by
    obtain ⟨d, hd⟩ := m.nobox l b h
    obtain ⟨b', h1, h2, h3⟩ := m.box l d hd
    have h1' : g.mu l = some b := h
    rw [h1'] at h1; cases h1
    show I' b o = none
    cases hx : I' b o with
    | none => rfl
    | some v => rw [← hold b o v hx h3 h2.lt]; exact (m.dis l b h o).symm ▸ rfl
  row k r h := by
    obtain ⟨t, h1, h2, h3, h4, h5⟩ := m.row k r h
    refine ⟨t, h1, h2, h3, h4, RowAt.mine (cx := cx) (fun b hb => hmine b (h5.blk hb).1) (h5.mono (ext_I hI) fun b hb => ⟨hkeep b (h5.blk hb).1 (h5.blk hb).2.1, (h5.blk hb).2.2, fun j => ?_⟩)⟩
    show I' b j = g.I b j
    cases hx : I' b j with
    | some v => exact (hold b j v hx (h5.blk hb).2.1 (h5.blk hb).1).symm
    | none =>
      cases hy : g.I b j with
      | none => rfl
      | some v => have := hI b j v hy; rw [hx] at this; cases this
  norow := m.norow
  rdis := m.rdis
  newI := hnewI
  frame := hfr
  new := hnew
structure RoundDone (J : YS → (Nat → Prop) → (Nat → Nat → Option Value) → World → Prop) (k : Nat) (N : Nat → Prop) (I : Nat → Nat → Option Value) (w : World) (e : Ending) (w' : World) : Prop where
  size : w.heap.size ≤ w'.heap.size
  keep : ∀ b, b < w.heap.size → ¬ N b → w'.heap[b]? = w.heap[b]?
  cells : Cells I w'
  out : ∃ y, ((e = .returned (.bool true) ∧ y = .run (k + 1)) ∨ (e = .returned (.bool false) ∧ y = .stop)) ∧ J y (fun b => N b ∨ (w.heap.size ≤ b ∧ b < w'.heap.size)) I w'
structure Host (P : Program) (l : Nat) (xs : List (List Dat)) where
  J : YS → (Nat → Prop) → (Nat → Nat → Option Value) → World → Prop
  I0 : Nat → Nat → Option Value
  on : ∀ y N I w, J y N I w → y ≠ .off
  rely : ∀ y N I w w', J y N I w → Frame w w' (fun b => ¬ N b) → (∀ b o v, I b o = some v → w'.cell? ⟨b, o, none⟩ = some v) → J y N I w'
  round : ∀ k N Ih I w (vs : Array Value) ds, J (.run k) N Ih w → SubI Ih I → nth xs k = some ds → vs.size = ds.length → (∀ (i : Nat) v d, vs[i]? = some v → nth ds i = some d → RepI I v d) →
    Cells I w → (∀ b o v, I b o = some v → I0 b o = some v ∨ ¬ N b) → (∀ b, w.heap.size ≤ b → ¬ N b) →
    ∃ fn tmps assign body, (Instr.yield l vs).run P w = .ok (.round l fn tmps assign body) w ∧ ∀ n, RoundIn Fence.wide n P l fn tmps assign body w (RoundDone J k N I w)
def Host.cx {P : Program} {l : Nat} {xs : List (List Dat)} (h : Host P l xs) (n : Nat) (w0 : World) (I0 : Nat → Nat → Option Value) (y : YS) (N : Nat → Prop) : Cx where
  n := n
  mine b := w0.heap.size ≤ b ∧ ¬ N b
  I0 := I0
  D := []
  Fr I w := (∃ Ih, h.J y N Ih w ∧ SubI Ih I) ∧ w0.heap.size ≤ w.heap.size ∧ ∀ b, b < w0.heap.size → ¬ N b → w.heap[b]? = w0.heap[b]?
  st I I' w w' hf hs fr hc _ := by
    obtain ⟨⟨Ih, h1, h2⟩, h3, h4⟩ := hf
    refine ⟨⟨Ih, h.rely y N Ih w w' h1 (fr.sub fun i _ e => e.2) (fun b o v e => (hc b o v (hs _ _ _ (h2 _ _ _ e))).1), fun b o v e => hs _ _ _ (h2 _ _ _ e)⟩, Nat.le_trans h3 fr.size, fun b hb hn => ?_⟩
    exact (fr.block b (Nat.lt_of_lt_of_le hb h3) (fun e => by have := e.1; omega)).trans (h4 b hb hn)
structure CallsY (P : Program) (l : Nat) (xs : List (List Dat)) (f : FuncId) (args : List Dat) (k : Nat) (Q : Dat → YS → Prop) : Prop where
  fn : ∃ fn, P.funcs[f]? = some fn ∧ fn.body.isNone = false ∧ (fn.name == "runtime.NumGoroutine") = false
  go : ∀ (h : Host P l xs) (N : Nat → Prop) (I : Nat → Nat → Option Value) (w : World) (vs : Array Value), vs.size = args.length → (∀ (i : Nat) v d, vs[i]? = some v → nth args i = some d → RepI I v d) →
    Cells I w → (∀ b o v, I b o = some v → h.I0 b o = some v ∨ ¬ N b) → (∀ b, w.heap.size ≤ b → ¬ N b) → (∃ Ih, h.J (.run k) N Ih w ∧ SubI Ih I) →
    Calls P f vs w fun e w' => match e with
      | .returned v => ∃ r y N' I', Q r y ∧ (∀ b, N' b → N b ∨ (w.heap.size ≤ b ∧ b < w'.heap.size)) ∧ (∀ b, N b → N' b) ∧ SubI I I' ∧ Rep ⟨I', fun _ => none, fun _ => none⟩ v r ∧
          Cells I' w' ∧ (∀ b o v, I' b o = some v → I b o = some v ∨ (w.heap.size ≤ b ∧ ¬ N' b)) ∧ (∃ Ih, h.J y N' Ih w' ∧ SubI Ih I') ∧
          w.heap.size ≤ w'.heap.size ∧ ∀ b, b < w.heap.size → ¬ N' b → w'.heap[b]? = w.heap[b]?
      | _ => False
structure IterA (P : Program) (d : Dat) (xs : List (List Dat)) : Prop where
  out : ∃ f first cap, d = .clo (.func f) first cap ∧ (pureD.go first && pureD.go cap) = true ∧ ∀ l, CallsY P l xs f (first ++ [.yld l] ++ cap) 0 fun _ y => y = .run xs.length ∨ y = .stop
structure CfgOk (P : Program) (c : Cfg) : Prop where
  C : ∀ f args m r m', c.C f args m r m' → CallsA P f args m r m'
  CY : ∀ f args k outs, c.CY f args k outs → CallsY P c.l c.xs f args k fun r y => (r, y) ∈ outs
  It : ∀ d xs, c.It d xs → IterA P d xs
structure Mode (P : Program) (c : Cfg) where
  h : Host P c.l c.xs
  n : Nat
  w0 : World
  I0 : Nat → Nat → Option Value
  N0 : Nat → Prop
structure At {P : Program} {c : Cfg} (M : Mode P c) (cx : Cx) (y : YS) (N : Nat → Prop) : Prop where
  cx : cx = M.h.cx M.n M.w0 M.I0 y N
  I0 : ∀ b o v, M.I0 b o = some v → b < M.w0.heap.size ∧ (M.h.I0 b o = some v ∨ ¬ N b)
  up : ∀ b, N b → M.N0 b ∨ M.w0.heap.size ≤ b
  lo : ∀ b, M.N0 b → N b
def YOk {P : Program} {c : Cfg} (M : Option (Mode P c)) (cx : Cx) : YS → Prop
  | .off => M = none
  | y => ∃ m N, M = some m ∧ At m cx y N
end Abs
namespace Abs
open Go
structure LKeep (s s' : St) : Prop where
  env : s'.env = s.env
  H : s'.H = s.H
  hn : s'.hn = s.hn
  rn : s'.rn = s.rn
  R : ∀ k, s'.R k = none ↔ s.R k = none
  y : s'.y = s.y
theorem LKeep.refl (s : St) : LKeep s s := ⟨rfl, rfl, rfl, rfl, fun _ => Iff.rfl, rfl⟩
theorem LKeep.trans {a b c : St} (h : LKeep a b) (k : LKeep b c) : LKeep a c :=
  ⟨k.env.trans h.env, k.H.trans h.H, k.hn.trans h.hn, k.rn.trans h.rn, fun x => (k.R x).trans (h.R x), k.y.trans h.y⟩
theorem keep_leakCell {s : St} {d : Dat} {K : St → Dat → Prop} (hk : leakCell s d K) : leakCell s d fun s' d' => LKeep s s' ∧ K s' d' := by
  cases d with
  | ref k n =>
    simp only [leakCell] at hk ⊢
    cases hr : s.R k with
    | none => rw [hr] at hk; exact hk.elim
    | some r =>
      rw [hr] at hk
      dsimp only at hk ⊢
      split at hk
      · exact hk.elim
      refine ⟨hk.h, ⟨rfl, rfl, rfl, rfl, fun x => ?_, rfl⟩, hk.k⟩
      simp only [St.freeze]
      by_cases hx : x = k
      · subst hx; rw [upd_eq, hr]; simp
      · rw [upd_ne _ _ _ _ hx]
  | sl z es b => exact ⟨LKeep.refl s, hk⟩
  | _ =>
    simp only [leakCell] at hk ⊢
    split at hk
    · rename_i hp; exact ⟨LKeep.refl s, hk⟩
    · exact hk.elim
theorem leakCell_mono {s : St} {d : Dat} {K K' : St → Dat → Prop} (hk : leakCell s d K) (h : ∀ s d, K s d → K' s d) : leakCell s d K' := by
  cases d with
  | ref k n =>
    simp only [leakCell] at hk ⊢
    split at hk
    · split at hk
      · exact hk.elim
      · exact ⟨hk.h, h _ _ hk.k⟩
    · exact hk.elim
  | sl z es b => exact h _ _ hk
  | _ =>
    simp only [leakCell] at hk ⊢
    split at hk
    · exact h _ _ hk
    · exact hk.elim
theorem keep_leakCells : ∀ {ds : List Dat} {s : St} {K : St → List Dat → Prop}, leakCells s ds K → leakCells s ds fun s' ds' => LKeep s s' ∧ K s' ds'
  | [], s, K, hk => ⟨LKeep.refl s, hk⟩
  | d :: ds, s, K, hk => by
    simp only [leakCells_nil, leakCells_cons] at hk ⊢
    refine leakCell_mono (keep_leakCell hk) fun s1 d1 ⟨k1, h1⟩ => ?_
    have h2 := keep_leakCells h1
    exact leakCells_mono h2 fun s2 ds2 ⟨k2, h3⟩ => ⟨k1.trans k2, h3⟩
 where leakCells_mono : ∀ {ds : List Dat} {s : St} {K K' : St → List Dat → Prop}, leakCells s ds K → (∀ s d, K s d → K' s d) → leakCells s ds K'
  | [], _, _, _, hk, h => h _ _ hk
  | d :: ds, _, _, _, hk, h => by
    rw [leakCells_cons] at hk ⊢
    exact leakCell_mono hk fun _ _ h1 => leakCells_mono h1 fun _ _ h2 => h _ _ h2
theorem leak_mono {s : St} {d : Dat} {K K' : St → Dat → Prop} (hk : leak s d K) (h : ∀ s d, K s d → K' s d) : leak s d K' := by
  unfold leak at *
  split
  · rename_i hp; rw [hp] at hk; exact h _ _ hk
  · rename_i hp
    rw [hp] at hk
    cases d with
    | agg cs => exact keep_leakCells.leakCells_mono hk fun _ _ h2 => h _ _ h2
    | ref k n => exact leakCell_mono (d := .ref k n) hk h
    | sl z es b => exact leakCell_mono (d := .sl z es b) hk h
    | _ => exact hk.elim
theorem keep_leak {s : St} {d : Dat} {K : St → Dat → Prop} (hk : leak s d K) : leak s d fun s' d' => LKeep s s' ∧ K s' d' := by
  unfold leak at *
  split
  · rename_i hp; rw [hp] at hk; exact ⟨LKeep.refl s, hk⟩
  · rename_i hp
    rw [hp] at hk
    cases d with
    | agg cs => exact keep_leakCells hk
    | ref k n => exact keep_leakCell (d := .ref k n) hk
    | sl z es b => exact keep_leakCell (d := .sl z es b) hk
    | _ => exact hk.elim
theorem leakAll_mono : ∀ {ds : List Dat} {s : St} {K K' : St → List Dat → Prop}, leakAll s ds K → (∀ s d, K s d → K' s d) → leakAll s ds K'
  | [], _, _, _, hk, h => h _ _ hk
  | d :: ds, _, _, _, hk, h => by
    rw [leakAll_cons] at hk ⊢
    exact leak_mono hk fun _ _ h1 => leakAll_mono h1 fun _ _ h2 => h _ _ h2
theorem keep_leakAll : ∀ {ds : List Dat} {s : St} {K : St → List Dat → Prop}, leakAll s ds K → leakAll s ds fun s' ds' => LKeep s s' ∧ K s' ds'
  | [], s, K, hk => ⟨LKeep.refl s, hk⟩
  | d :: ds, s, K, hk => by
    simp only [leakAll_nil, leakAll_cons] at hk ⊢
    refine leak_mono (keep_leak hk) fun s1 d1 ⟨k1, h1⟩ => ?_
    exact leakAll_mono (keep_leakAll h1) fun s2 ds2 ⟨k2, h3⟩ => ⟨k1.trans k2, h3⟩
theorem handPin_mono {ls : List Nat} {d : Dat} {K K' : List Nat → Dat → Prop} (hk : handPin ls d K) (h : ∀ ls d, K ls d → K' ls d) : handPin ls d K' := by
  obtain ⟨ls', d', k1, _, l1⟩ := loc_handPin hk
  exact l1 _ (h _ _ k1)
theorem handCaps_mono : ∀ {ds : List Dat} {s : St} {ls ks : List Nat} {K K' : St → List Nat → List Nat → List Dat → Prop}, handCaps s ls ks ds K →
    (∀ s' ls ks ds, LKeep s s' → K s' ls ks ds → K' s' ls ks ds) → handCaps s ls ks ds K'
  | [], s, ls, ks, K, K', hk, h => h _ _ _ _ (LKeep.refl s) hk
  | d :: ds, s, ls, ks, K, K', hk, h => by
    cases d with
    | ptr l off =>
      simp only [handCaps_nil, handCaps_cons] at hk ⊢
      split at hk
      · exact handCaps_mono hk fun s' ls' ks' ds' k1 h1 => h _ _ _ _ k1 h1
      · exact handCaps_mono hk fun s' ls' ks' ds' k1 h1 => h _ _ _ _ k1 h1
    | pin x =>
      simp only [handCaps_cons] at hk ⊢
      exact handPin_mono hk fun ls1 d1 h1 => handCaps_mono h1 fun s' ls' ks' ds' k1 h1 => h _ _ _ _ k1 h1
    | _ =>
      simp only [handCaps_nil, handCaps_cons] at hk ⊢
      exact leak_mono (keep_leak hk) fun s1 d1 ⟨k1, h1⟩ => handCaps_mono h1 fun s' ls' ks' ds' k2 h2 => h _ _ _ _ (k1.trans k2) h2
theorem handCell_mono {d : Dat} {s : St} {ls ks : List Nat} {K K' : St → List Nat → List Nat → Dat → Prop} (hk : handCell s ls ks d K)
    (h : ∀ s' ls ks d, LKeep s s' → K s' ls ks d → K' s' ls ks d) : handCell s ls ks d K' := by
  cases d with
  | ptr l off =>
    simp only [handCell] at hk ⊢
    split at hk
    · exact h _ _ _ _ (LKeep.refl s) hk
    · exact h _ _ _ _ (LKeep.refl s) hk
  | clo fn first cap =>
    simp only [handCell] at hk ⊢
    exact handCaps_mono hk fun s1 ls1 ks1 ds1 k1 h1 => handCaps_mono h1 fun s' ls' ks' ds' k2 h2 => h _ _ _ _ (k1.trans k2) h2
  | pin x =>
    simp only [handCell] at hk ⊢
    exact handPin_mono hk fun ls1 d1 h1 => h _ _ _ _ (LKeep.refl s) h1
  | _ =>
    simp only [handCell] at hk ⊢
    exact leak_mono (keep_leak hk) fun s1 d1 ⟨k1, h1⟩ => h _ _ _ _ k1 h1
theorem handRow_mono {s : St} {ks : List Nat} {k n : Nat} {K K' : List Nat → Dat → Prop} (hk : handRow s ks k n K) (h : ∀ ks d, K ks d → K' ks d) : handRow s ks k n K' := by
  unfold handRow at *
  split at hk
  · refine ⟨hk.h, ?_⟩
    have h2 := hk.k
    split at h2
    · unfold named at h2 ⊢
      split at h2
      · exact h _ _ h2
      · exact h _ _ h2
    · exact h _ _ h2
  · exact hk.elim
theorem handMap_mono {s : St} {ks : List Nat} {k : Nat} {K K' : List Nat → Dat → Prop} (hk : handMap s ks k K) (h : ∀ ks d, K ks d → K' ks d) : handMap s ks k K' := by
  unfold handMap at *
  split at hk
  · unfold named at hk ⊢
    split at hk
    · exact h _ _ hk
    · exact h _ _ hk
  · exact hk.elim
theorem handArgs_mono {byref : Bool} : ∀ {ds : List Dat} {s : St} {ls ks : List Nat} {K K' : St → List Nat → List Nat → List Dat → Prop}, handArgs byref s ls ks ds K →
    (∀ s' ls ks ds, LKeep s s' → K s' ls ks ds → K' s' ls ks ds) → handArgs byref s ls ks ds K'
  | [], s, ls, ks, K, K', hk, h => h _ _ _ _ (LKeep.refl s) hk
  | d :: ds, s, ls, ks, K, K', hk, h => by
    have other : handCell s ls ks d (fun s ls ks d => handArgs byref s ls ks ds fun s ls ks ds => K s ls ks (d :: ds)) →
        handCell s ls ks d (fun s ls ks d => handArgs byref s ls ks ds fun s ls ks ds => K' s ls ks (d :: ds)) := fun h0 =>
      handCell_mono h0 fun s1 ls1 ks1 d1 k1 h1 => handArgs_mono h1 fun s' ls' ks' ds' k2 h2 => h _ _ _ _ (k1.trans k2) h2
    cases d with
    | ref k n =>
      cases byref with
      | true =>
        simp only [handArgs_nil, handArgs_cons] at hk ⊢
        exact handRow_mono hk fun ks1 d1 h1 => handArgs_mono h1 fun s' ls' ks' ds' k2 h2 => h _ _ _ _ k2 h2
      | false => exact other hk
    | mref k =>
      simp only [handArgs_nil, handArgs_cons] at hk ⊢
      exact handMap_mono hk fun ks1 d1 h1 => handArgs_mono h1 fun s' ls' ks' ds' k2 h2 => h _ _ _ _ k2 h2
    | _ => exact other hk
theorem handBody_mono {s : St} : ∀ {ds : List Dat} {ks : List Nat} {K K' : List Nat → List Dat → Prop}, handBody s ks ds K → (∀ ks d, K ks d → K' ks d) → handBody s ks ds K'
  | [], ks, K, K', hk, h => h _ _ hk
  | d :: ds, ks, K, K', hk, h => by
    cases d with
    | ref k n =>
      simp only [handBody_nil, handBody_cons] at hk ⊢
      exact handRow_mono hk fun ks1 d1 h1 => handBody_mono h1 fun ks2 ds2 h2 => h _ _ h2
    | mref k =>
      simp only [handBody_nil, handBody_cons] at hk ⊢
      exact handMap_mono hk fun ks1 d1 h1 => handBody_mono h1 fun ks2 ds2 h2 => h _ _ h2
    | _ =>
      first
        | (simp only [handBody_nil, handBody_cons] at hk; done)
        | (simp only [handBody_nil, handBody_cons] at hk ⊢
           exact handBody_mono hk fun ks2 ds2 h2 => h _ _ h2)
theorem handBox_mono {s : St} {ks : List Nat} {d : Dat} {K K' : List Nat → Dat → Prop} (hk : handBox s ks d K) (h : ∀ ks d, K ks d → K' ks d) : handBox s ks d K' := by
  unfold handBox at *
  split
  · rename_i hp; rw [hp] at hk; exact h _ _ hk
  · rename_i hp
    rw [hp] at hk
    have one : ∀ {d : Dat}, (handBody s ks [d] fun ks ds => match ds with | [d] => K ks d | _ => False) → handBody s ks [d] fun ks ds => match ds with | [d] => K' ks d | _ => False := fun h0 =>
      handBody_mono h0 fun ks1 ds1 h2 => by
        cases ds1 with
        | nil => exact h2
        | cons x xs =>
          cases xs with
          | nil => exact h _ _ h2
          | cons y ys => exact h2
    cases d with
    | agg cs => exact handBody_mono hk fun _ _ h2 => h _ _ h2
    | _ => exact one hk
theorem handBoxes_mono {s : St} : ∀ {ls ks : List Nat} {K K' : List Nat → List Dat → Prop}, handBoxes s ks ls K → (∀ ks d, K ks d → K' ks d) → handBoxes s ks ls K'
  | [], ks, K, K', hk, h => h _ _ hk
  | l :: ls, ks, K, K', hk, h => by
    simp only [handBoxes_nil, handBoxes_cons] at hk ⊢
    split at hk
    · exact handBox_mono hk fun ks1 d1 h1 => handBoxes_mono h1 fun ks2 ds2 h2 => h _ _ h2
    · exact hk.elim
def Nm (s : St) : Prop := (∀ l, s.H l ≠ none → l ∈ s.hn) ∧ ∀ k, s.R k ≠ none → k ∈ s.rn
structure Keep (W : List Nat) (s s' : St) : Prop where
  env : ∀ t, t ∉ W → s'.env t = s.env t
  H : ∀ l, s'.H l ≠ none → s.H l ≠ none ∨ l ∈ W
  R : ∀ k, s'.R k ≠ none → s.R k ≠ none ∨ k ∈ rowDsts W
  liveH : ∀ l, s.H l ≠ none → s'.H l ≠ none
  liveR : ∀ k, s.R k ≠ none → s'.R k ≠ none
  nm : Nm s → Nm s'
  y : s.y = .off → s'.y = .off
theorem rowDsts_mono {W V : List Nat} (h : ∀ t ∈ W, t ∈ V) : ∀ k ∈ rowDsts W, k ∈ rowDsts V := by
  intro k hk
  unfold rowDsts at *
  rw [List.mem_flatMap] at *
  obtain ⟨t, ht, hk⟩ := hk
  exact ⟨t, h t ht, hk⟩
theorem Keep.refl (W : List Nat) (s : St) : Keep W s s := ⟨fun _ _ => rfl, fun _ h => .inl h, fun _ h => .inl h, fun _ h => h, fun _ h => h, fun h => h, fun h => h⟩
theorem Keep.trans {W V U : List Nat} {a b c : St} (h : Keep W a b) (k : Keep V b c) (h1 : ∀ t ∈ W, t ∈ U) (h2 : ∀ t ∈ V, t ∈ U) : Keep U a c where
  env t ht := (k.env t (fun e => ht (h2 t e))).trans (h.env t (fun e => ht (h1 t e)))
  H l hl := by
    rcases k.H l hl with e | e
    · rcases h.H l e with e | e
      · exact .inl e
      · exact .inr (h1 l e)
    · exact .inr (h2 l e)
  R l hl := by
    rcases k.R l hl with e | e
    · rcases h.R l e with e | e
      · exact .inl e
      · exact .inr (rowDsts_mono h1 l e)
    · exact .inr (rowDsts_mono h2 l e)
  liveH l hl := k.liveH l (h.liveH l hl)
  liveR l hl := k.liveR l (h.liveR l hl)
  nm hn := k.nm (h.nm hn)
  y h0 := k.y (h.y h0)
theorem Keep.sub {W U : List Nat} {a b : St} (h : Keep W a b) (h1 : ∀ t ∈ W, t ∈ U) : Keep U a b := h.trans (Keep.refl U b) h1 (fun _ h => h)
theorem Keep.of_laid {s s' : St} (h : LKeep s s') (W : List Nat) : Keep W s s' where
  env t _ := by rw [h.env]
  H l hl := by rw [h.H] at hl; exact .inl hl
  R k hk := .inl fun e => hk ((h.R k).2 e)
  liveH l hl := by rw [h.H]; exact hl
  liveR k hk e := hk ((h.R k).1 e)
  nm hn := ⟨fun l hl => by rw [h.H] at hl; rw [h.hn]; exact hn.1 l hl, fun k hk => by rw [h.rn]; exact hn.2 k fun e => hk ((h.R k).2 e)⟩
  y h0 := h.y.trans h0
theorem Keep.of_upd {s s' : St} {W : List Nat} (he : s'.env = s.env ∨ ∃ t d, t ∈ W ∧ s'.env = upd s.env t d)
    (hH : (s'.H = s.H ∧ s'.hn = s.hn) ∨ (∃ l d, s.H l ≠ none ∧ s'.H = upd s.H l (some d) ∧ s'.hn = s.hn) ∨ (∃ l d, l ∈ W ∧ s'.H = upd s.H l (some d) ∧ s'.hn = l :: s.hn))
    (hR : (s'.R = s.R ∧ s'.rn = s.rn) ∨ (∃ l d, s.R l ≠ none ∧ s'.R = upd s.R l (some d) ∧ s'.rn = s.rn) ∨ (∃ l d, l ∈ rowDsts W ∧ s'.R = upd s.R l (some d) ∧ s'.rn = l :: s.rn)) (hy : s'.y = s.y := by rfl) : Keep W s s' := by
  have sp : ∀ {α : Type} {H H' : Nat → Option α} {hn hn' : List Nat} {V : List Nat}, ((H' = H ∧ hn' = hn) ∨ (∃ l d, H l ≠ none ∧ H' = upd H l (some d) ∧ hn' = hn) ∨ (∃ l d, l ∈ V ∧ H' = upd H l (some d) ∧ hn' = l :: hn)) →
      (∀ l, H' l ≠ none → H l ≠ none ∨ l ∈ V) ∧ (∀ l, H l ≠ none → H' l ≠ none) ∧ ((∀ l, H l ≠ none → l ∈ hn) → ∀ l, H' l ≠ none → l ∈ hn') := by
    intro α H H' hn hn' V h
    rcases h with ⟨rfl, rfl⟩ | ⟨l, d, h0, rfl, rfl⟩ | ⟨l, d, h0, rfl, rfl⟩
    · exact ⟨fun _ h => .inl h, fun _ h => h, fun h => h⟩
    · refine ⟨fun x hx => ?_, fun x hx => ?_, fun h x hx => ?_⟩
      · by_cases e : x = l
        · subst e; exact .inl h0
        · rw [upd_ne _ _ _ _ e] at hx; exact .inl hx
      · by_cases e : x = l
        · subst e; rw [upd_eq]; simp
        · rw [upd_ne _ _ _ _ e]; exact hx
      · by_cases e : x = l
        · subst e; exact h x h0
        · rw [upd_ne _ _ _ _ e] at hx; exact h x hx
    · refine ⟨fun x hx => ?_, fun x hx => ?_, fun h x hx => ?_⟩
      · by_cases e : x = l
        · subst e; exact .inr h0
        · rw [upd_ne _ _ _ _ e] at hx; exact .inl hx
      · by_cases e : x = l
        · subst e; rw [upd_eq]; simp
        · rw [upd_ne _ _ _ _ e]; exact hx
      · by_cases e : x = l
        · subst e; simp
        · rw [upd_ne _ _ _ _ e] at hx; exact List.mem_cons_of_mem _ (h x hx)
  obtain ⟨a1, a2, a3⟩ := sp hH
  obtain ⟨b1, b2, b3⟩ := sp hR
  refine ⟨fun t ht => ?_, a1, b1, a2, b2, fun hn => ⟨a3 hn.1, b3 hn.2⟩, fun h => hy.trans h⟩
  rcases he with e | ⟨u, d, h0, e⟩
  · rw [e]
  · rw [e, upd_ne _ _ _ _ (by intro x; subst x; exact ht h0)]
theorem Keep.put (s : St) (dst : Option Nat) (d : Dat) : Keep (tmpOf dst) s (s.put dst d) := by
  cases dst with
  | none => exact Keep.refl _ _
  | some t => exact Keep.of_upd (.inr ⟨t, some d, by simp [tmpOf], rfl⟩) (.inl ⟨rfl, rfl⟩) (.inl ⟨rfl, rfl⟩)
theorem Keep.forget (s : St) (dst : Option Nat) : Keep (tmpOf dst) s (s.forget dst) := by
  cases dst with
  | none => exact Keep.refl _ _
  | some t => exact Keep.of_upd (.inr ⟨t, some (.tup []), by simp [tmpOf], rfl⟩) (.inl ⟨rfl, rfl⟩) (.inl ⟨rfl, rfl⟩)
theorem putRows_keep {ks : List Nat} {t : Nat} : ∀ {rs : List Row} {i : Nat} {R : Nat → Option Row} {rn : List Nat} (_ : ∀ k ∈ ks, R k ≠ none) (_ : i + rs.length ≤ ks.length + 4),
    (∀ k, (putRows ks t R rn i rs).1 k ≠ none → R k ≠ none ∨ k ∈ rowDsts [t]) ∧ (∀ k, R k ≠ none → (putRows ks t R rn i rs).1 k ≠ none) ∧
    ((∀ k, R k ≠ none → k ∈ rn) → ∀ k, (putRows ks t R rn i rs).1 k ≠ none → k ∈ (putRows ks t R rn i rs).2)
  | [], i, R, rn, _, _ => ⟨fun _ h => .inl h, fun _ h => h, fun h => h⟩
  | r :: rs, i, R, rn, hl, hlen => by
    simp only [List.length_cons] at hlen
    simp only [putRows]
    cases hi : nth ks i with
    | some k0 =>
      dsimp only
      have h0 := hl k0 (mem_of_nth' hi)
      have hl' : ∀ k ∈ ks, upd R k0 (some r) k ≠ none := fun k hk => by
        by_cases e : k = k0
        · subst e; rw [upd_eq]; simp
        · rw [upd_ne _ _ _ _ e]; exact hl k hk
      obtain ⟨a1, a2, a3⟩ := putRows_keep (t := t) (rs := rs) (i := i + 1) (R := upd R k0 (some r)) (rn := rn) hl' (by omega)
      have un : ∀ k, upd R k0 (some r) k ≠ none → R k ≠ none := fun k hk => by
        by_cases e : k = k0
        · subst e; exact h0
        · rw [upd_ne _ _ _ _ e] at hk; exact hk
      refine ⟨fun k hk => (a1 k hk).imp (un k) id, fun k hk => a2 k ?_, fun h => a3 fun k hk => h k (un k hk)⟩
      by_cases e : k = k0
      · subst e; rw [upd_eq]; simp
      · rw [upd_ne _ _ _ _ e]; exact hk
    | none =>
      dsimp only
      have hge : ks.length ≤ i := by
        rcases Nat.lt_or_ge i ks.length with h | h
        · obtain ⟨x, hx⟩ := nth_lt h; rw [hi] at hx; cases hx
        · exact h
      have hup : ∀ k, R k ≠ none → upd R (5000 + 10 * t + (i - ks.length)) (some r) k ≠ none := fun k hk => by
        by_cases e : k = 5000 + 10 * t + (i - ks.length)
        · subst e; rw [upd_eq]; simp
        · rw [upd_ne _ _ _ _ e]; exact hk
      obtain ⟨a1, a2, a3⟩ := putRows_keep (t := t) (rs := rs) (i := i + 1) (R := upd R (5000 + 10 * t + (i - ks.length)) (some r)) (rn := (5000 + 10 * t + (i - ks.length)) :: rn) (fun k hk => hup k (hl k hk)) (by omega)
      refine ⟨fun k hk => ?_, fun k hk => a2 k (hup k hk), fun h => a3 fun k hk => ?_⟩
      · rcases a1 k hk with e | e
        · by_cases e2 : k = 5000 + 10 * t + (i - ks.length)
          · refine .inr ?_
            unfold rowDsts
            simp only [List.flatMap_cons, List.flatMap_nil, List.append_nil, List.mem_cons, List.not_mem_nil, or_false]
            omega
          · rw [upd_ne _ _ _ _ e2] at e; exact .inl e
        · exact .inr e
      · by_cases e2 : k = 5000 + 10 * t + (i - ks.length)
        · subst e2; simp
        · rw [upd_ne _ _ _ _ e2] at hk; exact List.mem_cons_of_mem _ (h k hk)
theorem putBoxes_keep {ks : List Nat} {t : Nat} : ∀ {ls : List Nat} {ds : List Dat} {H : Nat → Option Dat} (_ : ∀ l ∈ ls, H l ≠ none),
    (∀ l, putBoxes ks t H ls ds l ≠ none ↔ H l ≠ none)
  | [], ds, H, _, l => by cases ds <;> exact Iff.rfl
  | x :: ls, [], H, _, l => Iff.rfl
  | x :: ls, d :: ds, H, h, l => by
    simp only [putBoxes]
    have hu : ∀ l, upd H x (some (back ks t d)) l ≠ none ↔ H l ≠ none := fun l => by
      by_cases e : l = x
      · subst e; rw [upd_eq]; simp [h l (by simp)]
      · rw [upd_ne _ _ _ _ e]
    rw [putBoxes_keep (fun y hy => (hu y).2 (h y (by simp [hy])))]
    exact hu l
end Abs
namespace Abs
open Go
theorem nth_iff_mem {α : Type} {l : List α} {x : α} : (∃ i, nth l i = some x) ↔ x ∈ l := by
  constructor
  · rintro ⟨i, hi⟩; exact mem_of_nth' hi
  · intro h
    obtain ⟨i, hi⟩ := List.mem_iff_getElem?.1 h
    exact ⟨i, by rw [nth_eq]; exact hi⟩
theorem handBoxes_live {s : St} : ∀ {ls ks : List Nat} {K : List Nat → List Dat → Prop}, handBoxes s ks ls K → handBoxes s ks ls fun ks ds => (∀ l ∈ ls, s.H l ≠ none) ∧ K ks ds
  | [], ks, K, hk => ⟨by simp, hk⟩
  | l :: ls, ks, K, hk => by
    simp only [handBoxes_nil, handBoxes_cons] at hk ⊢
    split at hk
    · rename_i d hd
      refine handBox_mono hk fun ks1 d1 h1 => handBoxes_mono (handBoxes_live h1) fun ks2 ds2 ⟨h2, h3⟩ => ⟨?_, h3⟩
      intro x hx
      rcases List.mem_cons.1 hx with e | e
      · subst e; rw [hd]; simp
      · exact h2 x e
    · exact hk.elim
theorem plan_mono {P : Program} {c : Cfg} {dst : Option Nat} {s : St} {K K' : St → Prop} {p : Plan} (hk : exPlan P c dst s K p)
    (h : ∀ s', Keep (tmpOf dst) s s' → s'.y = s.y → K s' → K' s') : exPlan P c dst s K' p := by
  have put : ∀ {d : Dat}, K (s.put dst d) → K' (s.put dst d) := fun {d} hk => h _ (Keep.put s dst d) (by cases dst <;> rfl) hk
  have setH : ∀ {l : Nat} {d d' : Dat}, s.H l = some d → K { s with H := upd s.H l (some d') } → K' { s with H := upd s.H l (some d') } := fun {l d d'} hl hk =>
    h _ (Keep.of_upd (.inl rfl) (.inr (.inl ⟨l, d', by rw [hl]; simp, rfl, rfl⟩)) (.inl ⟨rfl, rfl⟩)) rfl hk
  cases p with
  | val d => exact put hk
  | need q d => exact ⟨hk.h, put hk.k⟩
  | arith k x => exact ⟨put hk.out⟩
  | load a n agg =>
    cases a with
    | ptr l off =>
      simp only [exPlan] at hk ⊢
      split at hk
      · split at hk
        · exact put hk
        · exact hk.elim
      · exact hk.elim
    | vptr l off =>
      simp only [exPlan] at hk ⊢
      split at hk
      · obtain ⟨d, a1, a2, a3, a4⟩ := hk.out
        exact ⟨d, a1, a2, a3, put a4⟩
      · exact hk.elim
    | imm d off =>
      simp only [exPlan] at hk ⊢
      split at hk
      · exact put hk
      · exact hk.elim
    | pin d =>
      simp only [exPlan] at hk ⊢
      split at hk
      · exact put hk
      · exact hk.elim
    | eptr k m i off =>
      simp only [exPlan] at hk ⊢
      split at hk
      · obtain ⟨d, a1, a2, a3, a4⟩ := hk.out
        refine ⟨d, a1, a2, a3, ?_⟩
        split at a4
        · exact put a4
        · exact a4.elim
      · exact hk.elim
    | _ => exact hk.elim
  | store a v n =>
    simp only [exPlan] at hk ⊢
    split at hk
    · exact hk.elim
    · cases a with
      | ptr l off =>
        dsimp only at hk ⊢
        split at hk
        · rename_i hl
          split at hk
          · exact setH hl hk
          · exact hk.elim
        · exact hk.elim
      | vptr l off =>
        dsimp only at hk ⊢
        split at hk
        · rename_i hl
          cases v with
          | agg _ => exact hk.elim
          | tup _ => exact hk.elim
          | _ => exact ⟨hk.h, setH hl hk.k⟩
        · exact hk.elim
      | eptr k m i off =>
        dsimp only at hk ⊢
        refine leak_mono (keep_leak hk) fun s1 v1 ⟨k1, h1⟩ => ?_
        split at h1
        · rename_i r hr
          split at h1
          · obtain ⟨d, a1, a2, a3, a4⟩ := h1.out
            refine ⟨d, a1, a2, a3, ?_⟩
            split at a4
            · refine h _ ((Keep.of_laid k1 (tmpOf dst)).trans (Keep.of_upd (W := tmpOf dst) (.inl rfl) (.inl ⟨rfl, rfl⟩) (.inr (.inl ⟨k, _, by rw [hr]; simp, rfl, rfl⟩))) (fun _ h => h) (fun _ h => h)) k1.y a4
            · exact a4.elim
          · exact h1.elim
        · exact h1.elim
      | _ => exact hk.elim
  | alloc d =>
    simp only [exPlan] at hk ⊢
    split at hk
    · rename_i t
      split at hk
      · split at hk
        · exact h _ (Keep.of_upd (.inr ⟨t, _, by simp [tmpOf], rfl⟩) (.inr (.inr ⟨t, _, by simp [tmpOf], rfl, rfl⟩)) (.inl ⟨rfl, rfl⟩)) rfl hk
        · exact hk.elim
      · unfold putImm at hk ⊢
        split at hk
        · exact h _ (Keep.of_upd (.inr ⟨t, _, by simp [tmpOf], rfl⟩) (.inl ⟨rfl, rfl⟩) (.inl ⟨rfl, rfl⟩)) rfl hk
        · split at hk
          · exact h _ (Keep.of_upd (.inr ⟨t, _, by simp [tmpOf], rfl⟩) (.inl ⟨rfl, rfl⟩) (.inl ⟨rfl, rfl⟩)) rfl hk
          · exact hk.elim
    · exact hk.elim
  | row sz es =>
    simp only [exPlan] at hk ⊢
    split at hk
    · rename_i t
      refine leakAll_mono (keep_leakAll hk) fun s1 es1 ⟨k1, h1⟩ => ?_
      split at h1
      · have := (Keep.of_laid k1 (tmpOf (some t))).trans (U := tmpOf (some t)) (Keep.of_upd (W := tmpOf (some t)) (s' := { env := upd s1.env t (some (.ref t es1.length)), H := s1.H, hn := s1.hn, R := upd s1.R t (some ⟨sz, true, es1⟩), rn := t :: s1.rn, y := s1.y })
          (.inr ⟨t, _, by simp [tmpOf], rfl⟩) (.inl ⟨rfl, rfl⟩) (.inr (.inr ⟨t, _, by simp [tmpOf, rowDsts], rfl, rfl⟩))) (fun _ h => h) (fun _ h => h)
        exact h _ this k1.y h1
      · exact h1.elim
    · exact hk.elim
  | idx sz a i =>
    simp only [exPlan] at hk ⊢
    split at hk
    · exact hk.elim
    · cases a with
      | sl z es b =>
        obtain ⟨d, a1, a2, a3, a4⟩ := hk.out
        exact ⟨d, a1, a2, a3, put a4⟩
      | ref k n =>
        dsimp only at hk ⊢
        split at hk
        · split at hk
          · obtain ⟨d, a1, a2, a3, a4⟩ := hk.out
            exact ⟨d, a1, a2, a3, put a4⟩
          · obtain ⟨d, a1, a2, a3, a4⟩ := hk.out
            exact ⟨d, a1, a2, a3, put a4⟩
        · exact hk.elim
      | _ => exact hk.elim
  | mnew =>
    simp only [exPlan] at hk ⊢
    split at hk
    · rename_i t
      split at hk
      · exact h _ (Keep.of_upd (.inr ⟨t, _, by simp [tmpOf], rfl⟩) (.inl ⟨rfl, rfl⟩) (.inr (.inr ⟨t, _, by simp [tmpOf, rowDsts], rfl, rfl⟩))) rfl hk
      · exact hk.elim
    · exact hk.elim
  | mput k q n v =>
    simp only [exPlan] at hk ⊢
    split at hk
    · exact hk.elim
    split at hk
    · exact hk.elim
    split at hk
    · rename_i r hr
      split at hk
      · obtain ⟨i, hf, hk⟩ := hk
        refine ⟨i, hf, ?_⟩
        cases i with
        | none => exact h _ (Keep.of_upd (.inl rfl) (.inl ⟨rfl, rfl⟩) (.inr (.inl ⟨k, _, by rw [hr]; simp, rfl, rfl⟩))) rfl hk
        | some i => exact h _ (Keep.of_upd (.inl rfl) (.inl ⟨rfl, rfl⟩) (.inr (.inl ⟨k, _, by rw [hr]; simp, rfl, rfl⟩))) rfl hk
      · exact hk.elim
    · exact hk.elim
  | mget k q n z ok =>
    simp only [exPlan] at hk ⊢
    split at hk
    · split at hk
      · obtain ⟨i, hf, hk⟩ := hk
        refine ⟨i, hf, ?_⟩
        cases i with
        | none => exact put hk
        | some i =>
          obtain ⟨kd, v, hv, hk⟩ := hk
          exact ⟨kd, v, hv, put hk⟩
      · exact hk.elim
    · exact hk.elim
  | mdel k q n =>
    simp only [exPlan] at hk ⊢
    split at hk
    · exact hk.elim
    split at hk
    · rename_i r hr
      split at hk
      · obtain ⟨i, hf, hk⟩ := hk
        refine ⟨i, hf, ?_⟩
        cases i with
        | none => exact h _ (Keep.refl _ _) rfl hk
        | some i => exact h _ (Keep.of_upd (.inl rfl) (.inl ⟨rfl, rfl⟩) (.inr (.inl ⟨k, _, by rw [hr]; simp, rfl, rfl⟩))) rfl hk
      · exact hk.elim
    · exact hk.elim
  | mlen k =>
    simp only [exPlan] at hk ⊢
    split at hk
    · split at hk
      · exact put hk
      · exact hk.elim
    · exact hk.elim
  | aidx l off m sz i => exact ⟨hk.h, put hk.k⟩
  | part cs i =>
    obtain ⟨d, a1, a2, a3, a4⟩ := hk.out
    exact ⟨d, a1, a2, a3, put a4⟩
  | sidx b i =>
    obtain ⟨d, a1, a2, a3⟩ := hk.out
    exact ⟨d, a1, a2, put a3⟩
  | app sz a b =>
    simp only [exPlan] at hk ⊢
    split at hk
    · exact hk.elim
    · split at hk
      · rename_i _ _ t _
        have rd : ∀ {X X' : List Dat → Prop}, rdRow s b X → (∀ xs, X xs → X' xs) → rdRow s b X' := fun {X X'} h0 hx => by
          unfold rdRow at *
          cases b with
          | ref k n =>
            dsimp only at h0 ⊢
            split at h0
            · exact ⟨h0.h, hx _ h0.k⟩
            · exact h0.elim
          | sl _ _ _ => exact hx _ h0
          | str _ => exact hx _ h0
          | _ => exact h0.elim
        refine rd hk fun xs hn => ⟨hn.h, ?_⟩
        have hk := hn.k
        split at hk
        · exact h _ (Keep.of_upd (.inr ⟨t, _, by simp [tmpOf], rfl⟩) (.inl ⟨rfl, rfl⟩) (.inr (.inr ⟨t, _, by simp [tmpOf, rowDsts], rfl, rfl⟩))) rfl hk
        · exact hk.elim
      · rename_i k n t _
        split at hk
        · rename_i r hr
          have rd : ∀ {X X' : List Dat → Prop}, rdRow s b X → (∀ xs, X xs → X' xs) → rdRow s b X' := fun {X X'} h0 hx => by
            unfold rdRow at *
            cases b with
            | ref k n =>
              dsimp only at h0 ⊢
              split at h0
              · exact ⟨h0.h, hx _ h0.k⟩
              · exact h0.elim
            | sl _ _ _ => exact hx _ h0
            | str _ => exact hx _ h0
            | _ => exact h0.elim
          refine rd hk fun xs hn => ⟨hn.h, h _ (Keep.of_upd (.inr ⟨t, _, by simp [tmpOf], rfl⟩) (.inl ⟨rfl, rfl⟩) (.inr (.inl ⟨k, _, by rw [hr]; simp, rfl, rfl⟩))) rfl hn.k⟩
        · exact hk.elim
      · exact hk.elim
  | sub sz a lo hi =>
    simp only [exPlan] at hk ⊢
    cases a with
    | str b => exact ⟨hk.h, put hk.k⟩
    | _ =>
      dsimp only at hk ⊢
      split at hk
      · exact hk.elim
      · refine leak_mono (keep_leak hk) fun s1 v1 ⟨k1, h1⟩ => ?_
        cases v1 with
        | sl z es b =>
          dsimp only at h1 ⊢
          split at h1
          · exact ⟨h1.h, h _ ((Keep.of_laid k1 (tmpOf dst)).trans (Keep.put s1 dst _) (fun _ h => h) (fun _ h => h)) ((show (s1.put dst _).y = s1.y by cases dst <;> rfl).trans k1.y) h1.k⟩
          · exact h1.elim
        | _ => exact h1.elim
  | sel b x y =>
    simp only [exPlan] at hk ⊢
    refine ⟨fun e => ?_, fun e => ?_⟩
    · have := hk.t e
      split at this
      · exact put this
      · exact this.elim
    · have := hk.f e
      split at this
      · exact put this
      · exact this.elim
  | bytes e b =>
    simp only [exPlan] at hk ⊢
    split at hk
    · rename_i t
      split at hk
      · exact h _ (Keep.of_upd (.inr ⟨t, _, by simp [tmpOf], rfl⟩) (.inl ⟨rfl, rfl⟩) (.inr (.inr ⟨t, _, by simp [tmpOf, rowDsts], rfl, rfl⟩))) rfl hk
      · exact hk.elim
    · exact hk.elim
  | text a =>
    simp only [exPlan] at hk ⊢
    split at hk
    · exact hk.elim
    · have rd : ∀ {X X' : List Dat → Prop}, rdRow s a X → (∀ xs, X xs → X' xs) → rdRow s a X' := fun {X X'} h0 hx => by
        unfold rdRow at *
        cases a with
        | ref k n =>
          dsimp only at h0 ⊢
          split at h0
          · exact ⟨h0.h, hx _ h0.k⟩
          · exact h0.elim
        | sl _ _ _ => exact hx _ h0
        | str _ => exact hx _ h0
        | _ => exact h0.elim
      refine rd hk fun xs hn => ?_
      obtain ⟨b, hb, hn⟩ := hn.out
      exact ⟨b, hb, put hn⟩
  | call f args =>
    simp only [exPlan] at hk ⊢
    split at hk
    · rename_i t
      refine handArgs_mono hk fun s1 ls ks as k1 h1 => ?_
      refine handBoxes_mono (handBoxes_live h1) fun ks1 H1 ⟨hl, h2⟩ => ?_
      split at h2
      · rename_i R hR
        obtain ⟨hlen, hlive⟩ := rowsOf_spec _ _ hR
        obtain ⟨r, m', hc, h3⟩ := h2.out
        refine ⟨r, m', hc, ?_⟩
        split at h3
        · rename_i hb
          rw [Bool.and_eq_true, Bool.and_eq_true, Nat.ble_eq] at hb
          obtain ⟨b1, b2, b3⟩ := putRows_keep (ks := ks1) (t := t) (rs := m'.R) (i := 0) (R := s1.R) (rn := s1.rn) (fun k hk => by
            rw [← nth_iff_mem] at hk
            obtain ⟨i, hi⟩ := hk
            obtain ⟨r, hr, _⟩ := hlive i k hi
            rw [hr]; simp) (by simpa using hb.2.2)
          have bx := fun l => putBoxes_keep (ks := ks1) (t := t) (ls := ls) (ds := m'.H) (H := s1.H) hl l
          have kk : Keep (tmpOf (some t)) s1 { env := upd s1.env t (some (back ks1 t r)), H := putBoxes ks1 t s1.H ls m'.H, hn := s1.hn, R := (putRows ks1 t s1.R s1.rn 0 m'.R).1, rn := (putRows ks1 t s1.R s1.rn 0 m'.R).2, y := s1.y } :=
            { env := fun u hu => upd_ne _ _ _ _ (by intro e; subst e; exact hu (by simp [tmpOf]))
              H := fun l hl => .inl ((bx l).1 hl)
              R := b1
              liveH := fun l hl => (bx l).2 hl
              liveR := b2
              nm := fun hn => ⟨fun l hl => hn.1 l ((bx l).1 hl), b3 hn.2⟩
              y := fun h => h }
          exact h _ ((Keep.of_laid k1 (tmpOf (some t))).trans kk (fun _ h => h) (fun _ h => h)) k1.y h3
        · exact h3.elim
      · exact h2.elim
    · exact hk.elim
  | yield => exact hk.elim
  | ycall => exact hk.elim
  | bad => exact hk.elim
theorem build_eq {α : Type} : ∀ (l : List α) (K : List α → Prop), build l K = K l
  | [], K => rfl
  | x :: l, K => by simp only [build_nil, build_cons]; exact build_eq l _
theorem upd_self {α : Type} {e : Nat → Option α} {t : Nat} {x : Option α} (h : e t = x) : upd e t x = e := by
  funext u
  by_cases hu : u = t
  · subst hu; rw [upd_eq, h]
  · rw [upd_ne _ _ _ _ hu]
theorem norm_eq (dst : Option Nat) (p : Plan) (s : St) (K : St → Prop) : norm dst p s K = K s := by
  unfold norm
  split
  split
  · split
    · rename_i he
      split
      · rw [build_eq, upd_self he]
      · rw [build_eq, upd_self he]
      · rw [upd_self he]
    · rfl
  · split
    · split
      · rename_i he
        split
        · rw [build_eq, upd_self he]
        · rw [upd_self he]
      · rfl
    · rfl
theorem exOps_eq (P : Program) (c : Cfg) (all : List Oper) : ∀ (l : List Oper) (rs : List Rec) (s : St) (K : List Rec → St → Prop), exOps' P c all l rs s K = exOps P c all l rs s K
  | [], rs, s, K => rfl
  | o :: l, rs, s, K => by
    simp only [exOps'_cons, exOps]
    congr 1
    · congr 1
      funext s'
      rw [norm_eq, exOps_eq P c all l]
    · rw [exOps_eq P c all l]
theorem exOps_mono {P : Program} {c : Cfg} {all : List Oper} : ∀ {l : List Oper} {rs : List Rec} {s : St} {K K' : List Rec → St → Prop}, exOps P c all l rs s K →
    (∀ rs' s', Keep (l.flatMap fun o => tmpOf o.dst) s s' → K rs' s' → K' rs' s') → exOps P c all l rs s K'
  | [], rs, s, K, K', hk, h => h _ _ (Keep.refl _ _) hk
  | o :: l, rs, s, K, K', hk, h => by
    simp only [exOps] at hk ⊢
    have up : ∀ {a b : St}, Keep (tmpOf o.dst) s a → Keep (l.flatMap fun o => tmpOf o.dst) a b → Keep ((o :: l).flatMap fun o => tmpOf o.dst) s b := fun ha hb =>
      ha.trans hb (fun t ht => by simp [ht]) (fun t ht => by
        rw [List.flatMap_cons]; exact List.mem_append_right _ ht)
    exact guardOf_mono hk (fun h1 => plan_mono h1 fun s1 k1 _ h2 => exOps_mono h2 fun rs' s' k2 h3 => h _ _ (up k1 k2) h3)
      (fun h1 => exOps_mono h1 fun rs' s' k2 h3 => h _ _ (up (Keep.forget s o.dst) k2) h3)
theorem exOps_y {P : Program} {c : Cfg} {all : List Oper} : ∀ {l : List Oper} {rs : List Rec} {s : St} {K : List Rec → St → Prop}, exOps P c all l rs s K →
    exOps P c all l rs s fun rs' s' => s'.y = s.y ∧ K rs' s'
  | [], rs, s, K, hk => ⟨rfl, hk⟩
  | o :: l, rs, s, K, hk => by
    simp only [exOps] at hk ⊢
    exact guardOf_mono hk (fun h1 => plan_mono h1 fun s1 _ k1 h2 => exOps_mono (exOps_y h2) fun rs' s' _ h3 => ⟨h3.1.trans k1, h3.2⟩)
      (fun h1 => exOps_mono (exOps_y h1) fun rs' s' _ h3 => ⟨h3.1.trans (by cases o.dst <;> rfl), h3.2⟩)
end Abs
namespace Abs
open Go
section
variable {P : Program} {cx : Cx} {c : Cfg} {ops : Array Oper} {S : Nat → St} {T : List Rec}
theorem tmpOf_mem {d : Option Nat} {t : Nat} : t ∈ tmpOf d ↔ d = some t := by
  cases d <;> simp [tmpOf, eq_comm]
theorem apart_spec {ops : List Oper} {x y : Oper} {rx ry : Rec} (h : apartB ops x y rx ry = true) :
    (∀ t, x.dst = some t → ¬ (t ∈ readsOf ops y ∨ y.dst = some t)) ∧ (∀ t, y.dst = some t → ¬ (t ∈ readsOf ops x ∨ x.dst = some t)) ∧
    (∀ l, l ∈ rx.wh → ¬ (l ∈ ry.rh ∨ l ∈ ry.wh)) ∧ (∀ l, l ∈ ry.wh → ¬ (l ∈ rx.rh ∨ l ∈ rx.wh)) ∧
    (∀ l, l ∈ rx.wr → ¬ (l ∈ ry.rr ∨ l ∈ ry.wr)) ∧ (∀ l, l ∈ ry.wr → ¬ (l ∈ rx.rr ∨ l ∈ rx.wr)) := by
  unfold apartB at h
  simp only [Bool.not_eq_true', Bool.or_eq_false_iff] at h
  obtain ⟨⟨⟨⟨⟨⟨⟨⟨a1, a2⟩, a3⟩, b1⟩, b2⟩, b3⟩, c1⟩, c2⟩, c3⟩ := h
  refine ⟨fun t ht => ?_, fun t ht => ?_, fun l hl => ?_, fun l hl => ?_, fun l hl => ?_, fun l hl => ?_⟩
  · rintro (h | h)
    · exact meets_not a1 (tmpOf_mem.2 ht) h
    · exact meets_not a2 (tmpOf_mem.2 ht) (tmpOf_mem.2 h)
  · rintro (h | h)
    · exact meets_not a3 (tmpOf_mem.2 ht) h
    · exact meets_not a2 (tmpOf_mem.2 h) (tmpOf_mem.2 ht)
  · rintro (h | h)
    · exact meets_not b1 hl h
    · exact meets_not b2 hl h
  · rintro (h | h)
    · exact meets_not b3 h hl
    · exact meets_not b2 h hl
  · rintro (h | h)
    · exact meets_not c1 hl h
    · exact meets_not c2 hl h
  · rintro (h | h)
    · exact meets_not c3 h hl
    · exact meets_not c2 h hl
theorem order_step (hI : Indep ops T) (hIL : IndepL ops T) (hlen : T.length = ops.size)
    (hL : ∀ (i : Nat) o r, nth ops.toList i = some o → nth T i = some r → LocStep P c ops.toList o (S i) (S (i + 1)) r)
    {D : Nat → Prop} (hD : Closed ops.toList D) {u : St} (hu : Inv ops S T D u) {j : Nat} {o : Oper} (ho : nth ops.toList j = some o) (hjD : ¬ D j) (hpre : Pre o D) :
    ∃ u', opTo P c ops.toList o u u' ∧ Inv ops S T (fun i => D i ∨ i = j) u' := by
  have hj : j < ops.size := by have := lt_of_nth ho; simpa using this
  obtain ⟨r, hr⟩ := nth_lt (l := T) (i := j) (by omega)
  have hn : ∀ {i : Nat} {x : Oper}, nth ops.toList i = some x → i < ops.size := fun h => by have := lt_of_nth h; simpa using this
  have hnT : ∀ {i : Nat} {x : Rec}, nth T i = some x → i < ops.size := fun h => by have := lt_of_nth h; omega
  have both : ∀ {i : Nat}, i < ops.size → ∃ x y, nth ops.toList i = some x ∧ nth T i = some y := fun {i} h => by
    obtain ⟨x, hx⟩ := nth_lt (l := ops.toList) (i := i) (by simpa using h)
    obtain ⟨y, hy⟩ := nth_lt (l := T) (i := i) (by omega)
    exact ⟨x, y, hx, hy⟩
  have ord1 : ∀ {i : Nat} {x : Oper} {y : Rec}, i < j → nth ops.toList i = some x → nth T i = some y → ¬ apartB ops.toList x o y r = true → D i := fun {i x y} h1 h2 h3 h4 =>
    (hI.apart D hD i j h1 x o y r h2 ho h3 hr).resolve_left h4 hpre
  have ord2 : ∀ {i : Nat} {x : Oper} {y : Rec}, j < i → nth ops.toList i = some x → nth T i = some y → ¬ apartB ops.toList o x r y = true → ¬ D i := fun {i x y} h1 h2 h3 h4 h5 =>
    hjD ((hI.apart D hD j i h1 o x r y ho h2 hr h3).resolve_left h4 (fun e he hb => hD i x h2 h5 e he hb))
  have stay : ∀ {i : Nat} {x : Oper} {y : Rec}, nth ops.toList i = some x → nth T i = some y →
      (∀ t, x.dst ≠ some t → (S (i + 1)).env t = (S i).env t) ∧ (∀ l, l ∉ y.wh → (S (i + 1)).H l = (S i).H l) ∧ (∀ l, l ∉ y.wr → (S (i + 1)).R l = (S i).R l) := fun {i x y} h1 h2 => by
    obtain ⟨u', p, _⟩ := (hL i x y h1 h2).out (S i) ⟨fun _ _ => rfl, fun _ _ => rfl, fun _ _ => rfl⟩ (fun _ _ => rfl)
    refine ⟨fun t ht => ?_, fun t ht => ?_, fun t ht => ?_⟩
    · rcases p.env t with ⟨a, _⟩ | ⟨_, b⟩
      · exact a
      · exact absurd b ht
    · rcases p.H t with ⟨a, _⟩ | ⟨_, b⟩
      · exact a
      · exact absurd b ht
    · rcases p.R t with ⟨a, _⟩ | ⟨_, b⟩
      · exact a
      · exact absurd b ht
  have ienv : ∀ x m, m ≤ ops.size → (∀ i, i < m → (∃ y, nth ops.toList i = some y ∧ y.dst = some x) → D i) → (∀ i, m ≤ i → (∃ y, nth ops.toList i = some y ∧ y.dst = some x) → ¬ D i) → u.env x = (S m).env x :=
    fun x m hm h1 h2 => hu.env x m hm (fun i y hi hy hd => h1 i hi ⟨y, hy, hd⟩) (fun i y hi hy hd => h2 i hi ⟨y, hy, hd⟩)
  have iH : ∀ x m, m ≤ ops.size → (∀ i, i < m → (∃ y, nth T i = some y ∧ x ∈ y.wh) → D i) → (∀ i, m ≤ i → (∃ y, nth T i = some y ∧ x ∈ y.wh) → ¬ D i) → u.H x = (S m).H x :=
    fun x m hm h1 h2 => hu.H x m hm (fun i y hi hy hd => h1 i hi ⟨y, hy, hd⟩) (fun i y hi hy hd => h2 i hi ⟨y, hy, hd⟩)
  have iR : ∀ x m, m ≤ ops.size → (∀ i, i < m → (∃ y, nth T i = some y ∧ x ∈ y.wr) → D i) → (∀ i, m ≤ i → (∃ y, nth T i = some y ∧ x ∈ y.wr) → ¬ D i) → u.R x = (S m).R x :=
    fun x m hm h1 h2 => hu.R x m hm (fun i y hi hy hd => h1 i hi ⟨y, hy, hd⟩) (fun i y hi hy hd => h2 i hi ⟨y, hy, hd⟩)
  have oenv1 : ∀ {x i}, (x ∈ readsOf ops.toList o ∨ o.dst = some x) → i < j → (∃ y, nth ops.toList i = some y ∧ y.dst = some x) → D i := fun {x i} hx hi hy => by
    obtain ⟨y, hy, hd⟩ := hy
    obtain ⟨_, z, _, hz⟩ := both (hn hy)
    exact ord1 hi hy hz (fun h => (apart_spec h).1 x hd hx)
  have oenv2 : ∀ {x i}, (x ∈ readsOf ops.toList o ∨ o.dst = some x) → j < i → (∃ y, nth ops.toList i = some y ∧ y.dst = some x) → ¬ D i := fun {x i} hx hi hy => by
    obtain ⟨y, hy, hd⟩ := hy
    obtain ⟨_, z, _, hz⟩ := both (hn hy)
    exact ord2 hi hy hz (fun h => (apart_spec h).2.1 x hd hx)
  have oH1 : ∀ {x i}, (x ∈ r.rh ∨ x ∈ r.wh) → i < j → (∃ y, nth T i = some y ∧ x ∈ y.wh) → D i := fun {x i} hx hi hy => by
    obtain ⟨y, hy, hd⟩ := hy
    obtain ⟨z, _, hz, _⟩ := both (hnT hy)
    exact ord1 hi hz hy (fun h => (apart_spec h).2.2.1 x hd hx)
  have oH2 : ∀ {x i}, (x ∈ r.rh ∨ x ∈ r.wh) → j < i → (∃ y, nth T i = some y ∧ x ∈ y.wh) → ¬ D i := fun {x i} hx hi hy => by
    obtain ⟨y, hy, hd⟩ := hy
    obtain ⟨z, _, hz, _⟩ := both (hnT hy)
    exact ord2 hi hz hy (fun h => (apart_spec h).2.2.2.1 x hd hx)
  have oR1 : ∀ {x i}, (x ∈ r.rr ∨ x ∈ r.wr) → i < j → (∃ y, nth T i = some y ∧ x ∈ y.wr) → D i := fun {x i} hx hi hy => by
    obtain ⟨y, hy, hd⟩ := hy
    obtain ⟨z, _, hz, _⟩ := both (hnT hy)
    exact ord1 hi hz hy (fun h => (apart_spec h).2.2.2.2.1 x hd hx)
  have oR2 : ∀ {x i}, (x ∈ r.rr ∨ x ∈ r.wr) → j < i → (∃ y, nth T i = some y ∧ x ∈ y.wr) → ¬ D i := fun {x i} hx hi hy => by
    obtain ⟨y, hy, hd⟩ := hy
    obtain ⟨z, _, hz, _⟩ := both (hnT hy)
    exact ord2 hi hz hy (fun h => (apart_spec h).2.2.2.2.2 x hd hx)
  have turned : ∀ {q : Nat × Nat × Nat × Bool} {i : Nat} {x : Oper} {y : Rec}, nth ops.toList i = some x → nth T i = some y → pr ((S (i+1)).H q.1) q ≠ pr ((S i).H q.1) q → q.1 ∈ y.wh := fun {q i x y} h1 h2 h3 =>
    Classical.byContradiction fun hno => h3 (by rw [(stay h1 h2).2.1 _ hno])
  have ldj : ∀ {q : Nat × Nat × Nat × Bool}, q ∈ r.ld → ∀ {i : Nat} {x : Oper} {y : Rec}, nth ops.toList i = some x → nth T i = some y → pr ((S (i+1)).H q.1) q ≠ pr ((S i).H q.1) q → ¬ LdHold r.ld y.wv := fun {q} hq {i x y} h1 h2 h3 h4 =>
    h3 (h4 q hq _ ((hL i x y h1 h2).wv _ (turned h1 h2 h3)) rfl).symm
  have agrL : ∀ q ∈ r.ld, pr ((S j).H q.1) q = pr (u.H q.1) q := fun q hq => by
    refine (hu.L q j (by omega) (fun i hi hlt hch => ?_) (fun i hi hlt hch hd => ?_)).symm
    · obtain ⟨x, y, hx, hy⟩ := both hlt
      rcases hIL.ld D hD i j hi o y r ho hy hr with h | h
      · exact absurd h.2 (ldj hq hx hy hch)
      · exact h hpre
    · rcases Nat.lt_or_ge j i with h' | h'
      · obtain ⟨x, y, hx, hy⟩ := both hlt
        rcases hIL.ld D hD j i h' x r y hx hr hy with h | h
        · exact absurd h.1 (ldj hq hx hy hch)
        · exact hjD (h (fun e he hb => hD i x hx hd e he hb))
      · have : i = j := by omega
        subst this; exact hjD hd
  have agr : Agr r (S j) u := ⟨fun x hx => (key_at (V := fun m => (S m).H x) hj (iH x) hjD (fun i => oH1 hx) (fun i => oH2 hx)).symm,
    fun x hx => (key_at (V := fun m => (S m).R x) hj (iR x) hjD (fun i => oR1 hx) (fun i => oR2 hx)).symm, agrL⟩
  have agrE : ∀ t ∈ readsOf ops.toList o, (S j).env t = u.env t := fun x hx =>
    (key_at (V := fun m => (S m).env x) hj (ienv x) hjD (fun i => oenv1 (.inl hx)) (fun i => oenv2 (.inl hx))).symm
  obtain ⟨u', p, q⟩ := (hL j o r ho hr).out u agr agrE
  refine ⟨u', q, ⟨fun x m hm h1 h2 => ?_, fun x m hm h1 h2 => ?_, fun x m hm h1 h2 => ?_, fun q m hm h1 h2 => ?_⟩⟩
  rotate_left 3
  · have inv := fun m hm (a : ∀ i, i < m → (i < ops.size ∧ pr ((S (i+1)).H q.1) q ≠ pr ((S i).H q.1) q) → D i) (b : ∀ i, m ≤ i → (i < ops.size ∧ pr ((S (i+1)).H q.1) q ≠ pr ((S i).H q.1) q) → ¬ D i) =>
      hu.L q m hm (fun i hi hlt hch => a i hi ⟨hlt, hch⟩) (fun i hi hlt hch => b i hi ⟨hlt, hch⟩)
    have before : q.1 ∈ r.wh → ∀ i, i < j → (i < ops.size ∧ pr ((S (i+1)).H q.1) q ≠ pr ((S i).H q.1) q) → D i := fun hw i hi hc => by
      obtain ⟨x, y, hx, hy⟩ := both hc.1
      exact oH1 (.inr hw) hi ⟨y, hy, turned hx hy hc.2⟩
    have behind : q.1 ∈ r.wh → ∀ i, j < i → (i < ops.size ∧ pr ((S (i+1)).H q.1) q ≠ pr ((S i).H q.1) q) → ¬ D i := fun hw i hi hc => by
      obtain ⟨x, y, hx, hy⟩ := both hc.1
      exact oH2 (.inr hw) hi ⟨y, hy, turned hx hy hc.2⟩
    refine key_step (V := fun m => pr ((S m).H q.1) q) (W := fun i => i < ops.size ∧ pr ((S (i+1)).H q.1) q ≠ pr ((S i).H q.1) q) hj inv (fun i hi hw => ?_) (fun i h => h.1) hjD
      (fun i hi hw hwj => before (turned ho hr hwj.2) i hi hw) (fun i hi hw hwj => behind (turned ho hr hwj.2) i hi hw) ?_ m hm (fun i hi hc => h1 i hi hc.1 hc.2) (fun i hi hc => h2 i hi hc.1 hc.2)
    · exact Classical.byContradiction fun hc => hw ⟨hi, hc⟩
    · rcases p.H q.1 with ⟨a, b⟩ | ⟨a, b⟩
      · exact .inl ⟨by rw [a], by rw [b]⟩
      · by_cases hw : pr ((S (j+1)).H q.1) q = pr ((S j).H q.1) q
        · refine .inl ⟨hw, ?_⟩
          have hv := key_at (V := fun m => pr ((S m).H q.1) q) (W := fun i => i < ops.size ∧ pr ((S (i+1)).H q.1) q ≠ pr ((S i).H q.1) q) hj inv hjD (before b) (behind b)
          rw [hv, ← a]; exact hw
        · exact .inr ⟨by rw [a], hj, hw⟩
  · refine key_step (V := fun m => (S m).env x) (W := fun i => ∃ y, nth ops.toList i = some y ∧ y.dst = some x) hj (ienv x) (fun i hi hw => ?_) (fun i ⟨y, hy, _⟩ => hn hy) hjD
      (fun i hi hw hwj => ?_) (fun i hi hw hwj => ?_) ?_ m hm (fun i hi ⟨y, hy, hd⟩ => h1 i y hi hy hd) (fun i hi ⟨y, hy, hd⟩ => h2 i y hi hy hd)
    · obtain ⟨y, z, hy, hz⟩ := both hi
      exact (stay hy hz).1 x (fun e => hw ⟨y, hy, e⟩)
    · obtain ⟨y, hy, hd⟩ := hwj
      rw [ho] at hy; cases hy
      exact oenv1 (.inr hd) hi hw
    · obtain ⟨y, hy, hd⟩ := hwj
      rw [ho] at hy; cases hy
      exact oenv2 (.inr hd) hi hw
    · exact (p.env x).imp id fun ⟨a, b⟩ => ⟨a, o, ho, b⟩
  · refine key_step (V := fun m => (S m).H x) (W := fun i => ∃ y, nth T i = some y ∧ x ∈ y.wh) hj (iH x) (fun i hi hw => ?_) (fun i ⟨y, hy, _⟩ => hnT hy) hjD
      (fun i hi hw hwj => ?_) (fun i hi hw hwj => ?_) ?_ m hm (fun i hi ⟨y, hy, hd⟩ => h1 i y hi hy hd) (fun i hi ⟨y, hy, hd⟩ => h2 i y hi hy hd)
    · obtain ⟨y, z, hy, hz⟩ := both hi
      exact (stay hy hz).2.1 x (fun e => hw ⟨z, hz, e⟩)
    · obtain ⟨y, hy, hd⟩ := hwj
      rw [hr] at hy; cases hy
      exact oH1 (.inr hd) hi hw
    · obtain ⟨y, hy, hd⟩ := hwj
      rw [hr] at hy; cases hy
      exact oH2 (.inr hd) hi hw
    · exact (p.H x).imp id fun ⟨a, b⟩ => ⟨a, r, hr, b⟩
  · refine key_step (V := fun m => (S m).R x) (W := fun i => ∃ y, nth T i = some y ∧ x ∈ y.wr) hj (iR x) (fun i hi hw => ?_) (fun i ⟨y, hy, _⟩ => hnT hy) hjD
      (fun i hi hw hwj => ?_) (fun i hi hw hwj => ?_) ?_ m hm (fun i hi ⟨y, hy, hd⟩ => h1 i y hi hy hd) (fun i hi ⟨y, hy, hd⟩ => h2 i y hi hy hd)
    · obtain ⟨y, z, hy, hz⟩ := both hi
      exact (stay hy hz).2.2 x (fun e => hw ⟨z, hz, e⟩)
    · obtain ⟨y, hy, hd⟩ := hwj
      rw [hr] at hy; cases hy
      exact oR1 (.inr hd) hi hw
    · obtain ⟨y, hy, hd⟩ := hwj
      rw [hr] at hy; cases hy
      exact oR2 (.inr hd) hi hw
    · exact (p.R x).imp id fun ⟨a, b⟩ => ⟨a, r, hr, b⟩
theorem guard_sound {g : Gh} {u : St} {a : Act} {w : World} (h : Rel cx g u a w) {o : Oper} {X Y : Prop} (hg : guardOf ops.toList u o X Y) :
    (Region.wanted o (yielded ops a.tmps) = true ∧ X) ∨ (Region.wanted o (yielded ops a.tmps) = false ∧ Y) := by
  unfold guardOf at hg
  unfold Region.wanted
  split at hg
  · rename_i e; rw [e]; exact .inl ⟨rfl, hg⟩
  · rename_i j want e
    rw [e]
    dsimp only
    split at hg
    · rename_i oj hj
      split at hg
      · rename_i t ht
        split at hg
        · rename_i b hb
          have hv := (h.env t _ hb).bool_val
          have hy : yielded ops a.tmps j = some b := by
            unfold yielded
            rw [nth_eq] at hj
            have hj' : ops[j]? = some oj := by simpa using hj
            rw [hj']
            simp only [Option.bind_some, ht]
            have : a.tmps[t]? = some (.bool b) := by
              rw [← hv]
              rcases Nat.lt_or_ge t a.tmps.size with hlt | hge
              · simp [hlt]
              · simp [Array.getElem?_eq_none hge, undef] at hv
            rw [this]
          rw [hy]
          cases hbw : (b == want) with
          | true => exact .inl ⟨by simpa using hbw, (BrW_to hg).t hbw⟩
          | false => exact .inr ⟨by simpa using hbw, (BrW_to hg).f hbw⟩
        · rename_i hb
          refine .inr ⟨?_, hg⟩
          obtain ⟨vs, hv, _⟩ := (h.env t _ hb).tup_val
          have hy : yielded ops a.tmps j = none := by
            unfold yielded
            rw [nth_eq] at hj
            have hj' : ops[j]? = some oj := by simpa using hj
            rw [hj']
            simp only [Option.bind_some, ht]
            rcases Nat.lt_or_ge t a.tmps.size with hlt | hge
            · have : a.tmps[t]? = some (.tuple vs) := by
                rw [← hv]; simp [hlt]
              rw [this]
            · rw [Array.getElem?_eq_none hge]
          rw [hy]; rfl
        · exact hg.elim
      · exact hg.elim
    · exact hg.elim
theorem wp_next {g : Gh} {o : Oper} {a : Act} {w : World} {K : St → Prop} {Q : Go.Exit → Act → World → Prop} {M : Act → World → Prop}
    (h : o.wp P a w (Post cx g K) Q) (hm : ∀ s' g' a' w', K s' → Ext g g' → Rel cx g' s' a' w' → M a' w') : o.wp P a w M Q :=
  Oper.wp_mono (fun _ _ ⟨s', g', k, e, r⟩ => hm s' g' _ _ k e r) h
def opsB (P : Program) (n : Nat) (ops : Array Oper) : Bool := ops.toList.all (opB P n)
theorem plan_nodefer {ρ : TypeId → Operand → Option Dat} {dst : Option Nat} {s : St} {K : St → Prop} {o : Oper} (hk : exPlan P c dst s K (plan P o ρ)) : ∀ d, o.op ≠ .defer d := fun d e => by
  simp only [plan, e, exPlan] at hk
theorem opTo_sound {ro : Option Nat} {n : Nat} {g : Gh} {u u' : St} {a : Act} {w : World} {o : Oper} {j : Nat} (h : Rel cx g u a w) (hB : opsB P cx.n ops = true) (ho : nth ops.toList j = some o)
    (hok : CfgOk P c) (ht : opTo P c ops.toList o u u') {Q : Go.Exit → Act → World → Prop} {M : Act → World → Prop}
    (hm : ∀ g' a' w', Ext g g' → Rel cx g' u' a' w' → M a' w') : wpOpIn (FW ro) n P ops Q j M a w := by
  have ho' : ops[j]? = some o := by rw [nth_eq] at ho; simpa using ho
  have hb : opB P cx.n o = true := by
    unfold opsB at hB
    rw [List.all_eq_true] at hB
    exact hB o (mem_of_nth' ho)
  unfold wpOpIn
  rw [ho']
  dsimp only
  rcases guard_sound h ht with ⟨h1, h2⟩ | ⟨h1, h2⟩
  · rw [if_pos h1]
    have hx := h2 (fun s' => s' = u') rfl
    refine wpIn_of_wp (plan_nodefer hx) (wp_next (sound_op h hb hok.C hx) fun s' g' a' w' e1 e2 e3 => ?_)
    subst e1; exact hm g' a' w' e2 e3
  · rw [if_neg (by rw [h1]; simp)]
    subst h2
    exact ⟨fun _ _ => trivial, hm g _ w (Ext.refl g) (h.forget o.dst)⟩
theorem Rel.same {g : Gh} {s s' : St} {a : Act} {w : World} (h : Rel cx g s a w) (e1 : s'.env = s.env) (e2 : s'.H = s.H) (e3 : s'.R = s.R) : Rel cx g s' a w :=
  ⟨by rw [e1]; exact h.env, h.size, h.defers, h.mem.names e2 e3⟩
theorem order_sound (hI : Indep ops T) (hIL : IndepL ops T) (hlen : T.length = ops.size) (hB : opsB P cx.n ops = true)
    (hok : CfgOk P c) {ro : Option Nat} {n : Nat}
    (hL : ∀ (i : Nat) o r, nth ops.toList i = some o → nth T i = some r → LocStep P c ops.toList o (S i) (S (i + 1)) r) {Q : Go.Exit → Act → World → Prop} :
    ∀ (fuel : Nat) (listed : Array Bool) (u : St) (g : Gh) (a : Act) (w : World), listed.size = ops.size → ops.size ≤ fuel + listed.toList.count true →
      Closed ops.toList (fun i => listed.getD i false = true) → Inv ops S T (fun i => listed.getD i false = true) u → Rel cx g u a w →
      (∀ g' a' w', Ext g g' → Rel cx g' (S ops.size) a' w' → Q .normal a' w') → wpAnyIn (FW ro) n P .any ops Q fuel listed a w := by
  have hall : ∀ {listed : Array Bool}, listed.size = ops.size → Region.ready .any ops listed = [] → ∀ i, i < ops.size → listed.getD i false = true := by
    intro listed hs hr i
    induction i using Nat.strongRecOn with
    | _ i ih =>
      intro hi
      cases hl : listed.getD i false with
      | true => rfl
      | false =>
        exfalso
        obtain ⟨o, ho⟩ := nth_lt (l := ops.toList) (i := i) (by simpa using hi)
        have : i ∈ Region.ready .any ops listed := by
          rw [mem_ready]
          refine ⟨?_, o, by rw [nth_eq] at ho; simpa using ho, fun e he hbd => ?_⟩
          · have : i < listed.size := by omega
            simp [this] at hl ⊢; exact hl
          · have := hI.down i o ho e he hbd
            exact ih e.on this (by omega)
        rw [hr] at this; cases this
  have hend : ∀ {listed : Array Bool} {u : St} {g : Gh} {a : Act} {w : World}, listed.size = ops.size → Region.ready .any ops listed = [] → Inv ops S T (fun i => listed.getD i false = true) u → Rel cx g u a w →
      (∀ g' a' w', Ext g g' → Rel cx g' (S ops.size) a' w' → Q .normal a' w') → Q .normal a w := by
    intro listed u g a w hs hr hu h hq
    have hd := hall hs hr
    have lt1 : ∀ {i : Nat} {x : Oper}, nth ops.toList i = some x → i < ops.size := fun h => by have := lt_of_nth h; simpa using this
    have lt2 : ∀ {i : Nat} {x : Rec}, nth T i = some x → i < ops.size := fun h => by have := lt_of_nth h; omega
    refine hq g a w (Ext.refl g) (h.same ?_ ?_ ?_)
    · funext x
      exact (hu.env x ops.size (Nat.le_refl _) (fun i o _ ho _ => hd i (lt1 ho)) (fun i o hi ho _ => absurd (lt1 ho) (by omega))).symm
    · funext x
      exact (hu.H x ops.size (Nat.le_refl _) (fun i o _ ho _ => hd i (lt2 ho)) (fun i o hi ho _ => absurd (lt2 ho) (by omega))).symm
    · funext x
      exact (hu.R x ops.size (Nat.le_refl _) (fun i o _ ho _ => hd i (lt2 ho)) (fun i o hi ho _ => absurd (lt2 ho) (by omega))).symm
  intro fuel
  induction fuel with
  | zero =>
    intro listed u g a w hs hf hcl hu h hq
    have hr : Region.ready .any ops listed = [] := by
      cases hr : Region.ready .any ops listed with
      | nil => rfl
      | cons i rest =>
        exfalso
        have hi : i ∈ Region.ready .any ops listed := by rw [hr]; simp
        obtain ⟨h0, o, ho, _⟩ := mem_ready.1 hi
        have hlt : i < listed.size := by rw [hs]; exact (Array.getElem?_eq_some_iff.1 ho).1
        have hfull : listed.toList.count true = listed.toList.length := by
          have := List.count_le_length (a := true) (l := listed.toList)
          simp at this ⊢; simp at hf; omega
        rw [List.count_eq_length] at hfull
        have := hfull listed[i] (by simp)
        simp [hlt] at h0
        rw [h0] at this; cases this
    exact ⟨hr, hend hs hr hu h hq⟩
  | succ fuel ih =>
    intro listed u g a w hs hf hcl hu h hq
    refine ⟨fun hr => hend hs hr hu h hq, fun j hj => ?_⟩
    obtain ⟨h0, o, ho, hpre⟩ := mem_ready.1 hj
    have ho' : nth ops.toList j = some o := by rw [nth_eq]; simpa using ho
    have hlt : j < listed.size := by rw [hs]; exact (Array.getElem?_eq_some_iff.1 ho).1
    have hjD : ¬ listed.getD j false = true := by simp [hlt] at h0 ⊢; exact h0
    obtain ⟨u', q, hu'⟩ := order_step hI hIL hlen hL hcl hu ho' hjD hpre
    have hset : ∀ i, (listed.setIfInBounds j true).getD i false = true ↔ (listed.getD i false = true ∨ i = j) := by
      intro i
      by_cases hij : j = i
      · subst hij; simp [hlt]
      · rw [getD_set_ne false hij]
        constructor
        · exact .inl
        · rintro (h | h)
          · exact h
          · exact absurd h.symm hij
    refine opTo_sound h hB ho' hok q fun g' a' w' e1 e2 => ?_
    refine ih _ u' g' a' w' (by simpa using hs) ?_ ?_ ?_ e2 (fun g'' a'' w'' e3 e4 => hq g'' a'' w'' (e1.trans e3) e4)
    · have hl : listed[j] = false := by simp [hlt] at h0; exact h0
      have hne : (listed.setIfInBounds j true).toList.count true = listed.toList.count true + 1 := by
        rw [Array.toList_setIfInBounds, List.count_set (by simpa using hlt)]
        simp [hl]
      omega
    · intro k ok hok hk e he hb
      rw [hset] at hk ⊢
      rcases hk with hk | hk
      · exact .inl (hcl k ok hok hk e he hb)
      · subst hk
        rw [ho'] at hok; cases hok
        exact .inl (hpre e he hb)
    · have : (fun i => (listed.setIfInBounds j true).getD i false = true) = fun i => (listed.getD i false = true ∨ i = j) := funext fun i => propext (hset i)
      rw [this]; exact hu'
structure CxTo (cx cx' : Cx) (y : YS) : Prop where
  n : cx'.n = cx.n
  same : y = .off → cx' = cx
theorem CxTo.refl (cx : Cx) (y : YS) : CxTo cx cx y := ⟨rfl, fun _ => rfl⟩
theorem exY_cases {b : Bool} {dst : Option Nat} {s : St} {K : St → Prop} {p : Plan} (hk : exY P c b dst s K p) :
    (b = true ∧ ∃ l args, p = .yield l args) ∨ (b = true ∧ ∃ f args, p = .ycall f args) ∨ exPlan P c dst s K p := by
  cases b <;> cases p <;> first
    | exact .inr (.inr hk)
    | exact .inl ⟨rfl, _, _, rfl⟩
    | exact .inr (.inl ⟨rfl, _, _, rfl⟩)
theorem callOf_plan {o : Oper} (hc : callOf o = true) {ρ : TypeId → Operand → Option Dat} : ∃ c' f, o.op = .call c' ∧ c'.callee = .value f ∧
    ((∃ l args, plan P o ρ = .yield l args ∧ ρ 0 f = some (.yld l) ∧ allSome (typedArgs ρ c'.args.toList c'.argTypes.toList) = some args) ∨
     (∃ fid first cap args, plan P o ρ = .ycall fid (first ++ args ++ cap) ∧ ρ 0 f = some (.clo (.func fid) first cap) ∧ allSome (typedArgs ρ c'.args.toList c'.argTypes.toList) = some args) ∨
     ((∀ l args, plan P o ρ ≠ .yield l args) ∧ ∀ f args, plan P o ρ ≠ .ycall f args)) := by
  unfold callOf at hc
  split at hc
  rotate_left
  · cases hc
  rename_i c' ho
  split at hc
  rotate_left
  · cases hc
  rename_i f hce
  refine ⟨c', f, ho, hce, ?_⟩
  simp only [plan, ho, callPlan, hce]
  split
  · exact .inr (.inr ⟨fun _ _ e => (by cases e), fun _ _ e => (by cases e)⟩)
  rename_i args hargs
  split
  · rename_i fid first cap hf
    split
    · exact .inr (.inl ⟨fid, first, cap, args, rfl, hf, hargs⟩)
    · exact .inr (.inr ⟨fun _ _ e => (by cases e), fun _ _ e => (by cases e)⟩)
  · rename_i l hf
    exact .inl ⟨l, args, rfl, hf, hargs⟩
  · exact .inr (.inr ⟨fun _ _ e => (by cases e), fun _ _ e => (by cases e)⟩)
theorem Rep.yld_val {g : Gh} {l : Nat} {v : Value} (r : Rep g v (.yld l)) : v = .func (.yield l) #[] #[] := by cases r with | pure r => cases r; rfl
theorem Rel.putY {g : Gh} {s : St} {a : Act} {w : World} (h : Rel cx g s a w) {dst : Option Nat} (hd : dstB cx.n dst = true) {v : Value} {d : Dat} (r : Rep g v d) (y : YS) : Rel cx g (s.putY dst d y) (a.put dst v) w := by
  have := h.put hd r
  cases dst with
  | none => exact ⟨this.env, this.size, this.defers, this.mem.names rfl rfl⟩
  | some t => exact ⟨this.env, this.size, this.defers, this.mem.names rfl rfl⟩
theorem At.moved {M : Mode P c} {g : Gh} {s : St} {a : Act} {w w' : World} {y y' : YS} {N N' : Nat → Prop} (hA : At M cx y N) (h : Rel cx g s a w) {I' : Nat → Nat → Option Value} (hI : SubI g.I I') (hc : Cells I' w')
    (hN : ∀ b, N' b → N b ∨ (w.heap.size ≤ b ∧ b < w'.heap.size)) (hN1 : ∀ b, N b → N' b) (hnew : ∀ b o v, I' b o = some v → g.I b o = some v ∨ (w.heap.size ≤ b ∧ ¬ N' b))
    (hJ : ∃ Ih, M.h.J y' N' Ih w' ∧ SubI Ih I') (hsz : w.heap.size ≤ w'.heap.size) (hkeep : ∀ b, b < w.heap.size → ¬ N' b → w'.heap[b]? = w.heap[b]?) :
    At M (M.h.cx M.n M.w0 M.I0 y' N') y' N' ∧ Rel (M.h.cx M.n M.w0 M.I0 y' N') { g with I := I' } s a w' := by
  obtain ⟨rfl, hI0, hup, hlo⟩ := hA
  have hf := h.mem.frame
  obtain ⟨_, f2, f3⟩ := hf
  have nN : ∀ b, b < w.heap.size → ¬ N b → ¬ N' b := fun b h1 h2 h3 => by rcases hN b h3 with h4 | h4; exact h2 h4; omega
  refine ⟨⟨rfl, fun b o v e => ⟨(hI0 b o v e).1, (hI0 b o v e).2.imp id (nN b (Nat.lt_of_lt_of_le (hI0 b o v e).1 f2))⟩, fun b e => (by rcases hN b e with k | k; exact hup b k; exact .inr (Nat.le_trans f2 k.1)), fun b e => hN1 b (hlo b e)⟩, fun t d ht => (h.env t d ht).mono (ext_I hI), h.size, h.defers, ?_⟩
  refine h.mem.after hI hc (fun b h1 h2 => hkeep b h1 (nN b h1 h2.2)) (fun b o v h1 h2 h3 => ?_) (fun b h1 h2 => ⟨h2.1, nN b h1 h2.2⟩) (fun b o v e => ?_) ⟨hJ, Nat.le_trans f2 hsz, fun b h1 h2 => ?_⟩ (fun b hb => ?_)
  · rcases hnew b o v h1 with e | e
    · exact e
    · omega
  · rcases hnew b o v e with e | e
    · rcases h.mem.newI b o v e with k | k
      · exact .inl k
      · exact .inr ⟨k.1, nN b (h.mem.I_lt e) k.2⟩
    · exact .inr ⟨Nat.le_trans f2 e.1, e.2⟩
  · exact (hkeep b (Nat.lt_of_lt_of_le h1 f2) h2).trans (f3 b h1 (fun e => h2 (hN1 b e)))
  · refine ⟨Nat.le_trans f2 (Nat.le_trans hsz hb), fun e => ?_⟩
    rcases hN b e with k | k
    · exact (h.mem.new b (Nat.le_trans hsz hb)).2 k
    · omega
theorem line_sound {all : Array Oper} (hok : CfgOk P c) {M : Option (Mode P c)} {ro : Option Nat} {n : Nat} {Q : Go.Exit → Act → World → Prop} :
    ∀ (l : List Oper) (i : Nat) (_ : ∀ k o, nth l k = some o → nth all.toList (i + k) = some o) {cx : Cx} (_ : opsB P cx.n all = true) {s : St} {K : St → Prop} {g : Gh} {a : Act} {w : World},
      exLine P c all.toList l s K → Rel cx g s a w → YOk M cx s.y → (∀ s' cx' g' a' w', K s' → CxTo cx cx' s.y → YOk M cx' s'.y → Ext g g' → Rel cx' g' s' a' w' → Q .normal a' w') → wpOpsIn (FW ro) n P all Q (List.range' i l.length) a w
  | [], i, _, cx, hB, s, K, g, a, w, hk, h, hy, hq => by
    exact hq s cx g a w hk (.refl _ _) hy (Ext.refl g) h
  | o :: l, i, hl, cx, hB, s, K, g, a, w, hk, h, hy, hq => by
    have ho : nth all.toList i = some o := hl 0 o rfl
    have ho' : all[i]? = some o := by rw [nth_eq] at ho; simpa using ho
    have hb : opB P cx.n o = true := by
      unfold opsB at hB
      rw [List.all_eq_true] at hB
      exact hB o (mem_of_nth' ho)
    have hd : dstB cx.n o.dst = true := by
      unfold opB at hb; rw [Bool.and_eq_true] at hb; exact hb.1
    have hl' : ∀ k o, nth l k = some o → nth all.toList (i + 1 + k) = some o := fun k o hk => by
      rw [show i + 1 + k = i + (k + 1) by omega]; exact hl (k + 1) o (by simpa [nth] using hk)
    rw [List.length_cons, List.range'_succ, wpOpsIn_cons]
    unfold wpOpIn
    rw [ho']
    dsimp only
    rw [exLine_cons] at hk
    rcases guard_sound h hk with ⟨h1, h2⟩ | ⟨h1, h2⟩
    rotate_left
    · rw [if_neg (by rw [h1]; simp)]
      have ey : (s.forget o.dst).y = s.y := by cases o.dst <;> rfl
      exact ⟨fun _ _ => trivial, line_sound hok l (i + 1) hl' hB h2 (h.forget o.dst) (by rw [ey]; exact hy) fun s' cx' g' a' w' k1 k2 k3 k4 k5 => hq s' cx' g' a' w' k1 (by rw [ey] at k2; exact k2) k3 k4 k5⟩
    rw [if_pos h1]
    have go : ∀ {s1 : St} {cx1 : Cx} {g1 : Gh} {a1 : Act} {w1 : World}, exLine P c all.toList l s1 K → CxTo cx cx1 s.y → (s.y = .off → s1.y = .off) → YOk M cx1 s1.y → Ext g g1 → Rel cx1 g1 s1 a1 w1 → wpOpsIn (FW ro) n P all Q (List.range' (i + 1) l.length) a1 w1 :=
      fun {s1 cx1 g1 a1 w1} e1 e2 e3 e4 e5 e6 => line_sound hok l (i + 1) hl' (by rw [e2.n]; exact hB) e1 e6 e4 fun s' cx' g' a' w' k1 k2 k3 k4 k5 =>
        hq s' cx' g' a' w' k1 ⟨k2.n.trans e2.n, fun e => (k2.same (e3 e)).trans (e2.same e)⟩ k3 (e5.trans k4) k5
    rcases exY_cases h2 with ⟨hcb, ly, args, hp⟩ | ⟨hcb, f, args, hp⟩ | hp
    · obtain ⟨c', f, ho1, hce, (⟨l2, args2, p1, hf, hargs⟩ | ⟨fid, first, cap, args2, p1, _⟩ | ⟨p1, _⟩)⟩ := callOf_plan (P := P) hcb (ρ := getT P s)
      rotate_left
      · rw [hp] at p1; cases p1
      · exact absurd hp (p1 _ _)
      rw [hp] at p1; cases p1
      rw [hp, hcb] at h2
      simp only [exY] at h2
      split at h2
      rotate_left
      · exact h2.elim
      rename_i k hk1
      have hev := args_eval h hargs
      have ef := (h.get hf).yld_val
      obtain ⟨s1, args', g1, k2, l1, n1, r1⟩ := leakAll_sound args h h2
      obtain ⟨⟨rfl, hds⟩, k3⟩ := k2
      rw [hk1] at hy
      obtain ⟨m, N, rfl, hA⟩ := hy
      have hcx := hA.cx
      have hfr := l1.rel.mem.frame
      have hnewm := l1.rel.mem.new
      have hnewI := l1.rel.mem.newI
      rw [hcx] at hfr hnewm hnewI
      obtain ⟨⟨Ih, hJ, hs⟩, f2, f3⟩ := hfr
      have e1 : (c'.args.map a.eval).toList = c'.args.toList.map a.eval := by simp
      obtain ⟨fn, tmps, asg, body, y1, y2⟩ := m.h.round k N Ih g1.I w (c'.args.map a.eval) args' hJ hs hds (by rw [n1]; have := hev.1; simp at this; simp [this])
        (fun i v d hv hd' => by
          have hi := lt_of_nth hd'
          rw [n1] at hi
          obtain ⟨x, hx⟩ := nth_lt hi
          obtain ⟨d2, q1, _, q2⟩ := r1 i x hx
          rw [hd'] at q1; cases q1
          exact q2 v (hev.2 i v x (by rw [← e1]; simpa using hv) hx)) l1.rel.mem.iw
        (fun b o v e => by
          rcases hnewI b o v e with q | q
          · exact (hA.I0 b o v q).2
          · exact .inr q.2) (fun b hb => (hnewm b hb).2)
      have hrun : (execOp a.eval o).run P w = .ok (.round c.l fn tmps asg body) w := by
        rw [← y1]
        simp [execOp, ho1, resolve, hce, ef, Deferred.ofValue, invoke]
      refine ⟨fun _ _ => trivial, ?_⟩
      rw [Oper.semAt_eq _ _ _ (by intro d e; rw [ho1] at e; cases e), hrun, Oper.uponIn_round]
      refine ⟨fun e => by simp [FW] at e, (FW_round (y2 _)).mono fun e w' he => ?_⟩
      obtain ⟨z1, z2, z3, y', z4, z5⟩ := he
      have hA1 := (At.moved (y' := y') (N' := fun b => N b ∨ (w.heap.size ≤ b ∧ b < w'.heap.size)) hA l1.rel (I' := g1.I) (fun _ _ _ h => h) z3 (fun b h => h) (fun b h => .inl h) (fun b o v e => .inl e)
        ⟨g1.I, z5, fun _ _ _ h => h⟩ z1 (fun b hb hn => z2 b hb fun e => hn (.inl e)))
      have hto : CxTo cx (m.h.cx m.n m.w0 m.I0 y' fun b => N b ∨ (w.heap.size ≤ b ∧ b < w'.heap.size)) s.y := ⟨by rw [hcx]; rfl, fun e => by rw [hk1] at e; cases e⟩
      have hd1 : dstB (m.h.cx m.n m.w0 m.I0 y' fun b => N b ∨ (w.heap.size ≤ b ∧ b < w'.heap.size)).n o.dst = true := by rw [hto.n]; exact hd
      rcases z4 with ⟨rfl, rfl⟩ | ⟨rfl, rfl⟩
      · have := k3.a
        rw [norm_eq] at this
        exact go this hto (fun e => by rw [hk1] at e; cases e) (by cases o.dst <;> exact ⟨m, _, rfl, hA1.1⟩) l1.ext (hA1.2.putY hd1 (.pure (.bool _)) _)
      · have := k3.b
        rw [norm_eq] at this
        exact go this hto (fun e => by rw [hk1] at e; cases e) (by cases o.dst <;> exact ⟨m, _, rfl, hA1.1⟩) l1.ext (hA1.2.putY hd1 (.pure (.bool _)) _)
    · obtain ⟨c', f', ho1, hce, (⟨l2, args2, p1, _⟩ | ⟨fid, first, cap, args2, p1, hf, hargs⟩ | ⟨_, p1⟩)⟩ := callOf_plan (P := P) hcb (ρ := getT P s)
      · rw [hp] at p1; cases p1
      rotate_left
      · exact absurd hp (p1 _ _)
      rw [hp] at p1
      injection p1 with p1 p2
      subst p1; subst p2
      rw [hp, hcb] at h2
      simp only [exY] at h2
      split at h2
      rotate_left
      · exact h2.elim
      rename_i k hk1
      have hev := args_eval h hargs
      obtain ⟨vf, vc, ef, hvf, hvc, rf, rc⟩ := (h.get hf).clo_val
      obtain ⟨s1, args', g1, k2, l1, n1, r1⟩ := leakAll_sound _ h h2
      obtain ⟨Q0, hcall, k3⟩ := k2.out
      rw [hk1] at hy
      obtain ⟨m, N, rfl, hA⟩ := hy
      have hcx := hA.cx
      have hfr := l1.rel.mem.frame
      have hnewm := l1.rel.mem.new
      have hnewI := l1.rel.mem.newI
      rw [hcx] at hfr hnewm hnewI
      obtain ⟨⟨Ih, hJ, hs⟩, f2, f3⟩ := hfr
      obtain ⟨⟨fn, hfn, hbody, hname⟩, hgo⟩ := hok.CY _ _ _ _ hcall
      have e1 : (c'.args.map a.eval).toList = c'.args.toList.map a.eval := by simp
      have lf : (c'.args.map a.eval).size = args2.length := by have := hev.1; simp at this; simp [this]
      have hrun : (execOp a.eval o).run P w = .ok (.enter f (vf ++ c'.args.map a.eval ++ vc)) w := by
        have hb' : fn.body ≠ none := by intro e; rw [e] at hbody; cases hbody
        have hn' : fn.name ≠ "runtime.NumGoroutine" := by intro e; rw [e] at hname; simp at hname
        simp [execOp, ho1, resolve, hce, ef, Deferred.ofValue, invoke, callFunc, hfn, hn', hb']
      refine wpIn_of_wp (by intro d e; rw [ho1] at e; cases e) ?_
      unfold Oper.wp
      rw [hrun, Oper.upon_enter]
      refine Calls.mono (hgo m.h N g1.I w _ (by rw [n1]; simp at lf ⊢; omega) (fun i v d hv hd' => ?_) l1.rel.mem.iw (fun b o v e => by
          rcases hnewI b o v e with q | q
          · exact (hA.I0 b o v q).2
          · exact .inr q.2) (fun b hb => (hnewm b hb).2) ⟨Ih, hJ, hs⟩) fun e w' he => ?_
      · have hi := lt_of_nth hd'
        rw [n1] at hi
        obtain ⟨x, hx⟩ := nth_lt hi
        have key : Rep g v x := by
          have hx0 := hx
          rw [nth_eq] at hx
          by_cases h1 : i < first.length
          · rw [List.append_assoc, List.getElem?_append_left h1] at hx
            rw [Array.append_assoc, Array.getElem?_append_left (by omega)] at hv
            exact rf i v x hv (by rw [nth_eq]; exact hx)
          · by_cases h2 : i < first.length + args2.length
            · rw [List.getElem?_append_left (by simp; omega), List.getElem?_append_right (by omega)] at hx
              rw [Array.getElem?_append_left (by simp at lf ⊢; omega), Array.getElem?_append_right (by omega)] at hv
              rw [hvf] at hv
              refine hev.2 (i - first.length) v x ?_ (by rw [nth_eq]; exact hx)
              rw [← e1]; simpa using hv
            · rw [List.getElem?_append_right (by simp; omega)] at hx
              rw [Array.getElem?_append_right (by simp at lf ⊢; omega)] at hv
              refine rc (i - (first ++ args2).length) v x ?_ (by rw [nth_eq]; exact hx)
              have : (vf ++ Array.map a.eval c'.args).size = (first ++ args2).length := by simp at lf ⊢; omega
              rw [this] at hv
              exact hv
        obtain ⟨d2, q1, _, q2⟩ := r1 i x hx
        rw [hd'] at q1; cases q1
        exact q2 v key
      · cases e with
        | panicked ch => exact he.elim
        | outgrown => exact he.elim
        | returned v =>
          obtain ⟨r, y', N', I', x1, x2, x3, x4, x5, x6, x7, x8, x9, x10⟩ := he
          have hA1 := (At.moved (y' := y') (N' := N') hA l1.rel (I' := I') x4 x6 x2 x3 x7 x8 x9 x10)
          have hto : CxTo cx (m.h.cx m.n m.w0 m.I0 y' N') s.y := ⟨by rw [hcx]; rfl, fun e => by rw [hk1] at e; cases e⟩
          have hd1 : dstB (m.h.cx m.n m.w0 m.I0 y' N').n o.dst = true := by rw [hto.n]; exact hd
          have hx : Ext ⟨I', fun _ => none, fun _ => none⟩ { g1 with I := I' } := ⟨fun _ _ _ h => h, fun _ _ h => (by cases h), fun _ _ h => (by cases h)⟩
          have hr1 : Rep { g1 with I := I' } v r := x5.mono hx
          have := allK_mem k3 x1
          rw [norm_eq] at this
          refine go this hto (fun e => by rw [hk1] at e; cases e) ?_ (l1.ext.trans (ext_I x4)) (hA1.2.putY hd1 hr1 y')
          have hy' : (s1.putY o.dst r y').y = y' := by cases o.dst <;> rfl
          rw [hy']
          cases y' with
          | off => obtain ⟨_, hj, _⟩ := x8; exact absurd rfl (m.h.on _ _ _ _ hj)
          | run k => exact ⟨m, _, rfl, hA1.1⟩
          | stop => exact ⟨m, _, rfl, hA1.1⟩
    · have hp' := plan_mono (K' := fun s1 => s1.y = s.y ∧ exLine P c all.toList l s1 K) hp fun s1 _ h1 h2 => ⟨h1, by rw [norm_eq] at h2; exact h2⟩
      refine wpIn_of_wp (plan_nodefer hp) (wp_next (sound_op h hb hok.C hp') fun s' g' a' w' e1 e2 e3 => ?_)
      exact go e1.2 (.refl _ _) (fun e => e1.1.trans e) (by rw [e1.1]; exact hy) e2 e3
theorem region_sound (hm : P.follows .mixedOrders = true) (hB : opsB P cx.n ops = true) (hok : CfgOk P c) {M : Option (Mode P c)} {ro : Option Nat} {n : Nat}
    {id : Nat} {d : Bool} {s : St} {K : St → Prop} {g : Gh} {a : Act} {w : World} {Q : Go.Exit → Act → World → Prop}
    (hk : match d with
      | true => exOps P c ops.toList ops.toList [] s fun rs s' => Chk (indepB ops.toList rs.reverse) (eqP ops.toList rs.reverse (K s'))
      | false => exLine P c ops.toList ops.toList s K) (h : Rel cx g s a w) (hy : YOk M cx s.y)
    (hq : ∀ s' cx' g' a' w', K s' → CxTo cx cx' s.y → YOk M cx' s'.y → Ext g g' → Rel cx' g' s' a' w' → Q .normal a' w') : (Code.region id ops d).wpIn (FW ro) n P Q a w := by
  cases d with
  | false =>
    refine wpIn_region ?_
    have := line_sound (ro := ro) (n := n) hok ops.toList 0 (fun k o hk => by simpa using hk) hB hk h hy hq
    rw [List.range_eq_range']
    simpa using this
  | true =>
    refine wpIn_region_any hm ?_
    dsimp only at hk
    replace hk := exOps_mono (K' := fun rs s' => Chk (indepB ops.toList rs.reverse) (eqP ops.toList rs.reverse (K s' ∧ s'.y = s.y))) (exOps_y hk) fun rs s' _ k2 =>
      ⟨k2.2.h, (eqP_det k2.2.k).2 _ ⟨(eqP_det k2.2.k).1, k2.1⟩⟩
    obtain ⟨S, T, e1, e2, k1, l1⟩ := exOps_trace hk
    rw [List.append_nil, List.reverse_reverse] at k1
    have hI := indepB_spec k1.h
    have hw : ∀ r ∈ T, ∀ x ∈ r.wv, x.1 ∈ r.wh := fun r hr => by
      obtain ⟨i, hi⟩ := List.getElem?_of_mem hr
      rw [← nth_eq] at hi
      have hlt := lt_of_nth hi
      obtain ⟨o, ho⟩ := nth_lt (l := ops.toList) (i := i) (by omega)
      exact (l1 i o r ho hi).wv'
    obtain ⟨k2, hIL⟩ := eqP_spec k1.k hw
    have hlen : T.length = ops.size := by simpa using e2
    have hnone : ∀ i, (Array.replicate ops.size false).getD i false = true → False := by
      intro i hi
      rcases Nat.lt_or_ge i ops.size with hlt | hge
      · simp [hlt] at hi
      · simp [hge] at hi
    have hfix : ∀ {α : Type} (V : Nat → α) (W : Nat → Prop), (∀ i, i < ops.size → ¬ W i → V (i + 1) = V i) → ∀ m, m ≤ ops.size → (∀ i, i < m → ¬ W i) → V m = V 0 := by
      intro α V W hV m
      induction m with
      | zero => intro _ _; rfl
      | succ m ih =>
        intro hm hw
        rw [hV m (by omega) (hw m (by omega))]
        exact ih (by omega) (fun i hi => hw i (by omega))
    have both : ∀ {i : Nat}, i < ops.size → ∃ x y, nth ops.toList i = some x ∧ nth T i = some y := fun {i} h => by
      obtain ⟨x, hx⟩ := nth_lt (l := ops.toList) (i := i) (by simpa using h)
      obtain ⟨y, hy⟩ := nth_lt (l := T) (i := i) (by omega)
      exact ⟨x, y, hx, hy⟩
    refine order_sound hI hIL hlen hB hok l1 ops.size (Array.replicate ops.size false) s g a _ (by simp) (by omega) (fun k o _ hk => (hnone k hk).elim) ?_
      ⟨h.env, h.size, h.defers, h.mem.drew _⟩ (fun g' a' w' x1 x2 => hq (S ops.size) cx g' a' w' (by have := k2.1; simpa using this) (.refl _ _) (by have := k2.2; simp at this; rw [this]; exact hy) x1 x2)
    have stay : ∀ {i : Nat} {x : Oper} {y : Rec}, nth ops.toList i = some x → nth T i = some y →
        (∀ t, x.dst ≠ some t → (S (i + 1)).env t = (S i).env t) ∧ (∀ l, l ∉ y.wh → (S (i + 1)).H l = (S i).H l) ∧ (∀ l, l ∉ y.wr → (S (i + 1)).R l = (S i).R l) := fun {i x y} h1 h2 => by
      obtain ⟨u', p, _⟩ := (l1 i x y h1 h2).out (S i) ⟨fun _ _ => rfl, fun _ _ => rfl, fun _ _ => rfl⟩ (fun _ _ => rfl)
      refine ⟨fun t ht => ?_, fun t ht => ?_, fun t ht => ?_⟩
      · rcases p.env t with ⟨a, _⟩ | ⟨_, b⟩
        · exact a
        · exact absurd b ht
      · rcases p.H t with ⟨a, _⟩ | ⟨_, b⟩
        · exact a
        · exact absurd b ht
      · rcases p.R t with ⟨a, _⟩ | ⟨_, b⟩
        · exact a
        · exact absurd b ht
    refine ⟨fun x m hm h1 h2 => ?_, fun x m hm h1 h2 => ?_, fun x m hm h1 h2 => ?_, fun q m hm h1 h2 => ?_⟩
    rotate_left 3
    · have := hfix (fun m => pr ((S m).H q.1) q) (fun i => i < ops.size ∧ pr ((S (i+1)).H q.1) q ≠ pr ((S i).H q.1) q) (fun i hi hw => Classical.byContradiction fun hc => hw ⟨hi, hc⟩) m hm
        (fun i hi hc => hnone i (h1 i hi hc.1 hc.2))
      rw [this, e1]
    · have := hfix (fun m => (S m).env x) (fun i => ∃ y, nth ops.toList i = some y ∧ y.dst = some x) (fun i hi hw => by
        obtain ⟨y, z, hy, hz⟩ := both hi
        exact (stay hy hz).1 x (fun e => hw ⟨y, hy, e⟩)) m hm (fun i hi ⟨y, hy, hd⟩ => hnone i (h1 i y hi hy hd))
      rw [this, e1]
    · have := hfix (fun m => (S m).H x) (fun i => ∃ y, nth T i = some y ∧ x ∈ y.wh) (fun i hi hw => by
        obtain ⟨y, z, hy, hz⟩ := both hi
        exact (stay hy hz).2.1 x (fun e => hw ⟨z, hz, e⟩)) m hm (fun i hi ⟨y, hy, hd⟩ => hnone i (h1 i y hi hy hd))
      rw [this, e1]
    · have := hfix (fun m => (S m).R x) (fun i => ∃ y, nth T i = some y ∧ x ∈ y.wr) (fun i hi hw => by
        obtain ⟨y, z, hy, hz⟩ := both hi
        exact (stay hy hz).2.2 x (fun e => hw ⟨z, hz, e⟩)) m hm (fun i hi ⟨y, hy, hd⟩ => hnone i (h1 i y hi hy hd))
      rw [this, e1]
end
end Abs
