/- A part of a proof: an abstract machine, proved sound, or contracts of functions. No condition. -/
import Derived.OpenShut
import Derived.Carry
import Derived.WalkKit
import Derived.ProofKit
import Derived.JoinedCond
import Derived.Test.YtcbpfnplkdijpaaGreatT8
import Derived.Test.YtcbpfnplkdijpaaGreatT4
set_option linter.unusedVariables false
set_option linter.unusedSimpArgs false
namespace Abs
open Go Go.Proofs
set_option maxRecDepth 100000
set_option maxHeartbeats 4000000
structure PgPre (n : Nat) (p : Pg) : Prop where
  locks : p.d.locks = 3
  parts : p.d.parts = 3
  decl : p.d.globals.length = 2 ∧ p.d.classes.length = 2 ∧ p.d.queues.length = 1 ∧ p.d.sinks.length = 3
  pos : 0 < p.defs.length
  nd : p.defs.length ≤ 4 + n
  th : 0 < p.threads.length
  nt : p.threads.length ≤ 2
  ok : ∀ d ∈ p.defs, DfOk n d
theorem PgPre.heads {n : Nat} {p : Pg} (h : PgPre n p) : PgOk n (wHeads p) :=
  ⟨h.locks, h.parts, h.decl, rfl, h.pos, h.nd, h.th, h.nt, h.ok⟩
theorem fin_pg {n : Nat} {q : Pg} (h : PgPre n q) : PgOk n (finP q) := by
  have hne : q.defs ≠ [] := fun e => by have := h.pos; rw [e] at this; simp at this
  have e : q.defs.dropLast ++ [q.defs.getLastD zD] = q.defs := by
    rw [List.getLastD_eq_getLast?, List.getLast?_eq_some_getLast hne]
    exact List.dropLast_concat_getLast hne
  have hlen : (q.defs.dropLast).length + 1 = q.defs.length := by
    have := congrArg List.length e
    simpa using this
  have hsub : ∀ d ∈ insD q.defs.dropLast (q.defs.getLastD zD), d ∈ q.defs := by
    intro d hd
    rw [← e]
    unfold insD at hd
    rcases List.mem_append.1 hd with hd | hd
    · rcases List.mem_append.1 hd with hd | hd
      · exact List.mem_append.2 (.inl ((List.takeWhile_sublist _).subset hd))
      · exact List.mem_append.2 (.inr hd)
    · exact List.mem_append.2 (.inl (List.mem_filter.1 hd).1)
  have hins : ∀ l : List Df, (insD l (q.defs.getLastD zD)).length ≤ l.length + 1 := by
    intro l
    have key : ∀ l : List Df, (l.takeWhile fun d => decide (d.id < (q.defs.getLastD zD).id)).length + (l.filter fun d => decide (d.id > (q.defs.getLastD zD).id)).length ≤ l.length := by
      intro l
      induction l with
      | nil => simp
      | cons x l ih =>
        rw [List.takeWhile_cons, List.filter_cons]
        by_cases h1 : x.id < (q.defs.getLastD zD).id
        · have h2 : ¬ x.id > (q.defs.getLastD zD).id := by omega
          simp only [h1, h2, decide_true, decide_false, if_true, if_false, List.length_cons, Bool.false_eq_true]; omega
        · have := List.length_filter_le (fun d : Df => decide (d.id > (q.defs.getLastD zD).id)) l
          simp only [h1, decide_false, Bool.false_eq_true, if_false, List.length_nil, List.length_cons]
          split
          · rw [List.length_cons]; omega
          · omega
    have := key l
    simp only [insD, List.length_append, List.length_singleton]; omega
  refine ⟨h.locks, h.parts, h.decl, rfl, ?_, ?_, h.th, h.nt, fun d hd => h.ok d (hsub d hd)⟩
  · show 0 < (insD _ _).length
    simp [insD]; omega
  · show (insD _ _).length ≤ 4 + n
    have := hins q.defs.dropLast
    have := h.nd
    omega
theorem PgOk.pre {n : Nat} {p : Pg} (h : PgOk n p) : PgPre n p := ⟨h.locks, h.parts, h.decl, h.pos, h.nd, h.th, h.nt, h.ok⟩
theorem PgPre.up {n : Nat} {p : Pg} (h : PgPre n p) : PgPre (n + 1) p := ⟨h.locks, h.parts, h.decl, h.pos, by have := h.nd; omega, h.th, h.nt, fun d hd => (h.ok d hd).up⟩
theorem PgOk.up {n : Nat} {p : Pg} (h : PgOk n p) : PgOk (n + 1) p := ⟨h.locks, h.parts, h.decl, h.heads, h.pos, by have := h.nd; omega, h.th, h.nt, fun d hd => (h.ok d hd).up⟩
theorem PgPre.set {n : Nat} {p : Pg} (h : PgPre n p) {k : Nat} {d : Df} (hd : DfOk n d) : PgPre n (p.ds (p.defs.set k d)) :=
  ⟨h.locks, h.parts, h.decl, by show 0 < (p.defs.set k d).length; rw [List.length_set]; exact h.pos, by show (p.defs.set k d).length ≤ _; rw [List.length_set]; exact h.nd, h.th, h.nt,
    fun x hx => (List.mem_or_eq_of_mem_set hx).elim (fun hx => h.ok x hx) (fun e => e ▸ hd)⟩
theorem newS_w (d : Df) (z : Ch) : (wS (newS d z)).length = 20 := by
  have := wSB (8000 + 10 * d.id + z.n.tmod 3) 6 (z.n.tmod 2) 0 0 zE zE zC [] []
  rw [wZE, wZC, W_nil] at this
  exact this
theorem chK_lt {p : Pg} {z : Ch} (hz : ChOk z) (h : 0 < p.defs.length) : chK p z < p.defs.length ∧ z.at'.tmod (p.defs.length : Nat) = (chK p z : Int) := by
  have := tm_bd hz.at'.1 (p.defs.length : Nat) (by omega)
  unfold chK; omega
theorem change_pg {n : Nat} {p : Pg} {z : Ch} (h : PgOk n p) (hz : ChOk z) : PgOk (n + 1) (changeP p z) := by
  have hk := (chK_lt hz h.pos).1
  have hd := (h.ok _ (List.getElem_mem hk)).up
  have hu := h.pre.up
  have hn2 := tm_bd hz.n.1 2 (by omega)
  have hn3 := tm_bd hz.n.1 3 (by omega)
  have hn4 := tm_bd hz.n.1 4 (by omega)
  have hnm : (names3.getD (z.n.tmod 3).toNat []).length ≤ 100 := by
    rcases (show z.n.tmod 3 = 0 ∨ z.n.tmod 3 = 1 ∨ z.n.tmod 3 = 2 by omega) with e | e | e <;> rw [e] <;> decide
  unfold changeP
  dsimp only
  rw [getD_at hk]
  split
  · exact fin_pg (hu.set ⟨hd.id, hd.np, hd.na, hd.w, hnm⟩)
  split
  · exact fin_pg (hu.set ⟨hd.id, hd.np, hd.na, hd.w, hd.nm⟩)
  split
  · exact fin_pg (hu.set ⟨hd.id, hd.np, hd.na, hd.w, hd.nm⟩)
  split
  · split
    · exact fin_pg hu
    · refine fin_pg ⟨h.locks, h.parts, h.decl, ?_, ?_, h.th, h.nt, fun d hd => ?_⟩
      · show 0 < (p.defs ++ _).length; simp
      · show (p.defs ++ _).length ≤ _; have := h.nd; simp; omega
      · rcases List.mem_append.1 hd with hd | hd
        · exact (h.ok d hd).up
        · rw [List.mem_singleton.1 hd]
          refine ⟨?_, ⟨Nat.zero_le _, Nat.zero_le _⟩, Nat.zero_le _, ?_, (show 5 ≤ 100 by omega)⟩
          · show 0 ≤ 20 + z.n.tmod 2 ∧ 20 + z.n.tmod 2 < 100; omega
          · have := wSB (5001 + 10 * (20 + z.n.tmod 2)) 24 0 0 0 (eNum (z.n.tmod 4)) zE zC [] []
            rw [wZE, wZC, wNum, W_nil] at this
            have e : W [Sm.mk (5001 + 10 * (20 + z.n.tmod 2)) 24 0 0 0 (eNum (z.n.tmod 4)) zE zC [] [] [] []] = 20 := by rw [W_cons, W_nil]; omega
            show W [Sm.mk (5001 + 10 * (20 + z.n.tmod 2)) 24 0 0 0 (eNum (z.n.tmod 4)) zE zC [] [] [] []] ≤ _
            omega
  split
  · split
    · exact h.up
    · next hc =>
      have h1 : p.defs.length ≠ 1 := fun e => hc (by simp [e])
      have := h.nd
      refine PgPre.heads ⟨h.locks, h.parts, h.decl, ?_, ?_, h.th, h.nt, fun d hd => ?_⟩
      · show 0 < (p.defs.take _ ++ p.defs.drop _).length
        rw [List.length_append, List.length_take, List.length_drop]; omega
      · show (p.defs.take _ ++ p.defs.drop _).length ≤ _
        rw [List.length_append, List.length_take, List.length_drop]; omega
      · rcases List.mem_append.1 hd with hd | hd
        · exact (h.ok d (List.mem_of_mem_take hd)).up
        · exact (h.ok d (List.mem_of_mem_drop hd)).up
  split
  · split
    · exact h.up
    · refine fin_pg (hu.set ⟨hd.id, hd.np, hd.na, ?_, hd.nm⟩)
      have hw := (h.ok _ (List.getElem_mem hk)).w
      show W ((p.defs[chK p z]).body ++ [newS (p.defs[chK p z]) z]) ≤ _
      rw [W_app, W_cons, W_nil, newS_w]; omega
  · have hs := hu.set (k := chK p z) hd
    refine fin_pg ⟨h.locks, h.parts, h.decl, hs.pos, hs.nd, ?_, ?_, hs.ok⟩
    · show 0 < (p.threads.take 1).length; rw [List.length_take]; have := h.th; omega
    · show (p.threads.take 1).length ≤ 2; rw [List.length_take]; omega
theorem DfOk.sz {n : Nat} {d : Df} (h : DfOk n d) : szL d.body ≤ 40000 + 30 * n := by
  have h1 := h.w
  have h2 := szL_fm d.body
  unfold W at h1; omega
theorem changed_ok {n : Nat} {p : Pg} {z : Ch} (h : PgOk n p) (hn : n ≤ 1000) (hz : ChOk z) : CallsA Tryz.prog 30 [encP p, encCh z] ct0 (encP (changeP p z)) ct0 := by
  have hk := chK_lt hz h.pos
  have hnd := h.nd
  have hd := h.ok _ (List.getElem_mem hk.1)
  have hsz : ∀ d ∈ p.defs, szL d.body < 2^28 := fun d hd => by have := (h.ok d hd).sz; omega
  have hid : ∀ d ∈ p.defs, 0 ≤ d.id ∧ d.id < 1000 := fun d hd => by have := (h.ok d hd).id; omega
  have hnt := h.nt
  have c : ChCx p z (chK p z) := ⟨hz, hk.1, by omega, by rw [List.length_map]; exact hk.2, by rw [getD_at hk.1]; have := hd.id; omega⟩
  have h7 := tm_bd hz.kind.1 7 (by omega)
  unfold changeP
  dsimp only
  rw [getD_at hk.1]
  split
  · exact change0_ok c (by assumption)
  split
  · exact change1_ok c (by assumption)
  split
  · exact change2_ok c (by assumption)
  split
  · exact change3_ok c (by assumption)
  split
  · exact change4_ok c (by assumption) (fun d hd => by have := hsz d hd; omega) (by omega)
  split
  · exact change5_ok c (by assumption) hsz hid
  · exact change6_ok c (by omega) h.th (by omega)
def varP (p : Pg) (l : List Ch) : Pg := (l.take 5).foldl changeP p
theorem var_pg (p : Pg) (hp : PgOk 0 p) (l : List Ch) (hl : ∀ z ∈ l, ChOk z) : ∀ k, PgOk k ((l.take k).foldl changeP p)
  | 0 => by simpa using hp
  | k + 1 => by
    have ih := var_pg p hp l hl k
    by_cases h : k < l.length
    · rw [take_one h, List.foldl_append]
      exact change_pg ih (hl _ (List.getElem_mem h))
    · rw [List.take_of_length_le (by omega)]
      rw [List.take_of_length_le (by omega)] at ih
      exact ih.up
theorem variant_ok (p : Pg) (hp : PgOk 0 p) (l : List Ch) (hl : ∀ z ∈ l, ChOk z) : CallsA Tryz.prog 9 [encP p, lst 3 encCh l] ct0 (encP (varP p l)) ct0 := by
  refine fn_ok hm Tryz.func9 (fun _ => false) [] (fun _ => []) (by kernel_rfl) ?_
  refine run ?_
  refine LoopS.mk ⟨[], HeadS.lp (fun k : Nat => k ≤ l.length ∧ k ≤ 5) (fun k => ⟨[(5, it k)], [(2, encP ((l.take k).foldl changeP p))], []⟩) (fun k => 6 - k) 0 ⟨Nat.zero_le _, by omega⟩ ?_⟩
  intro k hJ
  have h1 := hJ.1
  have h2 := hJ.2
  by_cases hk : k < l.length
  · have b1 : decide ((k : Int) < ((l.map encCh).length : Nat)) = true := by simp; exact hk
    by_cases h5 : k < 5
    · have b2 : decide ((k : Int) < 5) = true := by simp; omega
      have c := changed_ok (var_pg p hp l hl k) (by omega) (hl _ (List.getElem_mem hk))
      have e : changeP ((l.take k).foldl changeP p) l[k] = (l.take (k+1)).foldl changeP p := by rw [take_one hk, List.foldl_append]; rfl
      rw [e] at c
      refine run ?_
      refine Idx.map hk rfl ?_
      refine run ?_; repeat ((apply call_ok; first | exact (c)); refine run ?_)
      refine ⟨⟨k + 1, ⟨hk, h5⟩⟩, Nat.sub_lt_sub_left (show k < 6 by omega) (Nat.lt_succ_self _), ?_⟩
      repeat' (first | exact trivial | exact rfl | refine ⟨?_, ?_⟩ | refine ⟨?_, ?_, ?_⟩)
    · have b2 : decide ((k : Int) < 5) = false := by simp; omega
      have e : k = 5 := by omega
      subst e
      refine run ?_
      exact Done.mk rfl rfl
  · have b1 : decide ((k : Int) < ((l.map encCh).length : Nat)) = false := by simp; omega
    have e : (l.take k).foldl changeP p = varP p l := by
      unfold varP
      rw [List.take_of_length_le (by omega), List.take_of_length_le (by omega)]
    rw [← e]
    refine run ?_
    exact Done.mk rfl rfl
end Abs
namespace Abs
open Go Go.Proofs
set_option maxRecDepth 100000
set_option maxHeartbeats 4000000
theorem u16_bd (x : Int) : 0 ≤ IntKind.u16.wrap x ∧ IntKind.u16.wrap x < 65536 := by
  simp [IntKind.wrap, IntKind.bits, IntKind.signed]; omega
def nStep (n : N8) : Nat → N8
  | 0 => ⟨IntKind.u16.wrap (n.a + IntKind.u16.wrap ((0 : Nat) : Int)), n.b, n.c, n.d, n.e, n.f, n.g, n.h⟩
  | 1 => ⟨n.a, IntKind.u16.wrap (n.b + IntKind.u16.wrap ((1 : Nat) : Int)), n.c, n.d, n.e, n.f, n.g, n.h⟩
  | 2 => ⟨n.a, n.b, IntKind.u16.wrap (n.c + IntKind.u16.wrap ((2 : Nat) : Int)), n.d, n.e, n.f, n.g, n.h⟩
  | 3 => ⟨n.a, n.b, n.c, IntKind.u16.wrap (n.d + IntKind.u16.wrap ((3 : Nat) : Int)), n.e, n.f, n.g, n.h⟩
  | _ => n
def nAt (n : N8) : Nat → N8
  | 0 => n
  | k + 1 => nStep (nAt n k) k
theorem nStep_ok {n : N8} (h : N8Ok n) : ∀ k, N8Ok (nStep n k)
  | 0 => ⟨u16_bd _, h.b, h.c, h.d, h.e, h.f, h.g, h.h⟩
  | 1 => ⟨h.a, u16_bd _, h.c, h.d, h.e, h.f, h.g, h.h⟩
  | 2 => ⟨h.a, h.b, u16_bd _, h.d, h.e, h.f, h.g, h.h⟩
  | 3 => ⟨h.a, h.b, h.c, u16_bd _, h.e, h.f, h.g, h.h⟩
  | _ + 4 => h
theorem nAt_ok {n : N8} (h : N8Ok n) : ∀ k, N8Ok (nAt n k)
  | 0 => h
  | k + 1 => nStep_ok (nAt_ok h k) k
def zSum : Sy := ⟨0, 0, 0, 0, 0, 0, 0, 0, 0, [], 0⟩
open Classical in
noncomputable def someS (p : Pg) (id : Int) (n : N8) : Sy := if h : ∃ s : Sy, s.id = id ∧ s.pairs.length ≤ 9 ∧ CallsA Tryz.prog 68 [encP p, it id, encN8 n] ct0 (encSy s) ct0 then h.choose else zSum
theorem someS_ok (p : Pg) (id : Int) (n : N8) (hn : N8Ok n) (hL : p.d.locks = 3) (hP : p.d.parts = 3) : (someS p id n).id = id ∧ (someS p id n).pairs.length ≤ 9 ∧ CallsA Tryz.prog 68 [encP p, it id, encN8 n] ct0 (encSy (someS p id n)) ct0 := by
  have h := some_ok p id n hn hL hP
  unfold someS
  rw [dif_pos h]
  exact h.choose_spec
noncomputable def sAt (p : Pg) (n : N8) (k : Nat) : Sy := someS p (p.heads.getD k zHd).id (nAt n (k + 1))
noncomputable def sumsP (p : Pg) (n : N8) : List Sy := (List.range p.heads.length).map (sAt p n)
inductive Q5 where
  | q0 | q1 | q2 | q3 | q4
def Q5.k : Q5 → Nat
  | .q0 => 0 | .q1 => 1 | .q2 => 2 | .q3 => 3 | .q4 => 4
theorem Q5.all {P : Q5 → Prop} (a : P .q0) (b : P .q1) (c : P .q2) (d : P .q3) (e : P .q4) : ∀ q, P q
  | .q0 => a | .q1 => b | .q2 => c | .q3 => d | .q4 => e
theorem sumsP_mem {p : Pg} (h : PgOk 0 p) {n : N8} (hn : N8Ok n) : ∀ s ∈ sumsP p n, s.pairs.length ≤ 9 := by
  intro s hs
  obtain ⟨k, _, rfl⟩ := List.mem_map.1 hs
  exact (someS_ok p _ _ (nAt_ok hn _) h.locks h.parts).2.1
theorem sumsP_len (p : Pg) (n : N8) : (sumsP p n).length = p.heads.length := by simp [sumsP]
theorem sumsP_ids {p : Pg} (h : PgOk 0 p) {n : N8} (hn : N8Ok n) : (sumsP p n).map (·.id) = p.heads.map (·.id) := by
  apply List.ext_getElem
  · simp [sumsP]
  · intro i h1 h2
    have hi : i < p.heads.length := by simpa using h2
    simp only [sumsP, List.getElem_map, List.getElem_range]
    rw [show (sAt p n i).id = _ from (someS_ok p _ _ (nAt_ok hn _) h.locks h.parts).1]
    simp [List.getD, hi]
theorem summaries_ok (p : Pg) (h : PgOk 0 p) (n : N8) (hn : N8Ok n) : CallsA Tryz.prog 29 [encP p, encN8 n] ct0 (lst 11 encSy (sumsP p n)) ct0 := by
  have hl : p.heads.length ≤ 4 := by rw [h.heads, List.length_map]; have := h.nd; omega
  have hc : ∀ k (hk : k < p.heads.length), CallsA Tryz.prog 68 [encP p, it (p.heads[k]).id, encN8 (nAt n (k + 1))] ct0 (encSy (sAt p n k)) ct0 := fun k hk => by
    have e : p.heads.getD k zHd = p.heads[k] := by simp [List.getD, hk]
    have := (someS_ok p (p.heads.getD k zHd).id _ (nAt_ok hn (k + 1)) h.locks h.parts).2.2
    unfold sAt
    rw [e] at this ⊢
    exact this
  have hend : ∀ k, k ≤ p.heads.length → ¬ k < p.heads.length → ((List.range k).map (sAt p n)).map encSy = (sumsP p n).map encSy := fun k h1 h2 => by
    rw [show k = p.heads.length by omega]; rfl
  refine fn_ok hm Tryz.func29 (fun _ => false) [] (fun _ => []) (by kernel_rfl) ?_
  refine run ?_
  refine LoopS.mk ⟨[], HeadS.lp (fun q : Q5 => q.k ≤ p.heads.length) (fun q => ⟨[(6, it q.k), (5, .ref 7 q.k)], [(3, encN8 (nAt n q.k))], [(7, ⟨11, true, ((List.range q.k).map (sAt p n)).map encSy⟩)]⟩) (fun q => 5 - q.k) .q0 (Nat.zero_le _) ?_⟩
  refine Q5.all ?_ ?_ ?_ ?_ ?_
  · intro hJ
    by_cases hk : 0 < p.heads.length
    · have b1 : decide (((0 : Nat) : Int) < ((p.heads.map encH).length : Nat)) = true := decide_eq_true (by rw [List.length_map]; omega)
      have c := hc 0 hk
      refine run ?_
      refine Need.mk (by decide) ?_
      refine run ?_
      refine Idx.at rfl (by decide) rfl ?_
      refine run ?_
      refine Arith.mk ?_
      refine run ?_
      refine Arith.mk ?_
      refine run ?_
      refine Need.mk (by decide) ?_
      refine run ?_
      refine Need.mk (show 0 < 8 by decide) ?_
      refine run ?_
      refine Idx.map hk rfl ?_
      refine run ?_; repeat ((apply call_ok; first | exact (c)); refine run ?_)
      refine ⟨⟨.q1, hk⟩, (show 5 - 1 < 5 - 0 by decide), ?_⟩
      repeat' (first | exact trivial | exact rfl | refine ⟨?_, ?_⟩ | refine ⟨?_, ?_, ?_⟩)
    · have b1 : decide (((0 : Nat) : Int) < ((p.heads.map encH).length : Nat)) = false := decide_eq_false (by rw [List.length_map]; omega)
      have e := hend 0 hJ hk
      refine run ?_
      exact Done.mk (congrArg (fun x => Dat.sl 11 x false) e) rfl
  · intro hJ
    by_cases hk : 1 < p.heads.length
    · have b1 : decide (((1 : Nat) : Int) < ((p.heads.map encH).length : Nat)) = true := decide_eq_true (by rw [List.length_map]; omega)
      have c := hc 1 hk
      refine run ?_
      refine Need.mk (by decide) ?_
      refine run ?_
      refine Idx.at rfl (by decide) rfl ?_
      refine run ?_
      refine Arith.mk ?_
      refine run ?_
      refine Arith.mk ?_
      refine run ?_
      refine Need.mk (by decide) ?_
      refine run ?_
      refine Need.mk (show 1 < 8 by decide) ?_
      refine run ?_
      refine Idx.map hk rfl ?_
      refine run ?_; repeat ((apply call_ok; first | exact (c)); refine run ?_)
      refine ⟨⟨.q2, hk⟩, (show 5 - 2 < 5 - 1 by decide), ?_⟩
      repeat' (first | exact trivial | exact rfl | refine ⟨?_, ?_⟩ | refine ⟨?_, ?_, ?_⟩)
    · have b1 : decide (((1 : Nat) : Int) < ((p.heads.map encH).length : Nat)) = false := decide_eq_false (by rw [List.length_map]; omega)
      have e := hend 1 hJ hk
      refine run ?_
      exact Done.mk (congrArg (fun x => Dat.sl 11 x false) e) rfl
  · intro hJ
    by_cases hk : 2 < p.heads.length
    · have b1 : decide (((2 : Nat) : Int) < ((p.heads.map encH).length : Nat)) = true := decide_eq_true (by rw [List.length_map]; omega)
      have c := hc 2 hk
      refine run ?_
      refine Need.mk (by decide) ?_
      refine run ?_
      refine Idx.at rfl (by decide) rfl ?_
      refine run ?_
      refine Arith.mk ?_
      refine run ?_
      refine Arith.mk ?_
      refine run ?_
      refine Need.mk (by decide) ?_
      refine run ?_
      refine Need.mk (show 2 < 8 by decide) ?_
      refine run ?_
      refine Idx.map hk rfl ?_
      refine run ?_; repeat ((apply call_ok; first | exact (c)); refine run ?_)
      refine ⟨⟨.q3, hk⟩, (show 5 - 3 < 5 - 2 by decide), ?_⟩
      repeat' (first | exact trivial | exact rfl | refine ⟨?_, ?_⟩ | refine ⟨?_, ?_, ?_⟩)
    · have b1 : decide (((2 : Nat) : Int) < ((p.heads.map encH).length : Nat)) = false := decide_eq_false (by rw [List.length_map]; omega)
      have e := hend 2 hJ hk
      refine run ?_
      exact Done.mk (congrArg (fun x => Dat.sl 11 x false) e) rfl
  · intro hJ
    by_cases hk : 3 < p.heads.length
    · have b1 : decide (((3 : Nat) : Int) < ((p.heads.map encH).length : Nat)) = true := decide_eq_true (by rw [List.length_map]; omega)
      have c := hc 3 hk
      refine run ?_
      refine Need.mk (by decide) ?_
      refine run ?_
      refine Idx.at rfl (by decide) rfl ?_
      refine run ?_
      refine Arith.mk ?_
      refine run ?_
      refine Arith.mk ?_
      refine run ?_
      refine Need.mk (by decide) ?_
      refine run ?_
      refine Need.mk (show 3 < 8 by decide) ?_
      refine run ?_
      refine Idx.map hk rfl ?_
      refine run ?_; repeat ((apply call_ok; first | exact (c)); refine run ?_)
      refine ⟨⟨.q4, hk⟩, (show 5 - 4 < 5 - 3 by decide), ?_⟩
      repeat' (first | exact trivial | exact rfl | refine ⟨?_, ?_⟩ | refine ⟨?_, ?_, ?_⟩)
    · have b1 : decide (((3 : Nat) : Int) < ((p.heads.map encH).length : Nat)) = false := decide_eq_false (by rw [List.length_map]; omega)
      have e := hend 3 hJ hk
      refine run ?_
      exact Done.mk (congrArg (fun x => Dat.sl 11 x false) e) rfl
  · intro hJ
    by_cases hk : 4 < p.heads.length
    · exfalso; omega
    · have b1 : decide (((4 : Nat) : Int) < ((p.heads.map encH).length : Nat)) = false := decide_eq_false (by rw [List.length_map]; omega)
      have e := hend 4 hJ hk
      refine run ?_
      exact Done.mk (congrArg (fun x => Dat.sl 11 x false) e) rfl
theorem needX (p : Pg) (s : Su) (id : Int) (sums : List Sy) (N : Ne) (e : Int) (c : CallsA Tryz.prog 31 [encP p, encSu s, it id, lst 11 encSy sums] ct0 (.tup [encN N, it e]) ct0) :
    CallsA Tryz.prog 10 [encP p, encSu s, it id, lst 11 encSy sums] ct0 (.agg (cN N ++ [it e])) ct0 := by
  refine fn_ok hm Tryz.func10 (fun _ => false) [] (fun _ => []) (by kernel_rfl) ?_
  refine run ?_; repeat ((apply call_ok; first | exact (c)); refine run ?_)
  exact Done.mk rfl rfl
theorem need_ok (p : Pg) (s : Su) (id : Int) (sums : List Sy) (hf : Fits p) (hs : sums.length < 2^40) (hr : s.rules.length < 2^30) :
    CallsA Tryz.prog 10 [encP p, encSu s, it id, lst 11 encSy sums] ct0 (.agg (cN (needOf p s id sums).1 ++ [it (needOf p s id sums).2])) ct0 :=
  needX p s id sums _ _ (dOf_ok p s id sums hf hs hr)
theorem same_ok (a b : Ne) (ea eb : Int) (h : NeOk a) (g : NeOk b) : CallsA Tryz.prog 11 [.agg (cN a ++ [it ea]), .agg (cN b ++ [it eb])] ct0 (bo (ea == eb && a == b)) ct0 := by
  have c := refSame_ok a b h g
  refine (Bool.eq_false_or_eq_true (ea == eb)).elim (fun b0 => ?_) (fun b0 => ?_)
  · have e : (ea == eb && a == b) = (a == b) := by rw [b0]; rfl
    rw [e]
    refine fn_ok hm Tryz.func11 (fun _ => false) [] (fun _ => []) (by kernel_rfl) ?_
    refine run ?_; repeat ((apply call_ok; first | exact (c)); refine run ?_)
    exact Done.mk rfl rfl
  · have e : (ea == eb && a == b) = false := by rw [b0]; rfl
    rw [e]
    refine fn_ok hm Tryz.func11 (fun _ => false) [] (fun _ => []) (by kernel_rfl) ?_
    refine run ?_; repeat ((apply call_ok; first | exact (c)); refine run ?_)
    exact Done.mk rfl rfl
end Abs
namespace Abs
open Go Go.Proofs
set_option maxRecDepth 100000
set_option maxHeartbeats 4000000
structure Cse where
  b : List UInt8
  k : Int
  r : List Rw
  level : Int
  s : N8
def encCase (x : Cse) : Dat := .agg [byt x.b, u8 x.k, lst 9 encRw x.r, u8 x.level, u16 x.s.a, u16 x.s.b, u16 x.s.c, u16 x.s.d, u16 x.s.e, u16 x.s.f, u16 x.s.g, u16 x.s.h]
structure CseOk (x : Cse) : Prop where
  k : 0 ≤ x.k ∧ x.k < 256
  r : ∀ y ∈ x.r, RwOk y
  level : 0 ≤ x.level ∧ x.level < 256
  s : N8Ok x.s
def rulesC (x : Cse) : List Ru := ordR ((x.r.take 5).map madeR)
def setupC (x : Cse) : Su := ⟨x.level.tmod 3, rulesC x⟩
def kC (x : Cse) : Nat := (x.k.tmod ((madeP x.b).defs.length : Nat)).toNat
def idC (x : Cse) : Int := ((madeP x.b).defs.getD (kC x) zD).id
theorem kC_lt {x : Cse} (h : CseOk x) : kC x < (madeP x.b).defs.length ∧ x.k.tmod ((madeP x.b).defs.length : Nat) = (kC x : Int) := by
  have hp := (madeP_ok x.b).pos
  have := tm_bd h.k.1 ((madeP x.b).defs.length : Nat) (by omega)
  unfold kC; omega
theorem rulesC_len (x : Cse) : (rulesC x).length ≤ 5 := by
  have h1 := pick_le ((x.r.take 5).map madeR) (idsR ((x.r.take 5).map madeR))
  have h2 := ids_len ((x.r.take 5).map madeR) []
  unfold rulesC ordR
  have h3 : (idsR ((x.r.take 5).map madeR)).length ≤ 0 + ((x.r.take 5).map madeR).length := h2
  rw [List.length_map, List.length_take] at h3
  omega
theorem madeX (x : Cse) (h : CseOk x) (P : Pg) (S : List Sy) (kk : Nat) (D : Df) (hpos : 0 < P.defs.length) (hx : P.defs[kk]? = some D) (hk2 : x.k.tmod (P.defs.length : Nat) = (kk : Int))
    (cm : CallsA Tryz.prog 26 [.agg [byt x.b]] ct0 (encP P) ct0) (cs : CallsA Tryz.prog 29 [encP P, encN8 x.s] ct0 (lst 11 encSy S) ct0) :
    CallsA Tryz.prog 8 [encCase x] ct0 (.tup [encP P, it D.id, encSu (setupC x), lst 11 encSy S]) ct0 := by
  have hl := h.level
  have hlv := tm_bd hl.1 3 (by omega)
  have hka := h.k
  have hdl : (P.defs.map encD).length = P.defs.length := List.length_map ..
  have hk3 : x.k.tmod ((P.defs.map encD).length : Nat) = (kk : Int) := by rw [hdl]; exact hk2
  have hre : ∀ y ∈ x.r, CallsA Tryz.prog 27 [encRw y] ct0 (encRu (madeR y)) ct0 := fun y hy => madeR_ok y (h.r y hy)
  have hfin : ∀ k, k ≤ x.r.length → k ≤ 5 → (¬ k < x.r.length ∨ k = 5) → CallsA Tryz.prog 28 [.sl 10 (((x.r.take k).map madeR).map encRu) false] ct0 (lst 10 encRu (rulesC x)) ct0 := fun k h1 h2 h3 => by
    have e : x.r.take k = x.r.take 5 := by
      rcases h3 with h3 | h3
      · rw [List.take_of_length_le (by omega), List.take_of_length_le (by omega)]
      · rw [h3]
    rw [e]
    exact ordered_ok ((x.r.take 5).map madeR) (by rw [List.length_map, List.length_take]; omega)
  have hR : ∃ R, R = rulesC x := ⟨_, rfl⟩
  refine hR.elim fun R hR => ?_
  have hsu : encSu (setupC x) = .agg [it (x.level.tmod 3), lst 10 encRu R] := by rw [hR]; rfl
  rw [hsu]
  rw [← hR] at hfin
  refine fn_ok hm Tryz.func8 (fun _ => false) [] (fun _ => []) (by kernel_rfl) ?_
  refine run ?_; repeat ((apply call_ok; first | exact (cm)); refine run ?_)
  refine LoopS.mk ⟨[.cell 7 1 20004], HeadS.lp (fun r : CR => (r.k ≤ x.r.length ∧ r.k ≤ 5) ∧ r.acc = ((x.r.take r.k).map madeR).map encRu) (fun r => ⟨[(8, it r.k)], [(7, .agg [it (x.level.tmod 3), .ref 20004 r.acc.length])], [(20004, ⟨10, true, r.acc⟩)]⟩) (fun r => 6 - r.k) ⟨0, []⟩ ⟨⟨Nat.zero_le _, Nat.zero_le _⟩, rfl⟩ ?_⟩
  intro r hJ
  have h1 := hJ.1.1
  have h5 := hJ.1.2
  have h2 := hJ.2
  have hal : r.acc.length ≤ 5 := by rw [h2, List.length_map, List.length_map, List.length_take]; omega
  have hf := hfin r.k h1 h5
  rw [← h2] at hf
  by_cases hk' : r.k < x.r.length
  · have b1 : decide ((r.k : Int) < ((x.r.map encRw).length : Nat)) = true := decide_eq_true (by rw [List.length_map]; omega)
    by_cases h6 : r.k < 5
    · have b2 : decide ((r.k : Int) < 5) = true := decide_eq_true (by omega)
      have c := hre _ (List.getElem_mem hk')
      have hN : r.acc ++ [encRu (madeR x.r[r.k])] = ((x.r.take (r.k + 1)).map madeR).map encRu := by rw [h2, map_take hk', List.map_append]; rfl
      refine run ?_
      refine Idx.map hk' rfl ?_
      refine run ?_; repeat ((apply call_ok; first | exact (c)); refine run ?_)
      refine ⟨⟨⟨r.k + 1, _⟩, ⟨⟨hk', h6⟩, hN⟩⟩, Nat.sub_lt_sub_left (show r.k < 6 by omega) (Nat.lt_succ_self _), ?_⟩
      repeat' (first | exact trivial | exact rfl | refine ⟨?_, ?_⟩ | refine ⟨?_, ?_, ?_⟩)
    · have b2 : decide ((r.k : Int) < 5) = false := decide_eq_false (by omega)
      have c := hf (.inr (by omega))
      refine run ?_; repeat ((apply call_ok; first | exact (c)); refine run ?_)
      refine Idx.mapG kk D hk3 hx rfl ?_
      refine run ?_; repeat ((apply call_ok; first | exact (cs)); refine run ?_)
      exact Done.mk rfl rfl
  · have b1 : decide ((r.k : Int) < ((x.r.map encRw).length : Nat)) = false := decide_eq_false (by rw [List.length_map]; omega)
    have c := hf (.inl hk')
    refine run ?_; repeat ((apply call_ok; first | exact (c)); refine run ?_)
    refine Idx.mapG kk D hk3 hx rfl ?_
    refine run ?_; repeat ((apply call_ok; first | exact (cs)); refine run ?_)
    exact Done.mk rfl rfl
theorem madeC_ok (x : Cse) (h : CseOk x) : CallsA Tryz.prog 8 [encCase x] ct0 (.tup [encP (madeP x.b), it (idC x), encSu (setupC x), lst 11 encSy (sumsP (madeP x.b) x.s)]) ct0 := by
  have hk := kC_lt h
  have hpg := madeP_ok x.b
  have hid : idC x = ((madeP x.b).defs[kC x]'hk.1).id := by unfold idC; rw [List.getD_eq_getElem?_getD, List.getElem?_eq_getElem hk.1]; rfl
  rw [hid]
  exact madeX x h (madeP x.b) _ (kC x) _ hpg.pos (List.getElem?_eq_getElem hk.1) hk.2 (Made_ok x.b) (summaries_ok (madeP x.b) hpg x.s h.s)
end Abs
namespace Abs
open Go Go.Proofs
set_option maxRecDepth 100000
set_option maxHeartbeats 4000000
def sampleD (nm : List UInt8) : Df := ⟨1, 9, nm, 0, 0, [⟨0, 8, 0⟩], [], 1, 0, [], 9, [.mk 8 24 0 0 0 (.mk 4 0 0 [.mk 2 0 0 [], .mk 1 0 1 []]) (.mk 0 0 0 []) (.mk 0 [] []) [] [] [] []]⟩
def sampleP (nm : List UInt8) : Pg := wHeads ⟨declD, [], [sampleD nm], []⟩
theorem sample_ok (nm : List UInt8) : CallsA Tryz.prog 25 [.str nm] ct0 (encP (sampleP nm)) ct0 := by
  have c1 := num_ok 1
  have c2 := var_ok 0
  have c3 := bin_ok 4 (eVar 0) (eNum 1)
  have c4 := declared_ok
  have c5 := withHeads_ok ⟨declD, [], [sampleD nm], []⟩ (by simp)
  refine fn_ok hm Tryz.func25 (fun _ => false) [] (fun _ => []) (by kernel_rfl) ?_
  refine run ?_; repeat ((apply call_ok; first | exact (c1) | exact (c2) | exact (c3) | exact (c4) | exact (c5)); refine run ?_)
  exact Done.mk rfl rfl
def ru1 : Ru := ⟨1, 1, 0, 5, 0, 0, 0, 0, 0, 0⟩
def ru2 : Ru := ⟨2, 1, 0, 4, 0, 0, 0, 0, 0, 0⟩
def smB : List UInt8 := (wD (nmD (sampleD [102]))).flatMap wB
def smL : List Int := declW (sampleP [102]) []
def smN (b : List UInt8) (d : List Int) : Ne := ⟨1, b, d, [], [ru2], 0⟩
def smM (b : List UInt8) (d : List Int) : Ne := ⟨1, b, d, [], [], 1⟩
theorem nd1 : needOf (sampleP [102]) ⟨0, [ru1, ru2]⟩ 1 [] = (smN smB smL, 0) := by kernel_rfl
theorem nd2 : needOf (sampleP [103]) ⟨0, [ru2]⟩ 1 [] = (smN smB smL, 0) := by kernel_rfl
theorem nd3 : needOf (sampleP [102]) ⟨1, []⟩ 1 [] = (smM smB smL, 0) := by kernel_rfl
theorem nd4 : needOf (sampleP [102]) ⟨0, []⟩ 2 [] = (zNe, 4) := by kernel_rfl
theorem smOps (nm : List UInt8) : dops (sampleD nm).body = [4] := by kernel_rfl
theorem smOk (nm : List UInt8) (h : nm.length ≤ 9) : PgOk 0 (sampleP nm) → True := fun _ => trivial
theorem smFits (nm : List UInt8) (h : nm.length ≤ 100) : Fits (sampleP nm) := by
  have e1 : (wD (nmD (sampleD nm))).length = (wD (nmD (sampleD []))).length := rfl
  have e2 : Nat.blt (wD (nmD (sampleD []))).length (2^30) = true := by kernel_rfl
  have e3 : Nat.blt (declW (sampleP []) (rcalls (sampleD []).body)).length (2^30) = true := by kernel_rfl
  refine ⟨rfl, by simp [sampleP, wHeads], by simp [sampleP, wHeads], ?_, ?_⟩
  · intro d hd
    have : d = sampleD nm := List.mem_singleton.1 hd
    subst this
    rw [e1]; simpa [Nat.blt_eq] using e2
  · intro d hd
    have : d = sampleD nm := List.mem_singleton.1 hd
    subst this
    show (declW (sampleP []) (rcalls (sampleD []).body)).length < 2^30
    simpa [Nat.blt_eq] using e3
theorem smNe (b : List UInt8) (d : List Int) : (smN b d == smM b d) = false := by
  rw [beq_eq_false_iff_ne]
  intro h
  have := congrArg Ne.level h
  simp [smN, smM] at this
theorem addI_nil (n : Int) : addI [] n = [n] := by simp [addI]
def hint7 : Nat → List Ad
  | 3 => [.lay 3]
  | _ => []
theorem exX (b : List UInt8) (d : List Int) (hok : NeOk (smN b d)) (hom : NeOk (smM b d))
    (c1 : CallsA Tryz.prog 10 [encP (sampleP [102]), encSu ⟨0, [ru1, ru2]⟩, it 1, lst 11 encSy []] ct0 (.agg (cN (smN b d) ++ [it 0])) ct0)
    (c2 : CallsA Tryz.prog 10 [encP (sampleP [103]), encSu ⟨0, [ru2]⟩, it 1, lst 11 encSy []] ct0 (.agg (cN (smN b d) ++ [it 0])) ct0)
    (c3 : CallsA Tryz.prog 10 [encP (sampleP [102]), encSu ⟨1, []⟩, it 1, lst 11 encSy []] ct0 (.agg (cN (smM b d) ++ [it 0])) ct0)
    (c4 : CallsA Tryz.prog 10 [encP (sampleP [102]), encSu ⟨0, []⟩, it 2, lst 11 encSy []] ct0 (.agg (cN zNe ++ [it 4])) ct0)
    (c5 : CallsA Tryz.prog 14 [encD (sampleD [102])] ct0 (ints [4]) ct0) : CallsA Tryz.prog 7 [] ct0 (bo true) ct0 := by
  have hne := smNe b d
  have s1 : CallsA Tryz.prog 25 [.str [102]] ct0 (encP (sampleP [102])) ct0 := sample_ok [102]
  have s2 : CallsA Tryz.prog 25 [.str [103]] ct0 (encP (sampleP [103])) ct0 := sample_ok [103]
  have d1 : CallsA Tryz.prog 16 [encN (smN b d), encN (smN b d)] ct0 (bo true) ct0 := by
    have := depSame_ok (smN b d) (smN b d) hok
    rwa [beq_self_eq_true] at this
  have d2 : CallsA Tryz.prog 16 [encN (smN b d), encN (smM b d)] ct0 (bo false) ct0 := by
    have := depSame_ok (smN b d) (smM b d) hok
    rwa [hne] at this
  have n1 : newN [smN b d] (smN b d) = false := by simp [newN]
  have n2 : newN [smN b d] (smM b d) = true := by simp [newN, hne]
  have r1 : CallsA Tryz.prog 18 [lst 6 encN [smN b d], lst 6 encN [smN b d, smM b d]] ct0 (ints [1]) ct0 := by
    have := dReopens_ok [smN b d] [smN b d, smM b d] (fun x hx => by rw [List.mem_singleton.1 hx]; exact hok) (by simp) (by simp)
    rw [reop_eq] at this
    have e : rreop [smN b d] [smN b d, smM b d] = [1] := by
      simp only [rreop, List.foldl_cons, List.foldl_nil, rpS, n1, n2, Bool.false_eq_true, if_false, if_true]
      exact addI_nil 1
    rwa [e] at this
  have r2 : CallsA Tryz.prog 18 [lst 6 encN [smN b d], lst 6 encN [smN b d]] ct0 (ints []) ct0 := by
    have := dReopens_ok [smN b d] [smN b d] (fun x hx => by rw [List.mem_singleton.1 hx]; exact hok) (by simp) (by simp)
    rw [reop_eq] at this
    have e : rreop [smN b d] [smN b d] = [] := by
      simp only [rreop, List.foldl_cons, List.foldl_nil, rpS, n1, Bool.false_eq_true, if_false]
    rwa [e] at this
  have i1 : CallsA Tryz.prog 13 [ints [4], ints [4]] ct0 (bo true) ct0 := sameInts_ok [4] [4] (by simp)
  have i2 : CallsA Tryz.prog 13 [ints [1], ints [1]] ct0 (bo true) ct0 := sameInts_ok [1] [1] (by simp)
  refine fn_ok hm Tryz.func7 (fun _ => false) [] hint7 (by kernel_rfl) ?_
  refine run ?_; repeat ((apply call_ok; first | exact (s1) | exact (s2) | exact (c1) | exact (c2) | exact (c3) | exact (c4) | exact (c5)); refine run ?_)
  refine Idx.at rfl (by decide) rfl ?_
  refine run ?_; repeat ((apply call_ok; first | exact (c5) | exact (i1)); refine run ?_)
  refine Idx.at rfl (by decide) rfl ?_
  refine run ?_; repeat ((apply call_ok; first | exact (c4) | exact (d1) | exact (d2) | exact (r1) | exact (r2) | exact (i1) | exact (i2)); refine run ?_)
  exact Done.mk rfl rfl
theorem examples_ok : CallsA Tryz.prog 7 [] ct0 (bo true) ct0 := by
  have h1 := need_ok (sampleP [102]) ⟨0, [ru1, ru2]⟩ 1 [] (smFits [102] (by simp)) (by simp) (by simp)
  have h2 := need_ok (sampleP [103]) ⟨0, [ru2]⟩ 1 [] (smFits [103] (by simp)) (by simp) (by simp)
  have h3 := need_ok (sampleP [102]) ⟨1, []⟩ 1 [] (smFits [102] (by simp)) (by simp) (by simp)
  have h4 := need_ok (sampleP [102]) ⟨0, []⟩ 2 [] (smFits [102] (by simp)) (by simp) (by simp)
  have k1 := needOf_ok (p := sampleP [102]) (s := ⟨0, [ru1, ru2]⟩) (sums := []) 1 (smFits [102] (by simp)) (by simp) (by simp)
  have k3 := needOf_ok (p := sampleP [102]) (s := ⟨1, []⟩) (sums := []) 1 (smFits [102] (by simp)) (by simp) (by simp)
  rw [nd1] at h1 k1
  rw [nd2] at h2
  rw [nd3] at h3 k3
  rw [nd4] at h4
  have h5 : CallsA Tryz.prog 14 [encD (sampleD [102])] ct0 (ints [4]) ct0 := by
    have := dOps_ok (sampleD [102]) ((smFits [102] (by simp)).words (sampleD [102]) (List.mem_singleton.2 rfl))
    rwa [smOps] at this
  exact exX smB smL k1 k3 h1 h2 h3 h4 h5
end Abs
namespace Abs
open Go Go.Proofs
set_option maxRecDepth 100000
set_option maxHeartbeats 4000000
def neD (nP : Int → Ne × Int) (d : Df) : Dat := encN (nP d.id).1
theorem take_map1 {α β : Type} {f : α → β} {l : List α} {k : Nat} (h : k < l.length) : (l.take (k+1)).map f = (l.take k).map f ++ [f l[k]] := map_take h
theorem f3X (x : Cse) (ch : List Ch) (id k : Int) (P Q : Pg) (S : Su) (sums : List Sy) (nP nQ : Int → Ne × Int) (N3 : Ne) (e3 : Int)
    (hP : P.defs.length < 2^20) (hQ : Q.defs.length < 2^20) (okP : ∀ i, NeOk (nP i).1) (okQ : ∀ i, NeOk (nQ i).1) (ok3 : NeOk N3)
    (hw : ∀ d ∈ Q.defs, (wD d).length < 2^30)
    (c8 : CallsA Tryz.prog 8 [encCase x] ct0 (.tup [encP P, it k, encSu S, lst 11 encSy sums]) ct0)
    (c9 : CallsA Tryz.prog 9 [encP P, lst 3 encCh ch] ct0 (encP Q) ct0)
    (a1 : ∀ i, CallsA Tryz.prog 10 [encP P, encSu S, it i, lst 11 encSy sums] ct0 (.agg (cN (nP i).1 ++ [it (nP i).2])) ct0)
    (a2 : CallsA Tryz.prog 10 [encP Q, encSu S, it k, lst 11 encSy sums] ct0 (.agg (cN (nQ k).1 ++ [it (nQ k).2])) ct0)
    (a3 : CallsA Tryz.prog 10 [encP P, encSu S, it k, lst 11 encSy []] ct0 (.agg (cN N3 ++ [it e3])) ct0)
    (b1 : ∀ i, CallsA Tryz.prog 12 [encP P, encSu S, it i, lst 11 encSy sums] ct0 (.agg (cN (nP i).1 ++ [it (nP i).2])) ct0)
    (b2 : ∀ i, CallsA Tryz.prog 12 [encP Q, encSu S, it i, lst 11 encSy sums] ct0 (.agg (cN (nQ i).1 ++ [it (nQ i).2])) ct0)
    (b3 : CallsA Tryz.prog 12 [encP P, encSu S, it k, lst 11 encSy []] ct0 (.agg (cN N3 ++ [it e3])) ct0) :
    CallsA Tryz.prog 3 [encCase x, lst 3 encCh ch, it id] ct0 (bo true) ct0 := by
  have c7 := examples_ok
  have same : ∀ (n : Ne) (e : Int), NeOk n → CallsA Tryz.prog 11 [.agg (cN n ++ [it e]), .agg (cN n ++ [it e])] ct0 (bo true) ct0 := fun n e h => by
    have := same_ok n n e e h h
    rwa [beq_self_eq_true, beq_self_eq_true] at this
  have s1 := fun i => same (nP i).1 (nP i).2 (okP i)
  have s2 := same (nQ k).1 (nQ k).2 (okQ k)
  have s3 := same N3 e3 ok3
  have e1 : ∃ N1, N1 = (nP k).1 := ⟨_, rfl⟩
  have u1 := depSame_ok (nP k).1 (nQ k).1 (okP k)
  have u2 := refSame_ok (nP k).1 (nQ k).1 (okP k) (okQ k)
  have u3 := depSame_ok (nP k).1 N3 (okP k)
  have u4 := refSame_ok (nP k).1 N3 (okP k) ok3
  have q1 : (((nP k).1 == (nQ k).1) == ((nP k).1 == (nQ k).1)) = true := beq_self_eq_true _
  have q2 : (((nP k).1 == N3) == ((nP k).1 == N3)) = true := beq_self_eq_true _
  have r1 := dReopens_ok (P.defs.map fun d => (nP d.id).1) (Q.defs.map fun d => (nQ d.id).1) (fun y hy => by obtain ⟨d, _, rfl⟩ := List.mem_map.1 hy; exact okP _) (by rw [List.length_map]; omega) (by rw [List.length_map]; omega)
  have r2 := refReopens_ok (P.defs.map fun d => (nP d.id).1) (Q.defs.map fun d => (nQ d.id).1) (fun y hy => by obtain ⟨d, _, rfl⟩ := List.mem_map.1 hy; exact okP _) (fun y hy => by obtain ⟨d, _, rfl⟩ := List.mem_map.1 hy; exact okQ _) (by rw [List.length_map]; omega) (by rw [List.length_map]; omega)
  rw [reop_eq] at r1
  have hrl : (rreop (P.defs.map fun d => (nP d.id).1) (Q.defs.map fun d => (nQ d.id).1)).length < 2^62 := by
    have := rp_len (P.defs.map fun d => (nP d.id).1) (Q.defs.map fun d => (nQ d.id).1) []
    have e : (rreop (P.defs.map fun d => (nP d.id).1) (Q.defs.map fun d => (nQ d.id).1)).length ≤ 0 + (Q.defs.map fun d => (nQ d.id).1).length := this
    rw [List.length_map] at e; omega
  have r3 := sameInts_ok _ (rreop (P.defs.map fun d => (nP d.id).1) (Q.defs.map fun d => (nQ d.id).1)) hrl
  rw [beq_self_eq_true] at r3
  have m1 : ∀ l : List Df, ∀ n : Int → Ne × Int, (l.map fun d => (n d.id).1).map encN = l.map (neD n) := fun l n => by rw [List.map_map]; rfl
  unfold lst at r1 r2
  rw [m1, m1] at r1 r2
  have hR : ∃ R, R = rreop (P.defs.map fun d => (nP d.id).1) (Q.defs.map fun d => (nQ d.id).1) := ⟨_, rfl⟩
  refine hR.elim fun R hR => ?_
  rw [← hR] at r1 r2 r3
  refine fn_ok hm Tryz.func3 (fun _ => false) [] (fun _ => []) (by kernel_rfl) ?_
  refine run ?_; repeat ((apply call_ok; first | exact (c7) | exact (c8) | exact (c9) | exact (a1 _) | exact (a2) | exact (a3) | exact (b1 _) | exact (b2 _) | exact (b3) | exact (s1 _) | exact (s2) | exact (s3)); refine run ?_)
  refine LoopS.mk ⟨[], HeadS.lp (fun r : CR => r.k ≤ P.defs.length ∧ r.acc = (P.defs.take r.k).map (neD nP)) (fun r => ⟨[(18, it r.k), (16, .ref 88 r.acc.length)], [], [(88, ⟨6, true, r.acc⟩)]⟩) (fun r => P.defs.length - r.k) ⟨0, []⟩ ⟨Nat.zero_le _, rfl⟩ ?_⟩
  intro r hJ
  have h1 := hJ.1
  have h2 := hJ.2
  have hal : r.acc.length = r.k := by rw [h2, List.length_map, List.length_take]; omega
  by_cases hk : r.k < P.defs.length
  · have d1 : decide ((r.k : Int) < ((P.defs.map encD).length : Nat)) = true := decide_eq_true (by rw [List.length_map]; omega)
    have hN : r.acc ++ [neD nP P.defs[r.k]] = (P.defs.take (r.k + 1)).map (neD nP) := by rw [h2, map_take hk]
    refine run ?_
    refine Idx.map hk rfl ?_
    refine run ?_; repeat ((apply call_ok; first | exact (b1 _)); refine run ?_)
    refine ⟨⟨⟨r.k + 1, _⟩, ⟨hk, hN⟩⟩, Nat.sub_lt_sub_left hk (Nat.lt_succ_self _), ?_⟩
    repeat' (first | exact trivial | exact rfl | refine ⟨?_, ?_⟩ | refine ⟨?_, ?_, ?_⟩)
  have d1 : decide ((r.k : Int) < ((P.defs.map encD).length : Nat)) = false := decide_eq_false (by rw [List.length_map]; omega)
  have hA : r.acc = P.defs.map (neD nP) := by rw [h2, List.take_of_length_le (by omega)]
  rw [← hA] at r1 r2
  refine run ?_
  refine LoopS.mk ⟨[], HeadS.lp (fun q : CR => q.k ≤ Q.defs.length ∧ q.acc = (Q.defs.take q.k).map (neD nQ)) (fun q => ⟨[(19, it q.k), (17, .ref 89 q.acc.length)], [], [(89, ⟨6, true, q.acc⟩)]⟩) (fun q => Q.defs.length - q.k) ⟨0, []⟩ ⟨Nat.zero_le _, rfl⟩ ?_⟩
  intro q hq
  have g1 := hq.1
  have g2 := hq.2
  have gal : q.acc.length = q.k := by rw [g2, List.length_map, List.length_take]; omega
  by_cases gk : q.k < Q.defs.length
  · have f1 : decide ((q.k : Int) < ((Q.defs.map encD).length : Nat)) = true := decide_eq_true (by rw [List.length_map]; omega)
    have hN : q.acc ++ [neD nQ Q.defs[q.k]] = (Q.defs.take (q.k + 1)).map (neD nQ) := by rw [g2, map_take gk]
    have hwd := hw _ (List.getElem_mem gk)
    have o1 := dOps_ok Q.defs[q.k] hwd
    have o2 := refOpsAll_ok Q.defs[q.k] hwd
    rw [ops_eq] at o1
    have o3 : CallsA Tryz.prog 13 [ints (rops Q.defs[q.k].body), ints (rops Q.defs[q.k].body)] ct0 (bo true) ct0 := by
      have hl : (rops Q.defs[q.k].body).length < 2^62 := by
        have h1 := rop_len (fL Q.defs[q.k].body) []
        have h2 := opW_L Q.defs[q.k].body
        have h3 := wD_len Q.defs[q.k]
        have h4 := wl_len wS Q.defs[q.k].body
        have h5 : (rops Q.defs[q.k].body).length ≤ 0 + opWs (fL Q.defs[q.k].body) := h1
        omega
      have := sameInts_ok (rops Q.defs[q.k].body) (rops Q.defs[q.k].body) hl
      rwa [beq_self_eq_true] at this
    refine run ?_
    refine Idx.map gk rfl ?_
    refine run ?_; repeat ((apply call_ok; first | exact (b2 _)); refine run ?_)
    refine Idx.map gk rfl ?_
    refine run ?_; repeat ((apply call_ok; first | exact (o1)); refine run ?_)
    refine Idx.map gk rfl ?_
    refine run ?_; repeat ((apply call_ok; first | exact (o1) | exact (o2) | exact (o3)); refine run ?_)
    refine ⟨⟨⟨q.k + 1, _⟩, ⟨gk, hN⟩⟩, Nat.sub_lt_sub_left gk (Nat.lt_succ_self _), ?_⟩
    repeat' (first | exact trivial | exact rfl | refine ⟨?_, ?_⟩ | refine ⟨?_, ?_, ?_⟩)
  have f1 : decide ((q.k : Int) < ((Q.defs.map encD).length : Nat)) = false := decide_eq_false (by rw [List.length_map]; omega)
  have hB : q.acc = Q.defs.map (neD nQ) := by rw [g2, List.take_of_length_le (by omega)]
  rw [← hB] at r1 r2
  refine run ?_; repeat ((apply call_ok; first | exact (u1) | exact (u2) | exact (u3) | exact (u4) | exact (r1) | exact (r2) | exact (r3)); refine run ?_)
  exact Done.mk rfl rfl
end Abs
namespace Abs
open Go Go.RowKit
inductive Sh where
  | bool
  | int (k : IntKind)
  | str
  | sl (e : Sh)
  | st (fs : List Sh)
  | arr (n : Nat) (e : Sh)
mutual
def shSz : Sh → Nat
  | .bool => 1
  | .int _ => 1
  | .str => 1
  | .sl _ => 1
  | .st fs => shSzs fs
  | .arr n e => n * shSz e
def shSzs : List Sh → Nat
  | [] => 0
  | s :: l => shSz s + shSzs l
end
def isAg : Sh → Bool
  | .st _ => true
  | .arr _ _ => true
  | _ => false
def mkD (s : Sh) (c : List Dat) : Dat := if isAg s then .agg c else c.headD .any
def TyN (T : List Dat → Prop) : Nat → List Dat → Prop
  | 0, l => l = []
  | n + 1, l => ∃ a b, l = a ++ b ∧ T a ∧ TyN T n b
mutual
def Ty : Sh → List Dat → Prop
  | .bool, l => ∃ b, l = [.bool b]
  | .int k, l => ∃ n, l = [.int k n] ∧ (Lit.int k n).wf = true
  | .str, l => ∃ s : List UInt8, l = [.str s] ∧ s.length ≤ maxLen
  | .sl e, l => ∃ es, l = [.sl (shSz e) es false] ∧ es.length ≤ maxLen ∧ ∀ x ∈ es, ∃ c, x = mkD e c ∧ Ty e c
  | .st fs, l => TyAll fs l
  | .arr n e, l => TyN (Ty e) n l
def TyAll : List Sh → List Dat → Prop
  | [], l => l = []
  | s :: fs, l => ∃ a b, l = a ++ b ∧ Ty s a ∧ TyAll fs b
end
theorem TyN.len {T : List Dat → Prop} {k : Nat} (h : ∀ l, T l → l.length = k) : ∀ (n : Nat) (l : List Dat), TyN T n l → l.length = n * k
  | 0, l, e => by rw [TyN] at e; subst e; simp
  | n + 1, l, e => by
    rw [TyN] at e
    obtain ⟨a, b, rfl, ha, hb⟩ := e
    rw [List.length_append, h a ha, TyN.len h n b hb, Nat.succ_mul]; omega
mutual
theorem Ty.len : ∀ (s : Sh) (l : List Dat), Ty s l → l.length = shSz s
  | .bool, l, h => by rw [Ty] at h; obtain ⟨b, rfl⟩ := h; simp [shSz]
  | .int k, l, h => by rw [Ty] at h; obtain ⟨b, rfl, _⟩ := h; simp [shSz]
  | .str, l, h => by rw [Ty] at h; obtain ⟨b, rfl, _⟩ := h; simp [shSz]
  | .sl e, l, h => by rw [Ty] at h; obtain ⟨b, rfl, _⟩ := h; simp [shSz]
  | .st fs, l, h => by rw [Ty] at h; rw [shSz]; exact TyAll.len fs l h
  | .arr n e, l, h => by rw [Ty] at h; rw [shSz]; exact TyN.len (Ty.len e) n l h
theorem TyAll.len : ∀ (fs : List Sh) (l : List Dat), TyAll fs l → l.length = shSzs fs
  | [], l, h => by rw [TyAll] at h; subst h; simp [shSzs]
  | s :: fs, l, h => by
    rw [TyAll] at h
    obtain ⟨a, b, rfl, ha, hb⟩ := h
    rw [List.length_append, Ty.len s a ha, TyAll.len fs b hb, shSzs]
end
theorem Ty.cells {s : Sh} {c : List Dat} (h : Ty s c) : Abs.cells (mkD s c) = c := by
  cases s <;> rw [Ty] at h
  · obtain ⟨b, rfl⟩ := h; rfl
  · obtain ⟨b, rfl, _⟩ := h; rfl
  · obtain ⟨b, rfl, _⟩ := h; rfl
  · obtain ⟨b, rfl, _⟩ := h; rfl
  · rfl
  · rfl
def fldB (P : Program) (F : TypeId → Sh → Bool) : Nat → List Field → List Sh → Bool
  | _, [], [] => true
  | off, g :: gs, s :: fs => Nat.beq g.offset off && (Nat.beq (P.cellsOf g.type) (shSz s) && (F g.type s && fldB P F (off + shSz s) gs fs))
  | _, _, _ => false
def shB (P : Program) : Nat → TypeId → Sh → Bool
  | 0, _, _ => false
  | n + 1, t, s => Nat.beq (P.cellsOf t) (shSz s) && match P.underlying t, s with
    | some .bool, .bool => true
    | some (.int k), .int k' => decide (k = k')
    | some .string, .str => true
    | some (.slice e), .sl u => Nat.blt 0 (shSz u) && (Nat.beq (P.cellsOf e) (shSz u) && shB P n e u)
    | some (.struct gs), .st fs => fldB P (shB P n) 0 gs.toList fs
    | some (.array m e), .arr m' u => Nat.beq m m' && (Nat.beq (P.cellsOf e) (shSz u) && shB P n e u)
    | _, _ => false
def Iw (W : World) (b o : Nat) : Option Value := match W.cell? ⟨b, o, none⟩ with
  | some v => if leaf v then some v else none
  | none => none
theorem Iw_some {W : World} {b o : Nat} {v : Value} (h : W.cell? ⟨b, o, none⟩ = some v) (hl : leaf v = true) : Iw W b o = some v := by
  unfold Iw; rw [h]; simp [hl]
theorem Iw_of {W : World} {b o : Nat} {v : Value} (h : Iw W b o = some v) : W.cell? ⟨b, o, none⟩ = some v ∧ leaf v = true := by
  unfold Iw at h
  split at h
  · split at h
    · cases h; exact ⟨by assumption, by assumption⟩
    · cases h
  · cases h
def Reads (I : Nat → Nat → Option Value) (cs : List Value) (l : List Dat) : Prop :=
  l.length = cs.length ∧ ∀ (i : Nat) v x, cs[i]? = some v → nth l i = some x → RepI I v x ∧ leaf v = true
theorem Reads.nil {I : Nat → Nat → Option Value} : Reads I [] [] := ⟨rfl, fun i v x h => by simp at h⟩
theorem Reads.one {I : Nat → Nat → Option Value} {v : Value} {d : Dat} (r : RepI I v d) (h : leaf v = true) : Reads I [v] [d] := by
  refine ⟨rfl, fun i u x hu hx => ?_⟩
  cases i with
  | zero => simp at hu; simp [nth] at hx; subst hu hx; exact ⟨r, h⟩
  | succ i => simp at hu
theorem Reads.append {I : Nat → Nat → Option Value} {a b : List Value} {l m : List Dat} (h : Reads I a l) (k : Reads I b m) : Reads I (a ++ b) (l ++ m) := by
  refine ⟨by rw [List.length_append, List.length_append, h.1, k.1], fun i v x hv hx => ?_⟩
  rw [nth_eq] at hx
  rcases Nat.lt_or_ge i a.length with hi | hi
  · rw [List.getElem?_append_left hi] at hv
    rw [List.getElem?_append_left (by rw [h.1]; exact hi)] at hx
    exact h.2 i v x hv (by rw [nth_eq]; exact hx)
  · rw [List.getElem?_append_right hi] at hv
    rw [List.getElem?_append_right (by rw [h.1]; exact hi), h.1] at hx
    exact k.2 _ v x hv (by rw [nth_eq]; exact hx)
section
variable {H : Type} {enc : TypeId × Value → H} {P : Program} {W : World} {sp : Nat → Bool} {held : Bool}
theorem flds_ty {F : TypeId → Sh → Bool} {m : Nat} {cs : List Value} (IH : ∀ t s cs x, F t s = true → DataW.trod enc P W 0 sp held m t cs = some x → ∃ l, Reads (Iw W) cs l ∧ Ty s l) :
    ∀ (gs : List Field) (fs : List Sh) (off : Nat), fldB P F off gs fs = true → cs.length = off + shSzs fs →
      (∀ f ∈ gs, ∃ x, DataW.trod enc P W 0 sp held m f.type ((cs.drop f.offset).take (P.cellsOf f.type)) = some x) → ∃ l, Reads (Iw W) (cs.drop off) l ∧ TyAll fs l
  | [], fs, off, hb, hl, hx => by
    cases fs with
    | cons s fs => simp [fldB] at hb
    | nil =>
      refine ⟨[], ?_, by rw [TyAll]⟩
      rw [List.drop_eq_nil_of_le (by rw [hl]; simp [shSzs])]
      exact Reads.nil
  | g :: gs, fs, off, hb, hl, hx => by
    cases fs with
    | nil => simp [fldB] at hb
    | cons s fs =>
      simp only [fldB, Bool.and_eq_true] at hb
      obtain ⟨h1, h2, h3, h4⟩ := hb
      have e1 : g.offset = off := Nat.eq_of_beq_eq_true h1
      have e2 : P.cellsOf g.type = shSz s := Nat.eq_of_beq_eq_true h2
      rw [shSzs] at hl
      obtain ⟨x, hx1⟩ := hx g (by simp)
      rw [e1, e2] at hx1
      obtain ⟨l, hr, ht⟩ := IH _ _ _ _ h3 hx1
      obtain ⟨l', hr', ht'⟩ := flds_ty IH gs fs (off + shSz s) h4 (by omega) (fun f hf => hx f (by simp [hf]))
      refine ⟨l ++ l', ?_, by rw [TyAll]; exact ⟨l, l', rfl, ht, ht'⟩⟩
      have e : cs.drop off = (cs.drop off).take (shSz s) ++ cs.drop (off + shSz s) := by
        rw [← List.drop_drop, List.take_append_drop]
      rw [e]
      exact hr.append hr'
theorem arr_ty {m e k : Nat} {u : Sh} {cs : List Value} (IH : ∀ cs x, DataW.trod enc P W 0 sp held m e cs = some x → ∃ l, Reads (Iw W) cs l ∧ Ty u l) (n : Nat)
    (hl : cs.length = n * k) (hx : ∀ i, i < n → ∃ x, DataW.trod enc P W 0 sp held m e ((cs.drop (i * k)).take k) = some x) :
    ∀ (r i : Nat), i + r = n → ∃ l, Reads (Iw W) (cs.drop (i * k)) l ∧ TyN (Ty u) r l
  | 0, i, hi => by
    refine ⟨[], ?_, by rw [TyN]⟩
    rw [List.drop_eq_nil_of_le (by rw [hl, ← hi]; simp)]
    exact Reads.nil
  | r + 1, i, hi => by
    obtain ⟨x, hx1⟩ := hx i (by omega)
    obtain ⟨l, hr, ht⟩ := IH _ _ hx1
    obtain ⟨l', hr', ht'⟩ := arr_ty IH n hl hx r (i + 1) (by omega)
    refine ⟨l ++ l', ?_, by rw [TyN]; exact ⟨l, l', rfl, ht, ht'⟩⟩
    have e : cs.drop (i * k) = (cs.drop (i * k)).take k ++ cs.drop ((i + 1) * k) := by
      rw [Nat.succ_mul, ← List.drop_drop, List.take_append_drop]
    rw [e]
    exact hr.append hr'
theorem cells_get {a : Addr} {n : Nat} {cs : List Value} (h : W.cells? 0 a n = some cs) : cs.length = n ∧ ∀ i, i < n → W.cell? (a.add i) = cs[i]? := by
  unfold World.cells? at h
  rw [if_pos (Nat.zero_le _)] at h
  exact ⟨by simpa using mapM_some_length h, fun i hi => mapM_some_get h i i (by simp [hi])⟩
theorem add_plain (b o n : Nat) : Addr.add ⟨b, o, none⟩ n = ⟨b, o + n, none⟩ := by
  unfold Addr.add; split <;> simp_all
theorem trod_ty : ∀ (n fuel : Nat) (t : TypeId) (s : Sh) (cs : List Value) (x : DataW H × List MemPlace), shB P n t s = true → DataW.trod enc P W 0 sp held fuel t cs = some x →
    ∃ l, Reads (Iw W) cs l ∧ Ty s l := by
  intro n
  induction n with
  | zero => intro fuel t s cs x hb; simp [shB] at hb
  | succ n ih =>
    intro fuel t s cs x hb h
    simp only [shB, Bool.and_eq_true] at hb
    obtain ⟨hc0, hb⟩ := hb
    have hc := Nat.eq_of_beq_eq_true hc0
    clear hc0
    split at hb
    · rename_i ht
      obtain ⟨b, rfl, rfl⟩ := DataW.trod_bool ht h
      exact ⟨[.bool b], .one (.bool b) rfl, by rw [Ty]; exact ⟨b, rfl⟩⟩
    · rename_i k k' ht
      have e : k = k' := of_decide_eq_true hb
      subst e
      obtain ⟨b, rfl, rfl, hw⟩ := DataW.trod_int ht h
      exact ⟨[.int k b], .one (.int k b) rfl, by rw [Ty]; exact ⟨b, rfl, hw⟩⟩
    · rename_i ht
      obtain ⟨b, rfl, rfl, hw⟩ := DataW.trod_string ht h
      refine ⟨[.str b.data.toList], .one ?_ rfl, by rw [Ty]; exact ⟨_, rfl, hw⟩⟩
      exact .str b.data.toList
    · rename_i e u ht
      simp only [Bool.and_eq_true] at hb
      obtain ⟨h0, h1, h2⟩ := hb
      have h0 : 0 < shSz u := by simpa [Nat.blt_eq] using h0
      have h1 := Nat.eq_of_beq_eq_true h1
      rcases DataW.trod_slice ht h with ⟨rfl, _⟩ | ⟨a, len, cap, elems, rest, m, _, rfl, _, _, hlc, hcap, hlen, hel, _⟩
      · exact ⟨[.sl (shSz u) [] false], .one (.slnil _ _) rfl, by rw [Ty]; exact ⟨[], rfl, Nat.zero_le _, fun x hx => by simp at hx⟩⟩
      · have hall : ∀ i, i < len → ∃ c, (∃ vs, W.cells? 0 (a.add (i * shSz u)) (shSz u) = some vs ∧ Reads (Iw W) vs c) ∧ Ty u c := by
          intro i hi
          have hE := hel i hi
          rw [h1] at hE
          have hx : ∃ y, elems[i]? = some y := ⟨elems[i]'(by omega), List.getElem?_eq_getElem (by omega)⟩
          obtain ⟨y, hy⟩ := hx
          rw [hy] at hE
          obtain ⟨vs, hv, ht2⟩ := Option.bind_eq_some_iff.1 hE
          obtain ⟨c, hr, hty⟩ := ih m e u vs y h2 ht2
          exact ⟨c, ⟨vs, hv, hr⟩, hty⟩
        obtain ⟨C, hC⟩ : ∃ C : Nat → List Dat, ∀ i, i < len → (∃ vs, W.cells? 0 (a.add (i * shSz u)) (shSz u) = some vs ∧ Reads (Iw W) vs (C i)) ∧ Ty u (C i) := by
          refine ⟨fun i => if h : i < len then (hall i h).choose else [], fun i hi => ?_⟩
          simp only [hi, dif_pos]
          exact (hall i hi).choose_spec
        have hes : ∃ es, es = (List.range len).map fun i => mkD u (C i) := ⟨_, rfl⟩
        obtain ⟨es, hes⟩ := hes
        have hesl : es.length = len := by rw [hes]; simp
        have hty : ∀ x ∈ es, ∃ c, x = mkD u c ∧ Ty u c := by
          intro x hx
          rw [hes] at hx
          obtain ⟨i, hi, rfl⟩ := List.mem_map.1 hx
          exact ⟨C i, rfl, (hC i (List.mem_range.1 hi)).2⟩
        have hsz : ∀ x ∈ es, (Abs.cells x).length = shSz u := by
          intro x hx
          obtain ⟨c, rfl, hc⟩ := hty x hx
          rw [hc.cells, Ty.len u c hc]
        refine ⟨[.sl (shSz u) es false], .one ?_ rfl, by rw [Ty]; exact ⟨es, rfl, by omega, hty⟩⟩
        by_cases hz : len = 0
        · have : es = [] := List.eq_nil_of_length_eq_zero (by omega)
          rw [this, hz]
          exact .sl0 _ _ _
        have hsp : a.spot = none := by
          obtain ⟨⟨vs, hv, _⟩, _⟩ := hC 0 (by omega)
          obtain ⟨hl, hg⟩ := cells_get hv
          have := hg 0 h0
          rw [List.getElem?_eq_getElem (by omega)] at this
          unfold World.cell? at this
          split at this
          · split at this
            · cases this
            · next q => simpa [Addr.add] using q
          · cases this
        have hkey : ∀ j d, nth (es.flatMap Abs.cells) j = some d → ∃ v, W.cell? ⟨a.block, a.off + j, none⟩ = some v ∧ RepI (Iw W) v d ∧ leaf v = true := by
          intro j d hj
          have hjl : j < len * shSz u := by
            have := flat_length (sz := shSz u) hsz
            rw [nth_eq] at hj
            have := (List.getElem?_eq_some_iff.1 hj).1
            rw [hesl] at *; omega
          have hq : j / shSz u < len := Nat.div_lt_of_lt_mul (by rw [Nat.mul_comm]; exact hjl)
          have hr : j % shSz u < shSz u := Nat.mod_lt _ h0
          have hen : nth es (j / shSz u) = some (mkD u (C (j / shSz u))) := by
            rw [nth_eq, hes, List.getElem?_map, List.getElem?_range hq]; rfl
          have ej : j = j / shSz u * shSz u + j % shSz u := by rw [Nat.mul_comm]; exact (Nat.div_add_mod j (shSz u)).symm
          have hf := nth_flat es (shSz u) (j / shSz u) (j % shSz u) _ hsz hen hr
          rw [← ej, hj] at hf
          obtain ⟨⟨vs, hv, hrd⟩, hct⟩ := hC _ hq
          rw [hct.cells] at hf
          obtain ⟨hl, hg⟩ := cells_get hv
          have hcell := hg _ hr
          rw [List.getElem?_eq_getElem (by omega)] at hcell
          have := hrd.2 _ _ _ (List.getElem?_eq_getElem (by omega)) hf.symm
          refine ⟨_, ?_, this⟩
          rw [← hcell]
          congr 1
          obtain ⟨b0, o0, so0⟩ := a
          have hso : so0 = none := hsp
          subst hso
          rw [add_plain, add_plain]
          dsimp only
          congr 1
          omega
        obtain ⟨b, o, so⟩ := a
        have hsp' : so = none := hsp
        subst hsp'
        rw [← hesl]
        refine .sl b o cap (shSz u) es (fun j => ((W.cell? ⟨b, o + j, none⟩).getD (.bool false))) (by omega) hsz ?_ ?_
        · intro j d hj
          obtain ⟨v, hv, _, hlf⟩ := hkey j d hj
          dsimp only at hv ⊢
          rw [hv]
          exact Iw_some hv hlf
        · intro j d hj
          obtain ⟨v, hv, hr, hlf⟩ := hkey j d hj
          dsimp only at hv ⊢
          rw [hv]
          exact hr
    · rename_i gs fs ht
      obtain ⟨xs, m, _, _, hl, hxl, hf⟩ := DataW.trod_struct ht h
      have := flds_ty (F := shB P n) (m := m) (cs := cs) (fun t s cs x hb hx => ih m t s cs x hb hx) gs.toList fs 0 hb (by rw [hl, hc, shSz]; omega) (fun f hf' => by
        obtain ⟨i, hi, e⟩ := List.mem_iff_getElem.1 hf'
        have hi' : i < gs.size := by simpa using hi
        have := hf i f (by rw [Array.getElem?_eq_getElem hi']; simpa using e)
        rw [this]
        exact ⟨xs[i]'(by omega), List.getElem?_eq_getElem (by omega)⟩)
      obtain ⟨l, hr, hty⟩ := this
      exact ⟨l, by simpa using hr, by rw [Ty]; exact hty⟩
    · rename_i m e m' u ht
      simp only [Bool.and_eq_true] at hb
      obtain ⟨h0, h1, h2⟩ := hb
      have h0 := Nat.eq_of_beq_eq_true h0
      have h1 := Nat.eq_of_beq_eq_true h1
      subst h0
      obtain ⟨xs, k, _, _, hl, hxl, hf⟩ := DataW.trod_array ht h
      rw [h1] at hf
      obtain ⟨l, hr, hty⟩ := arr_ty (e := e) (m := k) (k := shSz u) (u := u) (cs := cs) (fun cs x hx => ih k e u cs x h2 hx) m (by rw [hl, hc, shSz]) (fun i hi => by
        rw [hf i hi]; exact ⟨xs[i]'(by omega), List.getElem?_eq_getElem (by omega)⟩) m 0 (by omega)
      exact ⟨l, by simpa using hr, by rw [Ty]; exact hty⟩
    · cases hb
end
end Abs
namespace Abs
open Go Go.RowKit Go.ChangeShapes
def TyEach : List Sh → List Dat → Prop
  | [], [] => True
  | s :: ss, d :: ds => (∃ l, d = mkD s l ∧ Ty s l) ∧ TyEach ss ds
  | _, _ => False
def shsB (P : Program) (n : Nat) : List TypeId → List Sh → Bool
  | [], [] => true
  | t :: ts, s :: ss => shB P n t s && shsB P n ts ss
  | _, _ => false
section
variable {H : Type} {enc : TypeId × Value → H} {P : Program} {W : World}
theorem leaf_of {t : TypeId} {r : Reach} {b0 : Nat} {v : Value} (hv : Value.okWide P W r b0 t v) (h : (match P.underlying t with | some (.struct _) => False | some (.array _ _) => False | some .bool => True | some (.int _) => True | some .string => True | some (.slice _) => True | _ => False)) : leaf v = true := by
  unfold Value.okWide at hv
  split at hv
  · rename_i e; rw [e] at h; exact h.elim
  · rename_i e; rw [e] at h; exact h.elim
  · cases v <;> first | rfl | (exfalso; revert hv h; unfold Cell.okWide Cell.ok; cases P.underlying t with
      | none => simp
      | some d => cases d <;> simp)
theorem arg_ty {n : Nat} {t : TypeId} {s : Sh} {sp : Nat → Bool} {held : Bool} {v : Value} {d : DataW H} {ps : List MemPlace} {r : Reach} {b0 : Nat} (hb : shB P n t s = true) (hv : Value.okWide P W r b0 t v)
    (h : DataW.Trod enc P W 0 sp held t v d ps) : ∃ l, Ty s l ∧ RepI (Iw W) v (mkD s l) := by
  obtain ⟨fuel, h⟩ := h
  obtain ⟨l, hr, hty⟩ := trod_ty n fuel t s _ _ hb h
  refine ⟨l, hty, ?_⟩
  cases n with
  | zero => simp [shB] at hb
  | succ n =>
    simp only [shB, Bool.and_eq_true] at hb
    obtain ⟨hc0, hb⟩ := hb
    clear hc0
    have one : leaf v = true → isAg s = false → RepI (Iw W) v (mkD s l) := by
      intro hlv hs
      have hc : v.cells = #[v] := by cases v <;> first | rfl | simp [leaf] at hlv
      rw [hc] at hr
      have hlen := hr.1
      match l, hlen with
      | [x], _ =>
        unfold mkD
        rw [hs]
        exact (hr.2 0 v x rfl rfl).1
    have two : ∀ cs, v = .agg cs → isAg s = true → RepI (Iw W) v (mkD s l) := by
      intro cs e hs
      subst e
      unfold mkD
      rw [hs]
      have hc : (Value.agg cs).cells = cs := rfl
      rw [hc] at hr
      refine .agg cs l (by rw [hr.1]; simp) (fun i u hu => ?_) (fun i u x hu hx => ?_)
      · have hi : i < l.length := by
          rw [hr.1]; simpa using (Array.getElem?_eq_some_iff.1 hu).1
        have : nth l i = some l[i] := by rw [nth_eq]; exact List.getElem?_eq_getElem hi
        exact (hr.2 i u _ (by simpa using hu) this).2
      · exact (hr.2 i u x (by simpa using hu) hx).1
    split at hb
    · rename_i ht; exact one (leaf_of hv (by rw [ht]; trivial)) rfl
    · rename_i ht; exact one (leaf_of hv (by rw [ht]; trivial)) rfl
    · rename_i ht; exact one (leaf_of hv (by rw [ht]; trivial)) rfl
    · rename_i ht; exact one (leaf_of hv (by rw [ht]; trivial)) rfl
    · rename_i ht
      unfold Value.okWide at hv
      rw [ht] at hv
      obtain ⟨cs, e, _⟩ := hv
      exact two cs e rfl
    · rename_i ht
      unfold Value.okWide at hv
      rw [ht] at hv
      obtain ⟨cs, e, _⟩ := hv
      exact two cs e rfl
    · cases hb
theorem args_ty {n : Nat} {sp : Nat → Bool} {held : Bool} {r : Reach} {b0 : Nat} : ∀ (ts : List TypeId) (ss : List Sh) (vs : List Value) (ds : List (DataW H)) (ps : List MemPlace), shsB P n ts ss = true →
    (∀ (j : Nat) t v, ts[j]? = some t → vs[j]? = some v → Value.okWide P W r b0 t v) → DataW.TrodAll enc P W 0 sp held ts vs ds ps →
    ∃ xs, TyEach ss xs ∧ xs.length = vs.length ∧ ∀ (i : Nat) v x, vs[i]? = some v → nth xs i = some x → RepI (Iw W) v x
  | [], ss, vs, ds, ps, hb, hv, h => by
    obtain ⟨rfl, rfl, rfl⟩ := trodAll_nil h
    cases ss with
    | cons s ss => simp [shsB] at hb
    | nil => exact ⟨[], trivial, rfl, fun i v x hi => by simp at hi⟩
  | t :: ts, ss, vs, ds, ps, hb, hv, h => by
    cases ss with
    | nil => simp [shsB] at hb
    | cons s ss =>
      simp only [shsB, Bool.and_eq_true] at hb
      obtain ⟨v0, vs0, d0, ds0, p0, q0, rfl, rfl, rfl, h0, r0⟩ := trodAll_cons h
      obtain ⟨l, hty, hrep⟩ := arg_ty hb.1 (hv 0 t v0 rfl rfl) h0
      obtain ⟨xs, hxs, hlen, hreps⟩ := args_ty ts ss vs0 ds0 q0 hb.2 (fun j t v ht hv' => hv (j + 1) t v (by simpa using ht) (by simpa using hv')) r0
      refine ⟨mkD s l :: xs, ⟨⟨l, rfl, hty⟩, hxs⟩, by simp [hlen], fun i v x hi hx => ?_⟩
      cases i with
      | zero => simp at hi; simp [nth] at hx; subst hi hx; exact hrep
      | succ i => exact hreps i v x (by simpa using hi) (by simpa [nth] using hx)
theorem trodAll_stays {W' : World} {sp : Nat → Bool} (hl : laidOutB P = true) : ∀ (ts : List TypeId) (vs : List Value) (ds : List (DataW H)) (ps : List MemPlace),
    (∀ t ∈ ts, P.readableRec t = true ∧ t < P.types.size) → DataW.TrodAll enc P W 0 (fun _ => true) true ts vs ds ps → (∀ p ∈ ps, W.sameAt W' p) → (∀ p ∈ ps, sp p.block = true) →
    DataW.TrodAll enc P W' 0 sp true ts vs ds ps
  | [], vs, ds, ps, _, h, _, _ => by
    obtain ⟨rfl, rfl, rfl⟩ := trodAll_nil h
    exact trodAll_mk0
  | t :: ts, vs, ds, ps, hr, h, hs, hp => by
    obtain ⟨v0, vs0, d0, ds0, p0, q0, rfl, rfl, rfl, h0, r0⟩ := trodAll_cons h
    have h1 := hr t (by simp)
    exact ⟨p0, q0, WideElems.Trod_stays hl h1.1 h1.2 h0 (fun p hp => hs p (by simp [hp])) (fun p hq => hp p (by simp [hq])),
      trodAll_stays hl ts vs0 ds0 q0 (fun t ht => hr t (by simp [ht])) r0 (fun p hp => hs p (by simp [hp])) (fun p hq => hp p (by simp [hq])), rfl⟩
theorem mem_start {args : List Dat} (W : World) : Mem (Cx.of 0 (Gh.X ⟨Iw W, fun _ => none, fun _ => none⟩) W (Iw W)) ⟨Iw W, fun _ => none, fun _ => none⟩ (init args ⟨[], []⟩) W := by
  refine ⟨fun b o v h => Iw_of h, fun l d h => ?_, fun l b h => ?_, fun l m b h _ => ?_, fun l b h => ?_, fun k r h => ?_, fun k t h => ?_, fun k j t u b h => ?_, fun b o v h => .inl h, Frame.refl _ _, fun b h => .inl h⟩
  · have : boxArgs [] 1000 (fun _ => none) l = some d := h
    cases this
  · cases h
  · cases h
  · cases h
  · have : rowArgs [] 1000 (fun _ => none) k = some r := h
    cases this
  · cases h
  · cases h
theorem law_calls {f : FuncId} {fn : Func} {ts : List TypeId} {ss : List Sh} {s : ChangeSpec} {tb : TypeId} (hp : fn.params.toList = ts) (hres : fn.resultTypes = #[tb]) (htb : P.underlying tb = some .bool) (hb : shsB P 20 ts ss = true)
    (hl : laidOutB P = true) (hro : ts.all (fun t => P.readableRec t && decide (t < P.types.size)) = true) (hsv : s.vars = [])
    (hs : ∀ ds : List (DataW H), ds.length = ts.length → s.fn H ds = { results := [.lit (.bool true)], args := ds })
    (law : ∀ xs, TyEach ss xs → CallsA P f xs ⟨[], []⟩ (.bool true) ⟨[], []⟩)
    {base : Nat} {args : Array Value} {ds gs : List (DataW H)} {before : List MemPlace}
    (hval : ∀ (j : Nat) t v, fn.params[j]? = some t → args[j]? = some v → Value.okWide P W .any base t v)
    (hW : DataW.Whole enc P fn.params.toList s.vars false W args.toList ds gs before) :
    Calls P f args W fun e W' => ∃ v, e = .returned v ∧ s.post enc P fn false true false false W args v W' := by
  have hW' := hW
  have hlt := hW.lt
  obtain ⟨p, q, hA, hV, rfl, _, _⟩ := hW
  rw [hsv] at hV
  obtain ⟨rfl, rfl⟩ := trodVars_none hV
  simp only [List.append_nil] at hlt hW'
  rw [hp] at hA
  have hdl : ds.length = ts.length := by
    have : ∀ (ts : List TypeId) (vs : List Value) (ds : List (DataW H)) (ps : List MemPlace), DataW.TrodAll enc P W 0 (fun _ => true) true ts vs ds ps → ds.length = ts.length := by
      intro ts
      induction ts with
      | nil => intro vs ds ps h; obtain ⟨rfl, rfl, rfl⟩ := trodAll_nil h; rfl
      | cons t ts ih =>
        intro vs ds ps h
        obtain ⟨v0, vs0, d0, ds0, p0, q0, rfl, rfl, rfl, h0, r0⟩ := trodAll_cons h
        simp [ih _ _ _ r0]
    exact this _ _ _ _ hA
  obtain ⟨xs, hxs, hlen, hrep⟩ := args_ty ts ss args.toList ds p hb (fun j t v ht hv => hval j t v (by rw [← hp] at ht; simpa using ht) (by simpa using hv)) hA
  have hc := (law xs hxs).go ⟨Iw W, fun _ => none, fun _ => none⟩ W args (by simpa using hlen.symm) (fun i v d hv hd => .pure (hrep i v d (by simpa using hv) hd)) (mem_start W)
  refine hc.mono fun e W' he => ?_
  cases e with
  | returned v =>
    obtain ⟨γ', hext, hr, hm⟩ := he
    have hv : v = .bool true := by
      cases hr with
      | pure r => cases r; rfl
    have hfr : Frame W W' (Gh.X ⟨Iw W, fun _ => none, fun _ => none⟩) := hm.frame
    have hsame : ∀ b, b < W.heap.size → W'.heap[b]? = W.heap[b]? := fun b hb => hfr.block b hb (fun h => by
      rcases h with ⟨l, h⟩ | ⟨k, t, h, _⟩
      · cases h
      · cases h)
    have hat : ∀ x ∈ p, W.sameAt W' x := fun x hx => by
      have := hsame _ (hlt x hx)
      cases x with
      | cell b off => show W'.cell? _ = W.cell? _; unfold World.cell?; dsimp only; rw [show W'.heap[b]? = W.heap[b]? from this]
      | map b => exact this
    subst hv
    refine ⟨_, rfl, ds, [], p, [], p, [], hW', ?_, ?_, ?_, ?_, fun h => by cases h⟩
    · rw [List.append_nil, hs ds hdl, hres]
      exact trodAll_mk1 (shut_bool htb true)
    · rw [List.append_nil, hs ds hdl, hp]
      refine trodAll_stays hl ts _ _ _ (fun t ht => ?_) hA hat (fun x hx => by simpa using hlt x hx)
      have := List.all_eq_true.1 hro t ht
      simpa using this
    · rw [List.append_nil, hs ds hdl, hsv]; rfl
    · refine ⟨hfr.os, hfr.output, fun i hi => ?_⟩
      rw [hsame i hi]
      cases W.heap[i]? with
      | none => rfl
      | some o => cases o <;> first | rfl | exact ⟨rfl, rfl, rfl, fun _ _ => rfl⟩ | exact .inr ⟨rfl, rfl⟩
  | _ => exact he.elim
end
end Abs
namespace Abs
open Go Go.Proofs
set_option maxRecDepth 100000
set_option maxHeartbeats 4000000
theorem ty_cons {s : Sh} {fs : List Sh} {l : List Dat} (h : TyAll (s :: fs) l) : ∃ a b, l = a ++ b ∧ Ty s a ∧ TyAll fs b := by rw [TyAll] at h; exact h
theorem ty_nil {l : List Dat} (h : TyAll [] l) : l = [] := by rw [TyAll] at h; exact h
theorem ty_st {fs : List Sh} {l : List Dat} (h : Ty (.st fs) l) : TyAll fs l := by rw [Ty] at h; exact h
theorem ty_u8 {l : List Dat} (h : Ty (.int .u8) l) : ∃ n, l = [u8 n] ∧ 0 ≤ n ∧ n < 256 := by
  rw [Ty] at h
  obtain ⟨n, rfl, hw⟩ := h
  have : 0 ≤ n ∧ n ≤ 255 := by simpa [Lit.wf, IntKind.min, IntKind.max, IntKind.signed, IntKind.bits] using hw
  exact ⟨n, rfl, by omega, by omega⟩
theorem ty_u16 {l : List Dat} (h : Ty (.int .u16) l) : ∃ n, l = [u16 n] ∧ 0 ≤ n ∧ n < 65536 := by
  rw [Ty] at h
  obtain ⟨n, rfl, hw⟩ := h
  have : 0 ≤ n ∧ n ≤ 65535 := by simpa [Lit.wf, IntKind.min, IntKind.max, IntKind.signed, IntKind.bits] using hw
  exact ⟨n, rfl, by omega, by omega⟩
theorem ty_i16 {l : List Dat} (h : Ty (.int .i16) l) : ∃ n, l = [i16 n] ∧ -32768 ≤ n ∧ n < 32768 := by
  rw [Ty] at h
  obtain ⟨n, rfl, hw⟩ := h
  have : -32768 ≤ n ∧ n ≤ 32767 := by simpa [Lit.wf, IntKind.min, IntKind.max, IntKind.signed, IntKind.bits] using hw
  exact ⟨n, rfl, by omega, by omega⟩
theorem ty_i64 {l : List Dat} (h : Ty (.int .i64) l) : ∃ n, l = [it n] := by
  rw [Ty] at h
  obtain ⟨n, rfl, hw⟩ := h
  exact ⟨n, rfl⟩
theorem ty_sl {e : Sh} {l : List Dat} (h : Ty (.sl e) l) : ∃ es, l = [.sl (shSz e) es false] ∧ es.length ≤ maxLen ∧ ∀ x ∈ es, ∃ c, x = mkD e c ∧ Ty e c := by rw [Ty] at h; exact h
theorem tyN_s {T : List Dat → Prop} {n : Nat} {l : List Dat} (h : TyN T (n+1) l) : ∃ a b, l = a ++ b ∧ T a ∧ TyN T n b := by rw [TyN] at h; exact h
theorem tyN_0 {T : List Dat → Prop} {l : List Dat} (h : TyN T 0 l) : l = [] := by rw [TyN] at h; exact h
theorem list_of {α : Type} {e : Sh} {enc : α → Dat} {ok : α → Prop} (h : ∀ c, Ty e c → ∃ z, mkD e c = enc z ∧ ok z) : ∀ es : List Dat, (∀ x ∈ es, ∃ c, x = mkD e c ∧ Ty e c) → ∃ zs : List α, es = zs.map enc ∧ ∀ z ∈ zs, ok z
  | [], _ => ⟨[], rfl, fun z hz => by simp at hz⟩
  | x :: es, hx => by
    obtain ⟨zs, rfl, hz⟩ := list_of h es (fun y hy => hx y (by simp [hy]))
    obtain ⟨c, rfl, hc⟩ := hx x (by simp)
    obtain ⟨z, hz1, hz2⟩ := h c hc
    refine ⟨z :: zs, by rw [List.map_cons, hz1], fun y hy => ?_⟩
    rcases List.mem_cons.1 hy with rfl | hy
    · exact hz2
    · exact hz y hy
theorem byte_of {c : List Dat} (h : Ty (.int .u8) c) : ∃ z : UInt8, mkD (.int .u8) c = .int .u8 z.toNat ∧ True := by
  obtain ⟨n, rfl, h0, h1⟩ := ty_u8 h
  refine ⟨UInt8.ofNat n.toNat, ?_, trivial⟩
  have e : (((UInt8.ofNat n.toNat).toNat : Nat) : Int) = n := by
    rw [UInt8.toNat_ofNat']; omega
  show u8 n = _
  rw [e]; rfl
def rawS : Sh := .st [.int .u8, .int .u8, .int .u8, .int .u8, .int .u8, .int .i16, .int .i16, .int .u8, .int .u8]
def chS : Sh := .st [.int .u8, .int .u8, .int .u8]
def caseS : Sh := .st [.st [.sl (.int .u8)], .int .u8, .sl rawS, .int .u8, .arr 8 (.int .u16)]
theorem raw_of {c : List Dat} (h : Ty rawS c) : ∃ z, mkD rawS c = encRw z ∧ RwOk z := by
  obtain ⟨_, _, rfl, h1, h⟩ := ty_cons (ty_st h)
  obtain ⟨_, _, rfl, h2, h⟩ := ty_cons h
  obtain ⟨_, _, rfl, h3, h⟩ := ty_cons h
  obtain ⟨_, _, rfl, h4, h⟩ := ty_cons h
  obtain ⟨_, _, rfl, h5, h⟩ := ty_cons h
  obtain ⟨_, _, rfl, h6, h⟩ := ty_cons h
  obtain ⟨_, _, rfl, h7, h⟩ := ty_cons h
  obtain ⟨_, _, rfl, h8, h⟩ := ty_cons h
  obtain ⟨_, _, rfl, h9, h⟩ := ty_cons h
  have := ty_nil h
  subst this
  obtain ⟨n1, rfl, b1⟩ := ty_u8 h1
  obtain ⟨n2, rfl, b2⟩ := ty_u8 h2
  obtain ⟨n3, rfl, b3⟩ := ty_u8 h3
  obtain ⟨n4, rfl, b4⟩ := ty_u8 h4
  obtain ⟨n5, rfl, b5⟩ := ty_u8 h5
  obtain ⟨n6, rfl, b6⟩ := ty_i16 h6
  obtain ⟨n7, rfl, b7⟩ := ty_i16 h7
  obtain ⟨n8, rfl, b8⟩ := ty_u8 h8
  obtain ⟨n9, rfl, b9⟩ := ty_u8 h9
  exact ⟨⟨n1, n2, n3, n4, n5, n6, n7, n8, n9⟩, rfl, ⟨b1, b2, b3, b4, b5, b6, b7, b8, b9⟩⟩
theorem ch_of {c : List Dat} (h : Ty chS c) : ∃ z, mkD chS c = encCh z ∧ ChOk z := by
  obtain ⟨_, _, rfl, h1, h⟩ := ty_cons (ty_st h)
  obtain ⟨_, _, rfl, h2, h⟩ := ty_cons h
  obtain ⟨_, _, rfl, h3, h⟩ := ty_cons h
  have := ty_nil h
  subst this
  obtain ⟨n1, rfl, b1⟩ := ty_u8 h1
  obtain ⟨n2, rfl, b2⟩ := ty_u8 h2
  obtain ⟨n3, rfl, b3⟩ := ty_u8 h3
  exact ⟨⟨n1, n2, n3⟩, rfl, ⟨b1, b2, b3⟩⟩
theorem n8_of {c : List Dat} (h : TyN (Ty (.int .u16)) 8 c) : ∃ z : N8, c = [u16 z.a, u16 z.b, u16 z.c, u16 z.d, u16 z.e, u16 z.f, u16 z.g, u16 z.h] ∧ N8Ok z := by
  obtain ⟨_, _, rfl, h1, h⟩ := tyN_s h
  obtain ⟨_, _, rfl, h2, h⟩ := tyN_s h
  obtain ⟨_, _, rfl, h3, h⟩ := tyN_s h
  obtain ⟨_, _, rfl, h4, h⟩ := tyN_s h
  obtain ⟨_, _, rfl, h5, h⟩ := tyN_s h
  obtain ⟨_, _, rfl, h6, h⟩ := tyN_s h
  obtain ⟨_, _, rfl, h7, h⟩ := tyN_s h
  obtain ⟨_, _, rfl, h8, h⟩ := tyN_s h
  have := tyN_0 h
  subst this
  obtain ⟨n1, rfl, b1⟩ := ty_u16 h1
  obtain ⟨n2, rfl, b2⟩ := ty_u16 h2
  obtain ⟨n3, rfl, b3⟩ := ty_u16 h3
  obtain ⟨n4, rfl, b4⟩ := ty_u16 h4
  obtain ⟨n5, rfl, b5⟩ := ty_u16 h5
  obtain ⟨n6, rfl, b6⟩ := ty_u16 h6
  obtain ⟨n7, rfl, b7⟩ := ty_u16 h7
  obtain ⟨n8, rfl, b8⟩ := ty_u16 h8
  exact ⟨⟨n1, n2, n3, n4, n5, n6, n7, n8⟩, rfl, ⟨b1, b2, b3, b4, b5, b6, b7, b8⟩⟩
theorem case_of {c : List Dat} (h : Ty caseS c) : ∃ z, mkD caseS c = encCase z ∧ CseOk z := by
  obtain ⟨_, _, rfl, h1, h⟩ := ty_cons (ty_st h)
  obtain ⟨_, _, rfl, h2, h⟩ := ty_cons h
  obtain ⟨_, _, rfl, h3, h⟩ := ty_cons h
  obtain ⟨_, _, rfl, h4, h⟩ := ty_cons h
  obtain ⟨_, _, rfl, h5, h⟩ := ty_cons h
  have := ty_nil h
  subst this
  obtain ⟨_, _, rfl, k1, h0⟩ := ty_cons (ty_st h1)
  have := ty_nil h0
  subst this
  obtain ⟨e1, rfl, _, he1⟩ := ty_sl k1
  obtain ⟨bs, rfl, _⟩ := list_of (fun c hc => byte_of hc) e1 he1
  obtain ⟨n2, rfl, b2⟩ := ty_u8 h2
  obtain ⟨e3, rfl, hl3, he3⟩ := ty_sl h3
  obtain ⟨rs, rfl, hrs⟩ := list_of (fun c hc => raw_of hc) e3 he3
  obtain ⟨n4, rfl, b4⟩ := ty_u8 h4
  rw [Ty] at h5
  obtain ⟨s, rfl, hs⟩ := n8_of h5
  rw [List.length_map] at hl3
  exact ⟨⟨bs, n2, rs, n4, s⟩, rfl, ⟨b2, hrs, b4, hs⟩⟩
theorem tyE_cons {s : Sh} {ss : List Sh} {xs : List Dat} (h : TyEach (s :: ss) xs) : ∃ l ys, xs = mkD s l :: ys ∧ Ty s l ∧ TyEach ss ys := by
  cases xs with
  | nil => exact h.elim
  | cons d ys =>
    obtain ⟨⟨l, e, hl⟩, hy⟩ := h
    exact ⟨l, ys, by rw [e], hl, hy⟩
theorem tyE_nil {xs : List Dat} (h : TyEach [] xs) : xs = [] := by
  cases xs with
  | nil => rfl
  | cons d ys => exact h.elim
theorem law1 (xs : List Dat) (h : TyEach [caseS, .sl chS, .int .i64] xs) : CallsA Tryz.prog 3 xs ⟨[], []⟩ (.bool true) ⟨[], []⟩ := by
  obtain ⟨l1, _, rfl, h1, h⟩ := tyE_cons h
  obtain ⟨l2, _, rfl, h2, h⟩ := tyE_cons h
  obtain ⟨l3, _, rfl, h3, h⟩ := tyE_cons h
  have := tyE_nil h
  subst this
  obtain ⟨x, ex, okx⟩ := case_of h1
  obtain ⟨es, rfl, hl2, hes⟩ := ty_sl h2
  obtain ⟨ch, rfl, hch⟩ := list_of (fun c hc => ch_of hc) es hes
  obtain ⟨id, rfl⟩ := ty_i64 h3
  rw [ex]
  rw [List.length_map] at hl2
  have pP := madeP_ok x.b
  have pQ := var_pg (madeP x.b) pP ch hch 5
  have fP := pP.fits (by omega)
  have fQ := pQ.fits (by omega)
  have hsm := sumsP_mem pP okx.s
  have hsl : (sumsP (madeP x.b) x.s).length < 2^40 := by rw [sumsP_len]; have := fP.nheads; omega
  have hr := rulesC_len x
  have hr' : (setupC x).rules.length < 2^30 := by show (rulesC x).length < _; omega
  have nQ := pQ.nd
  have nP := pP.nd
  refine f3X x ch id (idC x) (madeP x.b) (varP (madeP x.b) ch) (setupC x) (sumsP (madeP x.b) x.s) (fun i => needOf (madeP x.b) (setupC x) i (sumsP (madeP x.b) x.s))
    (fun i => needOf (varP (madeP x.b) ch) (setupC x) i (sumsP (madeP x.b) x.s)) (needOf (madeP x.b) (setupC x) (idC x) []).1 (needOf (madeP x.b) (setupC x) (idC x) []).2
    (by omega) (by unfold varP; omega) (fun i => needOf_ok i fP hr' hsm) (fun i => needOf_ok i fQ hr' hsm) (needOf_ok _ fP hr' (fun x hx => by simp at hx))
    (fun d hd => ?_) (madeC_ok x okx) (variant_ok (madeP x.b) pP ch hch)
    (fun i => need_ok _ _ i _ fP hsl hr') (need_ok _ _ _ _ fQ hsl hr') (need_ok _ _ _ _ fP (by simp) hr')
    (fun i => refOf_ok _ _ i _ fP hsl hr') (fun i => refOf_ok _ _ i _ fQ hsl hr') (refOf_ok _ _ _ _ fP (by simp) hr')
  have h1 := (pQ.ok d hd).wordsD
  omega
end Abs
namespace Abs
open Go Go.Proofs
set_option maxRecDepth 100000
set_option maxHeartbeats 4000000
theorem mdRun_ids (L : List UInt8) (n : Nat) : ∀ i, (mdRun L n i).defs.map (·.id) = (List.range i).map fun j : Nat => 11 + (j : Int)
  | 0 => rfl
  | i + 1 => by
    show (_ ++ [_]).map _ = _
    rw [List.map_append, mdRun_ids L n i, List.range_succ, List.map_append]; rfl
theorem madeP_defs (L : List UInt8) : ∃ n, (madeP L).defs = (mdRun L n n).defs ∧ n ≤ 4 ∧ 0 < n := by
  have hb := (⟨L, declD, [], [], [], zD, false⟩ : Mk).nx_bd 0 (n := 4) (by omega)
  exact ⟨(1 + (⟨L, declD, [], [], [], zD, false⟩ : Mk).nx 0 4).toNat, rfl, by omega, by omega⟩
theorem madeP_ids (L : List UInt8) : (madeP L).defs.map (·.id) = (List.range (madeP L).defs.length).map fun j : Nat => 11 + (j : Int) := by
  obtain ⟨n, e, _, _⟩ := madeP_defs L
  rw [e, mdRun_ids, (mdRun_ok L n n).nd]
theorem madeP_id (L : List UInt8) {i : Nat} (h : i < (madeP L).defs.length) : (madeP L).defs[i].id = 11 + (i : Int) := by
  have e := madeP_ids L
  have := congrArg (fun l : List Int => l[i]?) e
  simpa [h] using this
def Ids (l : List Df) : Prop := ∀ i (hi : i < l.length) j (hj : j < l.length), l[i].id = l[j].id → i = j
theorem madeP_Ids (L : List UInt8) : Ids (madeP L).defs := fun i hi j hj h => by
  rw [madeP_id L hi, madeP_id L hj] at h; omega
theorem fnd_first {α : Type} {p : α → Bool} {z : α} : ∀ {l : List α} {k : Nat} (hk : k < l.length), p l[k] = true → (∀ j (hj : j < k), p (l[j]'(by omega)) = false) → fnd p z l = (l[k], true)
  | [], k, hk, _, _ => by simp at hk
  | x :: l, 0, hk, h, _ => by
    have h : p x = true := h
    rw [fnd, if_pos h]; rfl
  | x :: l, k + 1, hk, h, hn => by
    have h0 := hn 0 (by omega)
    have e : fnd p z (x :: l) = fnd p z l := by rw [fnd, if_neg]; rw [show p x = false from h0]; simp
    rw [e]
    exact fnd_first (l := l) (k := k) (by simpa using hk) h (fun j hj => hn (j + 1) (by omega))
theorem fnd_id {l : List Df} (h : Ids l) {k : Nat} (hk : k < l.length) : fnd (fun x : Df => x.id == l[k].id) zDf l = (l[k], true) :=
  fnd_first hk (by simp) (fun j hj => by
    rw [beq_eq_false_iff_ne]
    intro e
    have := h j (by omega) k hk e
    omega)
theorem needOf_at {n : Nat} {p : Pg} (hp : PgOk n p) (hn : n ≤ 1000) (h : Ids p.defs) (s : Su) (sums : List Sy) {k : Nat} (hk : k < p.defs.length) :
    needOf p s p.defs[k].id sums = (mkNe p s p.defs[k].id sums p.defs[k], 0) := by
  unfold needOf
  rw [fnd_id h hk]
  have := (hp.ok _ (List.getElem_mem hk)).words
  rw [if_pos rfl, if_pos (by show (wD (nmD p.defs[k])).length ≤ 100000; omega)]
def neL (p : Pg) (s : Su) (sums : List Sy) : List Ne := p.defs.map fun d => mkNe p s d.id sums d
theorem neL_at {p : Pg} {s : Su} {sums : List Sy} {k : Nat} (hk : k < p.defs.length) : (neL p s sums)[k]'(by simpa [neL] using hk) = mkNe p s p.defs[k].id sums p.defs[k] := by simp [neL]
theorem byteU_inj {x y : Int} (h : wB x = wB y) : ∀ k, k < 8 → byteU x k = byteU y k := by
  intro k hk
  have := congrArg (fun l : List UInt8 => l[k]?) h
  simpa [wB, hk] using this
end Abs
namespace Abs
open Go Go.Proofs
set_option maxRecDepth 100000
set_option maxHeartbeats 4000000
structure CR2 where
  k : Nat
  a : List Dat
  b : List Dat
def otherN : List UInt8 := [111, 116, 104, 101, 114]
def newR : Sm := .mk 9999 6 0 0 0 (.mk 0 0 0 []) (.mk 0 0 0 []) (.mk 0 [] []) [] [] [] []
def encR9 : Dat := .agg ([it 9999, it 6, it 0, it 0, it 0] ++ ([it 0, it 0, it 0, .sl 4 [] false] ++ ([it 0, it 0, it 0, .sl 4 [] false] ++ ([it 0, .sl 4 [] false, .sl 3 [] false] ++ [.sl 4 [] false, .sl 1 [] false, .sl 20 [] false, .sl 20 [] false]))))
theorem encR9_eq : encS newR = encR9 := rfl
def bdyD (D : Df) : Dat := .agg [it D.id, it D.site, .str D.name, it D.firm, it D.part, lst 3 encR D.params, lst 3 encR D.given, it D.vars, it D.refs, lst 2 encA D.arrays, it D.budget, .sl 20 (D.body.map encS ++ [encR9]) false]
theorem bdyD_eq (D : Df) : bdyD D = encD (D.bdy (D.body ++ [newR])) := by
  unfold bdyD; rw [← encR9_eq, show D.body.map encS ++ [encS newR] = (D.body ++ [newR]).map encS by simp]; rfl
theorem range_map1 {f : Nat → Ne} {k : Nat} : ((List.range (k + 1)).map f).map encN = ((List.range k).map f).map encN ++ [encN (f k)] := by
  rw [List.range_succ, List.map_append, List.map_append]; rfl
theorem f5_0 (x : Cse) (hxk : 0 ≤ x.k ∧ x.k < 256) (kind : Int) (h3 : kind.tmod 3 = 0) (P : Pg) (S : Su) (sums : List Sy) (kk : Nat) (D : Df) (hx : P.defs[kk]? = some D) (hk3 : x.k.tmod ((P.defs.map encD).length : Nat) = (kk : Int))
    (hP : P.defs.length < 2^20) (hbu : 0 ≤ D.budget ∧ D.budget < 2^40) (hbl : D.body.length < 2^30) (nA nB : Nat → Ne) (R : List Int)
    (c8 : CallsA Tryz.prog 8 [encCase x] ct0 (.tup [encP P, it D.id, encSu S, lst 11 encSy sums]) ct0)
    (a1 : ∀ i (hi : i < P.defs.length), CallsA Tryz.prog 10 [encP P, encSu S, it P.defs[i].id, lst 11 encSy sums] ct0 (.agg (cN (nA i) ++ [it 0])) ct0)
    (a2 : ∀ i (hi : i < P.defs.length), CallsA Tryz.prog 10 [.agg (cDc P.d ++ [lst 5 encH P.heads, .sl 12 ((P.defs.map encD).set (x.k.tmod ((P.defs.map encD).length : Nat)).toNat (encD (D.bud (D.budget + 1)))) false, ints P.threads]), encSu S, it P.defs[i].id, lst 11 encSy sums] ct0 (.agg (cN (nB i) ++ [it 0])) ct0)
    (r1 : CallsA Tryz.prog 18 [lst 6 encN ((List.range P.defs.length).map nA), lst 6 encN ((List.range P.defs.length).map nB)] ct0 (ints [D.id]) ct0)
    (r2 : CallsA Tryz.prog 18 [lst 6 encN ((List.range P.defs.length).map nA), lst 6 encN ((List.range P.defs.length).map nA)] ct0 (ints []) ct0)
    (r3 : CallsA Tryz.prog 18 [lst 6 encN [], lst 6 encN ((List.range P.defs.length).map nA)] ct0 (ints R) ct0) (hR : R.length = P.defs.length) :
    CallsA Tryz.prog 5 [encCase x, u8 kind] ct0 (bo true) ct0 := by
  have q0 : (kind.tmod 3 == 0) = true := by rw [h3]; rfl
  have q1 : (kind.tmod 3 == 1) = false := by rw [h3]; rfl
  have c7 := examples_ok
  have i1 : CallsA Tryz.prog 13 [ints [D.id], ints [D.id]] ct0 (bo true) ct0 := by
    have := sameInts_ok [D.id] [D.id] (by simp)
    rwa [beq_self_eq_true] at this
  have hkk : kk < P.defs.length := (List.getElem?_eq_some_iff.1 hx).1
  have hdl : (P.defs.map encD).length = P.defs.length := List.length_map ..
  have hsl : ((P.defs.map encD).set (x.k.tmod ((P.defs.map encD).length : Nat)).toNat (encD (D.bud (D.budget + 1)))).length = P.defs.length := by rw [List.length_set, hdl]
  have hRl : (R.map it).length = P.defs.length := by rw [List.length_map, hR]
  unfold lst at r1 r2 r3
  refine fn_ok hm Tryz.func5 (fun _ => false) [] (fun _ => []) (by kernel_rfl) ?_
  refine run ?_; repeat ((apply call_ok; first | exact (c7) | exact (c8)); refine run ?_)
  refine Idx.mapG kk D hk3 hx rfl ?_
  refine run ?_
  refine Idx.mapG kk D hk3 hx rfl ?_
  refine run ?_
  refine Idx.mapG kk D hk3 hx rfl ?_
  refine run ?_
  refine LoopS.mk ⟨[.layCell 10 8], Need.mk (by simp) (HeadS.lp (fun r : CR2 => r.k ≤ P.defs.length ∧ r.a = ((List.range r.k).map nA).map encN ∧ r.b = ((List.range r.k).map nB).map encN) (fun r => ⟨[(16, it r.k), (14, .ref 73 r.a.length), (15, .ref 74 r.b.length)], [], [(73, ⟨6, true, r.a⟩), (74, ⟨6, true, r.b⟩)]⟩) (fun r => P.defs.length - r.k) ⟨0, [], []⟩ ⟨Nat.zero_le _, rfl, rfl⟩ ?_)⟩
  intro r hJ
  have j1 := hJ.1
  have j2 := hJ.2.1
  have j3 := hJ.2.2
  have al : r.a.length = r.k := by rw [j2, List.length_map, List.length_map, List.length_range]
  have bl : r.b.length = r.k := by rw [j3, List.length_map, List.length_map, List.length_range]
  by_cases hk : r.k < P.defs.length
  · have d1 : decide ((r.k : Int) < ((P.defs.map encD).length : Nat)) = true := decide_eq_true (by rw [List.length_map]; omega)
    have hN : r.a ++ [encN (nA r.k)] = ((List.range (r.k + 1)).map nA).map encN := by rw [range_map1, j2]
    have hM : r.b ++ [encN (nB r.k)] = ((List.range (r.k + 1)).map nB).map encN := by rw [range_map1, j3]
    have u1 := a1 r.k hk
    have u2 := a2 r.k hk
    refine run ?_
    refine Idx.map hk rfl ?_
    refine run ?_; repeat ((apply call_ok; first | exact (u1) | exact (u2)); refine run ?_)
    refine Idx.map hk rfl ?_
    refine run ?_; repeat ((apply call_ok; first | exact (u1) | exact (u2)); refine run ?_)
    refine ⟨⟨⟨r.k + 1, _, _⟩, ⟨hk, hN, hM⟩⟩, Nat.sub_lt_sub_left hk (Nat.lt_succ_self _), ?_⟩
    repeat' (first | exact trivial | exact rfl | refine ⟨?_, ?_⟩ | refine ⟨?_, ?_, ?_⟩)
  have d1 : decide ((r.k : Int) < ((P.defs.map encD).length : Nat)) = false := decide_eq_false (by rw [List.length_map]; omega)
  have hA : r.a = ((List.range P.defs.length).map nA).map encN := by rw [j2, show r.k = P.defs.length by omega]
  have hB : r.b = ((List.range P.defs.length).map nB).map encN := by rw [j3, show r.k = P.defs.length by omega]
  rw [← hA, ← hB] at r1
  rw [← hA] at r2 r3
  have e1 : ((((R.map it).length : Nat) : Int) == ((r.a.length : Nat) : Int)) = true := by rw [hRl, al, show r.k = P.defs.length by omega]; exact beq_self_eq_true _
  refine run ?_; repeat ((apply call_ok; first | exact (r1) | exact (r2) | exact (r3) | exact (i1)); refine run ?_)
  exact Done.mk rfl rfl
theorem f5_1 (x : Cse) (hxk : 0 ≤ x.k ∧ x.k < 256) (kind : Int) (h3 : kind.tmod 3 = 1) (P : Pg) (S : Su) (sums : List Sy) (kk : Nat) (D : Df) (hx : P.defs[kk]? = some D) (hk3 : x.k.tmod ((P.defs.map encD).length : Nat) = (kk : Int))
    (hP : P.defs.length < 2^20) (hbu : 0 ≤ D.budget ∧ D.budget < 2^40) (hbl : D.body.length < 2^30) (nA nB : Nat → Ne) (R : List Int)
    (c8 : CallsA Tryz.prog 8 [encCase x] ct0 (.tup [encP P, it D.id, encSu S, lst 11 encSy sums]) ct0)
    (a1 : ∀ i (hi : i < P.defs.length), CallsA Tryz.prog 10 [encP P, encSu S, it P.defs[i].id, lst 11 encSy sums] ct0 (.agg (cN (nA i) ++ [it 0])) ct0)
    (a2 : ∀ i (hi : i < P.defs.length), CallsA Tryz.prog 10 [.agg (cDc P.d ++ [lst 5 encH P.heads, .sl 12 ((P.defs.map encD).set (x.k.tmod ((P.defs.map encD).length : Nat)).toNat (bdyD D)) false, ints P.threads]), encSu S, it P.defs[i].id, lst 11 encSy sums] ct0 (.agg (cN (nB i) ++ [it 0])) ct0)
    (r1 : CallsA Tryz.prog 18 [lst 6 encN ((List.range P.defs.length).map nA), lst 6 encN ((List.range P.defs.length).map nB)] ct0 (ints [D.id]) ct0)
    (r2 : CallsA Tryz.prog 18 [lst 6 encN ((List.range P.defs.length).map nA), lst 6 encN ((List.range P.defs.length).map nA)] ct0 (ints []) ct0)
    (r3 : CallsA Tryz.prog 18 [lst 6 encN [], lst 6 encN ((List.range P.defs.length).map nA)] ct0 (ints R) ct0) (hR : R.length = P.defs.length) :
    CallsA Tryz.prog 5 [encCase x, u8 kind] ct0 (bo true) ct0 := by
  have q0 : (kind.tmod 3 == 0) = false := by rw [h3]; rfl
  have q1 : (kind.tmod 3 == 1) = true := by rw [h3]; rfl
  have c7 := examples_ok
  have i1 : CallsA Tryz.prog 13 [ints [D.id], ints [D.id]] ct0 (bo true) ct0 := by
    have := sameInts_ok [D.id] [D.id] (by simp)
    rwa [beq_self_eq_true] at this
  have hkk : kk < P.defs.length := (List.getElem?_eq_some_iff.1 hx).1
  have hdl : (P.defs.map encD).length = P.defs.length := List.length_map ..
  have hsl : ((P.defs.map encD).set (x.k.tmod ((P.defs.map encD).length : Nat)).toNat (bdyD D)).length = P.defs.length := by rw [List.length_set, hdl]
  have hRl : (R.map it).length = P.defs.length := by rw [List.length_map, hR]
  unfold lst at r1 r2 r3
  refine fn_ok hm Tryz.func5 (fun _ => false) [] (fun _ => []) (by kernel_rfl) ?_
  refine run ?_; repeat ((apply call_ok; first | exact (c7) | exact (c8)); refine run ?_)
  refine Idx.mapG kk D hk3 hx rfl ?_
  refine run ?_
  refine Idx.mapG kk D hk3 hx rfl ?_
  refine run ?_
  refine Idx.mapG kk D hk3 hx rfl ?_
  refine run ?_
  refine LoopS.mk ⟨[.layCell 10 8], Need.mk (by simp) (HeadS.lp (fun r : CR2 => r.k ≤ P.defs.length ∧ r.a = ((List.range r.k).map nA).map encN ∧ r.b = ((List.range r.k).map nB).map encN) (fun r => ⟨[(16, it r.k), (14, .ref 73 r.a.length), (15, .ref 74 r.b.length)], [], [(73, ⟨6, true, r.a⟩), (74, ⟨6, true, r.b⟩)]⟩) (fun r => P.defs.length - r.k) ⟨0, [], []⟩ ⟨Nat.zero_le _, rfl, rfl⟩ ?_)⟩
  intro r hJ
  have j1 := hJ.1
  have j2 := hJ.2.1
  have j3 := hJ.2.2
  have al : r.a.length = r.k := by rw [j2, List.length_map, List.length_map, List.length_range]
  have bl : r.b.length = r.k := by rw [j3, List.length_map, List.length_map, List.length_range]
  by_cases hk : r.k < P.defs.length
  · have d1 : decide ((r.k : Int) < ((P.defs.map encD).length : Nat)) = true := decide_eq_true (by rw [List.length_map]; omega)
    have hN : r.a ++ [encN (nA r.k)] = ((List.range (r.k + 1)).map nA).map encN := by rw [range_map1, j2]
    have hM : r.b ++ [encN (nB r.k)] = ((List.range (r.k + 1)).map nB).map encN := by rw [range_map1, j3]
    have u1 := a1 r.k hk
    have u2 := a2 r.k hk
    refine run ?_
    refine Idx.map hk rfl ?_
    refine run ?_; repeat ((apply call_ok; first | exact (u1) | exact (u2)); refine run ?_)
    refine Idx.map hk rfl ?_
    refine run ?_; repeat ((apply call_ok; first | exact (u1) | exact (u2)); refine run ?_)
    refine ⟨⟨⟨r.k + 1, _, _⟩, ⟨hk, hN, hM⟩⟩, Nat.sub_lt_sub_left hk (Nat.lt_succ_self _), ?_⟩
    repeat' (first | exact trivial | exact rfl | refine ⟨?_, ?_⟩ | refine ⟨?_, ?_, ?_⟩)
  have d1 : decide ((r.k : Int) < ((P.defs.map encD).length : Nat)) = false := decide_eq_false (by rw [List.length_map]; omega)
  have hA : r.a = ((List.range P.defs.length).map nA).map encN := by rw [j2, show r.k = P.defs.length by omega]
  have hB : r.b = ((List.range P.defs.length).map nB).map encN := by rw [j3, show r.k = P.defs.length by omega]
  rw [← hA, ← hB] at r1
  rw [← hA] at r2 r3
  have e1 : ((((R.map it).length : Nat) : Int) == ((r.a.length : Nat) : Int)) = true := by rw [hRl, al, show r.k = P.defs.length by omega]; exact beq_self_eq_true _
  refine run ?_; repeat ((apply call_ok; first | exact (r1) | exact (r2) | exact (r3) | exact (i1)); refine run ?_)
  exact Done.mk rfl rfl
theorem f5_2 (x : Cse) (hxk : 0 ≤ x.k ∧ x.k < 256) (kind : Int) (h3 : kind.tmod 3 = 2) (P : Pg) (S : Su) (sums : List Sy) (kk : Nat) (D : Df) (hx : P.defs[kk]? = some D) (hk3 : x.k.tmod ((P.defs.map encD).length : Nat) = (kk : Int))
    (hP : P.defs.length < 2^20) (hbu : 0 ≤ D.budget ∧ D.budget < 2^40) (hbl : D.body.length < 2^30) (nA nB : Nat → Ne) (R : List Int)
    (c8 : CallsA Tryz.prog 8 [encCase x] ct0 (.tup [encP P, it D.id, encSu S, lst 11 encSy sums]) ct0)
    (a1 : ∀ i (hi : i < P.defs.length), CallsA Tryz.prog 10 [encP P, encSu S, it P.defs[i].id, lst 11 encSy sums] ct0 (.agg (cN (nA i) ++ [it 0])) ct0)
    (a2 : ∀ i (hi : i < P.defs.length), CallsA Tryz.prog 10 [.agg (cDc P.d ++ [lst 5 encH P.heads, .sl 12 ((P.defs.map encD).set (x.k.tmod ((P.defs.map encD).length : Nat)).toNat (encD (D.nm otherN))) false, ints P.threads]), encSu S, it P.defs[i].id, lst 11 encSy sums] ct0 (.agg (cN (nB i) ++ [it 0])) ct0)
    (r1 : CallsA Tryz.prog 18 [lst 6 encN ((List.range P.defs.length).map nA), lst 6 encN ((List.range P.defs.length).map nB)] ct0 (ints []) ct0)
    (r2 : CallsA Tryz.prog 18 [lst 6 encN ((List.range P.defs.length).map nA), lst 6 encN ((List.range P.defs.length).map nA)] ct0 (ints []) ct0)
    (r3 : CallsA Tryz.prog 18 [lst 6 encN [], lst 6 encN ((List.range P.defs.length).map nA)] ct0 (ints R) ct0) (hR : R.length = P.defs.length) :
    CallsA Tryz.prog 5 [encCase x, u8 kind] ct0 (bo true) ct0 := by
  have q0 : (kind.tmod 3 == 0) = false := by rw [h3]; rfl
  have q1 : (kind.tmod 3 == 1) = false := by rw [h3]; rfl
  have c7 := examples_ok
  have i1 : CallsA Tryz.prog 13 [ints [], ints []] ct0 (bo true) ct0 := by
    have := sameInts_ok [] [] (by simp)
    rwa [beq_self_eq_true] at this
  have hkk : kk < P.defs.length := (List.getElem?_eq_some_iff.1 hx).1
  have hdl : (P.defs.map encD).length = P.defs.length := List.length_map ..
  have hsl : ((P.defs.map encD).set (x.k.tmod ((P.defs.map encD).length : Nat)).toNat (encD (D.nm otherN))).length = P.defs.length := by rw [List.length_set, hdl]
  have hRl : (R.map it).length = P.defs.length := by rw [List.length_map, hR]
  unfold lst at r1 r2 r3
  refine fn_ok hm Tryz.func5 (fun _ => false) [] (fun _ => []) (by kernel_rfl) ?_
  refine run ?_; repeat ((apply call_ok; first | exact (c7) | exact (c8)); refine run ?_)
  refine Idx.mapG kk D hk3 hx rfl ?_
  refine run ?_
  refine Idx.mapG kk D hk3 hx rfl ?_
  refine run ?_
  refine Idx.mapG kk D hk3 hx rfl ?_
  refine run ?_
  refine LoopS.mk ⟨[.layCell 10 8], Need.mk (by simp) (HeadS.lp (fun r : CR2 => r.k ≤ P.defs.length ∧ r.a = ((List.range r.k).map nA).map encN ∧ r.b = ((List.range r.k).map nB).map encN) (fun r => ⟨[(16, it r.k), (14, .ref 73 r.a.length), (15, .ref 74 r.b.length)], [], [(73, ⟨6, true, r.a⟩), (74, ⟨6, true, r.b⟩)]⟩) (fun r => P.defs.length - r.k) ⟨0, [], []⟩ ⟨Nat.zero_le _, rfl, rfl⟩ ?_)⟩
  intro r hJ
  have j1 := hJ.1
  have j2 := hJ.2.1
  have j3 := hJ.2.2
  have al : r.a.length = r.k := by rw [j2, List.length_map, List.length_map, List.length_range]
  have bl : r.b.length = r.k := by rw [j3, List.length_map, List.length_map, List.length_range]
  by_cases hk : r.k < P.defs.length
  · have d1 : decide ((r.k : Int) < ((P.defs.map encD).length : Nat)) = true := decide_eq_true (by rw [List.length_map]; omega)
    have hN : r.a ++ [encN (nA r.k)] = ((List.range (r.k + 1)).map nA).map encN := by rw [range_map1, j2]
    have hM : r.b ++ [encN (nB r.k)] = ((List.range (r.k + 1)).map nB).map encN := by rw [range_map1, j3]
    have u1 := a1 r.k hk
    have u2 := a2 r.k hk
    refine run ?_
    refine Idx.map hk rfl ?_
    refine run ?_; repeat ((apply call_ok; first | exact (u1) | exact (u2)); refine run ?_)
    refine Idx.map hk rfl ?_
    refine run ?_; repeat ((apply call_ok; first | exact (u1) | exact (u2)); refine run ?_)
    refine ⟨⟨⟨r.k + 1, _, _⟩, ⟨hk, hN, hM⟩⟩, Nat.sub_lt_sub_left hk (Nat.lt_succ_self _), ?_⟩
    repeat' (first | exact trivial | exact rfl | refine ⟨?_, ?_⟩ | refine ⟨?_, ?_, ?_⟩)
  have d1 : decide ((r.k : Int) < ((P.defs.map encD).length : Nat)) = false := decide_eq_false (by rw [List.length_map]; omega)
  have hA : r.a = ((List.range P.defs.length).map nA).map encN := by rw [j2, show r.k = P.defs.length by omega]
  have hB : r.b = ((List.range P.defs.length).map nB).map encN := by rw [j3, show r.k = P.defs.length by omega]
  rw [← hA, ← hB] at r1
  rw [← hA] at r2 r3
  have e1 : ((((R.map it).length : Nat) : Int) == ((r.a.length : Nat) : Int)) = true := by rw [hRl, al, show r.k = P.defs.length by omega]; exact beq_self_eq_true _
  refine run ?_; repeat ((apply call_ok; first | exact (r1) | exact (r2) | exact (r3) | exact (i1)); refine run ?_)
  exact Done.mk rfl rfl
end Abs
namespace Abs
open Go Go.Proofs
set_option maxRecDepth 100000
set_option maxHeartbeats 4000000
theorem u8_inj {x y : Int} (h1 : 0 ≤ x ∧ x < 256) (h2 : 0 ≤ y ∧ y < 256) (h : UInt8.ofNat x.toNat = UInt8.ofNat y.toNat) : x = y := by
  have e1 := u8_back h1.1 h1.2
  have e2 := u8_back h2.1 h2.2
  rw [h, e2] at e1; exact e1.symm
theorem wB_next (x : Int) : wB x ≠ wB (x + 1) := by
  intro h
  have h0 := byteU_inj h 0 (by omega)
  unfold byteU at h0
  have := u8_inj ⟨Int.emod_nonneg _ (by omega), Int.emod_lt_of_pos _ (by omega)⟩ ⟨Int.emod_nonneg _ (by omega), Int.emod_lt_of_pos _ (by omega)⟩ h0
  rw [show (2 : Int) ^ (8 * 0) = 1 from rfl, Int.fdiv_one, Int.fdiv_one] at this
  omega
theorem fm8 : ∀ l : List Int, (l.flatMap wB).length = 8 * l.length
  | [] => rfl
  | x :: l => by rw [List.flatMap_cons, List.length_append, wB_len, fm8 l, List.length_cons]; omega
theorem wD_bud (d : Df) (b : Int) : ∃ u v, wD (nmD (d.bud b)) = u ++ [b] ++ v ∧ wD (nmD d) = u ++ [d.budget] ++ v := by
  refine ⟨[[1, d.id, d.site], wl (fun b : UInt8 => [(b.toNat : Int)]) [102], [0, d.part], wl wR d.params, wl wR d.given, [d.vars, d.refs], wl wA d.arrays].flatten, wl wS d.body, ?_, ?_⟩
  · simp [wD, nmD, Df.bud]
  · simp [wD, nmD]
theorem bytes_bud (d : Df) : (wD (nmD (d.bud (d.budget + 1)))).flatMap wB ≠ (wD (nmD d)).flatMap wB := by
  obtain ⟨u, v, h1, h2⟩ := wD_bud d (d.budget + 1)
  rw [h1, h2]
  simp only [List.flatMap_append, List.flatMap_cons, List.flatMap_nil, List.append_nil]
  intro h
  rw [List.append_assoc, List.append_assoc] at h
  have h3 := List.append_cancel_left h
  have h4 := (List.append_inj h3 (by rw [wB_len, wB_len])).1
  exact wB_next _ h4.symm
theorem bytes_bdy (d : Df) (s : Sm) : (wD (nmD (d.bdy (d.body ++ [s])))).flatMap wB ≠ (wD (nmD d)).flatMap wB := by
  intro h
  have h1 := congrArg List.length h
  rw [fm8, fm8] at h1
  have hp := wS_pos s
  have e : (wD (nmD (d.bdy (d.body ++ [s])))).length = (wD (nmD d)).length + (wS s).length := by
    simp [wD, nmD, Df.bdy, wl]; omega
  omega
theorem Mk.budget_bd (m : Mk) (a : Nat) : 0 ≤ m.budget a ∧ m.budget a ≤ 2000 := by
  have h := m.nx_bd a (n := 4) (by omega)
  unfold Mk.budget
  rcases (show m.nx a 4 = 0 ∨ m.nx a 4 = 1 ∨ m.nx a 4 = 2 ∨ m.nx a 4 = 3 by omega) with e | e | e | e <;> rw [e] <;> decide
theorem mdRun_bud (L : List UInt8) (n : Nat) : ∀ i, ∀ d ∈ (mdRun L n i).defs, 0 ≤ d.budget ∧ d.budget ≤ 2000
  | 0 => fun d hd => by simp [mdRun] at hd
  | i + 1 => fun d hd => by
    rcases List.mem_append.1 hd with hx | hx
    · exact mdRun_bud L n i d hx
    · rw [List.mem_singleton.1 hx]
      exact ((mdRun L n i).mk' L).budget_bd _
theorem madeP_bud (L : List UInt8) : ∀ d ∈ (madeP L).defs, 0 ≤ d.budget ∧ d.budget ≤ 2000 := by
  obtain ⟨n, e, _, _⟩ := madeP_defs L
  rw [e]; exact mdRun_bud L n n
theorem set_heads {n : Nat} {p : Pg} (hp : PgOk n p) {k : Nat} (hk : k < p.defs.length) {d' : Df} (h : headOf d' = headOf p.defs[k]) : p.heads = (p.defs.set k d').map headOf := by
  rw [List.map_set, h, hp.heads]
  have e : headOf p.defs[k] = (p.defs.map headOf)[k]'(by rw [List.length_map]; exact hk) := by simp
  rw [e, List.set_getElem_self]
theorem set_pg {p : Pg} (hp : PgOk 0 p) {k : Nat} (hk : k < p.defs.length) {d' : Df} (h : headOf d' = headOf p.defs[k]) (hd : DfOk 1 d') : PgOk 1 (p.ds (p.defs.set k d')) := by
  have hu := (hp.pre.up).set (k := k) hd
  exact ⟨hu.locks, hu.parts, hu.decl, set_heads hp hk h, hu.pos, hu.nd, hu.th, hu.nt, hu.ok⟩
theorem set_id {l : List Df} {k : Nat} (hk : k < l.length) {d' : Df} (h : d'.id = l[k].id) (i : Nat) (hi : i < l.length) : ((l.set k d')[i]'(by rw [List.length_set]; exact hi)).id = l[i].id := by
  rw [List.getElem_set]
  split
  · next e => subst e; exact h
  · rfl
theorem set_Ids {l : List Df} (h : Ids l) {k : Nat} (hk : k < l.length) {d' : Df} (hd : d'.id = l[k].id) : Ids (l.set k d') := fun i hi j hj e => by
  have hi' : i < l.length := by simpa using hi
  have hj' : j < l.length := by simpa using hj
  rw [set_id hk hd i hi', set_id hk hd j hj'] at e
  exact h i hi' j hj' e
def nAt' (p : Pg) (s : Su) (sums : List Sy) (l : List Df) (i : Nat) : Ne := mkNe p s (l.getD i zD).id sums (l.getD i zD)
theorem getD_lt {l : List Df} {i : Nat} (h : i < l.length) : l.getD i zD = l[i] := by simp [List.getD, h]
theorem need_at {n : Nat} {p : Pg} (hp : PgOk n p) (hn : n ≤ 1000) (hid : Ids p.defs) (s : Su) (sums : List Sy) (hs : sums.length < 2^40) (hr : s.rules.length < 2^30) {i : Nat} (hi : i < p.defs.length) :
    CallsA Tryz.prog 10 [encP p, encSu s, it p.defs[i].id, lst 11 encSy sums] ct0 (.agg (cN (nAt' p s sums p.defs i) ++ [it 0])) ct0 := by
  have h := need_ok p s p.defs[i].id sums (hp.fits hn) hs hr
  rw [needOf_at hp hn hid s sums hi] at h
  unfold nAt'; rw [getD_lt hi]; exact h
theorem neOk_at {n : Nat} {p : Pg} (hp : PgOk n p) (hn : n ≤ 1000) (hid : Ids p.defs) (s : Su) (sums : List Sy) (hr : s.rules.length < 2^30) (hs : ∀ x ∈ sums, x.pairs.length ≤ 9) {i : Nat} (hi : i < p.defs.length) : NeOk (nAt' p s sums p.defs i) := by
  have h := needOf_ok (p := p) (s := s) (sums := sums) p.defs[i].id (hp.fits hn) hr hs
  rw [needOf_at hp hn hid s sums hi] at h
  unfold nAt'; rw [getD_lt hi]; exact h
theorem addI_one (n : Int) : addI [n] n = [n] := by simp [addI]
theorem fold_stay (A : List Ne) (m : Ne) : ∀ l : List Ne, (∀ x ∈ l, newN A x = false ∨ x = m) → l.foldl (rpS A) [m.id] = [m.id]
  | [], _ => rfl
  | x :: l, h => by
    have e : rpS A [m.id] x = [m.id] := by
      unfold rpS
      split
      · next hn =>
        rcases h x (by simp) with h1 | h1
        · rw [h1] at hn; cases hn
        · rw [h1]; exact addI_one _
      · rfl
    rw [List.foldl_cons, e]
    exact fold_stay A m l (fun y hy => h y (by simp [hy]))
theorem fold_one (A : List Ne) (m : Ne) (hm : newN A m = true) : ∀ l : List Ne, (∀ x ∈ l, newN A x = false ∨ x = m) → m ∈ l → l.foldl (rpS A) [] = [m.id]
  | [], _, h => by simp at h
  | x :: l, h, hx => by
    rw [List.foldl_cons]
    by_cases e : newN A x = true
    · have e1 : x = m := (h x (by simp)).resolve_left (by rw [e]; simp)
      have e2 : rpS A [] x = [m.id] := by unfold rpS; rw [if_pos e, e1]; exact addI_nil _
      rw [e2]
      exact fold_stay A m l (fun y hy => h y (by simp [hy]))
    · have e2 : rpS A [] x = [] := by unfold rpS; rw [if_neg e]
      rw [e2]
      refine fold_one A m hm l (fun y hy => h y (by simp [hy])) ?_
      rcases List.mem_cons.1 hx with e3 | e3
      · rw [e3] at hm; exact absurd hm e
      · exact e3
theorem fold_none (A : List Ne) : ∀ l : List Ne, (∀ x ∈ l, newN A x = false) → l.foldl (rpS A) [] = []
  | [], _ => rfl
  | x :: l, h => by
    have e2 : rpS A [] x = [] := by unfold rpS; rw [if_neg (by rw [h x (by simp)]; simp)]
    rw [List.foldl_cons, e2]
    exact fold_none A l (fun y hy => h y (by simp [hy]))
theorem addI_end {l : List Int} {n : Int} (h : ∀ x ∈ l, x < n) : addI l n = l ++ [n] := by
  have e1 : ∀ l : List Int, (∀ x ∈ l, x < n) → (l.takeWhile fun x => decide (x < n)) = l := by
    intro l
    induction l with
    | nil => intro _; rfl
    | cons x l ih => intro h; rw [List.takeWhile_cons, if_pos (by simpa using h x (by simp)), ih fun y hy => h y (by simp [hy])]
  have e1 := e1 l h
  have e2 : (l.filter fun x => decide (x > n)) = [] := by
    apply List.filter_eq_nil_iff.2
    intro x hx; have := h x hx; simp; omega
  unfold addI; rw [e1, e2, List.append_nil]
theorem fold_all : ∀ (l : List Ne) (a : List Int), (∀ x ∈ a, ∀ y ∈ l, x < y.id) → (l.map (·.id)).Pairwise (· < ·) → (l.foldl (rpS []) a).length = a.length + l.length
  | [], a, _, _ => by simp
  | x :: l, a, h, hp => by
    have e : rpS [] a x = a ++ [x.id] := by
      have : newN [] x = true := rfl
      unfold rpS; rw [if_pos this]
      exact addI_end (fun y hy => h y hy x (by simp))
    rw [List.foldl_cons, e]
    rw [List.map_cons, List.pairwise_cons] at hp
    rw [fold_all l (a ++ [x.id]) (fun y hy z hz => ?_) hp.2]
    · simp; omega
    · rcases List.mem_append.1 hy with hy | hy
      · exact h y hy z (by simp [hz])
      · rw [List.mem_singleton.1 hy]
        exact hp.1 _ (List.mem_map.2 ⟨z, hz, rfl⟩)
section
variable {x : Cse} (okx : CseOk x)
theorem reop_facts {p : Pg} (hp : PgOk 0 p) (hid : Ids p.defs) (hinc : ((List.range p.defs.length).map fun i => (p.defs.getD i zD).id).Pairwise (· < ·)) (s : Su) (sums : List Sy) (hr : s.rules.length < 2^30) (hs : ∀ x ∈ sums, x.pairs.length ≤ 9) {k : Nat} (hk : k < p.defs.length) :
    let A := (List.range p.defs.length).map (nAt' p s sums p.defs)
    CallsA Tryz.prog 18 [lst 6 encN A, lst 6 encN A] ct0 (ints []) ct0 ∧ (∃ R : List Int, R.length = p.defs.length ∧ CallsA Tryz.prog 18 [lst 6 encN [], lst 6 encN A] ct0 (ints R) ct0) ∧
    ∀ d' : Df, d'.id = p.defs[k].id →
      ((mkNe p s d'.id sums d' ≠ mkNe p s p.defs[k].id sums p.defs[k]) → CallsA Tryz.prog 18 [lst 6 encN A, lst 6 encN ((List.range p.defs.length).map (nAt' p s sums (p.defs.set k d')))] ct0 (ints [p.defs[k].id]) ct0) ∧
      ((mkNe p s d'.id sums d' = mkNe p s p.defs[k].id sums p.defs[k]) → CallsA Tryz.prog 18 [lst 6 encN A, lst 6 encN ((List.range p.defs.length).map (nAt' p s sums (p.defs.set k d')))] ct0 (ints []) ct0) := by
  intro A
  have hnd := hp.nd
  have hA : ∀ y ∈ A, NeOk y := fun y hy => by
    obtain ⟨i, hi, rfl⟩ := List.mem_map.1 hy
    exact neOk_at hp (by omega) hid s sums hr hs (List.mem_range.1 hi)
  have hAl : A.length < 2^30 := by show ((List.range _).map _).length < _; rw [List.length_map, List.length_range]; omega
  have self : ∀ y ∈ A, newN A y = false := fun y hy => by
    unfold newN
    have : (A.any fun x => x == y) = true := List.any_eq_true.2 ⟨y, hy, beq_self_eq_true y⟩
    rw [this]; rfl
  refine ⟨?_, ?_, fun d' hd' => ?_⟩
  · have := dReopens_ok A A hA hAl hAl
    rw [reop_eq] at this
    have e : rreop A A = [] := fold_none A A self
    rwa [e] at this
  · have := dReopens_ok [] A (fun y hy => by simp at hy) (by simp) hAl
    rw [reop_eq] at this
    refine ⟨rreop [] A, ?_, this⟩
    have h := fold_all A [] (fun y hy => by simp at hy) (by
      have e : A.map (·.id) = (List.range p.defs.length).map fun i => (p.defs.getD i zD).id := by show ((List.range _).map _).map _ = _; rw [List.map_map]; rfl
      rw [e]; exact hinc)
    show (A.foldl (rpS []) []).length = _
    rw [h]; show 0 + ((List.range _).map _).length = _; rw [List.length_map, List.length_range]; omega
  · have hB : ∀ i, i < p.defs.length → i ≠ k → nAt' p s sums (p.defs.set k d') i = nAt' p s sums p.defs i := fun i hi hne => by
      unfold nAt'
      rw [getD_lt (by rw [List.length_set]; exact hi), getD_lt hi, List.getElem_set, if_neg (Ne.symm hne)]
    have hBk : nAt' p s sums (p.defs.set k d') k = mkNe p s d'.id sums d' := by
      unfold nAt'
      rw [getD_lt (by rw [List.length_set]; exact hk), List.getElem_set, if_pos rfl]
    have hAk : nAt' p s sums p.defs k = mkNe p s p.defs[k].id sums p.defs[k] := by unfold nAt'; rw [getD_lt hk]
    have hBl : ((List.range p.defs.length).map (nAt' p s sums (p.defs.set k d'))).length < 2^30 := by rw [List.length_map, List.length_range]; omega
    have hmem : ∀ i, i < p.defs.length → nAt' p s sums p.defs i ∈ A := fun i hi => List.mem_map.2 ⟨i, List.mem_range.2 hi, rfl⟩
    have hd := dReopens_ok A ((List.range p.defs.length).map (nAt' p s sums (p.defs.set k d'))) hA hAl hBl
    rw [reop_eq] at hd
    refine ⟨fun hne => ?_, fun heq => ?_⟩
    · have hnew : newN A (mkNe p s d'.id sums d') = true := by
        unfold newN
        have : (A.any fun x => x == mkNe p s d'.id sums d') = false := by
          rw [List.any_eq_false]
          intro y hy e
          have e := eq_of_beq e
          obtain ⟨i, hi, rfl⟩ := List.mem_map.1 hy
          have hi := List.mem_range.1 hi
          by_cases h : i = k
          · subst h; rw [hAk] at e; exact hne e.symm
          · have e1 := congrArg Ne.id e
            have e2 : (p.defs.getD i zD).id = d'.id := e1
            rw [getD_lt hi, hd'] at e2
            exact h (hid i hi k hk e2)
        rw [this]; rfl
      have e := fold_one A (mkNe p s d'.id sums d') hnew ((List.range p.defs.length).map (nAt' p s sums (p.defs.set k d'))) (fun y hy => by
        obtain ⟨i, hi, rfl⟩ := List.mem_map.1 hy
        have hi := List.mem_range.1 hi
        by_cases h : i = k
        · subst h; exact .inr hBk
        · rw [hB i hi h]; exact .inl (self _ (hmem i hi))) (List.mem_map.2 ⟨k, List.mem_range.2 hk, hBk⟩)
      have e2 : rreop A ((List.range p.defs.length).map (nAt' p s sums (p.defs.set k d'))) = [p.defs[k].id] := by
        show List.foldl _ _ _ = _
        rw [e]; show [d'.id] = _; rw [hd']
      rwa [e2] at hd
    · have e2 : rreop A ((List.range p.defs.length).map (nAt' p s sums (p.defs.set k d'))) = [] := fold_none A _ (fun y hy => by
        obtain ⟨i, hi, rfl⟩ := List.mem_map.1 hy
        have hi := List.mem_range.1 hi
        by_cases h : i = k
        · subst h; rw [hBk, heq, ← hAk]; exact self _ (hmem i hi)
        · rw [hB i hi h]; exact self _ (hmem i hi))
      rwa [e2] at hd
end
end Abs
namespace Abs
open Go Go.Proofs
set_option maxRecDepth 100000
set_option maxHeartbeats 4000000
theorem made_inc (L : List UInt8) : ((List.range (madeP L).defs.length).map fun i => ((madeP L).defs.getD i zD).id).Pairwise (· < ·) := by
  have e : ((List.range (madeP L).defs.length).map fun i => ((madeP L).defs.getD i zD).id) = (List.range (madeP L).defs.length).map fun i : Nat => 11 + (i : Int) := by
    apply List.map_congr_left
    intro i hi
    rw [getD_lt (List.mem_range.1 hi), madeP_id L (List.mem_range.1 hi)]
  rw [e, List.pairwise_map]
  exact List.pairwise_lt_range.imp (fun h => by omega)
theorem need_set {p : Pg} (hp : PgOk 0 p) (hid : Ids p.defs) (s : Su) (sums : List Sy) (hs : sums.length < 2^40) (hr : s.rules.length < 2^30) {k : Nat} (hk : k < p.defs.length) {d' : Df} {dd : Dat} (hdd : dd = encD d') {j : Int} (hj : j = (k : Int))
    (h1 : d'.id = p.defs[k].id) (h2 : headOf d' = headOf p.defs[k]) (hd : DfOk 1 d') {i : Nat} (hi : i < p.defs.length) :
    CallsA Tryz.prog 10 [.agg (cDc p.d ++ [lst 5 encH p.heads, .sl 12 ((p.defs.map encD).set j.toNat dd) false, ints p.threads]), encSu s, it p.defs[i].id, lst 11 encSy sums] ct0 (.agg (cN (nAt' p s sums (p.defs.set k d') i) ++ [it 0])) ct0 := by
  have h := need_at (set_pg hp hk h2 hd) (by omega) (set_Ids hid hk h1) s sums hs hr (i := i) (by show i < (p.defs.set k d').length; rw [List.length_set]; exact hi)
  have e1 : ((p.ds (p.defs.set k d')).defs[i]'(by show i < (p.defs.set k d').length; rw [List.length_set]; exact hi)).id = p.defs[i].id := set_id hk h1 i hi
  rw [e1] at h
  rw [hj, show ((k : Nat) : Int).toNat = k from rfl, hdd, set_defs]
  exact h
theorem newR_w : (wS newR).length = 20 := by
  have := wSB 9999 6 0 0 0 zE zE zC [] []
  rw [wZE, wZC, W_nil] at this
  exact this
theorem law3X (x : Cse) (hxk : 0 ≤ x.k ∧ x.k < 256) (kind : Int) (hk0 : 0 ≤ kind ∧ kind < 256) (P : Pg) (S : Su) (sums : List Sy) (kk : Nat) (hk : kk < P.defs.length) (hk3 : x.k.tmod ((P.defs.map encD).length : Nat) = (kk : Int))
    (hp : PgOk 0 P) (hid : Ids P.defs) (hinc : ((List.range P.defs.length).map fun i => (P.defs.getD i zD).id).Pairwise (· < ·)) (hb : 0 ≤ P.defs[kk].budget ∧ P.defs[kk].budget ≤ 2000)
    (hr' : S.rules.length < 2^30) (hsl : sums.length < 2^40) (hsm : ∀ y ∈ sums, y.pairs.length ≤ 9)
    (c8 : CallsA Tryz.prog 8 [encCase x] ct0 (.tup [encP P, it P.defs[kk].id, encSu S, lst 11 encSy sums]) ct0) : CallsA Tryz.prog 5 [encCase x, u8 kind] ct0 (bo true) ct0 := by
  have hx := List.getElem?_eq_getElem hk
  have hD := hp.ok _ (List.getElem_mem hk)
  have hDu := hD.up
  have hnd := hp.nd
  have hsz := hD.sz
  have hbl := len_le_sz P.defs[kk].body
  obtain ⟨r2, ⟨R, hR, r3⟩, rf⟩ := reop_facts hp hid hinc S sums hr' hsm hk
  have a1 := fun i (hi : i < P.defs.length) => need_at hp (by omega) hid S sums hsl hr' hi
  have k3 := tm_bd hk0.1 3 (by omega)
  have fw := fun (d' : Df) (dd : Dat) (hdd : dd = encD d') (h1 : d'.id = P.defs[kk].id) (h2 : headOf d' = headOf P.defs[kk]) (hd : DfOk 1 d') i (hi : i < P.defs.length) => need_set hp hid S sums hsl hr' hk hdd hk3 h1 h2 hd hi
  generalize hDD : P.defs[kk] = D at *
  rcases (show kind.tmod 3 = 0 ∨ kind.tmod 3 = 1 ∨ kind.tmod 3 = 2 by omega) with h3 | h3 | h3
  · have hne : mkNe P S (D.bud (D.budget + 1)).id sums (D.bud (D.budget + 1)) ≠ mkNe P S D.id sums D := fun e => bytes_bud D (congrArg Ne.body e)
    exact f5_0 x hxk kind h3 P S sums kk D hx hk3 (by omega) (by omega) (by omega) (nAt' P S sums P.defs) (nAt' P S sums (P.defs.set kk (D.bud (D.budget + 1)))) R c8 a1
      (fw (D.bud (D.budget + 1)) _ rfl rfl rfl ⟨hDu.id, hDu.np, hDu.na, hDu.w, hDu.nm⟩) ((rf (D.bud (D.budget + 1)) rfl).1 hne) r2 r3 hR
  · have hne : mkNe P S (D.bdy (D.body ++ [newR])).id sums (D.bdy (D.body ++ [newR])) ≠ mkNe P S D.id sums D := fun e => bytes_bdy D newR (congrArg Ne.body e)
    have hw : W (D.body ++ [newR]) ≤ 40000 + 30 * 1 := by
      have := hD.w
      rw [W_app, W_cons, W_nil, newR_w]; omega
    exact f5_1 x hxk kind h3 P S sums kk D hx hk3 (by omega) (by omega) (by omega) (nAt' P S sums P.defs) (nAt' P S sums (P.defs.set kk (D.bdy (D.body ++ [newR])))) R c8 a1
      (fw (D.bdy (D.body ++ [newR])) _ (bdyD_eq D) rfl rfl ⟨hDu.id, hDu.np, hDu.na, hw, hDu.nm⟩) ((rf (D.bdy (D.body ++ [newR])) rfl).1 hne) r2 r3 hR
  · have heq : mkNe P S (D.nm otherN).id sums (D.nm otherN) = mkNe P S D.id sums D := rfl
    exact f5_2 x hxk kind h3 P S sums kk D hx hk3 (by omega) (by omega) (by omega) (nAt' P S sums P.defs) (nAt' P S sums (P.defs.set kk (D.nm otherN))) R c8 a1
      (fw (D.nm otherN) _ rfl rfl rfl ⟨hDu.id, hDu.np, hDu.na, hDu.w, (show 5 ≤ 100 by omega)⟩) ((rf (D.nm otherN) rfl).2 heq) r2 r3 hR
theorem law3 (xs : List Dat) (h : TyEach [caseS, .int .u8] xs) : CallsA Tryz.prog 5 xs ⟨[], []⟩ (.bool true) ⟨[], []⟩ := by
  obtain ⟨l1, _, rfl, h1, h⟩ := tyE_cons h
  obtain ⟨l2, _, rfl, h2, h⟩ := tyE_cons h
  have := tyE_nil h
  subst this
  obtain ⟨x, ex, okx⟩ := case_of h1
  obtain ⟨kind, rfl, hk0⟩ := ty_u8 h2
  rw [ex]
  have hk := kC_lt okx
  have hp := madeP_ok x.b
  have hr := rulesC_len x
  have c8 := madeC_ok x okx
  have eid : idC x = ((madeP x.b).defs[kC x]'hk.1).id := by unfold idC; rw [getD_lt hk.1]
  rw [eid] at c8
  exact law3X x okx.k kind hk0 (madeP x.b) (setupC x) (sumsP (madeP x.b) x.s) (kC x) hk.1 (by rw [List.length_map]; exact hk.2) hp (madeP_Ids x.b) (made_inc x.b) (madeP_bud x.b _ (List.getElem_mem hk.1))
    (by show (rulesC x).length < _; omega) (by rw [sumsP_len]; have := (hp.fits (by omega)).nheads; omega) (sumsP_mem hp okx.s) c8
end Abs
namespace Abs
open Go Go.Proofs
set_option maxRecDepth 100000
set_option maxHeartbeats 4000000
def CLs (ids : List Int) (l : List Sm) : Prop := ∀ s ∈ fL l, (s.op == 13) = true → s.m ∈ ids
theorem CLs_nil (ids : List Int) : CLs ids [] := fun s h => by simp [fL] at h
theorem CLs_app {ids : List Int} {a b : List Sm} (h : CLs ids a) (k : CLs ids b) : CLs ids (a ++ b) := fun s hs => by
  rw [fL_fm, List.flatMap_append, ← fL_fm, ← fL_fm] at hs
  rcases List.mem_append.1 hs with hs | hs
  · exact h s hs
  · exact k s hs
theorem CLs_cons {ids : List Int} {s : Sm} {l : List Sm} (h : (s.op == 13) = true → s.m ∈ ids) (h1 : CLs ids s.body) (h2 : CLs ids s.els) (k : CLs ids l) : CLs ids (s :: l) := fun x hx => by
  rw [fL_fm, List.flatMap_cons, ← fL_fm] at hx
  rcases List.mem_append.1 hx with hx | hx
  · rw [fS_eq] at hx
    rcases List.mem_cons.1 hx with rfl | hx
    · exact h
    · rcases List.mem_append.1 hx with hx | hx
      · exact h1 x hx
      · exact h2 x hx
  · exact k x hx
theorem CLs_S0 {ids : List Int} {l : List Sm} (site op n m v : Int) (x y : Ex) (c : Co) (h : op ≠ 13) (k : CLs ids l) : CLs ids (S0 site op n m v x y c :: l) :=
  CLs_cons (fun e => absurd (eq_of_beq e) h) (CLs_nil _) (CLs_nil _) k
theorem Mk.simple_co (m : Mk) (ids : List Int) (a s : Nat) : CLs ids (m.simple a s).1 := by
  unfold Mk.simple
  repeat' split
  all_goals (repeat (first | exact CLs_nil _ | refine CLs_S0 _ _ _ _ _ _ _ _ (by decide) ?_))
theorem Mk.risky_co (m : Mk) (ids : List Int) (a s : Nat) : CLs ids [(m.risky a s).1] := by
  have h2 := m.nx_bd (a+1) (n := 2) (by omega)
  have key : (fun z : Sm × Nat × Nat => CLs ids [z.1]) (m.risky a s) := by
    unfold Mk.risky
    repeat' refine ite_p (P := fun z : Sm × Nat × Nat => CLs ids [z.1]) ?_ ?_
    all_goals exact CLs_S0 _ _ _ _ _ _ _ _ (by omega) (CLs_nil _)
  exact key
theorem Mk.hd_in (m : Mk) (a : Nat) (h : m.heads.length ≠ 0) : m.hd a ∈ m.heads := by
  have e : m.nH = (m.heads.length : Nat) := by simp [Mk.nH]
  have hb := m.nx_bd a (n := m.nH) (by rw [e]; omega)
  rw [e] at hb
  unfold Mk.hd
  rw [e, List.getD_eq_getElem?_getD, List.getElem?_eq_getElem (show (m.nx a (m.heads.length : Nat)).toNat < m.heads.length by omega)]
  exact List.getElem_mem _
theorem Mk.call_co (m : Mk) (a s d : Nat) : CLs (m.heads.map (·.id)) [(m.call a s d).1] := by
  unfold Mk.call
  split
  · exact CLs_S0 _ _ _ _ _ _ _ _ (by decide) (CLs_nil _)
  · next h =>
    exact CLs_cons (fun _ => List.mem_map.2 ⟨_, m.hd_in (a+1) (fun e => h (.inl e)), rfl⟩) (CLs_nil _) (CLs_nil _) (CLs_nil _)
theorem Mk.other_co (m : Mk) (k : Int) (dep : Nat) (x : Ms) : CLs (m.heads.map (·.id)) (m.other k dep x).1 := by
  unfold Mk.other
  repeat' split
  · exact m.call_co x.a x.s x.d
  · exact CLs_S0 _ _ _ _ _ _ _ _ (by decide) (CLs_nil _)
  · exact CLs_S0 _ _ _ _ _ _ _ _ (by decide) (CLs_nil _)
  · exact m.simple_co _ x.a x.s
  · exact m.risky_co _ x.a x.s
theorem Mk.nested_co (m : Mk) (ids : List Int) (R : Nat → Ms → List Sm × Ms) (hR : ∀ n x, CLs ids (R n x).1) (k : Int) (x : Ms) : CLs ids [(m.nested R k x).1] := by
  unfold Mk.nested
  split
  · exact CLs_cons (fun e => by cases e) (hR _ _) (CLs_nil _) (CLs_nil _)
  split
  · exact CLs_cons (fun e => by cases e) (hR _ _) (hR _ _) (CLs_nil _)
  · exact CLs_cons (fun e => by cases e) (hR _ _) (hR _ _) (CLs_nil _)
theorem runS_co (ids : List Int) (step : Ms → List Sm × Ms) (h : ∀ x, CLs ids (step x).1) : ∀ n x, CLs ids (runS step n x).1
  | 0, x => CLs_nil _
  | n + 1, x => by
    rw [runS]
    split
    · exact CLs_nil _
    · exact CLs_app (h x) (runS_co ids step h n (step x).2)
theorem Mk.step_co (m : Mk) (dep : Nat) (R : Nat → Ms → List Sm × Ms) (hR : ∀ n x, CLs (m.heads.map (·.id)) (R n x).1) (x : Ms) : CLs (m.heads.map (·.id)) (m.step dep R x).1 := by
  unfold Mk.step
  split
  · exact m.nested_co _ R hR _ _
  · exact m.other_co _ _ _
theorem Mk.stmts_co (m : Mk) : ∀ dep n x, CLs (m.heads.map (·.id)) (m.stmts dep n x).1
  | 0, n, x => by rw [Mk.stmts]; exact runS_co _ _ (fun y => m.step_co 0 _ (fun _ _ => CLs_nil _) y) n x
  | dep + 1, n, x => by rw [Mk.stmts]; exact runS_co _ _ (fun y => m.step_co (dep+1) _ (fun n x => m.stmts_co dep n x) y) n x
theorem mdRun_co (L : List UInt8) (n : Nat) : ∀ i, ∀ d ∈ (mdRun L n i).defs, CLs ((mdRun L n i).heads.map (·.id)) d.body
  | 0 => fun d hd => by simp [mdRun] at hd
  | i + 1 => fun d hd => by
    have up : ∀ b, CLs ((mdRun L n i).heads.map (·.id)) b → CLs ((mdRun L n (i+1)).heads.map (·.id)) b := fun b hb s hs e => by
      have := hb s hs e
      show s.m ∈ ((mdRun L n i).heads ++ [_]).map _
      rw [List.map_append]; exact List.mem_append.2 (.inl this)
    rcases List.mem_append.1 hd with hx | hx
    · exact up _ (mdRun_co L n i d hx)
    · refine up _ ?_
      rw [List.mem_singleton.1 hx]
      exact Mk.stmts_co _ 2 _ _
theorem madeP_calls (L : List UInt8) : ∀ d ∈ (madeP L).defs, ∀ c ∈ rcalls d.body, c ∈ (madeP L).heads.map (·.id) := by
  obtain ⟨n, hn⟩ : ∃ n, n = (1 + (⟨L, declD, [], [], [], zD, false⟩ : Mk).nx 0 4).toNat := ⟨_, rfl⟩
  have e : madeP L = ⟨declD, (mdRun L n n).heads, (mdRun L n n).defs, if ((mdRun L n n).mk' L).nx (mdRun L n n).a 3 == 0 then (thRun (mdRun L n n).defs n []).take 1 else thRun (mdRun L n n).defs n []⟩ := by rw [hn]; rfl
  rw [e]
  intro d hd c hc
  have := (rcS_SI (fL d.body) (a := []) List.Pairwise.nil).2 c
  rcases this.1 hc with h | ⟨s, hs, h1, h2⟩
  · simp at h
  · rw [← h2]; exact mdRun_co L n n d hd s hs h1
theorem fnd_has {α : Type} {p : α → Bool} {z : α} : ∀ {l : List α}, (∃ x ∈ l, p x = true) → (fnd p z l).2 = true
  | [], h => by obtain ⟨x, hx, _⟩ := h; simp at hx
  | y :: l, h => by
    rw [fnd]
    split
    · rfl
    · next hn =>
      obtain ⟨x, hx, hp⟩ := h
      rcases List.mem_cons.1 hx with rfl | hx
      · exact absurd hp hn
      · exact fnd_has ⟨x, hx, hp⟩
def bump (s : Sy) : Sy := ⟨s.id, s.rlo, s.rhi, s.rm, s.rr, s.rmask, s.throws, s.locks, s.loads, s.pairs, IntKind.i64.wrap (s.cost + 1)⟩
theorem fnd_bump (c : Int) : ∀ l : List Sy, (fnd (fun x : Sy => x.id == c) zSy l).2 = true → fnd (fun x : Sy => x.id == c) zSy (l.map bump) = (bump (fnd (fun x : Sy => x.id == c) zSy l).1, true)
  | [], h => by cases h
  | x :: l, h => by
    rw [List.map_cons, fnd]
    rw [fnd] at h ⊢
    have e : (bump x).id = x.id := rfl
    rw [e]
    by_cases hx : (x.id == c) = true
    · simp only [hx, if_true]
    · simp only [hx] at h ⊢
      exact fnd_bump c l h
theorem bump_ne (s : Sy) : bump s ≠ s := by
  intro e
  have h := congrArg Sy.cost e
  have h2 : IntKind.i64.wrap (s.cost + 1) = s.cost := h
  simp [IntKind.wrap, IntKind.bits, IntKind.signed] at h2
  omega
end Abs
namespace Abs
open Go Go.Proofs
set_option maxRecDepth 100000
set_option maxHeartbeats 4000000
def newRu : Ru := ⟨99, 1, 0, 4, 0, 0, 0, 0, -9, 9⟩
theorem map_bump {l : List Sy} {k : Nat} (h : k < l.length) : (((l.take k).map bump ++ l.drop k).map encSy).set k (encSy (bump l[k])) = ((l.take (k+1)).map bump ++ l.drop (k+1)).map encSy := by
  rw [List.drop_eq_getElem_cons h, List.map_append, List.map_append, List.map_cons, List.set_append_right _ _ (by simp [List.length_take]; omega)]
  simp only [List.length_map, List.length_take, Nat.min_eq_left (Nat.le_of_lt h), Nat.sub_self, List.set_cons_zero]
  rw [take_one h, List.map_append, List.map_append]
  simp
theorem nth_bump {l : List Sy} {k : Nat} (h : k < l.length) : nth (((l.take k).map bump ++ l.drop k).map encSy) k = some (encSy l[k]) := by
  rw [nth_eq, List.getElem?_map, List.getElem?_append_right (by simp [List.length_take]; omega)]
  simp [List.length_take, Nat.min_eq_left (Nat.le_of_lt h), h]
theorem f4_0 (x : Cse) (hxk : 0 ≤ x.k ∧ x.k < 256) (kind : Int) (h5 : kind.tmod 5 = 0) (P : Pg) (S : Su) (sums : List Sy) (kk : Nat) (D : Df) (hx : P.defs[kk]? = some D) (hk3 : x.k.tmod ((P.defs.map encD).length : Nat) = (kk : Int))
    (hP : P.defs.length < 2^20) (hbu : 0 ≤ D.budget ∧ D.budget < 2^40) (hbl : D.body.length < 2^30) (hlv : 0 ≤ S.level ∧ S.level < 3) (hsl : sums.length < 2^20) (hrl : S.rules.length < 2^20) (hca : (rcalls D.body).length < 2^30) (hop : (rops D.body).length < 2^30) (N M : Ne)
    (c8 : CallsA Tryz.prog 8 [encCase x] ct0 (.tup [encP P, it D.id, encSu S, lst 11 encSy sums]) ct0)
    (c20 : CallsA Tryz.prog 20 [encD D] ct0 (ints (rcalls D.body)) ct0) (c14 : CallsA Tryz.prog 14 [encD D] ct0 (ints (rops D.body)) ct0)
    (a1 : CallsA Tryz.prog 10 [encP P, encSu S, it D.id, lst 11 encSy sums] ct0 (.agg (cN N ++ [it 0])) ct0)
    (a2 : CallsA Tryz.prog 10 [.agg (cDc P.d ++ [lst 5 encH P.heads, .sl 12 ((P.defs.map encD).set (x.k.tmod ((P.defs.map encD).length : Nat)).toNat (encD (D.bud (D.budget + 1)))) false, ints P.threads]), encSu S, it D.id, lst 11 encSy sums] ct0 (.agg (cN M ++ [it 0])) ct0)
    (s1 : CallsA Tryz.prog 16 [encN N, encN M] ct0 (bo (!(true))) ct0) :
    CallsA Tryz.prog 4 [encCase x, u8 kind] ct0 (bo true) ct0 := by
  have q0 : (kind.tmod 5 == 0) = true := by rw [h5]; rfl
  have q1 : (kind.tmod 5 == 1) = false := by rw [h5]; rfl
  have q2 : (kind.tmod 5 == 2) = false := by rw [h5]; rfl
  have q3 : (kind.tmod 5 == 3) = false := by rw [h5]; rfl
  have c7 := examples_ok
  have hkk : kk < P.defs.length := (List.getElem?_eq_some_iff.1 hx).1
  have hdl : (P.defs.map encD).length = P.defs.length := List.length_map ..
  have hsm : (sums.map encSy).length = sums.length := List.length_map ..
  have hrm : (S.rules.map encRu).length = S.rules.length := List.length_map ..
  refine fn_ok hm Tryz.func4 (fun _ => false) [] (fun _ => []) (by kernel_rfl) ?_
  refine run ?_; repeat ((apply call_ok; first | exact (c7) | exact (c8)); refine run ?_)
  refine Idx.mapG kk D hk3 hx rfl ?_
  refine run ?_; repeat ((apply call_ok; first | exact (c20) | exact (c14)); refine run ?_)
  refine Idx.mapG kk D hk3 hx rfl ?_
  refine run ?_
  refine Idx.mapG kk D hk3 hx rfl ?_
  refine run ?_; repeat ((apply call_ok; first | exact (a1) | exact (a2) | exact (s1)); refine run ?_)
  exact Done.mk rfl rfl
theorem f4_1 (x : Cse) (hxk : 0 ≤ x.k ∧ x.k < 256) (kind : Int) (h5 : kind.tmod 5 = 1) (P : Pg) (S : Su) (sums : List Sy) (kk : Nat) (D : Df) (hx : P.defs[kk]? = some D) (hk3 : x.k.tmod ((P.defs.map encD).length : Nat) = (kk : Int))
    (hP : P.defs.length < 2^20) (hbu : 0 ≤ D.budget ∧ D.budget < 2^40) (hbl : D.body.length < 2^30) (hlv : 0 ≤ S.level ∧ S.level < 3) (hsl : sums.length < 2^20) (hrl : S.rules.length < 2^20) (hca : (rcalls D.body).length < 2^30) (hop : (rops D.body).length < 2^30) (N M : Ne)
    (c8 : CallsA Tryz.prog 8 [encCase x] ct0 (.tup [encP P, it D.id, encSu S, lst 11 encSy sums]) ct0)
    (c20 : CallsA Tryz.prog 20 [encD D] ct0 (ints (rcalls D.body)) ct0) (c14 : CallsA Tryz.prog 14 [encD D] ct0 (ints (rops D.body)) ct0)
    (a1 : CallsA Tryz.prog 10 [encP P, encSu S, it D.id, lst 11 encSy sums] ct0 (.agg (cN N ++ [it 0])) ct0)
    (a2 : CallsA Tryz.prog 10 [.agg (cDc P.d ++ [lst 5 encH P.heads, .sl 12 ((P.defs.map encD).set (x.k.tmod ((P.defs.map encD).length : Nat)).toNat (bdyD D)) false, ints P.threads]), encSu S, it D.id, lst 11 encSy sums] ct0 (.agg (cN M ++ [it 0])) ct0)
    (s1 : CallsA Tryz.prog 16 [encN N, encN M] ct0 (bo (!(true))) ct0) :
    CallsA Tryz.prog 4 [encCase x, u8 kind] ct0 (bo true) ct0 := by
  have q0 : (kind.tmod 5 == 0) = false := by rw [h5]; rfl
  have q1 : (kind.tmod 5 == 1) = true := by rw [h5]; rfl
  have q2 : (kind.tmod 5 == 2) = false := by rw [h5]; rfl
  have q3 : (kind.tmod 5 == 3) = false := by rw [h5]; rfl
  have c7 := examples_ok
  have hkk : kk < P.defs.length := (List.getElem?_eq_some_iff.1 hx).1
  have hdl : (P.defs.map encD).length = P.defs.length := List.length_map ..
  have hsm : (sums.map encSy).length = sums.length := List.length_map ..
  have hrm : (S.rules.map encRu).length = S.rules.length := List.length_map ..
  refine fn_ok hm Tryz.func4 (fun _ => false) [] (fun _ => []) (by kernel_rfl) ?_
  refine run ?_; repeat ((apply call_ok; first | exact (c7) | exact (c8)); refine run ?_)
  refine Idx.mapG kk D hk3 hx rfl ?_
  refine run ?_; repeat ((apply call_ok; first | exact (c20) | exact (c14)); refine run ?_)
  refine Idx.mapG kk D hk3 hx rfl ?_
  refine run ?_
  refine Idx.mapG kk D hk3 hx rfl ?_
  refine run ?_; repeat ((apply call_ok; first | exact (a1) | exact (a2) | exact (s1)); refine run ?_)
  exact Done.mk rfl rfl
theorem f4_2 (x : Cse) (hxk : 0 ≤ x.k ∧ x.k < 256) (kind : Int) (h5 : kind.tmod 5 = 2) (P : Pg) (S : Su) (sums : List Sy) (kk : Nat) (D : Df) (hx : P.defs[kk]? = some D) (hk3 : x.k.tmod ((P.defs.map encD).length : Nat) = (kk : Int))
    (hP : P.defs.length < 2^20) (hbu : 0 ≤ D.budget ∧ D.budget < 2^40) (hbl : D.body.length < 2^30) (hlv : 0 ≤ S.level ∧ S.level < 3) (hsl : sums.length < 2^20) (hrl : S.rules.length < 2^20) (hca : (rcalls D.body).length < 2^30) (hop : (rops D.body).length < 2^30) (N M : Ne)
    (c8 : CallsA Tryz.prog 8 [encCase x] ct0 (.tup [encP P, it D.id, encSu S, lst 11 encSy sums]) ct0)
    (c20 : CallsA Tryz.prog 20 [encD D] ct0 (ints (rcalls D.body)) ct0) (c14 : CallsA Tryz.prog 14 [encD D] ct0 (ints (rops D.body)) ct0)
    (a1 : CallsA Tryz.prog 10 [encP P, encSu S, it D.id, lst 11 encSy sums] ct0 (.agg (cN N ++ [it 0])) ct0)
    (a2 : CallsA Tryz.prog 10 [.agg (cDc P.d ++ [lst 5 encH P.heads, .sl 12 ((P.defs.map encD).set (x.k.tmod ((P.defs.map encD).length : Nat)).toNat (encD D)) false, ints P.threads]), encSu ⟨(S.level + 1).tmod 3, S.rules⟩, it D.id, lst 11 encSy sums] ct0 (.agg (cN M ++ [it 0])) ct0)
    (s1 : CallsA Tryz.prog 16 [encN N, encN M] ct0 (bo (!(true))) ct0) :
    CallsA Tryz.prog 4 [encCase x, u8 kind] ct0 (bo true) ct0 := by
  have q0 : (kind.tmod 5 == 0) = false := by rw [h5]; rfl
  have q1 : (kind.tmod 5 == 1) = false := by rw [h5]; rfl
  have q2 : (kind.tmod 5 == 2) = true := by rw [h5]; rfl
  have q3 : (kind.tmod 5 == 3) = false := by rw [h5]; rfl
  have c7 := examples_ok
  have hkk : kk < P.defs.length := (List.getElem?_eq_some_iff.1 hx).1
  have hdl : (P.defs.map encD).length = P.defs.length := List.length_map ..
  have hsm : (sums.map encSy).length = sums.length := List.length_map ..
  have hrm : (S.rules.map encRu).length = S.rules.length := List.length_map ..
  refine fn_ok hm Tryz.func4 (fun _ => false) [] (fun _ => []) (by kernel_rfl) ?_
  refine run ?_; repeat ((apply call_ok; first | exact (c7) | exact (c8)); refine run ?_)
  refine Idx.mapG kk D hk3 hx rfl ?_
  refine run ?_; repeat ((apply call_ok; first | exact (c20) | exact (c14)); refine run ?_)
  refine Idx.mapG kk D hk3 hx rfl ?_
  refine run ?_
  refine Idx.mapG kk D hk3 hx rfl ?_
  refine run ?_; repeat ((apply call_ok; first | exact (a1) | exact (a2) | exact (s1)); refine run ?_)
  exact Done.mk rfl rfl
theorem f4_3 (x : Cse) (hxk : 0 ≤ x.k ∧ x.k < 256) (kind : Int) (h5 : kind.tmod 5 = 3) (P : Pg) (S : Su) (sums : List Sy) (kk : Nat) (D : Df) (hx : P.defs[kk]? = some D) (hk3 : x.k.tmod ((P.defs.map encD).length : Nat) = (kk : Int))
    (hP : P.defs.length < 2^20) (hbu : 0 ≤ D.budget ∧ D.budget < 2^40) (hbl : D.body.length < 2^30) (hlv : 0 ≤ S.level ∧ S.level < 3) (hsl : sums.length < 2^20) (hrl : S.rules.length < 2^20) (hca : (rcalls D.body).length < 2^30) (hop : (rops D.body).length < 2^30) (N M : Ne)
    (c8 : CallsA Tryz.prog 8 [encCase x] ct0 (.tup [encP P, it D.id, encSu S, lst 11 encSy sums]) ct0)
    (c20 : CallsA Tryz.prog 20 [encD D] ct0 (ints (rcalls D.body)) ct0) (c14 : CallsA Tryz.prog 14 [encD D] ct0 (ints (rops D.body)) ct0)
    (a1 : CallsA Tryz.prog 10 [encP P, encSu S, it D.id, lst 11 encSy sums] ct0 (.agg (cN N ++ [it 0])) ct0)
    (a2 : CallsA Tryz.prog 10 [.agg (cDc P.d ++ [lst 5 encH P.heads, .sl 12 ((P.defs.map encD).set (x.k.tmod ((P.defs.map encD).length : Nat)).toNat (encD D)) false, ints P.threads]), encSu S, it D.id, lst 11 encSy (sums.map bump)] ct0 (.agg (cN M ++ [it 0])) ct0)
    (s1 : CallsA Tryz.prog 16 [encN N, encN M] ct0 (bo (!(decide (0 < (rcalls D.body).length)))) ct0) :
    CallsA Tryz.prog 4 [encCase x, u8 kind] ct0 (bo true) ct0 := by
  have q0 : (kind.tmod 5 == 0) = false := by rw [h5]; rfl
  have q1 : (kind.tmod 5 == 1) = false := by rw [h5]; rfl
  have q2 : (kind.tmod 5 == 2) = false := by rw [h5]; rfl
  have q3 : (kind.tmod 5 == 3) = true := by rw [h5]; rfl
  have c7 := examples_ok
  have hkk : kk < P.defs.length := (List.getElem?_eq_some_iff.1 hx).1
  have hdl : (P.defs.map encD).length = P.defs.length := List.length_map ..
  have hsm : (sums.map encSy).length = sums.length := List.length_map ..
  have hrm : (S.rules.map encRu).length = S.rules.length := List.length_map ..
  have hch : decide ((((rcalls D.body).map it).length : Int) > 0) = decide (0 < (rcalls D.body).length) := by rw [List.length_map]; exact decide_eq_decide.2 (by omega)
  have e1 : ((!(decide (0 < (rcalls D.body).length))) == !(decide ((((rcalls D.body).map it).length : Int) > 0))) = true := by rw [hch]; exact beq_self_eq_true _
  refine fn_ok hm Tryz.func4 (fun _ => false) [] (fun _ => []) (by kernel_rfl) ?_
  refine run ?_; repeat ((apply call_ok; first | exact (c7) | exact (c8)); refine run ?_)
  refine Idx.mapG kk D hk3 hx rfl ?_
  refine run ?_; repeat ((apply call_ok; first | exact (c20) | exact (c14)); refine run ?_)
  refine LoopS.mk ⟨[], HeadS.lp (fun k : Nat => k ≤ sums.length) (fun k => ⟨[(18, it k)], [], [(34, ⟨11, true, ((sums.take k).map bump ++ sums.drop k).map encSy⟩)]⟩) (fun k => sums.length - k) 0 (Nat.zero_le _) ?_⟩
  intro k hk
  have hll : (((sums.take k).map bump ++ sums.drop k).map encSy).length = sums.length := by simp [List.length_take]; omega
  by_cases hk : k < sums.length
  · have d1 : decide ((k : Int) < ((sums.map encSy).length : Nat)) = true := decide_eq_true (by rw [List.length_map]; omega)
    have hn := nth_bump hk
    have hn0 : ([] ++ sums.map encSy).length = (((sums.take k).map bump ++ sums.drop k).map encSy).length := by rw [hll]; simp
    have hM := map_bump hk
    refine run ?_
    refine Idx.at hn0 (by omega) hn ?_
    refine run ?_
    refine Idx.at hn0 (by omega) hn ?_
    refine run ?_
    refine Arith.mk ?_
    refine run ?_
    refine Idx.at hn0 (by omega) hn ?_
    refine run ?_
    refine Idx.at hn0 (by omega) hn ?_
    refine run ?_
    refine ⟨⟨k + 1, hk⟩, Nat.sub_lt_sub_left hk (Nat.lt_succ_self _), ?_⟩
    repeat' (first | exact trivial | exact rfl | exact congrArg (fun l => some (⟨11, true, l⟩ : Row)) hM | refine ⟨?_, ?_⟩ | refine ⟨?_, ?_, ?_⟩)
  have d1 : decide ((k : Int) < ((sums.map encSy).length : Nat)) = false := decide_eq_false (by rw [List.length_map]; omega)
  have hE : ((sums.take k).map bump ++ sums.drop k).map encSy = (sums.map bump).map encSy := by rw [List.take_of_length_le (by omega), List.drop_eq_nil_of_le (by omega), List.append_nil]
  unfold lst at a2
  rw [← hE] at a2
  refine run ?_
  refine Idx.mapG kk D hk3 hx rfl ?_
  refine run ?_
  refine Idx.mapG kk D hk3 hx rfl ?_
  refine run ?_; repeat ((apply call_ok; first | exact (a1) | exact (a2) | exact (s1)); refine run ?_)
  exact Done.mk rfl rfl
theorem f4_4 (x : Cse) (hxk : 0 ≤ x.k ∧ x.k < 256) (kind : Int) (h5 : kind.tmod 5 = 4) (P : Pg) (S : Su) (sums : List Sy) (kk : Nat) (D : Df) (hx : P.defs[kk]? = some D) (hk3 : x.k.tmod ((P.defs.map encD).length : Nat) = (kk : Int))
    (hP : P.defs.length < 2^20) (hbu : 0 ≤ D.budget ∧ D.budget < 2^40) (hbl : D.body.length < 2^30) (hlv : 0 ≤ S.level ∧ S.level < 3) (hsl : sums.length < 2^20) (hrl : S.rules.length < 2^20) (hca : (rcalls D.body).length < 2^30) (hop : (rops D.body).length < 2^30) (N M : Ne)
    (c8 : CallsA Tryz.prog 8 [encCase x] ct0 (.tup [encP P, it D.id, encSu S, lst 11 encSy sums]) ct0)
    (c20 : CallsA Tryz.prog 20 [encD D] ct0 (ints (rcalls D.body)) ct0) (c14 : CallsA Tryz.prog 14 [encD D] ct0 (ints (rops D.body)) ct0)
    (a1 : CallsA Tryz.prog 10 [encP P, encSu S, it D.id, lst 11 encSy sums] ct0 (.agg (cN N ++ [it 0])) ct0)
    (a2 : CallsA Tryz.prog 10 [.agg (cDc P.d ++ [lst 5 encH P.heads, .sl 12 ((P.defs.map encD).set (x.k.tmod ((P.defs.map encD).length : Nat)).toNat (encD D)) false, ints P.threads]), .agg [it S.level, .sl 10 (S.rules.map encRu ++ [encRu newRu]) false], it D.id, lst 11 encSy sums] ct0 (.agg (cN M ++ [it 0])) ct0)
    (s1 : CallsA Tryz.prog 16 [encN N, encN M] ct0 (bo (!(hasI (rops D.body) 4))) ct0) :
    CallsA Tryz.prog 4 [encCase x, u8 kind] ct0 (bo true) ct0 := by
  have q0 : (kind.tmod 5 == 0) = false := by rw [h5]; rfl
  have q1 : (kind.tmod 5 == 1) = false := by rw [h5]; rfl
  have q2 : (kind.tmod 5 == 2) = false := by rw [h5]; rfl
  have q3 : (kind.tmod 5 == 3) = false := by rw [h5]; rfl
  have c7 := examples_ok
  have hkk : kk < P.defs.length := (List.getElem?_eq_some_iff.1 hx).1
  have hdl : (P.defs.map encD).length = P.defs.length := List.length_map ..
  have hsm : (sums.map encSy).length = sums.length := List.length_map ..
  have hrm : (S.rules.map encRu).length = S.rules.length := List.length_map ..
  have c21 : CallsA Tryz.prog 21 [ints (rops D.body), it 4] ct0 (bo (hasI (rops D.body) 4)) ct0 := refHas_ok _ 4 (by omega)
  have e1 : ((!(hasI (rops D.body) 4)) == !(hasI (rops D.body) 4)) = true := beq_self_eq_true _
  refine fn_ok hm Tryz.func4 (fun _ => false) [] (fun _ => []) (by kernel_rfl) ?_
  refine run ?_; repeat ((apply call_ok; first | exact (c7) | exact (c8)); refine run ?_)
  refine Idx.mapG kk D hk3 hx rfl ?_
  refine run ?_; repeat ((apply call_ok; first | exact (c20) | exact (c14)); refine run ?_)
  refine run ?_; repeat ((apply call_ok; first | exact (c21)); refine run ?_)
  refine Idx.mapG kk D hk3 hx rfl ?_
  refine run ?_
  refine Idx.mapG kk D hk3 hx rfl ?_
  refine run ?_; repeat ((apply call_ok; first | exact (a1) | exact (a2) | exact (s1)); refine run ?_)
  exact Done.mk rfl rfl
end Abs
namespace Abs
open Go Go.Proofs
set_option maxRecDepth 100000
set_option maxHeartbeats 4000000
theorem beqNo {a b : Ne} (h : a ≠ b) : (a == b) = !true := by rw [beq_eq_false_iff_ne.2 h]; rfl
theorem ne3 (P : Pg) (S : Su) (sums : List Sy) (D : Df) (hf : ∀ c ∈ rcalls D.body, (fnd (fun x : Sy => x.id == c) zSy sums).2 = true) :
    (mkNe P S D.id sums D == mkNe P S D.id (sums.map bump) D) = !decide (0 < (rcalls D.body).length) := by
  by_cases h : 0 < (rcalls D.body).length
  · rw [decide_eq_true h, beq_eq_false_iff_ne.2]
    · rfl
    intro e
    have e1 : (rcalls D.body).map (sumOf P sums) = (rcalls D.body).map (sumOf P (sums.map bump)) := congrArg Ne.sums e
    have e2 := List.map_inj_left.1 e1 (rcalls D.body)[0] (List.getElem_mem h)
    have hc := hf _ (List.getElem_mem h)
    have e3 := fnd_bump (rcalls D.body)[0] sums hc
    unfold sumOf at e2
    rw [if_pos hc, e3] at e2
    rw [if_pos rfl] at e2
    exact bump_ne _ e2.symm
  · rw [decide_eq_false h]
    have e : rcalls D.body = [] := List.eq_nil_of_length_eq_zero (by omega)
    have e2 : mkNe P S D.id sums D = mkNe P S D.id (sums.map bump) D := by unfold mkNe; rw [e]; rfl
    rw [e2]; exact beq_self_eq_true _
theorem ne4 (P : Pg) (S : Su) (sums : List Sy) (D : Df) : (mkNe P S D.id sums D == mkNe P ⟨S.level, S.rules ++ [newRu]⟩ D.id sums D) = !hasI (rops D.body) 4 := by
  cases h : hasI (rops D.body) 4 with
  | true =>
    rw [beq_eq_false_iff_ne.2]
    · rfl
    intro e
    have e1 : S.rules.filter (ruleIn (rops D.body)) = (S.rules ++ [newRu]).filter (ruleIn (rops D.body)) := congrArg Ne.rules e
    have hr : ruleIn (rops D.body) newRu = true := h
    rw [List.filter_append, List.filter_cons, if_pos hr] at e1
    have := congrArg List.length e1
    simp at this
  | false =>
    have hr : ruleIn (rops D.body) newRu = false := h
    have e1 : (S.rules ++ [newRu]).filter (ruleIn (rops D.body)) = S.rules.filter (ruleIn (rops D.body)) := by
      rw [List.filter_append, List.filter_cons, if_neg (by rw [hr]; simp)]; simp
    have e2 : mkNe P ⟨S.level, S.rules ++ [newRu]⟩ D.id sums D = mkNe P S D.id sums D := by unfold mkNe; rw [e1]
    rw [e2]; exact beq_self_eq_true _
theorem law2X (x : Cse) (hxk : 0 ≤ x.k ∧ x.k < 256) (kind : Int) (hk0 : 0 ≤ kind ∧ kind < 256) (P : Pg) (S : Su) (sums : List Sy) (kk : Nat) (hk : kk < P.defs.length) (hk3 : x.k.tmod ((P.defs.map encD).length : Nat) = (kk : Int))
    (hp : PgOk 0 P) (hid : Ids P.defs) (hb : 0 ≤ P.defs[kk].budget ∧ P.defs[kk].budget ≤ 2000) (hlv : 0 ≤ S.level ∧ S.level < 3)
    (hr' : S.rules.length < 2^20) (hsl : sums.length < 2^20) (hsm : ∀ y ∈ sums, y.pairs.length ≤ 9) (hf : ∀ c ∈ rcalls P.defs[kk].body, (fnd (fun x : Sy => x.id == c) zSy sums).2 = true)
    (c8 : CallsA Tryz.prog 8 [encCase x] ct0 (.tup [encP P, it P.defs[kk].id, encSu S, lst 11 encSy sums]) ct0) : CallsA Tryz.prog 4 [encCase x, u8 kind] ct0 (bo true) ct0 := by
  have hx := List.getElem?_eq_getElem hk
  have hD := hp.ok _ (List.getElem_mem hk)
  have hDu := hD.up
  have hnd := hp.nd
  have hsz := hD.sz
  have hwd := hD.words
  have hwd2 := hD.wordsD
  have hbl := len_le_sz P.defs[kk].body
  have hcl := rcalls_len P.defs[kk].body
  have hrl := rops_len P.defs[kk] (by omega)
  have c20 := shapeCalls_ok P.defs[kk] (by omega)
  have c14 := dOps_ok P.defs[kk] (by omega)
  rw [calls_eq] at c20
  rw [ops_eq] at c14
  have a1 := need_at hp (by omega) hid S sums (by omega) (by omega) hk
  have okN := neOk_at hp (by omega) hid S sums (by omega) hsm hk
  have eN : nAt' P S sums P.defs kk = mkNe P S P.defs[kk].id sums P.defs[kk] := by unfold nAt'; rw [getD_lt hk]
  rw [eN] at a1 okN
  have k5 := tm_bd hk0.1 5 (by omega)
  have eM : ∀ (d' : Df) (S' : Su) (sums' : List Sy), nAt' P S' sums' (P.defs.set kk d') kk = mkNe P S' d'.id sums' d' := fun d' S' sums' => by
    unfold nAt'
    rw [getD_lt (by rw [List.length_set]; exact hk), List.getElem_set, if_pos rfl]
  have fw := fun (S' : Su) (sums' : List Sy) (hs' : sums'.length < 2^20) (hr2 : S'.rules.length < 2^30) (d' : Df) (dd : Dat) (hdd : dd = encD d') (h1 : d'.id = P.defs[kk].id) (h2 : headOf d' = headOf P.defs[kk]) (hd : DfOk 1 d') => by
    have := need_set hp hid S' sums' (by omega) hr2 hk hdd hk3 h1 h2 hd hk
    rw [eM] at this
    exact this
  generalize hDD : P.defs[kk] = D at *
  rcases (show kind.tmod 5 = 0 ∨ kind.tmod 5 = 1 ∨ kind.tmod 5 = 2 ∨ kind.tmod 5 = 3 ∨ kind.tmod 5 = 4 by omega) with h5 | h5 | h5 | h5 | h5
  · have s1 := depSame_ok (mkNe P S D.id sums D) (mkNe P S (D.bud (D.budget + 1)).id sums (D.bud (D.budget + 1))) okN
    rw [beqNo (fun e => bytes_bud D (congrArg Ne.body e).symm)] at s1
    exact f4_0 x hxk kind h5 P S sums kk D hx hk3 (by omega) (by omega) (by omega) hlv hsl (by omega) (by omega) hrl _ _ c8 c20 c14 a1
      (fw S sums hsl (by omega) (D.bud (D.budget + 1)) _ rfl rfl rfl ⟨hDu.id, hDu.np, hDu.na, hDu.w, hDu.nm⟩) s1
  · have hw : W (D.body ++ [newR]) ≤ 40000 + 30 * 1 := by
      have := hD.w
      rw [W_app, W_cons, W_nil, newR_w]; omega
    have s1 := depSame_ok (mkNe P S D.id sums D) (mkNe P S (D.bdy (D.body ++ [newR])).id sums (D.bdy (D.body ++ [newR]))) okN
    rw [beqNo (fun e => bytes_bdy D newR (congrArg Ne.body e).symm)] at s1
    exact f4_1 x hxk kind h5 P S sums kk D hx hk3 (by omega) (by omega) (by omega) hlv hsl (by omega) (by omega) hrl _ _ c8 c20 c14 a1
      (fw S sums hsl (by omega) (D.bdy (D.body ++ [newR])) _ (bdyD_eq D) rfl rfl ⟨hDu.id, hDu.np, hDu.na, hw, hDu.nm⟩) s1
  · have s1 := depSame_ok (mkNe P S D.id sums D) (mkNe P ⟨(S.level + 1).tmod 3, S.rules⟩ D.id sums D) okN
    have hl : S.level ≠ (S.level + 1).tmod 3 := by
      rcases (show S.level = 0 ∨ S.level = 1 ∨ S.level = 2 by omega) with e | e | e <;> rw [e] <;> decide
    rw [beqNo (fun e => hl (congrArg Ne.level e))] at s1
    exact f4_2 x hxk kind h5 P S sums kk D hx hk3 (by omega) (by omega) (by omega) hlv hsl (by omega) (by omega) hrl _ _ c8 c20 c14 a1
      (fw ⟨(S.level + 1).tmod 3, S.rules⟩ sums hsl (by show S.rules.length < _; omega) D _ rfl rfl rfl hDu) s1
  · have s1 := depSame_ok (mkNe P S D.id sums D) (mkNe P S D.id (sums.map bump) D) okN
    rw [ne3 P S sums D hf] at s1
    exact f4_3 x hxk kind h5 P S sums kk D hx hk3 (by omega) (by omega) (by omega) hlv hsl (by omega) (by omega) hrl _ _ c8 c20 c14 a1
      (fw S (sums.map bump) (by rw [List.length_map]; exact hsl) (by omega) D _ rfl rfl rfl hDu) s1
  · have s1 := depSame_ok (mkNe P S D.id sums D) (mkNe P ⟨S.level, S.rules ++ [newRu]⟩ D.id sums D) okN
    rw [ne4 P S sums D] at s1
    have hm : S.rules.map encRu ++ [encRu newRu] = (S.rules ++ [newRu]).map encRu := by simp
    refine f4_4 x hxk kind h5 P S sums kk D hx hk3 (by omega) (by omega) (by omega) hlv hsl (by omega) (by omega) hrl _ _ c8 c20 c14 a1 ?_ s1
    rw [hm]
    exact fw ⟨S.level, S.rules ++ [newRu]⟩ sums hsl (by show (S.rules ++ [newRu]).length < _; simp; omega) D _ rfl rfl rfl hDu
theorem law2 (xs : List Dat) (h : TyEach [caseS, .int .u8] xs) : CallsA Tryz.prog 4 xs ⟨[], []⟩ (.bool true) ⟨[], []⟩ := by
  obtain ⟨l1, _, rfl, h1, h⟩ := tyE_cons h
  obtain ⟨l2, _, rfl, h2, h⟩ := tyE_cons h
  have := tyE_nil h
  subst this
  obtain ⟨x, ex, okx⟩ := case_of h1
  obtain ⟨kind, rfl, hk0⟩ := ty_u8 h2
  rw [ex]
  have hk := kC_lt okx
  have hp := madeP_ok x.b
  have hr := rulesC_len x
  have c8 := madeC_ok x okx
  have eid : idC x = ((madeP x.b).defs[kC x]'hk.1).id := by unfold idC; rw [getD_lt hk.1]
  rw [eid] at c8
  have hnh : (madeP x.b).heads.length ≤ 4 := by rw [hp.heads, List.length_map]; have := hp.nd; omega
  exact law2X x okx.k kind hk0 (madeP x.b) (setupC x) (sumsP (madeP x.b) x.s) (kC x) hk.1 (by rw [List.length_map]; exact hk.2) hp (madeP_Ids x.b) (madeP_bud x.b _ (List.getElem_mem hk.1))
    (tm_bd okx.level.1 3 (by omega)) (by show (rulesC x).length < _; omega) (by rw [sumsP_len]; omega) (sumsP_mem hp okx.s)
    (fun c hc => by
      have hm := madeP_calls x.b _ (List.getElem_mem hk.1) c hc
      rw [← sumsP_ids hp okx.s] at hm
      obtain ⟨s, hs, e⟩ := List.mem_map.1 hm
      exact fnd_has ⟨s, hs, by rw [← e]; exact beq_self_eq_true _⟩) c8
end Abs
