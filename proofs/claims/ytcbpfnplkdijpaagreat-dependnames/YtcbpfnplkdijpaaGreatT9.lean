/- A part of a proof: an abstract machine, proved sound, or contracts of functions. No condition. -/
import Derived.OpenShut
import Derived.Carry
import Derived.WalkKit
import Derived.ProofKit
import Derived.JoinedCond
import Derived.Test.YtcbpfnplkdijpaaGreatT8
import Derived.Test.YtcbpfnplkdijpaaGreatT4
import Derived.Test.YtcbpfnplkdijpaaGreatT7
set_option linter.unusedVariables false
set_option linter.unusedSimpArgs false
namespace Abs
open Go Go.Proofs
set_option maxRecDepth 100000
set_option maxHeartbeats 4000000
def u16 (n : Int) : Dat := .int .u16 n
structure N8 where
  a : Int
  b : Int
  c : Int
  d : Int
  e : Int
  f : Int
  g : Int
  h : Int
def encN8 (n : N8) : Dat := .agg [u16 n.a, u16 n.b, u16 n.c, u16 n.d, u16 n.e, u16 n.f, u16 n.g, u16 n.h]
structure N8Ok (n : N8) : Prop where
  a : 0 ≤ n.a ∧ n.a < 65536
  b : 0 ≤ n.b ∧ n.b < 65536
  c : 0 ≤ n.c ∧ n.c < 65536
  d : 0 ≤ n.d ∧ n.d < 65536
  e : 0 ≤ n.e ∧ n.e < 65536
  f : 0 ≤ n.f ∧ n.f < 65536
  g : 0 ≤ n.g ∧ n.g < 65536
  h : 0 ≤ n.h ∧ n.h < 65536
theorem and7 (x : Int) : (((BitVec.ofInt IntKind.i64.bits x &&& BitVec.ofInt IntKind.i64.bits 7).toNat : Nat) : Int) ≤ 7 ∧ 0 ≤ (((BitVec.ofInt IntKind.i64.bits x &&& BitVec.ofInt IntKind.i64.bits 7).toNat : Nat) : Int) := by
  refine ⟨?_, Int.natCast_nonneg _⟩
  have h : (BitVec.ofInt IntKind.i64.bits x &&& BitVec.ofInt IntKind.i64.bits 7).toNat ≤ (BitVec.ofInt IntKind.i64.bits 7).toNat := by rw [BitVec.toNat_and]; exact Nat.and_le_right
  have h2 : (BitVec.ofInt IntKind.i64.bits 7).toNat = 7 := by decide
  omega
theorem u64_nn (x : Int) : 0 ≤ IntKind.u64.wrap x := by
  simp [IntKind.wrap, IntKind.bits, IntKind.signed]; omega
def bitP (h : Int) (k j : Nat) : Bool := IntKind.u16.wrap (((BitVec.ofInt IntKind.u16.bits (h.fdiv (2 ^ min (IntKind.u64.wrap ((3 * (k : Int) + (j : Int)).tmod 16)).toNat IntKind.u16.bits)) &&& BitVec.ofInt IntKind.u16.bits 1).toNat : Nat) : Int) == 1
def stP (h : Int) (a : Nat) (ps : List Pa) (b : Nat) : List Pa := if (!decide ((a : Int) = (b : Int))) && bitP h a b then wpL ps ⟨a, b, 0⟩ else ps
def rwP (h : Int) (ps : List Pa) (a : Nat) : List Pa := (List.range 3).foldl (stP h a) ps
def allP (h : Int) : List Pa := (List.range 3).foldl (rwP h) []
theorem wpL_len (l : List Pa) (X : Pa) : (wpL l X).length ≤ l.length + 1 := by
  have := tf_len (p := fun x => lessP x X) (q := fun x => lessP X x) (fun x h => by simp [lessP] at h ⊢; omega) l
  simp only [wpL, List.length_append, List.length_singleton]; omega
inductive PJ where
  | raw (k : Nat)
  | got (k : Nat) (ps : List Pa)
theorem PJ.both {P : PJ → Prop} (a : ∀ k, P (.raw k)) (b : ∀ k a, P (.got k a)) : ∀ i, P i
  | .raw k => a k
  | .got k x => b k x
def PJ.k : PJ → Nat
  | .raw k => k
  | .got k _ => k
theorem stP_len (h : Int) (a : Nat) (ps : List Pa) (b : Nat) : (stP h a ps b).length ≤ ps.length + 1 := by
  unfold stP; split
  · exact wpL_len _ _
  · omega
theorem rwP_len (h : Int) (a : Nat) (ps : List Pa) : ∀ j, ((List.range j).foldl (stP h a) ps).length ≤ ps.length + j
  | 0 => by simp
  | j + 1 => by rw [range_fold]; have := rwP_len h a ps j; have := stP_len h a ((List.range j).foldl (stP h a) ps) j; omega
theorem allP_le (h : Int) : ∀ k, ((List.range k).foldl (rwP h) []).length ≤ 3 * k
  | 0 => by simp
  | k + 1 => by rw [range_fold]; have := allP_le h k; have := rwP_len h k ((List.range k).foldl (rwP h) []) 3; unfold rwP at *; omega
theorem allP_len (h : Int) : (allP h).length ≤ 9 := allP_le h 3
theorem some_ok (p : Pg) (id : Int) (n : N8) (hn : N8Ok n) (hL : p.d.locks = 3) (hP : p.d.parts = 3)   : ∃ s : Sy, s.id = id ∧ s.pairs.length ≤ 9 ∧ CallsA Tryz.prog 68 [encP p, it id, encN8 n] ct0 (encSy s) ct0 := by
  have ha := hn.a
  have hb := hn.b
  have hc := hn.c
  have hd := hn.d
  have he := hn.e
  have hf := hn.f
  have hg := hn.g
  have t1 := tm_bd ha.1 40 (by omega)
  have t2 := tm_bd hb.1 4 (by omega)
  have t3 := tm_bd hc.1 30 (by omega)
  have t4 := tm_bd hd.1 8 (by omega)
  have o1 := of_ok (n.a.tmod 40 - 20) (n.b.tmod 4) ⟨by omega, by omega⟩
  have o2 := of_ok (n.a.tmod 40 - 20 + n.c.tmod 30) 0 ⟨by omega, by omega⟩
  have j := join_ok (n.a.tmod 40 - 20) (n.a.tmod 40 - 20 + n.c.tmod 30) (n.b.tmod 4) (by omega) (by omega) (by omega) t2
  have hRs : ∃ x1 x2 x3 x4, byD (n.a.tmod 40 - 20) (n.a.tmod 40 - 20 + n.c.tmod 30) (n.a.tmod 40 - 20 + n.c.tmod 30 - (n.a.tmod 40 - 20)) (n.b.tmod 4) = encAb x1 x2 x3 x4 (n.b.tmod 4) := by
    unfold byD; split
    · split <;> exact ⟨_, _, _, _, rfl⟩
    · exact ⟨_, _, _, _, rfl⟩
  refine hRs.elim fun x1 h => h.elim fun x2 h => h.elim fun x3 h => h.elim fun x4 h => ?_
  rw [h] at j
  have s0 : IntKind.u64.wrap p.d.locks = 3 := by rw [hL]; decide
  have z0 : 0 ≤ IntKind.u64.wrap p.d.locks := by omega
  have s1 : IntKind.i64.wrap (1 * 2 ^ (min (IntKind.u64.wrap p.d.locks).toNat IntKind.i64.bits)) - 1 = 7 := by rw [s0]; decide
  have s2 : IntKind.u64.wrap p.d.parts = 3 := by rw [hP]; decide
  have z2 : 0 ≤ IntKind.u64.wrap p.d.parts := by omega
  have s3 : IntKind.i64.wrap (1 * 2 ^ (min (IntKind.u64.wrap p.d.parts).toNat IntKind.i64.bits)) - 1 = 7 := by rw [s2]; decide
  have e1 := (and7 n.e).1
  have e2 := (and7 n.e).2
  have f1 := (and7 n.f).1
  have f2 := (and7 n.f).2
  have hAll : ∃ S, S = allP n.h := ⟨_, rfl⟩
  refine hAll.elim fun S hS => ?_
  by_cases hSl : S.length ≤ 9
  rotate_left
  · exact absurd (by rw [hS]; exact allP_len n.h) hSl
  refine ⟨⟨id, x1, x2, x3, x4, n.b.tmod 4, IntKind.i64.wrap (n.d.tmod 8 * 2 ^ min (1 : Int).toNat IntKind.i64.bits), (((BitVec.ofInt IntKind.i64.bits n.e &&& BitVec.ofInt IntKind.i64.bits 7).toNat : Nat) : Int), (((BitVec.ofInt IntKind.i64.bits n.f &&& BitVec.ofInt IntKind.i64.bits 7).toNat : Nat) : Int), S, n.g⟩, rfl, hSl, ?_⟩
  refine fn_ok hm Tryz.func68 (fun _ => false) [] (fun _ => []) (by kernel_rfl) ?_
  refine run ?_; repeat ((apply call_ok; first | exact (o1) | exact (o2) | exact (j)); refine run ?_)
  refine Idx.at rfl (Int.natCast_nonneg _) rfl ?_
  refine run ?_; repeat ((apply call_ok; first | exact (o1) | exact (o2) | exact (j)); refine run ?_)
  refine Idx.at rfl (Int.natCast_nonneg _) rfl ?_
  refine run ?_; repeat ((apply call_ok; first | exact (o1) | exact (o2) | exact (j)); refine run ?_)
  refine Idx.at rfl (Int.natCast_nonneg _) rfl ?_
  refine run ?_; repeat ((apply call_ok; first | exact (o1) | exact (o2) | exact (j)); refine run ?_)
  refine Idx.at rfl (Int.natCast_nonneg _) rfl ?_
  refine run ?_; repeat ((apply call_ok; first | exact (o1) | exact (o2) | exact (j)); refine run ?_)
  refine Idx.at rfl (Int.natCast_nonneg _) rfl ?_
  refine run ?_; repeat ((apply call_ok; first | exact (o1) | exact (o2) | exact (j)); refine run ?_)
  refine Arith.mk ?_
  refine run ?_; repeat ((apply call_ok; first | exact (o1) | exact (o2) | exact (j)); refine run ?_)
  refine Idx.at rfl (Int.natCast_nonneg _) rfl ?_
  refine run ?_; repeat ((apply call_ok; first | exact (o1) | exact (o2) | exact (j)); refine run ?_)
  refine Arith.mk ?_
  refine run ?_; repeat ((apply call_ok; first | exact (o1) | exact (o2) | exact (j)); refine run ?_)
  refine Idx.at rfl (Int.natCast_nonneg _) rfl ?_
  refine run ?_; repeat ((apply call_ok; first | exact (o1) | exact (o2) | exact (j)); refine run ?_)
  refine LoopS.mk ⟨[], HeadS.of (fun i : PJ => match i with | .raw k => k ≤ 3 ∧ (List.range k).foldl (rwP n.h) [] = [] | .got k ps => k ≤ 3 ∧ (List.range k).foldl (rwP n.h) [] = ps) (fun i => match i with | .raw k => ⟨[(9, it k)], [(8, .agg [it id, it x1, it x2, it x3, it x4, it (n.b.tmod 4), it (IntKind.i64.wrap (n.d.tmod 8 * 2 ^ min (1 : Int).toNat IntKind.i64.bits)), it (((BitVec.ofInt IntKind.i64.bits n.e &&& BitVec.ofInt IntKind.i64.bits 7).toNat : Nat) : Int), it (((BitVec.ofInt IntKind.i64.bits n.f &&& BitVec.ofInt IntKind.i64.bits 7).toNat : Nat) : Int), .sl 3 [] true, it n.g])], []⟩ | .got k ps => ⟨[(9, it k)], [(8, .agg [it id, it x1, it x2, it x3, it x4, it (n.b.tmod 4), it (IntKind.i64.wrap (n.d.tmod 8 * 2 ^ min (1 : Int).toNat IntKind.i64.bits)), it (((BitVec.ofInt IntKind.i64.bits n.e &&& BitVec.ofInt IntKind.i64.bits 7).toNat : Nat) : Int), it (((BitVec.ofInt IntKind.i64.bits n.f &&& BitVec.ofInt IntKind.i64.bits 7).toNat : Nat) : Int), lst 3 encPa ps, it n.g])], []⟩) (fun i => 3 - i.k) (.raw 0) ⟨Nat.zero_le _, rfl⟩ ?_ ?_ ?_ ?_ ?_⟩
  · repeat' (first | exact trivial | exact rfl | refine ⟨?_, ?_⟩ | refine ⟨?_, ?_, ?_⟩)
  · kernel_rfl
  · kernel_rfl
  · exact PJ.both (fun k => ⟨rfl, rfl, rfl⟩) (fun k a => ⟨rfl, rfl, rfl⟩)
  refine PJ.both (fun k => ?_) (fun k ps => ?_)
  · intro hJ
    have h1 : k ≤ 3 := hJ.1
    have h2 : (List.range k).foldl (rwP n.h) [] = ([] : List Pa) := hJ.2
    have hpl := allP_le n.h k
    rw [h2] at hpl
    by_cases hk : k < 3
    · have b1 : decide ((k : Int) < p.d.locks) = true := by rw [hL]; simp; omega
      refine run ?_
      refine LoopS.mk ⟨[], HeadS.of (fun i : PJ => match i with | .raw j => j ≤ 3 ∧ (List.range j).foldl (stP n.h k) ([] : List Pa) = [] | .got j qs => j ≤ 3 ∧ (List.range j).foldl (stP n.h k) ([] : List Pa) = qs) (fun i => match i with | .raw j => ⟨[(10, it j)], [(8, .agg [it id, it x1, it x2, it x3, it x4, it (n.b.tmod 4), it (IntKind.i64.wrap (n.d.tmod 8 * 2 ^ min (1 : Int).toNat IntKind.i64.bits)), it (((BitVec.ofInt IntKind.i64.bits n.e &&& BitVec.ofInt IntKind.i64.bits 7).toNat : Nat) : Int), it (((BitVec.ofInt IntKind.i64.bits n.f &&& BitVec.ofInt IntKind.i64.bits 7).toNat : Nat) : Int), .sl 3 [] true, it n.g])], []⟩ | .got j ps => ⟨[(10, it j)], [(8, .agg [it id, it x1, it x2, it x3, it x4, it (n.b.tmod 4), it (IntKind.i64.wrap (n.d.tmod 8 * 2 ^ min (1 : Int).toNat IntKind.i64.bits)), it (((BitVec.ofInt IntKind.i64.bits n.e &&& BitVec.ofInt IntKind.i64.bits 7).toNat : Nat) : Int), it (((BitVec.ofInt IntKind.i64.bits n.f &&& BitVec.ofInt IntKind.i64.bits 7).toNat : Nat) : Int), lst 3 encPa ps, it n.g])], []⟩) (fun i => 3 - i.k) (.raw 0) ⟨Nat.zero_le _, rfl⟩ ?_ ?_ ?_ ?_ ?_⟩
      · repeat' (first | exact trivial | exact rfl | refine ⟨?_, ?_⟩ | refine ⟨?_, ?_, ?_⟩)
      · kernel_rfl
      · kernel_rfl
      · exact PJ.both (fun k => ⟨rfl, rfl, rfl⟩) (fun k a => ⟨rfl, rfl, rfl⟩)
      refine PJ.both (fun j => ?_) (fun j qs => ?_)
      · intro hq
        have q1 : j ≤ 3 := hq.1
        have q2 : (List.range j).foldl (stP n.h k) ([] : List Pa) = ([] : List Pa) := hq.2
        have ql := rwP_len n.h k ([] : List Pa) j
        rw [q2] at ql
        by_cases g3 : j < 3
        · have d1 : decide ((j : Int) < p.d.locks) = true := by rw [hL]; simp; omega
          have z := u64_nn ((3 * (k : Int) + (j : Int)).tmod 16)
          have hst : (List.range (j + 1)).foldl (stP n.h k) ([] : List Pa) = stP n.h k ([] : List Pa) j := by rw [range_fold, q2]
          have w := withPair_ok ([] : List Pa) k j ⟨k, j, 0⟩ rfl (by omega)
          refine (Bool.eq_false_or_eq_true (!decide ((k : Int) = (j : Int)))).elim (fun d2 => ?_) (fun d2 => ?_)
          · refine (Bool.eq_false_or_eq_true (bitP n.h k j)).elim (fun d3 => ?_) (fun d3 => ?_)
            · have hb : (IntKind.u16.wrap (((BitVec.ofInt IntKind.u16.bits (n.h.fdiv (2 ^ min (IntKind.u64.wrap ((3 * (k : Int) + (j : Int)).tmod 16)).toNat IntKind.u16.bits)) &&& BitVec.ofInt IntKind.u16.bits 1).toNat : Nat) : Int) == 1) = true := d3
              have e : stP n.h k ([] : List Pa) j = wpL ([] : List Pa) ⟨k, j, 0⟩ := if_pos (by rw [d2, d3]; rfl)
              refine run ?_
              refine Idx.at rfl (Int.natCast_nonneg _) rfl ?_
              refine run ?_
              refine Arith.mk ?_
              refine run ?_
              refine Arith.mk ?_
              refine run ?_; repeat ((apply call_ok; first | exact (w)); refine run ?_)
              refine ⟨⟨.got (j + 1) (wpL ([] : List Pa) ⟨k, j, 0⟩), ⟨g3, hst.trans e⟩⟩, Nat.sub_lt_sub_left g3 (Nat.lt_succ_self _), ?_⟩
              repeat' (first | exact trivial | exact rfl | refine ⟨?_, ?_⟩ | refine ⟨?_, ?_, ?_⟩)
            · have hb : (IntKind.u16.wrap (((BitVec.ofInt IntKind.u16.bits (n.h.fdiv (2 ^ min (IntKind.u64.wrap ((3 * (k : Int) + (j : Int)).tmod 16)).toNat IntKind.u16.bits)) &&& BitVec.ofInt IntKind.u16.bits 1).toNat : Nat) : Int) == 1) = false := d3
              have e : stP n.h k ([] : List Pa) j = ([] : List Pa) := if_neg (by rw [d2, d3]; simp)
              refine run ?_
              refine Idx.at rfl (Int.natCast_nonneg _) rfl ?_
              refine run ?_
              refine Arith.mk ?_
              refine run ?_
              refine Arith.mk ?_
              refine run ?_; repeat ((apply call_ok; first | exact (w)); refine run ?_)
              refine ⟨⟨.raw (j + 1), ⟨g3, hst.trans e⟩⟩, Nat.sub_lt_sub_left g3 (Nat.lt_succ_self _), ?_⟩
              repeat' (first | exact trivial | exact rfl | refine ⟨?_, ?_⟩ | refine ⟨?_, ?_, ?_⟩)
          · have e : stP n.h k ([] : List Pa) j = ([] : List Pa) := if_neg (by rw [d2]; simp)
            refine run ?_
            refine ⟨⟨.raw (j + 1), ⟨g3, hst.trans e⟩⟩, Nat.sub_lt_sub_left g3 (Nat.lt_succ_self _), ?_⟩
            repeat' (first | exact trivial | exact rfl | refine ⟨?_, ?_⟩ | refine ⟨?_, ?_, ?_⟩)
        · have d1 : decide ((j : Int) < p.d.locks) = false := by rw [hL]; simp; omega
          have e : (List.range (k + 1)).foldl (rwP n.h) [] = ([] : List Pa) := by rw [range_fold, h2]; rw [show j = 3 by omega] at q2; exact q2
          refine run ?_
          refine ⟨⟨.raw (k + 1), ⟨hk, e⟩⟩, Nat.sub_lt_sub_left hk (Nat.lt_succ_self _), ?_⟩
          repeat' (first | exact trivial | exact rfl | refine ⟨?_, ?_⟩ | refine ⟨?_, ?_, ?_⟩)
      · intro hq
        have q1 : j ≤ 3 := hq.1
        have q2 : (List.range j).foldl (stP n.h k) ([] : List Pa) = qs := hq.2
        have ql := rwP_len n.h k ([] : List Pa) j
        rw [q2] at ql
        by_cases g3 : j < 3
        · have d1 : decide ((j : Int) < p.d.locks) = true := by rw [hL]; simp; omega
          have z := u64_nn ((3 * (k : Int) + (j : Int)).tmod 16)
          have hst : (List.range (j + 1)).foldl (stP n.h k) ([] : List Pa) = stP n.h k qs j := by rw [range_fold, q2]
          have w := withPair_ok qs k j ⟨k, j, 0⟩ rfl (by omega)
          refine (Bool.eq_false_or_eq_true (!decide ((k : Int) = (j : Int)))).elim (fun d2 => ?_) (fun d2 => ?_)
          · refine (Bool.eq_false_or_eq_true (bitP n.h k j)).elim (fun d3 => ?_) (fun d3 => ?_)
            · have hb : (IntKind.u16.wrap (((BitVec.ofInt IntKind.u16.bits (n.h.fdiv (2 ^ min (IntKind.u64.wrap ((3 * (k : Int) + (j : Int)).tmod 16)).toNat IntKind.u16.bits)) &&& BitVec.ofInt IntKind.u16.bits 1).toNat : Nat) : Int) == 1) = true := d3
              have e : stP n.h k qs j = wpL qs ⟨k, j, 0⟩ := if_pos (by rw [d2, d3]; rfl)
              refine run ?_
              refine Idx.at rfl (Int.natCast_nonneg _) rfl ?_
              refine run ?_
              refine Arith.mk ?_
              refine run ?_
              refine Arith.mk ?_
              refine run ?_; repeat ((apply call_ok; first | exact (w)); refine run ?_)
              refine ⟨⟨.got (j + 1) (wpL qs ⟨k, j, 0⟩), ⟨g3, hst.trans e⟩⟩, Nat.sub_lt_sub_left g3 (Nat.lt_succ_self _), ?_⟩
              repeat' (first | exact trivial | exact rfl | refine ⟨?_, ?_⟩ | refine ⟨?_, ?_, ?_⟩)
            · have hb : (IntKind.u16.wrap (((BitVec.ofInt IntKind.u16.bits (n.h.fdiv (2 ^ min (IntKind.u64.wrap ((3 * (k : Int) + (j : Int)).tmod 16)).toNat IntKind.u16.bits)) &&& BitVec.ofInt IntKind.u16.bits 1).toNat : Nat) : Int) == 1) = false := d3
              have e : stP n.h k qs j = qs := if_neg (by rw [d2, d3]; simp)
              refine run ?_
              refine Idx.at rfl (Int.natCast_nonneg _) rfl ?_
              refine run ?_
              refine Arith.mk ?_
              refine run ?_
              refine Arith.mk ?_
              refine run ?_; repeat ((apply call_ok; first | exact (w)); refine run ?_)
              refine ⟨⟨.got (j + 1) qs, ⟨g3, hst.trans e⟩⟩, Nat.sub_lt_sub_left g3 (Nat.lt_succ_self _), ?_⟩
              repeat' (first | exact trivial | exact rfl | refine ⟨?_, ?_⟩ | refine ⟨?_, ?_, ?_⟩)
          · have e : stP n.h k qs j = qs := if_neg (by rw [d2]; simp)
            refine run ?_
            refine ⟨⟨.got (j + 1) qs, ⟨g3, hst.trans e⟩⟩, Nat.sub_lt_sub_left g3 (Nat.lt_succ_self _), ?_⟩
            repeat' (first | exact trivial | exact rfl | refine ⟨?_, ?_⟩ | refine ⟨?_, ?_, ?_⟩)
        · have d1 : decide ((j : Int) < p.d.locks) = false := by rw [hL]; simp; omega
          have e : (List.range (k + 1)).foldl (rwP n.h) [] = qs := by rw [range_fold, h2]; rw [show j = 3 by omega] at q2; exact q2
          refine run ?_
          refine ⟨⟨.got (k + 1) qs, ⟨hk, e⟩⟩, Nat.sub_lt_sub_left hk (Nat.lt_succ_self _), ?_⟩
          repeat' (first | exact trivial | exact rfl | refine ⟨?_, ?_⟩ | refine ⟨?_, ?_, ?_⟩)
    · have b1 : decide ((k : Int) < p.d.locks) = false := by rw [hL]; simp; omega
      have e : ([] : List Pa) = S := by rw [hS, ← h2, show k = 3 by omega]; rfl
      refine run ?_
      exact Done.mk (congrArg (fun x => Dat.agg [it id, it x1, it x2, it x3, it x4, it (n.b.tmod 4), it (IntKind.i64.wrap (n.d.tmod 8 * 2 ^ min (1 : Int).toNat IntKind.i64.bits)), it (((BitVec.ofInt IntKind.i64.bits n.e &&& BitVec.ofInt IntKind.i64.bits 7).toNat : Nat) : Int), it (((BitVec.ofInt IntKind.i64.bits n.f &&& BitVec.ofInt IntKind.i64.bits 7).toNat : Nat) : Int), lst 3 encPa x, it n.g]) e) rfl
  · intro hJ
    have h1 : k ≤ 3 := hJ.1
    have h2 : (List.range k).foldl (rwP n.h) [] = ps := hJ.2
    have hpl := allP_le n.h k
    rw [h2] at hpl
    by_cases hk : k < 3
    · have b1 : decide ((k : Int) < p.d.locks) = true := by rw [hL]; simp; omega
      refine run ?_
      refine LoopS.mk ⟨[], HeadS.of (fun i : PJ => match i with | .raw j => False | .got j qs => j ≤ 3 ∧ (List.range j).foldl (stP n.h k) ps = qs) (fun i => match i with | .raw j => ⟨[(10, it j)], [(8, .agg [it id, it x1, it x2, it x3, it x4, it (n.b.tmod 4), it (IntKind.i64.wrap (n.d.tmod 8 * 2 ^ min (1 : Int).toNat IntKind.i64.bits)), it (((BitVec.ofInt IntKind.i64.bits n.e &&& BitVec.ofInt IntKind.i64.bits 7).toNat : Nat) : Int), it (((BitVec.ofInt IntKind.i64.bits n.f &&& BitVec.ofInt IntKind.i64.bits 7).toNat : Nat) : Int), .sl 3 [] true, it n.g])], []⟩ | .got j ps => ⟨[(10, it j)], [(8, .agg [it id, it x1, it x2, it x3, it x4, it (n.b.tmod 4), it (IntKind.i64.wrap (n.d.tmod 8 * 2 ^ min (1 : Int).toNat IntKind.i64.bits)), it (((BitVec.ofInt IntKind.i64.bits n.e &&& BitVec.ofInt IntKind.i64.bits 7).toNat : Nat) : Int), it (((BitVec.ofInt IntKind.i64.bits n.f &&& BitVec.ofInt IntKind.i64.bits 7).toNat : Nat) : Int), lst 3 encPa ps, it n.g])], []⟩) (fun i => 3 - i.k) (.got 0 ps) ⟨Nat.zero_le _, rfl⟩ ?_ ?_ ?_ ?_ ?_⟩
      · repeat' (first | exact trivial | exact rfl | refine ⟨?_, ?_⟩ | refine ⟨?_, ?_, ?_⟩)
      · kernel_rfl
      · kernel_rfl
      · exact PJ.both (fun k => ⟨rfl, rfl, rfl⟩) (fun k a => ⟨rfl, rfl, rfl⟩)
      refine PJ.both (fun j => ?_) (fun j qs => ?_)
      · intro hq; exact hq.elim
      · intro hq
        have q1 : j ≤ 3 := hq.1
        have q2 : (List.range j).foldl (stP n.h k) ps = qs := hq.2
        have ql := rwP_len n.h k ps j
        rw [q2] at ql
        by_cases g3 : j < 3
        · have d1 : decide ((j : Int) < p.d.locks) = true := by rw [hL]; simp; omega
          have z := u64_nn ((3 * (k : Int) + (j : Int)).tmod 16)
          have hst : (List.range (j + 1)).foldl (stP n.h k) ps = stP n.h k qs j := by rw [range_fold, q2]
          have w := withPair_ok qs k j ⟨k, j, 0⟩ rfl (by omega)
          refine (Bool.eq_false_or_eq_true (!decide ((k : Int) = (j : Int)))).elim (fun d2 => ?_) (fun d2 => ?_)
          · refine (Bool.eq_false_or_eq_true (bitP n.h k j)).elim (fun d3 => ?_) (fun d3 => ?_)
            · have hb : (IntKind.u16.wrap (((BitVec.ofInt IntKind.u16.bits (n.h.fdiv (2 ^ min (IntKind.u64.wrap ((3 * (k : Int) + (j : Int)).tmod 16)).toNat IntKind.u16.bits)) &&& BitVec.ofInt IntKind.u16.bits 1).toNat : Nat) : Int) == 1) = true := d3
              have e : stP n.h k qs j = wpL qs ⟨k, j, 0⟩ := if_pos (by rw [d2, d3]; rfl)
              refine run ?_
              refine Idx.at rfl (Int.natCast_nonneg _) rfl ?_
              refine run ?_
              refine Arith.mk ?_
              refine run ?_
              refine Arith.mk ?_
              refine run ?_; repeat ((apply call_ok; first | exact (w)); refine run ?_)
              refine ⟨⟨.got (j + 1) (wpL qs ⟨k, j, 0⟩), ⟨g3, hst.trans e⟩⟩, Nat.sub_lt_sub_left g3 (Nat.lt_succ_self _), ?_⟩
              repeat' (first | exact trivial | exact rfl | refine ⟨?_, ?_⟩ | refine ⟨?_, ?_, ?_⟩)
            · have hb : (IntKind.u16.wrap (((BitVec.ofInt IntKind.u16.bits (n.h.fdiv (2 ^ min (IntKind.u64.wrap ((3 * (k : Int) + (j : Int)).tmod 16)).toNat IntKind.u16.bits)) &&& BitVec.ofInt IntKind.u16.bits 1).toNat : Nat) : Int) == 1) = false := d3
              have e : stP n.h k qs j = qs := if_neg (by rw [d2, d3]; simp)
              refine run ?_
              refine Idx.at rfl (Int.natCast_nonneg _) rfl ?_
              refine run ?_
              refine Arith.mk ?_
              refine run ?_
              refine Arith.mk ?_
              refine run ?_; repeat ((apply call_ok; first | exact (w)); refine run ?_)
              refine ⟨⟨.got (j + 1) qs, ⟨g3, hst.trans e⟩⟩, Nat.sub_lt_sub_left g3 (Nat.lt_succ_self _), ?_⟩
              repeat' (first | exact trivial | exact rfl | refine ⟨?_, ?_⟩ | refine ⟨?_, ?_, ?_⟩)
          · have e : stP n.h k qs j = qs := if_neg (by rw [d2]; simp)
            refine run ?_
            refine ⟨⟨.got (j + 1) qs, ⟨g3, hst.trans e⟩⟩, Nat.sub_lt_sub_left g3 (Nat.lt_succ_self _), ?_⟩
            repeat' (first | exact trivial | exact rfl | refine ⟨?_, ?_⟩ | refine ⟨?_, ?_, ?_⟩)
        · have d1 : decide ((j : Int) < p.d.locks) = false := by rw [hL]; simp; omega
          have e : (List.range (k + 1)).foldl (rwP n.h) [] = qs := by rw [range_fold, h2]; rw [show j = 3 by omega] at q2; exact q2
          refine run ?_
          refine ⟨⟨.got (k + 1) qs, ⟨hk, e⟩⟩, Nat.sub_lt_sub_left hk (Nat.lt_succ_self _), ?_⟩
          repeat' (first | exact trivial | exact rfl | refine ⟨?_, ?_⟩ | refine ⟨?_, ?_, ?_⟩)
    · have b1 : decide ((k : Int) < p.d.locks) = false := by rw [hL]; simp; omega
      have e : ps = S := by rw [hS, ← h2, show k = 3 by omega]; rfl
      refine run ?_
      exact Done.mk (congrArg (fun x => Dat.agg [it id, it x1, it x2, it x3, it x4, it (n.b.tmod 4), it (IntKind.i64.wrap (n.d.tmod 8 * 2 ^ min (1 : Int).toNat IntKind.i64.bits)), it (((BitVec.ofInt IntKind.i64.bits n.e &&& BitVec.ofInt IntKind.i64.bits 7).toNat : Nat) : Int), it (((BitVec.ofInt IntKind.i64.bits n.f &&& BitVec.ofInt IntKind.i64.bits 7).toNat : Nat) : Int), lst 3 encPa x, it n.g]) e) rfl
end Abs
namespace Abs
open Go Go.Proofs
set_option maxRecDepth 100000
set_option maxHeartbeats 4000000
end Abs
namespace Abs
open Go Go.Proofs
set_option maxRecDepth 100000
set_option maxHeartbeats 4000000
def bE : Nat → Nat
  | 0 => 4
  | n + 1 => 4 + 2 * bE n
theorem bE_ge : ∀ n, 4 ≤ bE n
  | 0 => Nat.le_refl _
  | n + 1 => by simp only [bE]; omega
theorem wNum (v : Int) : (wE (eNum v)).length = 4 := by simp [eNum, wE, wEs]
theorem wVar (v : Int) : (wE (eVar v)).length = 4 := by simp [eVar, wE, wEs]
theorem wOne (o n v : Int) : (wE (.mk o n v [])).length = 4 := by simp [wE, wEs]
theorem wBin (o : Int) (a b : Ex) : (wE (eBin o a b)).length = 4 + (wE a).length + (wE b).length := by simp [eBin, wE, wEs]; omega
theorem wZE : (wE zE).length = 4 := by simp [zE, wE, wEs]
theorem wZC : (wC zC).length = 3 := by simp [zC, wC, wCs, wl]
theorem wTest (o : Int) (a b : Ex) : (wC (cTest o a b)).length = 3 + (wE a).length + (wE b).length := by simp [cTest, wC, wCs, wl]; omega
theorem wNot (a : Co) : (wC (cNot a)).length = 3 + (wC a).length := by simp [cNot, wC, wCs, wl]; omega
theorem wAnd (o : Int) (a b : Co) : (wC (.mk o [] [a, b])).length = 3 + (wC a).length + (wC b).length := by simp [wC, wCs, wl]; omega
theorem Mk.expr_sz (m : Mk) : ∀ n a, (wE (m.expr n a).1).length ≤ bE n
  | 0, a => by rw [Mk.expr]; simp only [wNum, bE]; omega
  | n+1, a => by
    have h1 := Mk.expr_sz m n (a+1+1)
    have h2 := Mk.expr_sz m n (m.expr n (a+1+1)).2
    have h3 := bE_ge n
    rw [Mk.expr]
    repeat' split
    all_goals (simp only [wNum, wVar, wOne, wBin, bE]; omega)
def bC : Nat → Nat
  | 0 => 27
  | n + 1 => 3 + 2 * bC n
theorem bC_ge : ∀ n, 27 ≤ bC n
  | 0 => Nat.le_refl _
  | n + 1 => by have := bC_ge n; simp only [bC]; omega
theorem Mk.cond_sz (m : Mk) : ∀ n a, (wC (m.cond n a).1).length ≤ bC n
  | 0, a => by
    have h1 := m.expr_sz 1 (a+1)
    have h2 := m.expr_sz 1 (m.expr 1 (a+1)).2
    simp only [bE] at h1 h2
    rw [Mk.cond]; simp only [wTest, bC]; omega
  | n+1, a => by
    have h1 := m.expr_sz 1 (a+1)
    have h2 := m.expr_sz 1 (m.expr 1 (a+1)).2
    have h3 := Mk.cond_sz m n (a+1)
    have h4 := Mk.cond_sz m n ((m.cond n (a+1)).2+1)
    have h5 := bC_ge n
    simp only [bE] at h1 h2
    rw [Mk.cond]
    repeat' split
    all_goals (simp only [wTest, wNot, wAnd, bC]; omega)
def W (l : List Sm) : Nat := (l.flatMap wS).length
theorem W_nil : W [] = 0 := rfl
theorem W_cons (s : Sm) (l : List Sm) : W (s :: l) = (wS s).length + W l := by simp [W]
theorem W_app (a b : List Sm) : W (a ++ b) = W a + W b := by simp [W]
theorem wS0 (site op n m v : Int) (x y : Ex) (c : Co) : (wS (S0 site op n m v x y c)).length = 9 + (wE x).length + (wE y).length + (wC c).length := by
  rw [wS_len]; simp [S0, Sm.x, Sm.y, Sm.c, Sm.args, Sm.ptrs, Sm.body, Sm.els, wl]; omega
theorem wSB (site op n m v : Int) (x y : Ex) (c : Co) (b e : List Sm) : (wS (.mk site op n m v x y c [] [] b e)).length = 9 + (wE x).length + (wE y).length + (wC c).length + W b + W e := by
  rw [wS_len]; simp [Sm.x, Sm.y, Sm.c, Sm.args, Sm.ptrs, Sm.body, Sm.els, wl, W]; omega
theorem wSC (site op n m v : Int) (x y : Ex) (c : Co) (es : List Ex) (ps : List Int) : (wS (.mk site op n m v x y c es ps [] [])).length = 9 + (wE x).length + (wE y).length + (wC c).length + (es.flatMap wE).length + ps.length := by
  have e : ∀ l : List Int, (l.flatMap wI).length = l.length := fun l => by
    induction l with
    | nil => rfl
    | cons x l ih => rw [List.flatMap_cons, List.length_append, ih, List.length_cons]; show 1 + _ = _; omega
  rw [wS_len]; simp only [Sm.x, Sm.y, Sm.c, Sm.args, Sm.ptrs, Sm.body, Sm.els, wl_len, e, List.flatMap_nil, List.length_nil]; omega
theorem Mk.simple_sz (m : Mk) (a s : Nat) : W (m.simple a s).1 ≤ 366 := by
  have h1 := m.expr_sz 1 (a+1)
  have h2 := m.expr_sz 2 (a+1+1)
  simp only [bE] at h1 h2
  unfold Mk.simple
  repeat' split
  all_goals (simp only [W_cons, W_nil, wS0, wNum, wZE, wZC]; omega)
theorem Mk.risky_sz (m : Mk) (a s : Nat) : (wS (m.risky a s).1).length ≤ 366 := by
  have h1 := m.expr_sz 1 (a+1)
  have h2 := m.expr_sz 1 (a+1+1)
  have h3 := m.expr_sz 1 (a+1+1+1)
  have h4 := m.expr_sz 1 (m.expr 1 (a+1+1)).2
  have h5 := m.cond_sz 1 (a+1)
  simp only [bE, bC] at h1 h2 h3 h4 h5
  have key : (fun z : Sm × Nat × Nat => (wS z.1).length ≤ 366) (m.risky a s) := by
    unfold Mk.risky
    repeat' refine ite_p (P := fun z : Sm × Nat × Nat => (wS z.1).length ≤ 366) ?_ ?_
    all_goals (dsimp only; rw [wS0]; simp only [wZE, wZC]; omega)
  exact key
theorem Mk.args_sz (m : Mk) (a : Nat) : ∀ i, ((m.args a i).1.flatMap wE).length ≤ 12 * i
  | 0 => by simp [Mk.args]
  | i + 1 => by
    have h1 := Mk.args_sz m a i
    have h2 := m.expr_sz 1 (m.args a i).2
    simp only [bE] at h2
    simp only [Mk.args, List.flatMap_append, List.length_append, List.flatMap_cons, List.flatMap_nil, List.length_nil]; omega
theorem Mk.ptrs_len (m : Mk) (a : Nat) : ∀ i, (m.ptrs a i).length = i
  | 0 => rfl
  | i + 1 => by simp only [Mk.ptrs, List.length_append, Mk.ptrs_len m a i]; rfl
theorem Mk.hd_small (m : Mk) (hh : ∀ h ∈ m.heads, h.params.length ≤ 12 ∧ h.given.length ≤ 12) (a : Nat) : (m.hd a).params.length ≤ 12 ∧ (m.hd a).given.length ≤ 12 := by
  unfold Mk.hd
  rw [List.getD_eq_getElem?_getD]
  cases h : m.heads[(m.nx a m.nH).toNat]? with
  | none => simp [zH]
  | some x => exact hh x (List.mem_of_getElem? h)
theorem Mk.call_sz (m : Mk) (hh : ∀ h ∈ m.heads, h.params.length ≤ 12 ∧ h.given.length ≤ 12) (a s d : Nat) : (wS (m.call a s d).1).length ≤ 366 := by
  have h1 := m.hd_small hh (a+1)
  have h2 := m.args_sz (a+1+1) (m.hd (a+1)).params.length
  have h3 := m.ptrs_len (m.args (a+1+1) (m.hd (a+1)).params.length).2 (m.hd (a+1)).given.length
  unfold Mk.call
  split
  · simp only [wS0, wNum, wZE, wZC]; omega
  · simp only [wSC, wZE, wZC, h3]; omega
theorem Mk.other_sz (m : Mk) (hh : ∀ h ∈ m.heads, h.params.length ≤ 12 ∧ h.given.length ≤ 12) (k : Int) (dep : Nat) (x : Ms) : W (m.other k dep x).1 ≤ 366 := by
  have h1 := m.call_sz hh x.a x.s x.d
  have h2 := m.expr_sz 1 x.a
  have h3 := m.simple_sz x.a x.s
  have h4 := m.risky_sz x.a x.s
  simp only [bE] at h2
  unfold Mk.other
  repeat' split
  all_goals (simp only [W_cons, W_nil, wS0, wZE, wZC]; omega)
theorem Mk.nested_sz (m : Mk) (R : Nat → Ms → List Sm × Ms) (B : Nat) (hR : ∀ n, n ≤ 2 → ∀ x, W (R n x).1 ≤ B) (k : Int) (x : Ms) : (wS (m.nested R k x).1).length ≤ 74 + 2 * B := by
  have c := m.cond_sz 1 x.a
  simp only [bC] at c
  have tn : ∀ b, (1 + m.nx b 2).toNat ≤ 2 ∧ (m.nx b 2).toNat ≤ 2 := fun b => by have := m.nx_bd b (n := 2) (by omega); omega
  unfold Mk.nested
  split
  · have h1 := hR _ (tn ((m.cond 1 x.a).2+1)).1 ⟨(m.cond 1 x.a).2+1+1, x.s+1, x.l, x.d⟩
    simp only [wSB, wZE, W_nil]; omega
  split
  · have h1 := hR _ (tn (x.a+1)).1 ⟨x.a+1+1, x.s+1, x.l, x.d⟩
    have h2 := fun y => hR _ (tn (R (1 + m.nx (x.a+1) 2).toNat ⟨x.a+1+1, x.s+1, x.l, x.d⟩).2.a).2 y
    have h3 := h2 ⟨(R (1 + m.nx (x.a+1) 2).toNat ⟨x.a+1+1, x.s+1, x.l, x.d⟩).2.a+1, (R (1 + m.nx (x.a+1) 2).toNat ⟨x.a+1+1, x.s+1, x.l, x.d⟩).2.s, (R (1 + m.nx (x.a+1) 2).toNat ⟨x.a+1+1, x.s+1, x.l, x.d⟩).2.l, (R (1 + m.nx (x.a+1) 2).toNat ⟨x.a+1+1, x.s+1, x.l, x.d⟩).2.d⟩
    simp only [wSB, wZE, wZC]; omega
  · have h1 := hR _ (tn (m.cond 1 x.a).2).1 ⟨(m.cond 1 x.a).2+1, x.s+1, x.l, x.d⟩
    have h2 := fun y => hR _ (tn (R (1 + m.nx (m.cond 1 x.a).2 2).toNat ⟨(m.cond 1 x.a).2+1, x.s+1, x.l, x.d⟩).2.a).2 y
    have h3 := h2 ⟨(R (1 + m.nx (m.cond 1 x.a).2 2).toNat ⟨(m.cond 1 x.a).2+1, x.s+1, x.l, x.d⟩).2.a+1, (R (1 + m.nx (m.cond 1 x.a).2 2).toNat ⟨(m.cond 1 x.a).2+1, x.s+1, x.l, x.d⟩).2.s, (R (1 + m.nx (m.cond 1 x.a).2 2).toNat ⟨(m.cond 1 x.a).2+1, x.s+1, x.l, x.d⟩).2.l, (R (1 + m.nx (m.cond 1 x.a).2 2).toNat ⟨(m.cond 1 x.a).2+1, x.s+1, x.l, x.d⟩).2.d⟩
    simp only [wSB, wZE]; omega
theorem runS_sz (step : Ms → List Sm × Ms) (B : Nat) (h : ∀ x, W (step x).1 ≤ B) : ∀ n x, W (runS step n x).1 ≤ n * B
  | 0, x => by simp [runS, W_nil]
  | n + 1, x => by
    have h1 := runS_sz step B h n (step x).2
    have h2 := h x
    rw [runS, Nat.succ_mul]
    split
    · simp [W_nil]
    · simp only [W_app]; omega
theorem Mk.step_sz (m : Mk) (hh : ∀ h ∈ m.heads, h.params.length ≤ 12 ∧ h.given.length ≤ 12) (dep : Nat) (R : Nat → Ms → List Sm × Ms) (B : Nat) (hR : ∀ n, n ≤ 2 → ∀ x, W (R n x).1 ≤ B) (x : Ms) : W (m.step dep R x).1 ≤ 366 + 2 * B := by
  unfold Mk.step
  split
  · have := m.nested_sz R B hR (m.nx x.a 16) ⟨x.a+1, x.s, x.l-1, x.d⟩
    simp only [W_cons, W_nil]; omega
  · have := m.other_sz hh (m.nx x.a 16) dep ⟨x.a+1, x.s, x.l-1, x.d⟩
    omega
theorem Mk.stmts0_sz (m : Mk) (hh : ∀ h ∈ m.heads, h.params.length ≤ 12 ∧ h.given.length ≤ 12) (n : Nat) (x : Ms) : W (m.stmts 0 n x).1 ≤ n * 366 := by
  rw [Mk.stmts]
  exact runS_sz _ 366 (fun y => m.step_sz hh 0 _ 0 (fun n hn x => by simp [W_nil]) y) n x
theorem Mk.stmts1_sz (m : Mk) (hh : ∀ h ∈ m.heads, h.params.length ≤ 12 ∧ h.given.length ≤ 12) (n : Nat) (x : Ms) : W (m.stmts 1 n x).1 ≤ n * 1830 := by
  rw [Mk.stmts]
  exact runS_sz _ 1830 (fun y => m.step_sz hh 1 _ 732 (fun n hn x => by have := m.stmts0_sz hh n x; omega) y) n x
theorem Mk.stmts2_sz (m : Mk) (hh : ∀ h ∈ m.heads, h.params.length ≤ 12 ∧ h.given.length ≤ 12) (n : Nat) (x : Ms) : W (m.stmts 2 n x).1 ≤ n * 7686 := by
  rw [Mk.stmts]
  exact runS_sz _ 7686 (fun y => m.step_sz hh 2 _ 3660 (fun n hn x => by have := m.stmts1_sz hh n x; omega) y) n x
theorem nameOf_len (id : Int) : (nameOf id).length ≤ 100 := by
  show ((letters.drop (id.tmod 8).toNat).take _).length ≤ 100
  rw [List.length_take, List.length_drop]
  have : letters.length = 8 := rfl
  omega
structure DfOk (n : Nat) (d : Df) : Prop where
  id : 0 ≤ d.id ∧ d.id < 100
  np : d.params.length ≤ 12 ∧ d.given.length ≤ 12
  na : d.arrays.length ≤ 2
  w : W d.body ≤ 40000 + 30 * n
  nm : d.name.length ≤ 100
theorem DfOk.up {n : Nat} {d : Df} (h : DfOk n d) : DfOk (n+1) d := ⟨h.id, h.np, h.na, by have := h.w; omega, h.nm⟩
theorem Mk.defR_sz (m : Mk) (hh : ∀ h ∈ m.heads, h.params.length ≤ 12 ∧ h.given.length ≤ 12) (id : Int) (a s : Nat) (part : Int) (c : Nat) (gs : List Rng) (b2 : Nat) (ar : List Ar) (hc : c ≤ 2) (hg : gs.length ≤ 1) (ha : ar.length ≤ 2) (hid : 0 ≤ id ∧ id < 100) :
    DfOk 0 (m.defR id a s part c gs b2 ar).1 := by
  have tn : (1 + m.nx b2 5).toNat ≤ 5 := by have := m.nx_bd b2 (n := 5) (by omega); omega
  refine ⟨hid, ⟨?_, ?_⟩, ha, ?_, nameOf_len id⟩
  · show (m.params (a+1+1+1+1+1) c).length ≤ 12; rw [m.params_len]; omega
  · show gs.length ≤ 12; omega
  · have := (m.with' (m.dG id a part (m.params (a+1+1+1+1+1) c) gs ((((m.params (a+1+1+1+1+1) c).map encR).length : Nat) + 2 + m.nx ((a+1+1+1+1+1 + c)+1) 2) 2 ar [] 0)).stmts2_sz hh (1 + m.nx b2 5).toNat ⟨b2+1, s, 9, 0⟩
    show W ((m.with' (m.dG id a part (m.params (a+1+1+1+1+1) c) gs ((((m.params (a+1+1+1+1+1) c).map encR).length : Nat) + 2 + m.nx ((a+1+1+1+1+1 + c)+1) 2) 2 ar [] 0)).stmts 2 (1 + m.nx b2 5).toNat ⟨b2+1, s, 9, 0⟩).1 ≤ _
    omega
theorem Mk.def_sz (m : Mk) (hh : ∀ h ∈ m.heads, h.params.length ≤ 12 ∧ h.given.length ≤ 12) (id : Int) (th : Bool) (a s : Nat) (hid : 0 ≤ id ∧ id < 100) : DfOk 0 (m.def' id th a s).1 := by
  have bX := m.nx_bd (a+1+1+1+1) (n := 3) (by omega)
  unfold Mk.def'
  refine m.defR_sz hh _ _ _ _ _ _ _ _ ?_ ?_ ?_ hid
  · split <;> omega
  · have : ∀ b : Bool, (if b then [givenR] else []).length ≤ 1 := by intro b; cases b <;> simp
    exact this _
  · repeat' split
    all_goals simp
theorem mdRun_sz (L : List UInt8) (n : Nat) : ∀ i, i ≤ 4 → ∀ d ∈ (mdRun L n i).defs, DfOk 0 d
  | 0, _ => fun d hd => by simp [mdRun] at hd
  | i + 1, hi => fun d hd => by
    have h := mdRun_ok L n i
    rcases List.mem_append.1 hd with hx | hx
    · exact mdRun_sz L n i (by omega) d hx
    · have e := List.mem_singleton.1 hx
      subst e
      exact ((mdRun L n i).mk' L).def_sz h.heads (11 + i) _ _ _ (by omega)
theorem mdRun_heads (L : List UInt8) (n : Nat) : ∀ i, (mdRun L n i).heads = (mdRun L n i).defs.map headOf
  | 0 => rfl
  | i + 1 => by
    show _ ++ [_] = (_ ++ [_]).map headOf
    rw [List.map_append, ← mdRun_heads L n i]; rfl
structure PgOk (n : Nat) (p : Pg) : Prop where
  locks : p.d.locks = 3
  parts : p.d.parts = 3
  decl : p.d.globals.length = 2 ∧ p.d.classes.length = 2 ∧ p.d.queues.length = 1 ∧ p.d.sinks.length = 3
  heads : p.heads = p.defs.map headOf
  pos : 0 < p.defs.length
  nd : p.defs.length ≤ 4 + n
  th : 0 < p.threads.length
  nt : p.threads.length ≤ 2
  ok : ∀ d ∈ p.defs, DfOk n d
theorem thRun_le (ds : List Df) : ∀ (k : Nat) (t : List Int), t.length ≤ 2 → (thRun ds k t).length ≤ 2
  | 0, t, h => h
  | k + 1, t, h => by
    rw [thRun]
    split
    · refine thRun_le ds k _ ?_
      split
      · split
        · rw [List.length_append]; simp; omega
        · exact h
      · exact h
    · exact h
theorem madeP_ok (L : List UInt8) : PgOk 0 (madeP L) := by
  have hb := (⟨L, declD, [], [], [], zD, false⟩ : Mk).nx_bd 0 (n := 4) (by omega)
  have hN : ∃ n, n = (1 + (⟨L, declD, [], [], [], zD, false⟩ : Mk).nx 0 4).toNat := ⟨_, rfl⟩
  obtain ⟨n, hn⟩ := hN
  have e : madeP L = ⟨declD, (mdRun L n n).heads, (mdRun L n n).defs, if ((mdRun L n n).mk' L).nx (mdRun L n n).a 3 == 0 then (thRun (mdRun L n n).defs n []).take 1 else thRun (mdRun L n n).defs n []⟩ := by rw [hn]; rfl
  have hn0 : 0 < n := by omega
  have hn4 : n ≤ 4 := by omega
  have hm := mdRun_ok L n n
  have ht := thRun_pos L n hn0 hn4
  have ht2 := thRun_le (mdRun L n n).defs n [] (by simp)
  rw [e]
  refine ⟨rfl, rfl, ⟨rfl, rfl, rfl, rfl⟩, mdRun_heads L n n, ?_, ?_, ?_, ?_, mdRun_sz L n n hn4⟩
  · show 0 < (mdRun L n n).defs.length; rw [hm.nd]; exact hn0
  · show (mdRun L n n).defs.length ≤ 4 + 0; rw [hm.nd]; exact hn4
  · show 0 < (if ((mdRun L n n).mk' L).nx (mdRun L n n).a 3 == 0 then (thRun (mdRun L n n).defs n []).take 1 else thRun (mdRun L n n).defs n []).length
    split
    · rw [List.length_take]; omega
    · exact ht
  · show (if ((mdRun L n n).mk' L).nx (mdRun L n n).a 3 == 0 then (thRun (mdRun L n n).defs n []).take 1 else thRun (mdRun L n n).defs n []).length ≤ 2
    split
    · rw [List.length_take]; omega
    · exact ht2
theorem fm3 : ∀ l : List Rng, (l.flatMap wR).length = 3 * l.length
  | [] => rfl
  | r :: l => by rw [List.flatMap_cons, List.length_append, fm3 l, List.length_cons]; show 3 + _ = _; omega
theorem fmA : ∀ l : List Ar, (l.flatMap wA).length = 2 * l.length
  | [] => rfl
  | r :: l => by rw [List.flatMap_cons, List.length_append, fmA l, List.length_cons]; show 2 + _ = _; omega
theorem fmQ : ∀ l : List Qu, (l.flatMap wQ).length = 3 * l.length
  | [] => rfl
  | r :: l => by rw [List.flatMap_cons, List.length_append, fmQ l, List.length_cons]; show 3 + _ = _; omega
theorem fm_le {α β : Type} {w : α → List β} {B : Nat} (h : ∀ x, (w x).length ≤ B) : ∀ l : List α, (l.flatMap w).length ≤ B * l.length
  | [] => by simp
  | x :: l => by rw [List.flatMap_cons, List.length_append, List.length_cons, Nat.mul_succ]; have := h x; have := fm_le h l; omega
theorem DfOk.words {n : Nat} {d : Df} (h : DfOk n d) : (wD (nmD d)).length ≤ 40110 + 30 * n := by
  have h1 := h.np
  have h2 := h.na
  have h3 := h.w
  unfold W at h3
  have e : (wD (nmD d)).length = 3 + (1 + 1) + 2 + (1 + (d.params.flatMap wR).length) + (1 + (d.given.flatMap wR).length) + 2 + (1 + (d.arrays.flatMap wA).length) + 1 + (1 + (d.body.flatMap wS).length) := by
    simp [wD, nmD, wl]; omega
  rw [e, fm3, fm3, fmA]; omega
theorem PgOk.hd {n : Nat} {p : Pg} (h : PgOk n p) (c : Int) : (hdOf p c).params.length ≤ 12 ∧ (hdOf p c).given.length ≤ 12 := by
  unfold hdOf
  rcases Bool.eq_false_or_eq_true (fnd (fun x : Hd => x.id == c) zHd p.heads).2 with e | e
  · have := fnd_mem e
    rw [h.heads] at this
    obtain ⟨d, hd, e2⟩ := List.mem_map.1 this
    rw [h.heads, ← e2]
    exact (h.ok d hd).np
  · have : ∀ l : List Hd, (fnd (fun x : Hd => x.id == c) zHd l).2 = false → (fnd (fun x : Hd => x.id == c) zHd l).1 = zHd := by
      intro l
      induction l with
      | nil => intro _; rfl
      | cons x l ih =>
        intro hf
        unfold fnd at hf ⊢
        split
        · next q => rw [if_pos q] at hf; cases hf
        · next q => rw [if_neg q] at hf; exact ih hf
    rw [this _ e]; exact ⟨Nat.zero_le _, Nat.zero_le _⟩
theorem PgOk.fits {n : Nat} {p : Pg} (h : PgOk n p) (hn : n ≤ 1000) : Fits p := by
  have hnd := h.nd
  refine ⟨h.locks, ?_, by omega, ?_, ?_⟩
  · rw [h.heads, List.length_map]; omega
  · intro d hd
    have := (h.ok d hd).words; omega
  · intro d hd
    have h1 := (h.ok d hd).w
    have h2 := rcalls_len d.body
    have h3 := szL_fm d.body
    have h4 : (declC p).length ≤ 100 := by
      rw [declC_len, declB_len, declA_len, fmQ, wl_len, wl_len, fm3, fm3, h.decl.1, h.decl.2.1, h.decl.2.2.1, h.decl.2.2.2]; omega
    have h5 := fm_le (w := wHd p) (B := 76) (fun c => by rw [wHd_len, wl_len, wl_len, fm3, fm3]; have := h.hd c; omega) (rcalls d.body)
    unfold W at h1
    rw [declW_len]; omega
end Abs
namespace Abs
open Go Go.Proofs
set_option maxRecDepth 100000
set_option maxHeartbeats 4000000
theorem topOf_pairs (p : Pg) (c : Int) : (topOf p c).pairs.length ≤ 9 := by
  unfold topOf
  split
  · exact pairsT_le 3
  · exact Nat.zero_le _
theorem sumOf_pairs (p : Pg) {sums : List Sy} (h : ∀ x ∈ sums, x.pairs.length ≤ 9) (c : Int) : (sumOf p sums c).pairs.length ≤ 9 := by
  unfold sumOf
  split
  · next e => exact h _ (fnd_mem e)
  · exact topOf_pairs p c
theorem needOf_ok {p : Pg} {s : Su} {sums : List Sy} (id : Int) (hf : Fits p) (hr : s.rules.length < 2^30) (hs : ∀ x ∈ sums, x.pairs.length ≤ 9) : NeOk (needOf p s id sums).1 := by
  have z : NeOk zNe := ⟨by simp [zNe], by simp [zNe], by simp [zNe], by simp [zNe]⟩
  unfold needOf
  split
  · next e =>
    split
    · have hm0 := fnd_mem e
      have hd := hf.decl _ hm0
      have hz := szD _ (hf.words _ hm0)
      have hc := rcalls_len (fnd (fun x : Df => x.id == id) zDf p.defs).1.body
      refine ⟨?_, ?_, ?_, ?_⟩
      · show (declW p _).length < 2^62; omega
      · show ((rcalls _).map (sumOf p sums)).length < 2^30; rw [List.length_map]; omega
      · intro x hx
        obtain ⟨c, _, rfl⟩ := List.mem_map.1 (show x ∈ (rcalls _).map (sumOf p sums) from hx)
        have := sumOf_pairs p hs c; omega
      · show (s.rules.filter _).length < 2^30
        exact Nat.lt_of_le_of_lt (List.length_filter_le _ _) hr
    · exact z
  · exact z
end Abs
namespace Abs
open Go Go.Proofs
set_option maxRecDepth 100000
set_option maxHeartbeats 4000000
structure Ch where
  kind : Int
  at' : Int
  n : Int
def encCh (z : Ch) : Dat := .agg [u8 z.kind, u8 z.at', u8 z.n]
structure ChOk (z : Ch) : Prop where
  kind : 0 ≤ z.kind ∧ z.kind < 256
  at' : 0 ≤ z.at' ∧ z.at' < 256
  n : 0 ≤ z.n ∧ z.n < 256
def Df.nm (d : Df) (s : List UInt8) : Df := ⟨d.id, d.site, s, d.firm, d.part, d.params, d.given, d.vars, d.refs, d.arrays, d.budget, d.body⟩
def finP (q : Pg) : Pg := sortP (wHeads q) q.defs.dropLast (q.defs.getLastD zD)
def Pg.ds (p : Pg) (l : List Df) : Pg := ⟨p.d, p.heads, l, p.threads⟩
theorem fin_ok (q : Pg) (h : 0 < q.defs.length) (h2 : q.defs.length < 2^28) : CallsA Tryz.prog 73 [encP (wHeads q)] ct0 (encP (finP q)) ct0 := by
  have hne : q.defs ≠ [] := fun e => by rw [e] at h; simp at h
  have e : q.defs = q.defs.dropLast ++ [q.defs.getLastD zD] := by
    have := List.dropLast_concat_getLast hne
    rw [List.getLastD_eq_getLast?, List.getLast?_eq_some_getLast hne]
    exact this.symm
  exact sorted_ok (wHeads q) _ _ e (by rw [List.length_dropLast]; omega)
structure ChCx (p : Pg) (z : Ch) (k : Nat) : Prop where
  ok : ChOk z
  hk : k < p.defs.length
  len : p.defs.length < 2^20
  e : z.at'.tmod ((p.defs.map encD).length : Nat) = (k : Int)
  id : 0 ≤ (p.defs.getD k zD).id ∧ (p.defs.getD k zD).id < 1000
theorem change3_ok {p : Pg} {z : Ch} {k : Nat} (c : ChCx p z k) (h7 : z.kind.tmod 7 = 3) :
    CallsA Tryz.prog 30 [encP p, encCh z] ct0 (encP (if (fnd (fun x : Df => x.id == 20 + z.n.tmod 2) zDf p.defs).2 then finP (p.ds p.defs) else finP (p.ds (p.defs ++ [spareD (20 + z.n.tmod 2) (z.n.tmod 4)])))) ct0 := by
  have hk := c.hk
  have hl := c.len
  have q0 : (z.kind.tmod 7 == 0) = false := by rw [h7]; rfl
  have q1 : (z.kind.tmod 7 == 1) = false := by rw [h7]; rfl
  have q2 : (z.kind.tmod 7 == 2) = false := by rw [h7]; rfl
  have q3 : (z.kind.tmod 7 == 3) = true := by rw [h7]; rfl
  have q4 : (z.kind.tmod 7 == 4) = false := by rw [h7]; rfl
  have q5 : (z.kind.tmod 7 == 5) = false := by rw [h7]; rfl
  have q9 : (!(z.kind.tmod 7 == 3)) = false := by rw [h7]; rfl
  have hE := c.e
  have ha := c.ok.at'
  have hll : (p.defs.map encD).length = p.defs.length := List.length_map ..
  have hn := tm_bd c.ok.n.1 2 (by omega)
  have hn4 := tm_bd c.ok.n.1 4 (by omega)
  have hx : ∃ a, a = z.n.tmod 2 := ⟨_, rfl⟩
  refine hx.elim fun a hx => ?_
  have hy : ∃ b, b = z.n.tmod 4 := ⟨_, rfl⟩
  refine hy.elim fun b hy => ?_
  rw [← hx] at hn ⊢
  rw [← hy] at hn4 ⊢
  have hx := hx.symm
  have hy := hy.symm
  have cs := spare_ok (20 + a) b (by omega)
  have cf := refFindIn_ok p (20 + a) (by omega)
  refine (Bool.eq_false_or_eq_true ((fnd (fun x : Df => x.id == 20 + a) zDf p.defs).2)).elim (fun b0 => ?_) (fun b0 => ?_)
  · have n0 : (!(fnd (fun x : Df => x.id == 20 + a) zDf p.defs).2) = false := by rw [b0]; rfl
    rw [if_pos b0]
    have hW := withHeads_ok (p.ds p.defs) (by show p.defs.length < _; omega)
    have hF := fin_ok (p.ds p.defs) (by show 0 < p.defs.length; omega) (by show p.defs.length < _; omega)
    refine fn_ok hm Tryz.func30 (fun _ => false) [] (fun _ => []) (by kernel_rfl) ?_
    refine run ?_
    refine Idx.mapE k hE hk rfl ?_
    refine run ?_
    refine Idx.mapE k hE hk rfl ?_
    refine run ?_
    refine run ?_; repeat ((apply call_ok; first | exact (cs) | exact (cf)); refine run ?_)
    refine run ?_; repeat ((apply call_ok; first | exact (hW) | exact (hF)); refine run ?_)
    exact Done.mk rfl rfl
  · have n0 : (!(fnd (fun x : Df => x.id == 20 + a) zDf p.defs).2) = true := by rw [b0]; rfl
    rw [if_neg (by rw [b0]; simp)]
    have e : p.defs.map encD ++ [encD (spareD (20 + a) b)] = (p.defs ++ [spareD (20 + a) b]).map encD := by simp
    have hW : CallsA Tryz.prog 22 [.agg (cDc p.d ++ [lst 5 encH p.heads, .sl 12 (p.defs.map encD ++ [encD (spareD (20 + a) b)]) false, ints p.threads])] ct0 (encP (wHeads (p.ds (p.defs ++ [spareD (20 + a) b])))) ct0 := by
      rw [e]; exact withHeads_ok (p.ds (p.defs ++ [spareD (20 + a) b])) (by show (p.defs ++ _).length < _; simp; omega)
    have hF := fin_ok (p.ds (p.defs ++ [spareD (20 + a) b])) (by show 0 < (p.defs ++ _).length; simp) (by show (p.defs ++ _).length < _; simp; omega)
    refine fn_ok hm Tryz.func30 (fun _ => false) [] (fun _ => []) (by kernel_rfl) ?_
    refine run ?_
    refine Idx.mapE k hE hk rfl ?_
    refine run ?_
    refine Idx.mapE k hE hk rfl ?_
    refine run ?_
    refine run ?_; repeat ((apply call_ok; first | exact (cs) | exact (cf)); refine run ?_)
    refine run ?_; repeat ((apply call_ok; first | exact (hW) | exact (hF)); refine run ?_)
    exact Done.mk rfl rfl
end Abs
namespace Abs
open Go Go.Proofs
set_option maxRecDepth 100000
set_option maxHeartbeats 4000000
structure PgPre (n : Nat) (p : Pg) : Prop where
  locks : p.d.locks = 3
  parts : p.d.parts = 3
  decl : p.d.globals.length = 2 ∧ p.d.classes.length = 2 ∧ p.d.queues.length = 1 ∧ p.d.sinks.length = 3
  pos : 0 < p.defs.length
  nd : p.defs.length ≤ 4 + n
  th : 0 < p.threads.length
  nt : p.threads.length ≤ 2
  ok : ∀ d ∈ p.defs, DfOk n d
theorem PgPre.heads {n : Nat} {p : Pg} (h : PgPre n p) : PgOk n (wHeads p) :=
  ⟨h.locks, h.parts, h.decl, rfl, h.pos, h.nd, h.th, h.nt, h.ok⟩
theorem PgOk.pre {n : Nat} {p : Pg} (h : PgOk n p) : PgPre n p := ⟨h.locks, h.parts, h.decl, h.pos, h.nd, h.th, h.nt, h.ok⟩
theorem PgPre.up {n : Nat} {p : Pg} (h : PgPre n p) : PgPre (n + 1) p := ⟨h.locks, h.parts, h.decl, h.pos, by have := h.nd; omega, h.th, h.nt, fun d hd => (h.ok d hd).up⟩
theorem PgOk.up {n : Nat} {p : Pg} (h : PgOk n p) : PgOk (n + 1) p := ⟨h.locks, h.parts, h.decl, h.heads, h.pos, by have := h.nd; omega, h.th, h.nt, fun d hd => (h.ok d hd).up⟩
theorem PgPre.set {n : Nat} {p : Pg} (h : PgPre n p) {k : Nat} {d : Df} (hd : DfOk n d) : PgPre n (p.ds (p.defs.set k d)) :=
  ⟨h.locks, h.parts, h.decl, by show 0 < (p.defs.set k d).length; rw [List.length_set]; exact h.pos, by show (p.defs.set k d).length ≤ _; rw [List.length_set]; exact h.nd, h.th, h.nt,
    fun x hx => (List.mem_or_eq_of_mem_set hx).elim (fun hx => h.ok x hx) (fun e => e ▸ hd)⟩
theorem DfOk.sz {n : Nat} {d : Df} (h : DfOk n d) : szL d.body ≤ 40000 + 30 * n := by
  have h1 := h.w
  have h2 := szL_fm d.body
  unfold W at h1; omega
end Abs
namespace Abs
open Go Go.Proofs
set_option maxRecDepth 100000
set_option maxHeartbeats 4000000
theorem u16_bd (x : Int) : 0 ≤ IntKind.u16.wrap x ∧ IntKind.u16.wrap x < 65536 := by
  simp [IntKind.wrap, IntKind.bits, IntKind.signed]; omega
def nStep (n : N8) : Nat → N8
  | 0 => ⟨IntKind.u16.wrap (n.a + IntKind.u16.wrap ((0 : Nat) : Int)), n.b, n.c, n.d, n.e, n.f, n.g, n.h⟩
  | 1 => ⟨n.a, IntKind.u16.wrap (n.b + IntKind.u16.wrap ((1 : Nat) : Int)), n.c, n.d, n.e, n.f, n.g, n.h⟩
  | 2 => ⟨n.a, n.b, IntKind.u16.wrap (n.c + IntKind.u16.wrap ((2 : Nat) : Int)), n.d, n.e, n.f, n.g, n.h⟩
  | 3 => ⟨n.a, n.b, n.c, IntKind.u16.wrap (n.d + IntKind.u16.wrap ((3 : Nat) : Int)), n.e, n.f, n.g, n.h⟩
  | _ => n
def nAt (n : N8) : Nat → N8
  | 0 => n
  | k + 1 => nStep (nAt n k) k
theorem nStep_ok {n : N8} (h : N8Ok n) : ∀ k, N8Ok (nStep n k)
  | 0 => ⟨u16_bd _, h.b, h.c, h.d, h.e, h.f, h.g, h.h⟩
  | 1 => ⟨h.a, u16_bd _, h.c, h.d, h.e, h.f, h.g, h.h⟩
  | 2 => ⟨h.a, h.b, u16_bd _, h.d, h.e, h.f, h.g, h.h⟩
  | 3 => ⟨h.a, h.b, h.c, u16_bd _, h.e, h.f, h.g, h.h⟩
  | _ + 4 => h
theorem nAt_ok {n : N8} (h : N8Ok n) : ∀ k, N8Ok (nAt n k)
  | 0 => h
  | k + 1 => nStep_ok (nAt_ok h k) k
def zSum : Sy := ⟨0, 0, 0, 0, 0, 0, 0, 0, 0, [], 0⟩
open Classical in
noncomputable def someS (p : Pg) (id : Int) (n : N8) : Sy := if h : ∃ s : Sy, s.id = id ∧ s.pairs.length ≤ 9 ∧ CallsA Tryz.prog 68 [encP p, it id, encN8 n] ct0 (encSy s) ct0 then h.choose else zSum
theorem someS_ok (p : Pg) (id : Int) (n : N8) (hn : N8Ok n) (hL : p.d.locks = 3) (hP : p.d.parts = 3) : (someS p id n).id = id ∧ (someS p id n).pairs.length ≤ 9 ∧ CallsA Tryz.prog 68 [encP p, it id, encN8 n] ct0 (encSy (someS p id n)) ct0 := by
  have h := some_ok p id n hn hL hP
  unfold someS
  rw [dif_pos h]
  exact h.choose_spec
noncomputable def sAt (p : Pg) (n : N8) (k : Nat) : Sy := someS p (p.heads.getD k zHd).id (nAt n (k + 1))
noncomputable def sumsP (p : Pg) (n : N8) : List Sy := (List.range p.heads.length).map (sAt p n)
inductive Q5 where
  | q0 | q1 | q2 | q3 | q4
def Q5.k : Q5 → Nat
  | .q0 => 0 | .q1 => 1 | .q2 => 2 | .q3 => 3 | .q4 => 4
theorem Q5.all {P : Q5 → Prop} (a : P .q0) (b : P .q1) (c : P .q2) (d : P .q3) (e : P .q4) : ∀ q, P q
  | .q0 => a | .q1 => b | .q2 => c | .q3 => d | .q4 => e
theorem sumsP_mem {p : Pg} (h : PgOk 0 p) {n : N8} (hn : N8Ok n) : ∀ s ∈ sumsP p n, s.pairs.length ≤ 9 := by
  intro s hs
  obtain ⟨k, _, rfl⟩ := List.mem_map.1 hs
  exact (someS_ok p _ _ (nAt_ok hn _) h.locks h.parts).2.1
theorem sumsP_len (p : Pg) (n : N8) : (sumsP p n).length = p.heads.length := by simp [sumsP]
theorem summaries_ok (p : Pg) (h : PgOk 0 p) (n : N8) (hn : N8Ok n) : CallsA Tryz.prog 29 [encP p, encN8 n] ct0 (lst 11 encSy (sumsP p n)) ct0 := by
  have hl : p.heads.length ≤ 4 := by rw [h.heads, List.length_map]; have := h.nd; omega
  have hc : ∀ k (hk : k < p.heads.length), CallsA Tryz.prog 68 [encP p, it (p.heads[k]).id, encN8 (nAt n (k + 1))] ct0 (encSy (sAt p n k)) ct0 := fun k hk => by
    have e : p.heads.getD k zHd = p.heads[k] := by simp [List.getD, hk]
    have := (someS_ok p (p.heads.getD k zHd).id _ (nAt_ok hn (k + 1)) h.locks h.parts).2.2
    unfold sAt
    rw [e] at this ⊢
    exact this
  have hend : ∀ k, k ≤ p.heads.length → ¬ k < p.heads.length → ((List.range k).map (sAt p n)).map encSy = (sumsP p n).map encSy := fun k h1 h2 => by
    rw [show k = p.heads.length by omega]; rfl
  refine fn_ok hm Tryz.func29 (fun _ => false) [] (fun _ => []) (by kernel_rfl) ?_
  refine run ?_
  refine LoopS.mk ⟨[], HeadS.lp (fun q : Q5 => q.k ≤ p.heads.length) (fun q => ⟨[(6, it q.k), (5, .ref 7 q.k)], [(3, encN8 (nAt n q.k))], [(7, ⟨11, true, ((List.range q.k).map (sAt p n)).map encSy⟩)]⟩) (fun q => 5 - q.k) .q0 (Nat.zero_le _) ?_⟩
  refine Q5.all ?_ ?_ ?_ ?_ ?_
  · intro hJ
    by_cases hk : 0 < p.heads.length
    · have b1 : decide (((0 : Nat) : Int) < ((p.heads.map encH).length : Nat)) = true := decide_eq_true (by rw [List.length_map]; omega)
      have c := hc 0 hk
      refine run ?_
      refine Need.mk (by decide) ?_
      refine run ?_
      refine Idx.at rfl (by decide) rfl ?_
      refine run ?_
      refine Arith.mk ?_
      refine run ?_
      refine Arith.mk ?_
      refine run ?_
      refine Need.mk (by decide) ?_
      refine run ?_
      refine Need.mk (show 0 < 8 by decide) ?_
      refine run ?_
      refine Idx.map hk rfl ?_
      refine run ?_; repeat ((apply call_ok; first | exact (c)); refine run ?_)
      refine ⟨⟨.q1, hk⟩, (show 5 - 1 < 5 - 0 by decide), ?_⟩
      repeat' (first | exact trivial | exact rfl | refine ⟨?_, ?_⟩ | refine ⟨?_, ?_, ?_⟩)
    · have b1 : decide (((0 : Nat) : Int) < ((p.heads.map encH).length : Nat)) = false := decide_eq_false (by rw [List.length_map]; omega)
      have e := hend 0 hJ hk
      refine run ?_
      exact Done.mk (congrArg (fun x => Dat.sl 11 x false) e) rfl
  · intro hJ
    by_cases hk : 1 < p.heads.length
    · have b1 : decide (((1 : Nat) : Int) < ((p.heads.map encH).length : Nat)) = true := decide_eq_true (by rw [List.length_map]; omega)
      have c := hc 1 hk
      refine run ?_
      refine Need.mk (by decide) ?_
      refine run ?_
      refine Idx.at rfl (by decide) rfl ?_
      refine run ?_
      refine Arith.mk ?_
      refine run ?_
      refine Arith.mk ?_
      refine run ?_
      refine Need.mk (by decide) ?_
      refine run ?_
      refine Need.mk (show 1 < 8 by decide) ?_
      refine run ?_
      refine Idx.map hk rfl ?_
      refine run ?_; repeat ((apply call_ok; first | exact (c)); refine run ?_)
      refine ⟨⟨.q2, hk⟩, (show 5 - 2 < 5 - 1 by decide), ?_⟩
      repeat' (first | exact trivial | exact rfl | refine ⟨?_, ?_⟩ | refine ⟨?_, ?_, ?_⟩)
    · have b1 : decide (((1 : Nat) : Int) < ((p.heads.map encH).length : Nat)) = false := decide_eq_false (by rw [List.length_map]; omega)
      have e := hend 1 hJ hk
      refine run ?_
      exact Done.mk (congrArg (fun x => Dat.sl 11 x false) e) rfl
  · intro hJ
    by_cases hk : 2 < p.heads.length
    · have b1 : decide (((2 : Nat) : Int) < ((p.heads.map encH).length : Nat)) = true := decide_eq_true (by rw [List.length_map]; omega)
      have c := hc 2 hk
      refine run ?_
      refine Need.mk (by decide) ?_
      refine run ?_
      refine Idx.at rfl (by decide) rfl ?_
      refine run ?_
      refine Arith.mk ?_
      refine run ?_
      refine Arith.mk ?_
      refine run ?_
      refine Need.mk (by decide) ?_
      refine run ?_
      refine Need.mk (show 2 < 8 by decide) ?_
      refine run ?_
      refine Idx.map hk rfl ?_
      refine run ?_; repeat ((apply call_ok; first | exact (c)); refine run ?_)
      refine ⟨⟨.q3, hk⟩, (show 5 - 3 < 5 - 2 by decide), ?_⟩
      repeat' (first | exact trivial | exact rfl | refine ⟨?_, ?_⟩ | refine ⟨?_, ?_, ?_⟩)
    · have b1 : decide (((2 : Nat) : Int) < ((p.heads.map encH).length : Nat)) = false := decide_eq_false (by rw [List.length_map]; omega)
      have e := hend 2 hJ hk
      refine run ?_
      exact Done.mk (congrArg (fun x => Dat.sl 11 x false) e) rfl
  · intro hJ
    by_cases hk : 3 < p.heads.length
    · have b1 : decide (((3 : Nat) : Int) < ((p.heads.map encH).length : Nat)) = true := decide_eq_true (by rw [List.length_map]; omega)
      have c := hc 3 hk
      refine run ?_
      refine Need.mk (by decide) ?_
      refine run ?_
      refine Idx.at rfl (by decide) rfl ?_
      refine run ?_
      refine Arith.mk ?_
      refine run ?_
      refine Arith.mk ?_
      refine run ?_
      refine Need.mk (by decide) ?_
      refine run ?_
      refine Need.mk (show 3 < 8 by decide) ?_
      refine run ?_
      refine Idx.map hk rfl ?_
      refine run ?_; repeat ((apply call_ok; first | exact (c)); refine run ?_)
      refine ⟨⟨.q4, hk⟩, (show 5 - 4 < 5 - 3 by decide), ?_⟩
      repeat' (first | exact trivial | exact rfl | refine ⟨?_, ?_⟩ | refine ⟨?_, ?_, ?_⟩)
    · have b1 : decide (((3 : Nat) : Int) < ((p.heads.map encH).length : Nat)) = false := decide_eq_false (by rw [List.length_map]; omega)
      have e := hend 3 hJ hk
      refine run ?_
      exact Done.mk (congrArg (fun x => Dat.sl 11 x false) e) rfl
  · intro hJ
    by_cases hk : 4 < p.heads.length
    · exfalso; omega
    · have b1 : decide (((4 : Nat) : Int) < ((p.heads.map encH).length : Nat)) = false := decide_eq_false (by rw [List.length_map]; omega)
      have e := hend 4 hJ hk
      refine run ?_
      exact Done.mk (congrArg (fun x => Dat.sl 11 x false) e) rfl
theorem needX (p : Pg) (s : Su) (id : Int) (sums : List Sy) (N : Ne) (e : Int) (c : CallsA Tryz.prog 31 [encP p, encSu s, it id, lst 11 encSy sums] ct0 (.tup [encN N, it e]) ct0) :
    CallsA Tryz.prog 10 [encP p, encSu s, it id, lst 11 encSy sums] ct0 (.agg (cN N ++ [it e])) ct0 := by
  refine fn_ok hm Tryz.func10 (fun _ => false) [] (fun _ => []) (by kernel_rfl) ?_
  refine run ?_; repeat ((apply call_ok; first | exact (c)); refine run ?_)
  exact Done.mk rfl rfl
theorem need_ok (p : Pg) (s : Su) (id : Int) (sums : List Sy) (hf : Fits p) (hs : sums.length < 2^40) (hr : s.rules.length < 2^30) :
    CallsA Tryz.prog 10 [encP p, encSu s, it id, lst 11 encSy sums] ct0 (.agg (cN (needOf p s id sums).1 ++ [it (needOf p s id sums).2])) ct0 :=
  needX p s id sums _ _ (dOf_ok p s id sums hf hs hr)
end Abs
namespace Abs
open Go Go.Proofs
set_option maxRecDepth 100000
set_option maxHeartbeats 4000000
structure Cse where
  b : List UInt8
  k : Int
  r : List Rw
  level : Int
  s : N8
def encCase (x : Cse) : Dat := .agg [byt x.b, u8 x.k, lst 9 encRw x.r, u8 x.level, u16 x.s.a, u16 x.s.b, u16 x.s.c, u16 x.s.d, u16 x.s.e, u16 x.s.f, u16 x.s.g, u16 x.s.h]
structure CseOk (x : Cse) : Prop where
  k : 0 ≤ x.k ∧ x.k < 256
  r : ∀ y ∈ x.r, RwOk y
  level : 0 ≤ x.level ∧ x.level < 256
  s : N8Ok x.s
def rulesC (x : Cse) : List Ru := ordR ((x.r.take 5).map madeR)
def setupC (x : Cse) : Su := ⟨x.level.tmod 3, rulesC x⟩
def kC (x : Cse) : Nat := (x.k.tmod ((madeP x.b).defs.length : Nat)).toNat
def idC (x : Cse) : Int := ((madeP x.b).defs.getD (kC x) zD).id
theorem kC_lt {x : Cse} (h : CseOk x) : kC x < (madeP x.b).defs.length ∧ x.k.tmod ((madeP x.b).defs.length : Nat) = (kC x : Int) := by
  have hp := (madeP_ok x.b).pos
  have := tm_bd h.k.1 ((madeP x.b).defs.length : Nat) (by omega)
  unfold kC; omega
theorem rulesC_len (x : Cse) : (rulesC x).length ≤ 5 := by
  have h1 := pick_le ((x.r.take 5).map madeR) (idsR ((x.r.take 5).map madeR))
  have h2 := ids_len ((x.r.take 5).map madeR) []
  unfold rulesC ordR
  have h3 : (idsR ((x.r.take 5).map madeR)).length ≤ 0 + ((x.r.take 5).map madeR).length := h2
  rw [List.length_map, List.length_take] at h3
  omega
theorem madeX (x : Cse) (h : CseOk x) (P : Pg) (S : List Sy) (kk : Nat) (D : Df) (hpos : 0 < P.defs.length) (hx : P.defs[kk]? = some D) (hk2 : x.k.tmod (P.defs.length : Nat) = (kk : Int))
    (cm : CallsA Tryz.prog 26 [.agg [byt x.b]] ct0 (encP P) ct0) (cs : CallsA Tryz.prog 29 [encP P, encN8 x.s] ct0 (lst 11 encSy S) ct0) :
    CallsA Tryz.prog 8 [encCase x] ct0 (.tup [encP P, it D.id, encSu (setupC x), lst 11 encSy S]) ct0 := by
  have hl := h.level
  have hlv := tm_bd hl.1 3 (by omega)
  have hka := h.k
  have hdl : (P.defs.map encD).length = P.defs.length := List.length_map ..
  have hk3 : x.k.tmod ((P.defs.map encD).length : Nat) = (kk : Int) := by rw [hdl]; exact hk2
  have hre : ∀ y ∈ x.r, CallsA Tryz.prog 27 [encRw y] ct0 (encRu (madeR y)) ct0 := fun y hy => madeR_ok y (h.r y hy)
  have hfin : ∀ k, k ≤ x.r.length → k ≤ 5 → (¬ k < x.r.length ∨ k = 5) → CallsA Tryz.prog 28 [.sl 10 (((x.r.take k).map madeR).map encRu) false] ct0 (lst 10 encRu (rulesC x)) ct0 := fun k h1 h2 h3 => by
    have e : x.r.take k = x.r.take 5 := by
      rcases h3 with h3 | h3
      · rw [List.take_of_length_le (by omega), List.take_of_length_le (by omega)]
      · rw [h3]
    rw [e]
    exact ordered_ok ((x.r.take 5).map madeR) (by rw [List.length_map, List.length_take]; omega)
  have hR : ∃ R, R = rulesC x := ⟨_, rfl⟩
  refine hR.elim fun R hR => ?_
  have hsu : encSu (setupC x) = .agg [it (x.level.tmod 3), lst 10 encRu R] := by rw [hR]; rfl
  rw [hsu]
  rw [← hR] at hfin
  refine fn_ok hm Tryz.func8 (fun _ => false) [] (fun _ => []) (by kernel_rfl) ?_
  refine run ?_; repeat ((apply call_ok; first | exact (cm)); refine run ?_)
  refine LoopS.mk ⟨[.cell 7 1 20004], HeadS.lp (fun r : CR => (r.k ≤ x.r.length ∧ r.k ≤ 5) ∧ r.acc = ((x.r.take r.k).map madeR).map encRu) (fun r => ⟨[(8, it r.k)], [(7, .agg [it (x.level.tmod 3), .ref 20004 r.acc.length])], [(20004, ⟨10, true, r.acc⟩)]⟩) (fun r => 6 - r.k) ⟨0, []⟩ ⟨⟨Nat.zero_le _, Nat.zero_le _⟩, rfl⟩ ?_⟩
  intro r hJ
  have h1 := hJ.1.1
  have h5 := hJ.1.2
  have h2 := hJ.2
  have hal : r.acc.length ≤ 5 := by rw [h2, List.length_map, List.length_map, List.length_take]; omega
  have hf := hfin r.k h1 h5
  rw [← h2] at hf
  by_cases hk' : r.k < x.r.length
  · have b1 : decide ((r.k : Int) < ((x.r.map encRw).length : Nat)) = true := decide_eq_true (by rw [List.length_map]; omega)
    by_cases h6 : r.k < 5
    · have b2 : decide ((r.k : Int) < 5) = true := decide_eq_true (by omega)
      have c := hre _ (List.getElem_mem hk')
      have hN : r.acc ++ [encRu (madeR x.r[r.k])] = ((x.r.take (r.k + 1)).map madeR).map encRu := by rw [h2, map_take hk', List.map_append]; rfl
      refine run ?_
      refine Idx.map hk' rfl ?_
      refine run ?_; repeat ((apply call_ok; first | exact (c)); refine run ?_)
      refine ⟨⟨⟨r.k + 1, _⟩, ⟨⟨hk', h6⟩, hN⟩⟩, Nat.sub_lt_sub_left (show r.k < 6 by omega) (Nat.lt_succ_self _), ?_⟩
      repeat' (first | exact trivial | exact rfl | refine ⟨?_, ?_⟩ | refine ⟨?_, ?_, ?_⟩)
    · have b2 : decide ((r.k : Int) < 5) = false := decide_eq_false (by omega)
      have c := hf (.inr (by omega))
      refine run ?_; repeat ((apply call_ok; first | exact (c)); refine run ?_)
      refine Idx.mapG kk D hk3 hx rfl ?_
      refine run ?_; repeat ((apply call_ok; first | exact (cs)); refine run ?_)
      exact Done.mk rfl rfl
  · have b1 : decide ((r.k : Int) < ((x.r.map encRw).length : Nat)) = false := decide_eq_false (by rw [List.length_map]; omega)
    have c := hf (.inl hk')
    refine run ?_; repeat ((apply call_ok; first | exact (c)); refine run ?_)
    refine Idx.mapG kk D hk3 hx rfl ?_
    refine run ?_; repeat ((apply call_ok; first | exact (cs)); refine run ?_)
    exact Done.mk rfl rfl
theorem madeC_ok (x : Cse) (h : CseOk x) : CallsA Tryz.prog 8 [encCase x] ct0 (.tup [encP (madeP x.b), it (idC x), encSu (setupC x), lst 11 encSy (sumsP (madeP x.b) x.s)]) ct0 := by
  have hk := kC_lt h
  have hpg := madeP_ok x.b
  have hid : idC x = ((madeP x.b).defs[kC x]'hk.1).id := by unfold idC; rw [List.getD_eq_getElem?_getD, List.getElem?_eq_getElem hk.1]; rfl
  rw [hid]
  exact madeX x h (madeP x.b) _ (kC x) _ hpg.pos (List.getElem?_eq_getElem hk.1) hk.2 (Made_ok x.b) (summaries_ok (madeP x.b) hpg x.s h.s)
end Abs
namespace Abs
open Go Go.Proofs
set_option maxRecDepth 100000
set_option maxHeartbeats 4000000
def sampleD (nm : List UInt8) : Df := ⟨1, 9, nm, 0, 0, [⟨0, 8, 0⟩], [], 1, 0, [], 9, [.mk 8 24 0 0 0 (.mk 4 0 0 [.mk 2 0 0 [], .mk 1 0 1 []]) (.mk 0 0 0 []) (.mk 0 [] []) [] [] [] []]⟩
def sampleP (nm : List UInt8) : Pg := wHeads ⟨declD, [], [sampleD nm], []⟩
theorem sample_ok (nm : List UInt8) : CallsA Tryz.prog 25 [.str nm] ct0 (encP (sampleP nm)) ct0 := by
  have c1 := num_ok 1
  have c2 := var_ok 0
  have c3 := bin_ok 4 (eVar 0) (eNum 1)
  have c4 := declared_ok
  have c5 := withHeads_ok ⟨declD, [], [sampleD nm], []⟩ (by simp)
  refine fn_ok hm Tryz.func25 (fun _ => false) [] (fun _ => []) (by kernel_rfl) ?_
  refine run ?_; repeat ((apply call_ok; first | exact (c1) | exact (c2) | exact (c3) | exact (c4) | exact (c5)); refine run ?_)
  exact Done.mk rfl rfl
def ru1 : Ru := ⟨1, 1, 0, 5, 0, 0, 0, 0, 0, 0⟩
def ru2 : Ru := ⟨2, 1, 0, 4, 0, 0, 0, 0, 0, 0⟩
def smB : List UInt8 := (wD (nmD (sampleD [102]))).flatMap wB
def smL : List Int := declW (sampleP [102]) []
def smN (b : List UInt8) (d : List Int) : Ne := ⟨1, b, d, [], [ru2], 0⟩
def smM (b : List UInt8) (d : List Int) : Ne := ⟨1, b, d, [], [], 1⟩
theorem nd1 : needOf (sampleP [102]) ⟨0, [ru1, ru2]⟩ 1 [] = (smN smB smL, 0) := by kernel_rfl
theorem nd2 : needOf (sampleP [103]) ⟨0, [ru2]⟩ 1 [] = (smN smB smL, 0) := by kernel_rfl
theorem nd3 : needOf (sampleP [102]) ⟨1, []⟩ 1 [] = (smM smB smL, 0) := by kernel_rfl
theorem nd4 : needOf (sampleP [102]) ⟨0, []⟩ 2 [] = (zNe, 4) := by kernel_rfl
theorem smOps (nm : List UInt8) : dops (sampleD nm).body = [4] := by kernel_rfl
theorem smFits (nm : List UInt8) (h : nm.length ≤ 100) : Fits (sampleP nm) := by
  have e1 : (wD (nmD (sampleD nm))).length = (wD (nmD (sampleD []))).length := rfl
  have e2 : Nat.blt (wD (nmD (sampleD []))).length (2^30) = true := by kernel_rfl
  have e3 : Nat.blt (declW (sampleP []) (rcalls (sampleD []).body)).length (2^30) = true := by kernel_rfl
  refine ⟨rfl, by simp [sampleP, wHeads], by simp [sampleP, wHeads], ?_, ?_⟩
  · intro d hd
    have : d = sampleD nm := List.mem_singleton.1 hd
    subst this
    rw [e1]; simpa [Nat.blt_eq] using e2
  · intro d hd
    have : d = sampleD nm := List.mem_singleton.1 hd
    subst this
    show (declW (sampleP []) (rcalls (sampleD []).body)).length < 2^30
    simpa [Nat.blt_eq] using e3
theorem smNe (b : List UInt8) (d : List Int) : (smN b d == smM b d) = false := by
  rw [beq_eq_false_iff_ne]
  intro h
  have := congrArg Ne.level h
  simp [smN, smM] at this
theorem addI_nil (n : Int) : addI [] n = [n] := by simp [addI]
def hint7 : Nat → List Ad
  | 3 => [.lay 3]
  | _ => []
theorem exX (b : List UInt8) (d : List Int) (hok : NeOk (smN b d)) (hom : NeOk (smM b d))
    (c1 : CallsA Tryz.prog 10 [encP (sampleP [102]), encSu ⟨0, [ru1, ru2]⟩, it 1, lst 11 encSy []] ct0 (.agg (cN (smN b d) ++ [it 0])) ct0)
    (c2 : CallsA Tryz.prog 10 [encP (sampleP [103]), encSu ⟨0, [ru2]⟩, it 1, lst 11 encSy []] ct0 (.agg (cN (smN b d) ++ [it 0])) ct0)
    (c3 : CallsA Tryz.prog 10 [encP (sampleP [102]), encSu ⟨1, []⟩, it 1, lst 11 encSy []] ct0 (.agg (cN (smM b d) ++ [it 0])) ct0)
    (c4 : CallsA Tryz.prog 10 [encP (sampleP [102]), encSu ⟨0, []⟩, it 2, lst 11 encSy []] ct0 (.agg (cN zNe ++ [it 4])) ct0)
    (c5 : CallsA Tryz.prog 14 [encD (sampleD [102])] ct0 (ints [4]) ct0) : CallsA Tryz.prog 7 [] ct0 (bo true) ct0 := by
  have hne := smNe b d
  have s1 : CallsA Tryz.prog 25 [.str [102]] ct0 (encP (sampleP [102])) ct0 := sample_ok [102]
  have s2 : CallsA Tryz.prog 25 [.str [103]] ct0 (encP (sampleP [103])) ct0 := sample_ok [103]
  have d1 : CallsA Tryz.prog 16 [encN (smN b d), encN (smN b d)] ct0 (bo true) ct0 := by
    have := depSame_ok (smN b d) (smN b d) hok
    rwa [beq_self_eq_true] at this
  have d2 : CallsA Tryz.prog 16 [encN (smN b d), encN (smM b d)] ct0 (bo false) ct0 := by
    have := depSame_ok (smN b d) (smM b d) hok
    rwa [hne] at this
  have n1 : newN [smN b d] (smN b d) = false := by simp [newN]
  have n2 : newN [smN b d] (smM b d) = true := by simp [newN, hne]
  have r1 : CallsA Tryz.prog 18 [lst 6 encN [smN b d], lst 6 encN [smN b d, smM b d]] ct0 (ints [1]) ct0 := by
    have := dReopens_ok [smN b d] [smN b d, smM b d] (fun x hx => by rw [List.mem_singleton.1 hx]; exact hok) (by simp) (by simp)
    rw [reop_eq] at this
    have e : rreop [smN b d] [smN b d, smM b d] = [1] := by
      simp only [rreop, List.foldl_cons, List.foldl_nil, rpS, n1, n2, Bool.false_eq_true, if_false, if_true]
      exact addI_nil 1
    rwa [e] at this
  have r2 : CallsA Tryz.prog 18 [lst 6 encN [smN b d], lst 6 encN [smN b d]] ct0 (ints []) ct0 := by
    have := dReopens_ok [smN b d] [smN b d] (fun x hx => by rw [List.mem_singleton.1 hx]; exact hok) (by simp) (by simp)
    rw [reop_eq] at this
    have e : rreop [smN b d] [smN b d] = [] := by
      simp only [rreop, List.foldl_cons, List.foldl_nil, rpS, n1, Bool.false_eq_true, if_false]
    rwa [e] at this
  have i1 : CallsA Tryz.prog 13 [ints [4], ints [4]] ct0 (bo true) ct0 := sameInts_ok [4] [4] (by simp)
  have i2 : CallsA Tryz.prog 13 [ints [1], ints [1]] ct0 (bo true) ct0 := sameInts_ok [1] [1] (by simp)
  refine fn_ok hm Tryz.func7 (fun _ => false) [] hint7 (by kernel_rfl) ?_
  refine run ?_; repeat ((apply call_ok; first | exact (s1) | exact (s2) | exact (c1) | exact (c2) | exact (c3) | exact (c4) | exact (c5)); refine run ?_)
  refine Idx.at rfl (by decide) rfl ?_
  refine run ?_; repeat ((apply call_ok; first | exact (c5) | exact (i1)); refine run ?_)
  refine Idx.at rfl (by decide) rfl ?_
  refine run ?_; repeat ((apply call_ok; first | exact (c4) | exact (d1) | exact (d2) | exact (r1) | exact (r2) | exact (i1) | exact (i2)); refine run ?_)
  exact Done.mk rfl rfl
theorem examples_ok : CallsA Tryz.prog 7 [] ct0 (bo true) ct0 := by
  have h1 := need_ok (sampleP [102]) ⟨0, [ru1, ru2]⟩ 1 [] (smFits [102] (by simp)) (by simp) (by simp)
  have h2 := need_ok (sampleP [103]) ⟨0, [ru2]⟩ 1 [] (smFits [103] (by simp)) (by simp) (by simp)
  have h3 := need_ok (sampleP [102]) ⟨1, []⟩ 1 [] (smFits [102] (by simp)) (by simp) (by simp)
  have h4 := need_ok (sampleP [102]) ⟨0, []⟩ 2 [] (smFits [102] (by simp)) (by simp) (by simp)
  have k1 := needOf_ok (p := sampleP [102]) (s := ⟨0, [ru1, ru2]⟩) (sums := []) 1 (smFits [102] (by simp)) (by simp) (by simp)
  have k3 := needOf_ok (p := sampleP [102]) (s := ⟨1, []⟩) (sums := []) 1 (smFits [102] (by simp)) (by simp) (by simp)
  rw [nd1] at h1 k1
  rw [nd2] at h2
  rw [nd3] at h3 k3
  rw [nd4] at h4
  have h5 : CallsA Tryz.prog 14 [encD (sampleD [102])] ct0 (ints [4]) ct0 := by
    have := dOps_ok (sampleD [102]) ((smFits [102] (by simp)).words (sampleD [102]) (List.mem_singleton.2 rfl))
    rwa [smOps] at this
  exact exX smB smL k1 k3 h1 h2 h3 h4 h5
end Abs
namespace Abs
open Go Go.Proofs
set_option maxRecDepth 100000
set_option maxHeartbeats 4000000
end Abs
namespace Abs
open Go Go.RowKit
inductive Sh where
  | bool
  | int (k : IntKind)
  | str
  | sl (e : Sh)
  | st (fs : List Sh)
  | arr (n : Nat) (e : Sh)
mutual
def shSz : Sh → Nat
  | .bool => 1
  | .int _ => 1
  | .str => 1
  | .sl _ => 1
  | .st fs => shSzs fs
  | .arr n e => n * shSz e
def shSzs : List Sh → Nat
  | [] => 0
  | s :: l => shSz s + shSzs l
end
def isAg : Sh → Bool
  | .st _ => true
  | .arr _ _ => true
  | _ => false
def mkD (s : Sh) (c : List Dat) : Dat := if isAg s then .agg c else c.headD .any
def TyN (T : List Dat → Prop) : Nat → List Dat → Prop
  | 0, l => l = []
  | n + 1, l => ∃ a b, l = a ++ b ∧ T a ∧ TyN T n b
mutual
def Ty : Sh → List Dat → Prop
  | .bool, l => ∃ b, l = [.bool b]
  | .int k, l => ∃ n, l = [.int k n] ∧ (Lit.int k n).wf = true
  | .str, l => ∃ s : List UInt8, l = [.str s] ∧ s.length ≤ maxLen
  | .sl e, l => ∃ es, l = [.sl (shSz e) es false] ∧ es.length ≤ maxLen ∧ ∀ x ∈ es, ∃ c, x = mkD e c ∧ Ty e c
  | .st fs, l => TyAll fs l
  | .arr n e, l => TyN (Ty e) n l
def TyAll : List Sh → List Dat → Prop
  | [], l => l = []
  | s :: fs, l => ∃ a b, l = a ++ b ∧ Ty s a ∧ TyAll fs b
end
theorem TyN.len {T : List Dat → Prop} {k : Nat} (h : ∀ l, T l → l.length = k) : ∀ (n : Nat) (l : List Dat), TyN T n l → l.length = n * k
  | 0, l, e => by rw [TyN] at e; subst e; simp
  | n + 1, l, e => by
    rw [TyN] at e
    obtain ⟨a, b, rfl, ha, hb⟩ := e
    rw [List.length_append, h a ha, TyN.len h n b hb, Nat.succ_mul]; omega
mutual
theorem Ty.len : ∀ (s : Sh) (l : List Dat), Ty s l → l.length = shSz s
  | .bool, l, h => by rw [Ty] at h; obtain ⟨b, rfl⟩ := h; simp [shSz]
  | .int k, l, h => by rw [Ty] at h; obtain ⟨b, rfl, _⟩ := h; simp [shSz]
  | .str, l, h => by rw [Ty] at h; obtain ⟨b, rfl, _⟩ := h; simp [shSz]
  | .sl e, l, h => by rw [Ty] at h; obtain ⟨b, rfl, _⟩ := h; simp [shSz]
  | .st fs, l, h => by rw [Ty] at h; rw [shSz]; exact TyAll.len fs l h
  | .arr n e, l, h => by rw [Ty] at h; rw [shSz]; exact TyN.len (Ty.len e) n l h
theorem TyAll.len : ∀ (fs : List Sh) (l : List Dat), TyAll fs l → l.length = shSzs fs
  | [], l, h => by rw [TyAll] at h; subst h; simp [shSzs]
  | s :: fs, l, h => by
    rw [TyAll] at h
    obtain ⟨a, b, rfl, ha, hb⟩ := h
    rw [List.length_append, Ty.len s a ha, TyAll.len fs b hb, shSzs]
end
theorem Ty.cells {s : Sh} {c : List Dat} (h : Ty s c) : Abs.cells (mkD s c) = c := by
  cases s <;> rw [Ty] at h
  · obtain ⟨b, rfl⟩ := h; rfl
  · obtain ⟨b, rfl, _⟩ := h; rfl
  · obtain ⟨b, rfl, _⟩ := h; rfl
  · obtain ⟨b, rfl, _⟩ := h; rfl
  · rfl
  · rfl
def fldB (P : Program) (F : TypeId → Sh → Bool) : Nat → List Field → List Sh → Bool
  | _, [], [] => true
  | off, g :: gs, s :: fs => Nat.beq g.offset off && (Nat.beq (P.cellsOf g.type) (shSz s) && (F g.type s && fldB P F (off + shSz s) gs fs))
  | _, _, _ => false
def shB (P : Program) : Nat → TypeId → Sh → Bool
  | 0, _, _ => false
  | n + 1, t, s => Nat.beq (P.cellsOf t) (shSz s) && match P.underlying t, s with
    | some .bool, .bool => true
    | some (.int k), .int k' => decide (k = k')
    | some .string, .str => true
    | some (.slice e), .sl u => Nat.blt 0 (shSz u) && (Nat.beq (P.cellsOf e) (shSz u) && shB P n e u)
    | some (.struct gs), .st fs => fldB P (shB P n) 0 gs.toList fs
    | some (.array m e), .arr m' u => Nat.beq m m' && (Nat.beq (P.cellsOf e) (shSz u) && shB P n e u)
    | _, _ => false
def Iw (W : World) (b o : Nat) : Option Value := match W.cell? ⟨b, o, none⟩ with
  | some v => if leaf v then some v else none
  | none => none
theorem Iw_some {W : World} {b o : Nat} {v : Value} (h : W.cell? ⟨b, o, none⟩ = some v) (hl : leaf v = true) : Iw W b o = some v := by
  unfold Iw; rw [h]; simp [hl]
theorem Iw_of {W : World} {b o : Nat} {v : Value} (h : Iw W b o = some v) : W.cell? ⟨b, o, none⟩ = some v ∧ leaf v = true := by
  unfold Iw at h
  split at h
  · split at h
    · cases h; exact ⟨by assumption, by assumption⟩
    · cases h
  · cases h
def Reads (I : Nat → Nat → Option Value) (cs : List Value) (l : List Dat) : Prop :=
  l.length = cs.length ∧ ∀ (i : Nat) v x, cs[i]? = some v → nth l i = some x → RepI I v x ∧ leaf v = true
theorem Reads.nil {I : Nat → Nat → Option Value} : Reads I [] [] := ⟨rfl, fun i v x h => by simp at h⟩
theorem Reads.one {I : Nat → Nat → Option Value} {v : Value} {d : Dat} (r : RepI I v d) (h : leaf v = true) : Reads I [v] [d] := by
  refine ⟨rfl, fun i u x hu hx => ?_⟩
  cases i with
  | zero => simp at hu; simp [nth] at hx; subst hu hx; exact ⟨r, h⟩
  | succ i => simp at hu
theorem Reads.append {I : Nat → Nat → Option Value} {a b : List Value} {l m : List Dat} (h : Reads I a l) (k : Reads I b m) : Reads I (a ++ b) (l ++ m) := by
  refine ⟨by rw [List.length_append, List.length_append, h.1, k.1], fun i v x hv hx => ?_⟩
  rw [nth_eq] at hx
  rcases Nat.lt_or_ge i a.length with hi | hi
  · rw [List.getElem?_append_left hi] at hv
    rw [List.getElem?_append_left (by rw [h.1]; exact hi)] at hx
    exact h.2 i v x hv (by rw [nth_eq]; exact hx)
  · rw [List.getElem?_append_right hi] at hv
    rw [List.getElem?_append_right (by rw [h.1]; exact hi), h.1] at hx
    exact k.2 _ v x hv (by rw [nth_eq]; exact hx)
section
variable {H : Type} {enc : TypeId × Value → H} {P : Program} {W : World} {sp : Nat → Bool} {held : Bool}
theorem flds_ty {F : TypeId → Sh → Bool} {m : Nat} {cs : List Value} (IH : ∀ t s cs x, F t s = true → DataW.trod enc P W 0 sp held m t cs = some x → ∃ l, Reads (Iw W) cs l ∧ Ty s l) :
    ∀ (gs : List Field) (fs : List Sh) (off : Nat), fldB P F off gs fs = true → cs.length = off + shSzs fs →
      (∀ f ∈ gs, ∃ x, DataW.trod enc P W 0 sp held m f.type ((cs.drop f.offset).take (P.cellsOf f.type)) = some x) → ∃ l, Reads (Iw W) (cs.drop off) l ∧ TyAll fs l
  | [], fs, off, hb, hl, hx => by
    cases fs with
    | cons s fs => simp [fldB] at hb
    | nil =>
      refine ⟨[], ?_, by rw [TyAll]⟩
      rw [List.drop_eq_nil_of_le (by rw [hl]; simp [shSzs])]
      exact Reads.nil
  | g :: gs, fs, off, hb, hl, hx => by
    cases fs with
    | nil => simp [fldB] at hb
    | cons s fs =>
      simp only [fldB, Bool.and_eq_true] at hb
      obtain ⟨h1, h2, h3, h4⟩ := hb
      have e1 : g.offset = off := Nat.eq_of_beq_eq_true h1
      have e2 : P.cellsOf g.type = shSz s := Nat.eq_of_beq_eq_true h2
      rw [shSzs] at hl
      obtain ⟨x, hx1⟩ := hx g (by simp)
      rw [e1, e2] at hx1
      obtain ⟨l, hr, ht⟩ := IH _ _ _ _ h3 hx1
      obtain ⟨l', hr', ht'⟩ := flds_ty IH gs fs (off + shSz s) h4 (by omega) (fun f hf => hx f (by simp [hf]))
      refine ⟨l ++ l', ?_, by rw [TyAll]; exact ⟨l, l', rfl, ht, ht'⟩⟩
      have e : cs.drop off = (cs.drop off).take (shSz s) ++ cs.drop (off + shSz s) := by
        rw [← List.drop_drop, List.take_append_drop]
      rw [e]
      exact hr.append hr'
theorem arr_ty {m e k : Nat} {u : Sh} {cs : List Value} (IH : ∀ cs x, DataW.trod enc P W 0 sp held m e cs = some x → ∃ l, Reads (Iw W) cs l ∧ Ty u l) (n : Nat)
    (hl : cs.length = n * k) (hx : ∀ i, i < n → ∃ x, DataW.trod enc P W 0 sp held m e ((cs.drop (i * k)).take k) = some x) :
    ∀ (r i : Nat), i + r = n → ∃ l, Reads (Iw W) (cs.drop (i * k)) l ∧ TyN (Ty u) r l
  | 0, i, hi => by
    refine ⟨[], ?_, by rw [TyN]⟩
    rw [List.drop_eq_nil_of_le (by rw [hl, ← hi]; simp)]
    exact Reads.nil
  | r + 1, i, hi => by
    obtain ⟨x, hx1⟩ := hx i (by omega)
    obtain ⟨l, hr, ht⟩ := IH _ _ hx1
    obtain ⟨l', hr', ht'⟩ := arr_ty IH n hl hx r (i + 1) (by omega)
    refine ⟨l ++ l', ?_, by rw [TyN]; exact ⟨l, l', rfl, ht, ht'⟩⟩
    have e : cs.drop (i * k) = (cs.drop (i * k)).take k ++ cs.drop ((i + 1) * k) := by
      rw [Nat.succ_mul, ← List.drop_drop, List.take_append_drop]
    rw [e]
    exact hr.append hr'
theorem cells_get {a : Addr} {n : Nat} {cs : List Value} (h : W.cells? 0 a n = some cs) : cs.length = n ∧ ∀ i, i < n → W.cell? (a.add i) = cs[i]? := by
  unfold World.cells? at h
  rw [if_pos (Nat.zero_le _)] at h
  exact ⟨by simpa using mapM_some_length h, fun i hi => mapM_some_get h i i (by simp [hi])⟩
theorem add_plain (b o n : Nat) : Addr.add ⟨b, o, none⟩ n = ⟨b, o + n, none⟩ := by
  unfold Addr.add; split <;> simp_all
theorem trod_ty : ∀ (n fuel : Nat) (t : TypeId) (s : Sh) (cs : List Value) (x : DataW H × List MemPlace), shB P n t s = true → DataW.trod enc P W 0 sp held fuel t cs = some x →
    ∃ l, Reads (Iw W) cs l ∧ Ty s l := by
  intro n
  induction n with
  | zero => intro fuel t s cs x hb; simp [shB] at hb
  | succ n ih =>
    intro fuel t s cs x hb h
    simp only [shB, Bool.and_eq_true] at hb
    obtain ⟨hc0, hb⟩ := hb
    have hc := Nat.eq_of_beq_eq_true hc0
    clear hc0
    split at hb
    · rename_i ht
      obtain ⟨b, rfl, rfl⟩ := DataW.trod_bool ht h
      exact ⟨[.bool b], .one (.bool b) rfl, by rw [Ty]; exact ⟨b, rfl⟩⟩
    · rename_i k k' ht
      have e : k = k' := of_decide_eq_true hb
      subst e
      obtain ⟨b, rfl, rfl, hw⟩ := DataW.trod_int ht h
      exact ⟨[.int k b], .one (.int k b) rfl, by rw [Ty]; exact ⟨b, rfl, hw⟩⟩
    · rename_i ht
      obtain ⟨b, rfl, rfl, hw⟩ := DataW.trod_string ht h
      refine ⟨[.str b.data.toList], .one ?_ rfl, by rw [Ty]; exact ⟨_, rfl, hw⟩⟩
      exact .str b.data.toList
    · rename_i e u ht
      simp only [Bool.and_eq_true] at hb
      obtain ⟨h0, h1, h2⟩ := hb
      have h0 : 0 < shSz u := by simpa [Nat.blt_eq] using h0
      have h1 := Nat.eq_of_beq_eq_true h1
      rcases DataW.trod_slice ht h with ⟨rfl, _⟩ | ⟨a, len, cap, elems, rest, m, _, rfl, _, _, hlc, hcap, hlen, hel, _⟩
      · exact ⟨[.sl (shSz u) [] false], .one (.slnil _ _) rfl, by rw [Ty]; exact ⟨[], rfl, Nat.zero_le _, fun x hx => by simp at hx⟩⟩
      · have hall : ∀ i, i < len → ∃ c, (∃ vs, W.cells? 0 (a.add (i * shSz u)) (shSz u) = some vs ∧ Reads (Iw W) vs c) ∧ Ty u c := by
          intro i hi
          have hE := hel i hi
          rw [h1] at hE
          have hx : ∃ y, elems[i]? = some y := ⟨elems[i]'(by omega), List.getElem?_eq_getElem (by omega)⟩
          obtain ⟨y, hy⟩ := hx
          rw [hy] at hE
          obtain ⟨vs, hv, ht2⟩ := Option.bind_eq_some_iff.1 hE
          obtain ⟨c, hr, hty⟩ := ih m e u vs y h2 ht2
          exact ⟨c, ⟨vs, hv, hr⟩, hty⟩
        obtain ⟨C, hC⟩ : ∃ C : Nat → List Dat, ∀ i, i < len → (∃ vs, W.cells? 0 (a.add (i * shSz u)) (shSz u) = some vs ∧ Reads (Iw W) vs (C i)) ∧ Ty u (C i) := by
          refine ⟨fun i => if h : i < len then (hall i h).choose else [], fun i hi => ?_⟩
          simp only [hi, dif_pos]
          exact (hall i hi).choose_spec
        have hes : ∃ es, es = (List.range len).map fun i => mkD u (C i) := ⟨_, rfl⟩
        obtain ⟨es, hes⟩ := hes
        have hesl : es.length = len := by rw [hes]; simp
        have hty : ∀ x ∈ es, ∃ c, x = mkD u c ∧ Ty u c := by
          intro x hx
          rw [hes] at hx
          obtain ⟨i, hi, rfl⟩ := List.mem_map.1 hx
          exact ⟨C i, rfl, (hC i (List.mem_range.1 hi)).2⟩
        have hsz : ∀ x ∈ es, (Abs.cells x).length = shSz u := by
          intro x hx
          obtain ⟨c, rfl, hc⟩ := hty x hx
          rw [hc.cells, Ty.len u c hc]
        refine ⟨[.sl (shSz u) es false], .one ?_ rfl, by rw [Ty]; exact ⟨es, rfl, by omega, hty⟩⟩
        by_cases hz : len = 0
        · have : es = [] := List.eq_nil_of_length_eq_zero (by omega)
          rw [this, hz]
          exact .sl0 _ _ _
        have hsp : a.spot = none := by
          obtain ⟨⟨vs, hv, _⟩, _⟩ := hC 0 (by omega)
          obtain ⟨hl, hg⟩ := cells_get hv
          have := hg 0 h0
          rw [List.getElem?_eq_getElem (by omega)] at this
          unfold World.cell? at this
          split at this
          · split at this
            · cases this
            · next q => simpa [Addr.add] using q
          · cases this
        have hkey : ∀ j d, nth (es.flatMap Abs.cells) j = some d → ∃ v, W.cell? ⟨a.block, a.off + j, none⟩ = some v ∧ RepI (Iw W) v d ∧ leaf v = true := by
          intro j d hj
          have hjl : j < len * shSz u := by
            have := flat_length (sz := shSz u) hsz
            rw [nth_eq] at hj
            have := (List.getElem?_eq_some_iff.1 hj).1
            rw [hesl] at *; omega
          have hq : j / shSz u < len := Nat.div_lt_of_lt_mul (by rw [Nat.mul_comm]; exact hjl)
          have hr : j % shSz u < shSz u := Nat.mod_lt _ h0
          have hen : nth es (j / shSz u) = some (mkD u (C (j / shSz u))) := by
            rw [nth_eq, hes, List.getElem?_map, List.getElem?_range hq]; rfl
          have ej : j = j / shSz u * shSz u + j % shSz u := by rw [Nat.mul_comm]; exact (Nat.div_add_mod j (shSz u)).symm
          have hf := nth_flat es (shSz u) (j / shSz u) (j % shSz u) _ hsz hen hr
          rw [← ej, hj] at hf
          obtain ⟨⟨vs, hv, hrd⟩, hct⟩ := hC _ hq
          rw [hct.cells] at hf
          obtain ⟨hl, hg⟩ := cells_get hv
          have hcell := hg _ hr
          rw [List.getElem?_eq_getElem (by omega)] at hcell
          have := hrd.2 _ _ _ (List.getElem?_eq_getElem (by omega)) hf.symm
          refine ⟨_, ?_, this⟩
          rw [← hcell]
          congr 1
          obtain ⟨b0, o0, so0⟩ := a
          have hso : so0 = none := hsp
          subst hso
          rw [add_plain, add_plain]
          dsimp only
          congr 1
          omega
        obtain ⟨b, o, so⟩ := a
        have hsp' : so = none := hsp
        subst hsp'
        rw [← hesl]
        refine .sl b o cap (shSz u) es (fun j => ((W.cell? ⟨b, o + j, none⟩).getD (.bool false))) (by omega) hsz ?_ ?_
        · intro j d hj
          obtain ⟨v, hv, _, hlf⟩ := hkey j d hj
          dsimp only at hv ⊢
          rw [hv]
          exact Iw_some hv hlf
        · intro j d hj
          obtain ⟨v, hv, hr, hlf⟩ := hkey j d hj
          dsimp only at hv ⊢
          rw [hv]
          exact hr
    · rename_i gs fs ht
      obtain ⟨xs, m, _, _, hl, hxl, hf⟩ := DataW.trod_struct ht h
      have := flds_ty (F := shB P n) (m := m) (cs := cs) (fun t s cs x hb hx => ih m t s cs x hb hx) gs.toList fs 0 hb (by rw [hl, hc, shSz]; omega) (fun f hf' => by
        obtain ⟨i, hi, e⟩ := List.mem_iff_getElem.1 hf'
        have hi' : i < gs.size := by simpa using hi
        have := hf i f (by rw [Array.getElem?_eq_getElem hi']; simpa using e)
        rw [this]
        exact ⟨xs[i]'(by omega), List.getElem?_eq_getElem (by omega)⟩)
      obtain ⟨l, hr, hty⟩ := this
      exact ⟨l, by simpa using hr, by rw [Ty]; exact hty⟩
    · rename_i m e m' u ht
      simp only [Bool.and_eq_true] at hb
      obtain ⟨h0, h1, h2⟩ := hb
      have h0 := Nat.eq_of_beq_eq_true h0
      have h1 := Nat.eq_of_beq_eq_true h1
      subst h0
      obtain ⟨xs, k, _, _, hl, hxl, hf⟩ := DataW.trod_array ht h
      rw [h1] at hf
      obtain ⟨l, hr, hty⟩ := arr_ty (e := e) (m := k) (k := shSz u) (u := u) (cs := cs) (fun cs x hx => ih k e u cs x h2 hx) m (by rw [hl, hc, shSz]) (fun i hi => by
        rw [hf i hi]; exact ⟨xs[i]'(by omega), List.getElem?_eq_getElem (by omega)⟩) m 0 (by omega)
      exact ⟨l, by simpa using hr, by rw [Ty]; exact hty⟩
    · cases hb
end
end Abs
namespace Abs
open Go Go.RowKit Go.ChangeShapes
def TyEach : List Sh → List Dat → Prop
  | [], [] => True
  | s :: ss, d :: ds => (∃ l, d = mkD s l ∧ Ty s l) ∧ TyEach ss ds
  | _, _ => False
def shsB (P : Program) (n : Nat) : List TypeId → List Sh → Bool
  | [], [] => true
  | t :: ts, s :: ss => shB P n t s && shsB P n ts ss
  | _, _ => false
section
variable {H : Type} {enc : TypeId × Value → H} {P : Program} {W : World}
theorem leaf_of {t : TypeId} {r : Reach} {b0 : Nat} {v : Value} (hv : Value.okWide P W r b0 t v) (h : (match P.underlying t with | some (.struct _) => False | some (.array _ _) => False | some .bool => True | some (.int _) => True | some .string => True | some (.slice _) => True | _ => False)) : leaf v = true := by
  unfold Value.okWide at hv
  split at hv
  · rename_i e; rw [e] at h; exact h.elim
  · rename_i e; rw [e] at h; exact h.elim
  · cases v <;> first | rfl | (exfalso; revert hv h; unfold Cell.okWide Cell.ok; cases P.underlying t with
      | none => simp
      | some d => cases d <;> simp)
theorem arg_ty {n : Nat} {t : TypeId} {s : Sh} {sp : Nat → Bool} {held : Bool} {v : Value} {d : DataW H} {ps : List MemPlace} {r : Reach} {b0 : Nat} (hb : shB P n t s = true) (hv : Value.okWide P W r b0 t v)
    (h : DataW.Trod enc P W 0 sp held t v d ps) : ∃ l, Ty s l ∧ RepI (Iw W) v (mkD s l) := by
  obtain ⟨fuel, h⟩ := h
  obtain ⟨l, hr, hty⟩ := trod_ty n fuel t s _ _ hb h
  refine ⟨l, hty, ?_⟩
  cases n with
  | zero => simp [shB] at hb
  | succ n =>
    simp only [shB, Bool.and_eq_true] at hb
    obtain ⟨hc0, hb⟩ := hb
    clear hc0
    have one : leaf v = true → isAg s = false → RepI (Iw W) v (mkD s l) := by
      intro hlv hs
      have hc : v.cells = #[v] := by cases v <;> first | rfl | simp [leaf] at hlv
      rw [hc] at hr
      have hlen := hr.1
      match l, hlen with
      | [x], _ =>
        unfold mkD
        rw [hs]
        exact (hr.2 0 v x rfl rfl).1
    have two : ∀ cs, v = .agg cs → isAg s = true → RepI (Iw W) v (mkD s l) := by
      intro cs e hs
      subst e
      unfold mkD
      rw [hs]
      have hc : (Value.agg cs).cells = cs := rfl
      rw [hc] at hr
      refine .agg cs l (by rw [hr.1]; simp) (fun i u hu => ?_) (fun i u x hu hx => ?_)
      · have hi : i < l.length := by
          rw [hr.1]; simpa using (Array.getElem?_eq_some_iff.1 hu).1
        have : nth l i = some l[i] := by rw [nth_eq]; exact List.getElem?_eq_getElem hi
        exact (hr.2 i u _ (by simpa using hu) this).2
      · exact (hr.2 i u x (by simpa using hu) hx).1
    split at hb
    · rename_i ht; exact one (leaf_of hv (by rw [ht]; trivial)) rfl
    · rename_i ht; exact one (leaf_of hv (by rw [ht]; trivial)) rfl
    · rename_i ht; exact one (leaf_of hv (by rw [ht]; trivial)) rfl
    · rename_i ht; exact one (leaf_of hv (by rw [ht]; trivial)) rfl
    · rename_i ht
      unfold Value.okWide at hv
      rw [ht] at hv
      obtain ⟨cs, e, _⟩ := hv
      exact two cs e rfl
    · rename_i ht
      unfold Value.okWide at hv
      rw [ht] at hv
      obtain ⟨cs, e, _⟩ := hv
      exact two cs e rfl
    · cases hb
theorem args_ty {n : Nat} {sp : Nat → Bool} {held : Bool} {r : Reach} {b0 : Nat} : ∀ (ts : List TypeId) (ss : List Sh) (vs : List Value) (ds : List (DataW H)) (ps : List MemPlace), shsB P n ts ss = true →
    (∀ (j : Nat) t v, ts[j]? = some t → vs[j]? = some v → Value.okWide P W r b0 t v) → DataW.TrodAll enc P W 0 sp held ts vs ds ps →
    ∃ xs, TyEach ss xs ∧ xs.length = vs.length ∧ ∀ (i : Nat) v x, vs[i]? = some v → nth xs i = some x → RepI (Iw W) v x
  | [], ss, vs, ds, ps, hb, hv, h => by
    obtain ⟨rfl, rfl, rfl⟩ := trodAll_nil h
    cases ss with
    | cons s ss => simp [shsB] at hb
    | nil => exact ⟨[], trivial, rfl, fun i v x hi => by simp at hi⟩
  | t :: ts, ss, vs, ds, ps, hb, hv, h => by
    cases ss with
    | nil => simp [shsB] at hb
    | cons s ss =>
      simp only [shsB, Bool.and_eq_true] at hb
      obtain ⟨v0, vs0, d0, ds0, p0, q0, rfl, rfl, rfl, h0, r0⟩ := trodAll_cons h
      obtain ⟨l, hty, hrep⟩ := arg_ty hb.1 (hv 0 t v0 rfl rfl) h0
      obtain ⟨xs, hxs, hlen, hreps⟩ := args_ty ts ss vs0 ds0 q0 hb.2 (fun j t v ht hv' => hv (j + 1) t v (by simpa using ht) (by simpa using hv')) r0
      refine ⟨mkD s l :: xs, ⟨⟨l, rfl, hty⟩, hxs⟩, by simp [hlen], fun i v x hi hx => ?_⟩
      cases i with
      | zero => simp at hi; simp [nth] at hx; subst hi hx; exact hrep
      | succ i => exact hreps i v x (by simpa using hi) (by simpa [nth] using hx)
theorem trodAll_stays {W' : World} {sp : Nat → Bool} (hl : laidOutB P = true) : ∀ (ts : List TypeId) (vs : List Value) (ds : List (DataW H)) (ps : List MemPlace),
    (∀ t ∈ ts, P.readableRec t = true ∧ t < P.types.size) → DataW.TrodAll enc P W 0 (fun _ => true) true ts vs ds ps → (∀ p ∈ ps, W.sameAt W' p) → (∀ p ∈ ps, sp p.block = true) →
    DataW.TrodAll enc P W' 0 sp true ts vs ds ps
  | [], vs, ds, ps, _, h, _, _ => by
    obtain ⟨rfl, rfl, rfl⟩ := trodAll_nil h
    exact trodAll_mk0
  | t :: ts, vs, ds, ps, hr, h, hs, hp => by
    obtain ⟨v0, vs0, d0, ds0, p0, q0, rfl, rfl, rfl, h0, r0⟩ := trodAll_cons h
    have h1 := hr t (by simp)
    exact ⟨p0, q0, WideElems.Trod_stays hl h1.1 h1.2 h0 (fun p hp => hs p (by simp [hp])) (fun p hq => hp p (by simp [hq])),
      trodAll_stays hl ts vs0 ds0 q0 (fun t ht => hr t (by simp [ht])) r0 (fun p hp => hs p (by simp [hp])) (fun p hq => hp p (by simp [hq])), rfl⟩
theorem mem_start {args : List Dat} (W : World) : Mem (Cx.of 0 (Gh.X ⟨Iw W, fun _ => none, fun _ => none⟩) W (Iw W)) ⟨Iw W, fun _ => none, fun _ => none⟩ (init args ⟨[], []⟩) W := by
  refine ⟨fun b o v h => Iw_of h, fun l d h => ?_, fun l b h => ?_, fun l m b h _ => ?_, fun l b h => ?_, fun k r h => ?_, fun k t h => ?_, fun k j t u b h => ?_, fun b o v h => .inl h, Frame.refl _ _, fun b h => .inl h⟩
  · have : boxArgs [] 1000 (fun _ => none) l = some d := h
    cases this
  · cases h
  · cases h
  · cases h
  · have : rowArgs [] 1000 (fun _ => none) k = some r := h
    cases this
  · cases h
  · cases h
theorem law_calls {f : FuncId} {fn : Func} {ts : List TypeId} {ss : List Sh} {s : ChangeSpec} {tb : TypeId} (hp : fn.params.toList = ts) (hres : fn.resultTypes = #[tb]) (htb : P.underlying tb = some .bool) (hb : shsB P 20 ts ss = true)
    (hl : laidOutB P = true) (hro : ts.all (fun t => P.readableRec t && decide (t < P.types.size)) = true) (hsv : s.vars = [])
    (hs : ∀ ds : List (DataW H), ds.length = ts.length → s.fn H ds = { results := [.lit (.bool true)], args := ds })
    (law : ∀ xs, TyEach ss xs → CallsA P f xs ⟨[], []⟩ (.bool true) ⟨[], []⟩)
    {base : Nat} {args : Array Value} {ds gs : List (DataW H)} {before : List MemPlace}
    (hval : ∀ (j : Nat) t v, fn.params[j]? = some t → args[j]? = some v → Value.okWide P W .any base t v)
    (hW : DataW.Whole enc P fn.params.toList s.vars false W args.toList ds gs before) :
    Calls P f args W fun e W' => ∃ v, e = .returned v ∧ s.post enc P fn false true false false W args v W' := by
  have hW' := hW
  have hlt := hW.lt
  obtain ⟨p, q, hA, hV, rfl, _, _⟩ := hW
  rw [hsv] at hV
  obtain ⟨rfl, rfl⟩ := trodVars_none hV
  simp only [List.append_nil] at hlt hW'
  rw [hp] at hA
  have hdl : ds.length = ts.length := by
    have : ∀ (ts : List TypeId) (vs : List Value) (ds : List (DataW H)) (ps : List MemPlace), DataW.TrodAll enc P W 0 (fun _ => true) true ts vs ds ps → ds.length = ts.length := by
      intro ts
      induction ts with
      | nil => intro vs ds ps h; obtain ⟨rfl, rfl, rfl⟩ := trodAll_nil h; rfl
      | cons t ts ih =>
        intro vs ds ps h
        obtain ⟨v0, vs0, d0, ds0, p0, q0, rfl, rfl, rfl, h0, r0⟩ := trodAll_cons h
        simp [ih _ _ _ r0]
    exact this _ _ _ _ hA
  obtain ⟨xs, hxs, hlen, hrep⟩ := args_ty ts ss args.toList ds p hb (fun j t v ht hv => hval j t v (by rw [← hp] at ht; simpa using ht) (by simpa using hv)) hA
  have hc := (law xs hxs).go ⟨Iw W, fun _ => none, fun _ => none⟩ W args (by simpa using hlen.symm) (fun i v d hv hd => .pure (hrep i v d (by simpa using hv) hd)) (mem_start W)
  refine hc.mono fun e W' he => ?_
  cases e with
  | returned v =>
    obtain ⟨γ', hext, hr, hm⟩ := he
    have hv : v = .bool true := by
      cases hr with
      | pure r => cases r; rfl
    have hfr : Frame W W' (Gh.X ⟨Iw W, fun _ => none, fun _ => none⟩) := hm.frame
    have hsame : ∀ b, b < W.heap.size → W'.heap[b]? = W.heap[b]? := fun b hb => hfr.block b hb (fun h => by
      rcases h with ⟨l, h⟩ | ⟨k, t, h, _⟩
      · cases h
      · cases h)
    have hat : ∀ x ∈ p, W.sameAt W' x := fun x hx => by
      have := hsame _ (hlt x hx)
      cases x with
      | cell b off => show W'.cell? _ = W.cell? _; unfold World.cell?; dsimp only; rw [show W'.heap[b]? = W.heap[b]? from this]
      | map b => exact this
    subst hv
    refine ⟨_, rfl, ds, [], p, [], p, [], hW', ?_, ?_, ?_, ?_, fun h => by cases h⟩
    · rw [List.append_nil, hs ds hdl, hres]
      exact trodAll_mk1 (shut_bool htb true)
    · rw [List.append_nil, hs ds hdl, hp]
      refine trodAll_stays hl ts _ _ _ (fun t ht => ?_) hA hat (fun x hx => by simpa using hlt x hx)
      have := List.all_eq_true.1 hro t ht
      simpa using this
    · rw [List.append_nil, hs ds hdl, hsv]; rfl
    · refine ⟨hfr.os, hfr.output, fun i hi => ?_⟩
      rw [hsame i hi]
      cases W.heap[i]? with
      | none => rfl
      | some o => cases o <;> first | rfl | exact ⟨rfl, rfl, rfl, fun _ _ => rfl⟩ | exact .inr ⟨rfl, rfl⟩
  | _ => exact he.elim
end
end Abs
namespace Abs
open Go Go.Proofs
set_option maxRecDepth 100000
set_option maxHeartbeats 4000000
theorem ty_cons {s : Sh} {fs : List Sh} {l : List Dat} (h : TyAll (s :: fs) l) : ∃ a b, l = a ++ b ∧ Ty s a ∧ TyAll fs b := by rw [TyAll] at h; exact h
theorem ty_nil {l : List Dat} (h : TyAll [] l) : l = [] := by rw [TyAll] at h; exact h
theorem ty_st {fs : List Sh} {l : List Dat} (h : Ty (.st fs) l) : TyAll fs l := by rw [Ty] at h; exact h
theorem ty_u8 {l : List Dat} (h : Ty (.int .u8) l) : ∃ n, l = [u8 n] ∧ 0 ≤ n ∧ n < 256 := by
  rw [Ty] at h
  obtain ⟨n, rfl, hw⟩ := h
  have : 0 ≤ n ∧ n ≤ 255 := by simpa [Lit.wf, IntKind.min, IntKind.max, IntKind.signed, IntKind.bits] using hw
  exact ⟨n, rfl, by omega, by omega⟩
theorem ty_u16 {l : List Dat} (h : Ty (.int .u16) l) : ∃ n, l = [u16 n] ∧ 0 ≤ n ∧ n < 65536 := by
  rw [Ty] at h
  obtain ⟨n, rfl, hw⟩ := h
  have : 0 ≤ n ∧ n ≤ 65535 := by simpa [Lit.wf, IntKind.min, IntKind.max, IntKind.signed, IntKind.bits] using hw
  exact ⟨n, rfl, by omega, by omega⟩
theorem ty_i16 {l : List Dat} (h : Ty (.int .i16) l) : ∃ n, l = [i16 n] ∧ -32768 ≤ n ∧ n < 32768 := by
  rw [Ty] at h
  obtain ⟨n, rfl, hw⟩ := h
  have : -32768 ≤ n ∧ n ≤ 32767 := by simpa [Lit.wf, IntKind.min, IntKind.max, IntKind.signed, IntKind.bits] using hw
  exact ⟨n, rfl, by omega, by omega⟩
theorem ty_sl {e : Sh} {l : List Dat} (h : Ty (.sl e) l) : ∃ es, l = [.sl (shSz e) es false] ∧ es.length ≤ maxLen ∧ ∀ x ∈ es, ∃ c, x = mkD e c ∧ Ty e c := by rw [Ty] at h; exact h
theorem tyN_s {T : List Dat → Prop} {n : Nat} {l : List Dat} (h : TyN T (n+1) l) : ∃ a b, l = a ++ b ∧ T a ∧ TyN T n b := by rw [TyN] at h; exact h
theorem tyN_0 {T : List Dat → Prop} {l : List Dat} (h : TyN T 0 l) : l = [] := by rw [TyN] at h; exact h
theorem list_of {α : Type} {e : Sh} {enc : α → Dat} {ok : α → Prop} (h : ∀ c, Ty e c → ∃ z, mkD e c = enc z ∧ ok z) : ∀ es : List Dat, (∀ x ∈ es, ∃ c, x = mkD e c ∧ Ty e c) → ∃ zs : List α, es = zs.map enc ∧ ∀ z ∈ zs, ok z
  | [], _ => ⟨[], rfl, fun z hz => by simp at hz⟩
  | x :: es, hx => by
    obtain ⟨zs, rfl, hz⟩ := list_of h es (fun y hy => hx y (by simp [hy]))
    obtain ⟨c, rfl, hc⟩ := hx x (by simp)
    obtain ⟨z, hz1, hz2⟩ := h c hc
    refine ⟨z :: zs, by rw [List.map_cons, hz1], fun y hy => ?_⟩
    rcases List.mem_cons.1 hy with rfl | hy
    · exact hz2
    · exact hz y hy
theorem byte_of {c : List Dat} (h : Ty (.int .u8) c) : ∃ z : UInt8, mkD (.int .u8) c = .int .u8 z.toNat ∧ True := by
  obtain ⟨n, rfl, h0, h1⟩ := ty_u8 h
  refine ⟨UInt8.ofNat n.toNat, ?_, trivial⟩
  have e : (((UInt8.ofNat n.toNat).toNat : Nat) : Int) = n := by
    rw [UInt8.toNat_ofNat']; omega
  show u8 n = _
  rw [e]; rfl
def rawS : Sh := .st [.int .u8, .int .u8, .int .u8, .int .u8, .int .u8, .int .i16, .int .i16, .int .u8, .int .u8]
def caseS : Sh := .st [.st [.sl (.int .u8)], .int .u8, .sl rawS, .int .u8, .arr 8 (.int .u16)]
theorem raw_of {c : List Dat} (h : Ty rawS c) : ∃ z, mkD rawS c = encRw z ∧ RwOk z := by
  obtain ⟨_, _, rfl, h1, h⟩ := ty_cons (ty_st h)
  obtain ⟨_, _, rfl, h2, h⟩ := ty_cons h
  obtain ⟨_, _, rfl, h3, h⟩ := ty_cons h
  obtain ⟨_, _, rfl, h4, h⟩ := ty_cons h
  obtain ⟨_, _, rfl, h5, h⟩ := ty_cons h
  obtain ⟨_, _, rfl, h6, h⟩ := ty_cons h
  obtain ⟨_, _, rfl, h7, h⟩ := ty_cons h
  obtain ⟨_, _, rfl, h8, h⟩ := ty_cons h
  obtain ⟨_, _, rfl, h9, h⟩ := ty_cons h
  have := ty_nil h
  subst this
  obtain ⟨n1, rfl, b1⟩ := ty_u8 h1
  obtain ⟨n2, rfl, b2⟩ := ty_u8 h2
  obtain ⟨n3, rfl, b3⟩ := ty_u8 h3
  obtain ⟨n4, rfl, b4⟩ := ty_u8 h4
  obtain ⟨n5, rfl, b5⟩ := ty_u8 h5
  obtain ⟨n6, rfl, b6⟩ := ty_i16 h6
  obtain ⟨n7, rfl, b7⟩ := ty_i16 h7
  obtain ⟨n8, rfl, b8⟩ := ty_u8 h8
  obtain ⟨n9, rfl, b9⟩ := ty_u8 h9
  exact ⟨⟨n1, n2, n3, n4, n5, n6, n7, n8, n9⟩, rfl, ⟨b1, b2, b3, b4, b5, b6, b7, b8, b9⟩⟩
theorem n8_of {c : List Dat} (h : TyN (Ty (.int .u16)) 8 c) : ∃ z : N8, c = [u16 z.a, u16 z.b, u16 z.c, u16 z.d, u16 z.e, u16 z.f, u16 z.g, u16 z.h] ∧ N8Ok z := by
  obtain ⟨_, _, rfl, h1, h⟩ := tyN_s h
  obtain ⟨_, _, rfl, h2, h⟩ := tyN_s h
  obtain ⟨_, _, rfl, h3, h⟩ := tyN_s h
  obtain ⟨_, _, rfl, h4, h⟩ := tyN_s h
  obtain ⟨_, _, rfl, h5, h⟩ := tyN_s h
  obtain ⟨_, _, rfl, h6, h⟩ := tyN_s h
  obtain ⟨_, _, rfl, h7, h⟩ := tyN_s h
  obtain ⟨_, _, rfl, h8, h⟩ := tyN_s h
  have := tyN_0 h
  subst this
  obtain ⟨n1, rfl, b1⟩ := ty_u16 h1
  obtain ⟨n2, rfl, b2⟩ := ty_u16 h2
  obtain ⟨n3, rfl, b3⟩ := ty_u16 h3
  obtain ⟨n4, rfl, b4⟩ := ty_u16 h4
  obtain ⟨n5, rfl, b5⟩ := ty_u16 h5
  obtain ⟨n6, rfl, b6⟩ := ty_u16 h6
  obtain ⟨n7, rfl, b7⟩ := ty_u16 h7
  obtain ⟨n8, rfl, b8⟩ := ty_u16 h8
  exact ⟨⟨n1, n2, n3, n4, n5, n6, n7, n8⟩, rfl, ⟨b1, b2, b3, b4, b5, b6, b7, b8⟩⟩
theorem case_of {c : List Dat} (h : Ty caseS c) : ∃ z, mkD caseS c = encCase z ∧ CseOk z := by
  obtain ⟨_, _, rfl, h1, h⟩ := ty_cons (ty_st h)
  obtain ⟨_, _, rfl, h2, h⟩ := ty_cons h
  obtain ⟨_, _, rfl, h3, h⟩ := ty_cons h
  obtain ⟨_, _, rfl, h4, h⟩ := ty_cons h
  obtain ⟨_, _, rfl, h5, h⟩ := ty_cons h
  have := ty_nil h
  subst this
  obtain ⟨_, _, rfl, k1, h0⟩ := ty_cons (ty_st h1)
  have := ty_nil h0
  subst this
  obtain ⟨e1, rfl, _, he1⟩ := ty_sl k1
  obtain ⟨bs, rfl, _⟩ := list_of (fun c hc => byte_of hc) e1 he1
  obtain ⟨n2, rfl, b2⟩ := ty_u8 h2
  obtain ⟨e3, rfl, hl3, he3⟩ := ty_sl h3
  obtain ⟨rs, rfl, hrs⟩ := list_of (fun c hc => raw_of hc) e3 he3
  obtain ⟨n4, rfl, b4⟩ := ty_u8 h4
  rw [Ty] at h5
  obtain ⟨s, rfl, hs⟩ := n8_of h5
  rw [List.length_map] at hl3
  exact ⟨⟨bs, n2, rs, n4, s⟩, rfl, ⟨b2, hrs, b4, hs⟩⟩
theorem tyE_cons {s : Sh} {ss : List Sh} {xs : List Dat} (h : TyEach (s :: ss) xs) : ∃ l ys, xs = mkD s l :: ys ∧ Ty s l ∧ TyEach ss ys := by
  cases xs with
  | nil => exact h.elim
  | cons d ys =>
    obtain ⟨⟨l, e, hl⟩, hy⟩ := h
    exact ⟨l, ys, by rw [e], hl, hy⟩
theorem tyE_nil {xs : List Dat} (h : TyEach [] xs) : xs = [] := by
  cases xs with
  | nil => rfl
  | cons d ys => exact h.elim
end Abs
namespace Abs
open Go Go.Proofs
set_option maxRecDepth 100000
set_option maxHeartbeats 4000000
theorem madeP_defs (L : List UInt8) : ∃ n, (madeP L).defs = (mdRun L n n).defs ∧ n ≤ 4 ∧ 0 < n := by
  have hb := (⟨L, declD, [], [], [], zD, false⟩ : Mk).nx_bd 0 (n := 4) (by omega)
  exact ⟨(1 + (⟨L, declD, [], [], [], zD, false⟩ : Mk).nx 0 4).toNat, rfl, by omega, by omega⟩
theorem fnd_first {α : Type} {p : α → Bool} {z : α} : ∀ {l : List α} {k : Nat} (hk : k < l.length), p l[k] = true → (∀ j (hj : j < k), p (l[j]'(by omega)) = false) → fnd p z l = (l[k], true)
  | [], k, hk, _, _ => by simp at hk
  | x :: l, 0, hk, h, _ => by
    have h : p x = true := h
    rw [fnd, if_pos h]; rfl
  | x :: l, k + 1, hk, h, hn => by
    have h0 := hn 0 (by omega)
    have e : fnd p z (x :: l) = fnd p z l := by rw [fnd, if_neg]; rw [show p x = false from h0]; simp
    rw [e]
    exact fnd_first (l := l) (k := k) (by simpa using hk) h (fun j hj => hn (j + 1) (by omega))
end Abs
namespace Abs
open Go Go.Proofs
set_option maxRecDepth 100000
set_option maxHeartbeats 4000000
theorem EOk.to {vars na : Int} {k : Nat} {e : Ex} {n : Nat} (h : EOk vars na k e n) : ∀ j, EOk vars na (k+j) e n
  | 0 => h
  | j+1 => (EOk.to h j).up
theorem COk.up {vars na : Int} {k : Nat} {c : Co} {n : Nat} (h : COk vars na k c n) : COk vars na (k+1) c n := by
  induction h with
  | test h ha hb => exact .test h ha.up hb.up
  | not _ ih => exact .not ih
  | and h _ _ iha ihb => exact .and h iha ihb
theorem COk.to {vars na : Int} {k : Nat} {c : Co} {n : Nat} (h : COk vars na k c n) : ∀ j, COk vars na (k+j) c n
  | 0 => h
  | j+1 => (COk.to h j).up
theorem EOk.v {d : Df} {k : Nat} {e : Ex} {n : Nat} (h : EOk d.vars d.arrays.length k e n) (hk : k ≤ 4) : VOk d e :=
  ⟨n, by have := h.sz; have := Nat.pow_le_pow_right (n := 2) (by omega) (show k + 1 ≤ 5 by omega); omega, by have := h.to (10 - k); rwa [show k + (10 - k) = 10 by omega] at this⟩
theorem v_num (d : Df) {v : Int} (h : -2147483648 ≤ v ∧ v ≤ 2147483647) : VOk d (eNum v) := ⟨1, by omega, .num h⟩
theorem Mk.expr_right (m : Mk) (hv : 0 < m.D.vars) : ∀ n a, ∃ z, EOk m.D.vars m.D.arrays.length (n+1) (m.expr n a).1 z
  | 0, a => by
    have b := m.nx_bd (a+1) (n := 14) (by omega)
    rw [Mk.expr]; exact ⟨1, .num (by omega)⟩
  | n+1, a => by
    have b := m.nx_bd (a+1) (n := 14) (by omega)
    have b2 := m.nx_bd (a+1) (n := m.D.vars) hv
    have b3 := m.nx_bd (a+1) (n := 7) (by omega)
    obtain ⟨x, hx⟩ := Mk.expr_right m hv n (a+1+1)
    obtain ⟨y, hy⟩ := Mk.expr_right m hv n (m.expr n (a+1+1)).2
    rw [Mk.expr]
    split
    · exact ⟨1, .num (by omega)⟩
    split
    · exact ⟨1, .var b2⟩
    split
    · rename_i h
      exact ⟨1, .len (m.nx_bd (a+1) (n := m.D.arrays.length) (by omega))⟩
    · exact ⟨_, .bin (by omega) hx hy⟩
theorem Mk.cond_right (m : Mk) (hv : 0 < m.D.vars) : ∀ n a, ∃ z, COk m.D.vars m.D.arrays.length (3+n) (m.cond n a).1 z
  | 0, a => by
    have b := m.nx_bd a (n := 8) (by omega)
    have b2 : 0 ≤ (m.nx a 8).tmod 3 ∧ (m.nx a 8).tmod 3 < 3 := ⟨Int.tmod_nonneg _ b.1, Int.tmod_lt_of_pos _ (by omega)⟩
    obtain ⟨x, hx⟩ := m.expr_right hv 1 (a+1)
    obtain ⟨y, hy⟩ := m.expr_right hv 1 (m.expr 1 (a+1)).2
    rw [Mk.cond]; exact ⟨_, .test (by omega) hx hy⟩
  | n+1, a => by
    have b := m.nx_bd a (n := 8) (by omega)
    have b2 : 0 ≤ (m.nx a 8).tmod 3 ∧ (m.nx a 8).tmod 3 < 3 := ⟨Int.tmod_nonneg _ b.1, Int.tmod_lt_of_pos _ (by omega)⟩
    have b3 := m.nx_bd (m.cond n (a+1)).2 (n := 2) (by omega)
    obtain ⟨x, hx⟩ := m.expr_right hv 1 (a+1)
    obtain ⟨y, hy⟩ := m.expr_right hv 1 (m.expr 1 (a+1)).2
    obtain ⟨z, hz⟩ := Mk.cond_right m hv n (a+1)
    obtain ⟨w, hw⟩ := Mk.cond_right m hv n ((m.cond n (a+1)).2+1)
    rw [Mk.cond]
    split
    · exact ⟨_, (COk.test (k := 2) (by omega) hx hy).to (n+1)⟩
    split
    · exact ⟨_, .not hz⟩
    · exact ⟨_, .and (by omega) hz hw⟩
theorem Mk.v (m : Mk) (hv : 0 < m.D.vars) {n : Nat} (hn : n ≤ 2) (a : Nat) : VOk m.D (m.expr n a).1 := (m.expr_right hv n a).elim fun z h => h.v (by omega)
theorem Mk.t (m : Mk) (hv : 0 < m.D.vars) (a : Nat) : TOk m.D true (m.cond 1 a).1 := (m.cond_right hv 1 a).elim fun z h =>
  ⟨z, by have := h.sz; have : 2^(3+1+1) = 32 := rfl; omega, h.to 6⟩
def CallH (hs : List Hd) (s : Sm) : Prop := s.op = 13 → ∃ h ∈ hs, s.m = h.id ∧ h.params.length = s.args.length ∧ h.given.length = s.ptrs.length
structure Up (s t : Nat) (l : List Int) : Prop where
  le : s ≤ t
  inc : l.Pairwise (· < ·)
  bd : ∀ n ∈ l, (s : Int) < n ∧ n ≤ t
theorem Up.nil (s : Nat) : Up s s [] := ⟨Nat.le_refl _, .nil, fun n h => by cases h⟩
theorem Up.app {s t u : Nat} {a b : List Int} (h : Up s t a) (k : Up t u b) : Up s u (a ++ b) :=
  ⟨Nat.le_trans h.le k.le, List.pairwise_append.2 ⟨h.inc, k.inc, fun x hx y hy => by have := h.bd x hx; have := k.bd y hy; omega⟩, fun n hn => by
    have := h.le; have := k.le
    rcases List.mem_append.1 hn with hn | hn
    · have := h.bd n hn; omega
    · have := k.bd n hn; omega⟩
theorem Up.one (s : Nat) : Up s (s+1) [((s+1 : Nat) : Int)] :=
  ⟨by omega, List.pairwise_singleton _ _, fun n hn => by rw [List.mem_singleton.1 hn]; omega⟩
theorem Up.len : ∀ {l : List Int} {s t : Nat}, Up s t l → l.length ≤ t - s
  | [], _, _, _ => by simp
  | x :: l, s, t, h => by
    have hx := h.bd x List.mem_cons_self
    have hp := List.pairwise_cons.1 h.inc
    have := Up.len (l := l) (s := x.toNat) (t := t) ⟨by omega, hp.2, fun n hn => by have := hp.1 n hn; have := h.bd n (List.mem_cons_of_mem _ hn); omega⟩
    rw [List.length_cons]; omega
structure Rt (m : Mk) (k dep s t : Nat) (ss : List Sm) : Prop where
  ok : ∀ z ∈ flL ss k, (∃ o, SOk m.D declD o z.1) ∧ CallH m.heads z.1 ∧ z.2 ≤ k + dep
  up : Up s t (sitesL (flL ss k))
theorem Rt.nil (m : Mk) (k dep s : Nat) : Rt m k dep s s [] := ⟨fun z h => by simp [flL] at h, Up.nil s⟩
theorem Rt.app {m : Mk} {k dep s t u : Nat} {a b : List Sm} (h : Rt m k dep s t a) (g : Rt m k dep t u b) : Rt m k dep s u (a ++ b) :=
  ⟨fun z hz => by
    rw [flL_append] at hz
    rcases List.mem_append.1 hz with hz | hz
    · exact h.ok z hz
    · exact g.ok z hz, by rw [flL_append, sitesL, List.map_append]; exact h.up.app g.up⟩
theorem Rt.nest {m : Mk} {k dep s t u : Nat} {s0 : Sm} (hs : s0.site = (s+1 : Nat)) (ok : ∃ o, SOk m.D declD o s0) (hc : CallH m.heads s0) (hb : Rt m (k+1) dep (s+1) t s0.body) (he : Rt m (k+1) dep t u s0.els) : Rt m k (dep+1) s u [s0] := by
  have e : flL [s0] k = (s0, k) :: (flL s0.body (k+1) ++ flL s0.els (k+1)) := by rw [flL, flL, List.append_nil, flS_eq]
  refine ⟨fun z hz => ?_, ?_⟩
  · rw [e] at hz
    rcases List.mem_cons.1 hz with rfl | hz
    · exact ⟨ok, hc, by dsimp only; omega⟩
    · rcases List.mem_append.1 hz with hz | hz
      · have := hb.ok z hz; exact ⟨this.1, this.2.1, by omega⟩
      · have := he.ok z hz; exact ⟨this.1, this.2.1, by omega⟩
  · rw [e, sitesL, List.map_cons, List.map_append]
    dsimp only
    rw [hs]
    exact (Up.one s).app (hb.up.app he.up)
theorem Rt.flat {m : Mk} {k dep s : Nat} {s0 : Sm} (hs : s0.site = (s+1 : Nat)) (hb : s0.body = []) (he : s0.els = []) (ok : ∃ o, SOk m.D declD o s0) (hc : CallH m.heads s0) : Rt m k dep s (s+1) [s0] := by
  have e : flL [s0] k = [(s0, k)] := by rw [flL, flL, List.append_nil, flS_eq, hb, he]; rfl
  refine ⟨fun z hz => ?_, ?_⟩
  · rw [e] at hz
    rw [List.mem_singleton.1 hz]; exact ⟨ok, hc, by dsimp only; omega⟩
  · rw [e]; show Up s (s+1) [s0.site]; rw [hs]; exact Up.one s
structure Mk.Rok (m : Mk) : Prop where
  vars : (m.D.params.length : Int) < m.D.vars
  arr : 0 < m.D.arrays.length
  refs : m.D.refs = 2
  heads : ∀ h ∈ m.heads, (1 ≤ h.id ∧ h.id ≤ 100) ∧ h.params.length ≤ 12 ∧ h.given.length ≤ 4
theorem Mk.tg_right {m : Mk} (h : m.Rok) (a : Nat) : (m.D.params.length : Int) ≤ m.tg a ∧ m.tg a ≤ m.D.vars - 1 := by
  have h1 := h.vars
  have e := m.nP_eq
  have := m.nx_bd a (n := m.D.vars - m.nP) (by omega)
  unfold Mk.tg; omega
theorem so_ok {d : Df} {o : Nat} {op : Int} (e : op = o) {s : Nat} (hs : s < 1000000) {n m v : Int} {x y : Ex} {c : Co} (ho : 1 ≤ o ∧ o ≤ 24) (hn : NumOk d declD (tab o).n n) (hm : NumOk d declD (tab o).m m) (hv : NumOk d declD (tab o).v v)
    (hx : XOk d (tab o).x x) (hy : XOk d (tab o).y y) (hc : TOk d (tab o).c c) (hl : (tab o).call = false) : ∃ o, SOk d declD o (S0 (s+1 : Nat) op n m v x y c) :=
  ⟨o, e, ho, ⟨by show (1:Int) ≤ ((s+1 : Nat) : Int); omega, by show ((s+1 : Nat) : Int) ≤ _; omega⟩, hn, hm, hv, hx, hy, hc, by rw [hl]; exact ⟨rfl, rfl⟩, .inr rfl, .inr rfl⟩
theorem no_call {hs : List Hd} {s : Sm} (h : s.op ≠ 13) : CallH hs s := fun e => absurd e h
section
variable {d : Df}
theorem n3 (h : d.refs = 2) {n : Int} (hn : 0 ≤ n ∧ n < 2) : NumOk d declD 3 n := ⟨hn.1, by rw [h]; omega⟩
theorem n5 {n : Int} (h : 0 ≤ n ∧ n < 2) : NumOk d declD 5 n := ⟨h.1, by show n ≤ ((2 : Nat) : Int) - 1; omega⟩
theorem n6 {n : Int} (h : 0 ≤ n ∧ n < 2) : NumOk d declD 6 n := ⟨h.1, by show n ≤ ((2 : Nat) : Int) - 1; omega⟩
theorem n7 : NumOk d declD 7 0 := ⟨by omega, by show (0 : Int) ≤ ((1 : Nat) : Int) - 1; omega⟩
theorem n8 {n : Int} (h : 0 ≤ n ∧ n < 3) : NumOk d declD 8 n := ⟨h.1, by show n ≤ ((3 : Nat) : Int) - 1; omega⟩
theorem n9 {n : Int} (h : 0 ≤ n ∧ n < 3) : NumOk d declD 9 n := ⟨h.1, by show n ≤ 3 - 1; omega⟩
theorem n10 {n : Int} (h : 0 ≤ n ∧ n < 3) : NumOk d declD 10 n := ⟨h.1, by show n ≤ 3 - 1; omega⟩
theorem n4 {n : Int} (h : 0 ≤ n ∧ n < d.arrays.length) : NumOk d declD 4 n := ⟨h.1, by omega⟩
end
theorem Mk.simple_rt {m : Mk} (h : m.Rok) (k dep a s : Nat) (hs : s + 10 < 1000000) : Rt m k dep s (m.simple a s).2.2 (m.simple a s).1 := by
  have tg := fun a => m.tg_right h a
  have hv : 0 < m.D.vars := by have := h.vars; omega
  have na := h.arr
  have b4 := fun a => m.nx_bd a (n := 4) (by omega)
  have b2 := fun a => m.nx_bd a (n := 2) (by omega)
  have b3 := fun a => m.nx_bd a (n := 3) (by omega)
  have b9 := fun a => m.nx_bd a (n := 9) (by omega)
  have e4 := fun a => v_num m.D (v := m.nx a 4) (by have := b4 a; omega)
  have e9 := fun a => v_num m.D (v := m.nx a 9) (by have := b9 a; omega)
  unfold Mk.simple
  repeat' split
  · refine Rt.flat rfl rfl rfl ?_ (no_call (by simp [S0, Sm.op]))
    exact so_ok (o := 2) rfl (by omega) (by omega) (tg _) (n4 (by omega)) rfl (e4 _) rfl rfl rfl
  · refine Rt.flat rfl rfl rfl ?_ (no_call (by simp [S0, Sm.op]))
    exact so_ok (o := 3) rfl (by omega) (by omega) rfl (n4 (by omega)) rfl (e4 _) (m.v hv (by omega) _) rfl rfl
  · refine Rt.flat rfl rfl rfl ?_ (no_call (by simp [S0, Sm.op]))
    exact so_ok (o := 4) rfl (by omega) (by omega) (tg _) (n5 (b2 _)) rfl rfl rfl rfl rfl
  · refine Rt.flat rfl rfl rfl ?_ (no_call (by simp [S0, Sm.op]))
    exact so_ok (o := 20) rfl (by omega) (by omega) (tg _) (n6 (b2 _)) rfl rfl rfl rfl rfl
  · exact (Rt.flat rfl rfl rfl (so_ok (o := 16) rfl (by omega) (by omega) rfl (n9 (b3 _)) rfl rfl rfl rfl rfl) (no_call (by simp [S0, Sm.op]))).app ((Rt.flat rfl rfl rfl (so_ok (o := 5) rfl (by omega) (by omega) rfl (n5 (by omega)) rfl (e9 _) rfl rfl rfl) (no_call (by simp [S0, Sm.op]))).app
      (Rt.flat rfl rfl rfl (so_ok (o := 17) rfl (by omega) (by omega) rfl (n9 (b3 _)) rfl rfl rfl rfl rfl) (no_call (by simp [S0, Sm.op]))))
  · exact (Rt.flat rfl rfl rfl (so_ok (o := 6) rfl (by omega) (by omega) (n3 h.refs (by omega)) rfl rfl rfl rfl rfl rfl) (no_call (by simp [S0, Sm.op]))).app ((Rt.flat rfl rfl rfl (so_ok (o := 9) rfl (by omega) (by omega) (n3 h.refs (by omega)) rfl rfl (m.v hv (by omega) _) rfl rfl rfl) (no_call (by simp [S0, Sm.op]))).app
      (Rt.flat rfl rfl rfl (so_ok (o := 7) rfl (by omega) (by omega) (n3 h.refs (by omega)) rfl rfl rfl rfl rfl rfl) (no_call (by simp [S0, Sm.op]))))
  · refine Rt.flat rfl rfl rfl ?_ (no_call (by simp [S0, Sm.op]))
    exact so_ok (o := 1) rfl (by omega) (by omega) (tg _) rfl rfl (m.v hv (by omega) _) rfl rfl rfl
end Abs
namespace Abs
open Go Go.Proofs
set_option maxRecDepth 100000
set_option maxHeartbeats 4000000
theorem Mk.risky_rt {m : Mk} (h : m.Rok) (k dep a s : Nat) (hs : s + 10 < 1000000) : Rt m k dep s (m.risky a s).2.2 [(m.risky a s).1] := by
  have tg := fun a => m.tg_right h a
  have hv : 0 < m.D.vars := by have := h.vars; omega
  have na := h.arr
  have eA := m.nA_eq
  have bA := fun a => m.nx_bd a (n := m.nA) (by omega)
  have b2 := fun a => m.nx_bd a (n := 2) (by omega)
  have b3 := fun a => m.nx_bd a (n := 3) (by omega)
  have v1 := fun a => m.v hv (n := 1) (by omega) a
  have r := h.refs
  have t := m.t hv
  have key : (fun z : Sm × Nat × Nat => Rt m k dep s z.2.2 [z.1]) (m.risky a s) := by
    unfold Mk.risky
    repeat' refine ite_p (P := fun z : Sm × Nat × Nat => Rt m k dep s z.2.2 [z.1]) ?_ ?_
    all_goals dsimp only
    · refine Rt.flat rfl rfl rfl ?_ (no_call (by simp [S0, Sm.op]))
      exact so_ok (o := 2) rfl (by omega) (by omega) (tg _) (n4 (by have := bA (a+1+1); omega)) rfl (v1 _) rfl rfl rfl
    · refine Rt.flat rfl rfl rfl ?_ (no_call (by simp [S0, Sm.op]))
      exact so_ok (o := 3) rfl (by omega) (by omega) rfl (n4 (by have := bA (a+1); omega)) rfl (v1 _) (v1 _) rfl rfl
    · refine Rt.flat rfl rfl rfl ?_ (no_call (by simp [S0, Sm.op]))
      exact so_ok (o := 5) rfl (by omega) (by omega) rfl (n5 (b2 _)) rfl (v1 _) rfl rfl rfl
    · refine Rt.flat rfl rfl rfl ?_ (no_call (by simp [S0, Sm.op]))
      exact so_ok (o := 6) rfl (by omega) (by omega) (n3 r (b2 _)) rfl rfl rfl rfl rfl rfl
    · refine Rt.flat rfl rfl rfl ?_ (no_call (by simp [S0, Sm.op]))
      exact so_ok (o := 7) rfl (by omega) (by omega) (n3 r (b2 _)) rfl rfl rfl rfl rfl rfl
    · refine Rt.flat rfl rfl rfl ?_ (no_call (by simp [S0, Sm.op]))
      exact so_ok (o := 8) rfl (by omega) (by omega) (n3 r (b2 _)) (n3 r (b2 _)) rfl rfl rfl rfl rfl
    · refine Rt.flat rfl rfl rfl ?_ (no_call (by simp [S0, Sm.op]))
      exact so_ok (o := 10) rfl (by omega) (by omega) (tg _) (n3 r (b2 _)) rfl rfl rfl rfl rfl
    · have q := b2 (a+1)
      rcases (show m.nx (a+1) 2 = 0 ∨ m.nx (a+1) 2 = 1 by omega) with e | e
      · refine Rt.flat rfl rfl rfl ?_ (no_call (by show (16 + m.nx (a+1) 2) ≠ 13; omega))
        exact so_ok (o := 16) (by omega) (by omega) (by omega) rfl (n9 (b3 _)) rfl rfl rfl rfl rfl
      · refine Rt.flat rfl rfl rfl ?_ (no_call (by show (16 + m.nx (a+1) 2) ≠ 13; omega))
        exact so_ok (o := 17) (by omega) (by omega) (by omega) rfl (n9 (b3 _)) rfl rfl rfl rfl rfl
    · refine Rt.flat rfl rfl rfl ?_ (no_call (by simp [S0, Sm.op]))
      exact so_ok (o := 18) rfl (by omega) (by omega) rfl n7 rfl (v1 _) rfl rfl rfl
    · refine Rt.flat rfl rfl rfl ?_ (no_call (by simp [S0, Sm.op]))
      exact so_ok (o := 19) rfl (by omega) (by omega) (tg _) n7 rfl rfl rfl rfl rfl
    · refine Rt.flat rfl rfl rfl ?_ (no_call (by simp [S0, Sm.op]))
      exact so_ok (o := 21) rfl (by omega) (by omega) rfl (n8 (b3 _)) rfl (v1 _) rfl rfl rfl
    · refine Rt.flat rfl rfl rfl ?_ (no_call (by simp [S0, Sm.op]))
      exact so_ok (o := 22) rfl (by omega) (by omega) rfl (n10 (b3 _)) rfl rfl rfl rfl rfl
    · refine Rt.flat rfl rfl rfl ?_ (no_call (by simp [S0, Sm.op]))
      exact so_ok (o := 23) rfl (by omega) (by omega) rfl rfl rfl rfl rfl (t _) rfl
    · refine Rt.flat rfl rfl rfl ?_ (no_call (by simp [S0, Sm.op]))
      exact so_ok (o := 9) rfl (by omega) (by omega) (n3 r (b2 _)) rfl rfl (v1 _) rfl rfl rfl
  exact key
theorem Mk.args_right {m : Mk} (hv : 0 < m.D.vars) (a : Nat) : ∀ i, (m.args a i).1.length = i ∧ ∀ e ∈ (m.args a i).1, VOk m.D e
  | 0 => ⟨rfl, fun e he => by simp [Mk.args] at he⟩
  | i + 1 => by
    have ih := Mk.args_right hv a i
    simp only [Mk.args]
    refine ⟨by rw [List.length_append, ih.1]; rfl, fun e he => ?_⟩
    rcases List.mem_append.1 he with he | he
    · exact ih.2 e he
    · rw [List.mem_singleton.1 he]; exact m.v hv (by omega) _
theorem Mk.ptrs_right {m : Mk} (h : m.Rok) (a : Nat) : ∀ i, ∀ n ∈ m.ptrs a i, NumOk m.D declD 3 n
  | 0 => fun n hn => by simp [Mk.ptrs] at hn
  | i + 1 => fun n hn => by
    simp only [Mk.ptrs] at hn
    rcases List.mem_append.1 hn with hn | hn
    · exact Mk.ptrs_right h a i n hn
    · rw [List.mem_singleton.1 hn]; exact n3 h.refs (m.nx_bd _ (by omega))
theorem Mk.hd_of {m : Mk} (h : m.heads.length ≠ 0) (a : Nat) : m.hd a ∈ m.heads := by
  have e : m.nH = m.heads.length := by simp [Mk.nH]
  have b := m.nx_bd a (n := m.nH) (by omega)
  unfold Mk.hd
  rw [List.getD_eq_getElem?_getD, List.getElem?_eq_getElem (by omega)]
  exact List.getElem_mem _
theorem Mk.call_rt {m : Mk} (h : m.Rok) (k dep a s d : Nat) (hs : s + 10 < 1000000) : Rt m k dep s (s+1) [(m.call a s d).1] := by
  have tg := fun a => m.tg_right h a
  have hv : 0 < m.D.vars := by have := h.vars; omega
  unfold Mk.call
  split
  · refine Rt.flat rfl rfl rfl ?_ (no_call (by simp [S0, Sm.op]))
    exact so_ok (o := 1) rfl (by omega) (by omega) (tg _) rfl rfl (v_num _ (by omega)) rfl rfl rfl
  · rename_i hh
    have hm := m.hd_of (fun e => hh (.inl e)) (a+1)
    have hd := h.heads _ hm
    have ha := Mk.args_right hv (a+1+1) (m.hd (a+1)).params.length
    have hp := Mk.ptrs_right h (m.args (a+1+1) (m.hd (a+1)).params.length).2 (m.hd (a+1)).given.length
    have hpl := m.ptrs_len (m.args (a+1+1) (m.hd (a+1)).params.length).2 (m.hd (a+1)).given.length
    dsimp only
    refine Rt.flat rfl rfl rfl ⟨13, rfl, by omega, ⟨by show (1:Int) ≤ ((s+1 : Nat) : Int); omega, by show ((s+1 : Nat) : Int) ≤ _; omega⟩, tg _, ⟨hd.1.1, by show (m.hd (a+1)).id ≤ _; omega⟩, rfl, rfl, rfl, rfl, ⟨⟨ha.2, by show (m.args _ _).1.length ≤ 12; rw [ha.1]; exact hd.2.1⟩, hp, by show (m.ptrs _ _).length ≤ 4; rw [hpl]; exact hd.2.2⟩, .inr rfl, .inr rfl⟩ (fun _ => ⟨_, hm, rfl, ha.1.symm, hpl.symm⟩)
theorem Mk.other_rt {m : Mk} (h : m.Rok) (kk : Int) (k dep dp : Nat) (x : Ms) (hs : x.s + 10 < 1000000) : Rt m k dep x.s (m.other kk dp x).2.s (m.other kk dp x).1 := by
  have hv : 0 < m.D.vars := by have := h.vars; omega
  have b3 := m.nx_bd x.a (n := 3) (by omega)
  unfold Mk.other
  repeat' split
  · exact m.call_rt h k dep _ _ _ hs
  · refine Rt.flat rfl rfl rfl ?_ (no_call (by simp [S0, Sm.op]))
    exact so_ok (o := 14) rfl (by omega) (by omega) rfl rfl (by show 1 ≤ _ ∧ _ ≤ (31 : Int); omega) rfl rfl rfl rfl
  · refine Rt.flat rfl rfl rfl ?_ (no_call (by simp [S0, Sm.op]))
    exact so_ok (o := 24) rfl (by omega) (by omega) rfl rfl rfl (m.v hv (by omega) _) rfl rfl rfl
  · exact m.simple_rt h k dep _ _ hs
  · exact m.risky_rt h k dep _ _ hs
def LRt (m : Mk) (dep : Nat) (R : Nat → Ms → List Sm × Ms) : Prop := ∀ n x k, x.s + 10 * x.l + 10 < 1000000 → Rt m k dep x.s (R n x).2.s (R n x).1
theorem Mk.nested_rt {m : Mk} (h : m.Rok) {dep : Nat} {R : Nat → Ms → List Sm × Ms} (hR : LRt m dep R) (hu : ∀ n x, Less x (R n x).2) (kk : Int) (x : Ms) (k : Nat) (hs : x.s + 10 * x.l + 12 < 1000000) : Rt m k (dep+1) x.s (m.nested R kk x).2.s [(m.nested R kk x).1] := by
  have tg := fun a => m.tg_right h a
  have hv : 0 < m.D.vars := by have := h.vars; omega
  have t := m.t hv
  have sok : (1 : Int) ≤ ((x.s+1 : Nat) : Int) ∧ ((x.s+1 : Nat) : Int) ≤ 1073741824 := by omega
  unfold Mk.nested
  split
  · have b3 := m.nx_bd (m.cond 1 x.a).2 (n := 3) (by omega)
    dsimp only
    refine Rt.nest rfl ⟨12, rfl, by omega, sok, rfl, rfl, ?_, rfl, rfl, t _, ⟨rfl, rfl⟩, .inl rfl, .inr rfl⟩ (no_call (by simp [Sm.op])) (hR (1 + m.nx ((m.cond 1 x.a).2+1) 2).toNat ⟨(m.cond 1 x.a).2+1+1, x.s+1, x.l, x.d⟩ (k+1) (by dsimp only; omega)) (Rt.nil _ _ _ _)
    show 1 ≤ 1 + m.nx (m.cond 1 x.a).2 3 ∧ 1 + m.nx (m.cond 1 x.a).2 3 ≤ (16 : Int)
    omega
  split
  · have u := hu (1 + m.nx (x.a+1) 2).toNat ⟨x.a+1+1, x.s+1, x.l, x.d⟩
    simp only [Less] at u
    dsimp only
    refine Rt.nest rfl ⟨15, rfl, by omega, sok, tg _, rfl, rfl, rfl, rfl, rfl, ⟨rfl, rfl⟩, .inl rfl, .inl rfl⟩ (no_call (by simp [Sm.op])) (hR (1 + m.nx (x.a+1) 2).toNat ⟨x.a+1+1, x.s+1, x.l, x.d⟩ (k+1) (by dsimp only; omega)) ?_
    exact hR _ ⟨(R (1 + m.nx (x.a+1) 2).toNat ⟨x.a+1+1, x.s+1, x.l, x.d⟩).2.a+1, (R (1 + m.nx (x.a+1) 2).toNat ⟨x.a+1+1, x.s+1, x.l, x.d⟩).2.s, (R (1 + m.nx (x.a+1) 2).toNat ⟨x.a+1+1, x.s+1, x.l, x.d⟩).2.l, (R (1 + m.nx (x.a+1) 2).toNat ⟨x.a+1+1, x.s+1, x.l, x.d⟩).2.d⟩ (k+1) (by dsimp only; omega)
  · have u := hu (1 + m.nx (m.cond 1 x.a).2 2).toNat ⟨(m.cond 1 x.a).2+1, x.s+1, x.l, x.d⟩
    simp only [Less] at u
    dsimp only
    refine Rt.nest rfl ⟨11, rfl, by omega, sok, rfl, rfl, rfl, rfl, rfl, t _, ⟨rfl, rfl⟩, .inl rfl, .inl rfl⟩ (no_call (by simp [Sm.op])) (hR (1 + m.nx (m.cond 1 x.a).2 2).toNat ⟨(m.cond 1 x.a).2+1, x.s+1, x.l, x.d⟩ (k+1) (by dsimp only; omega)) ?_
    exact hR _ ⟨(R (1 + m.nx (m.cond 1 x.a).2 2).toNat ⟨(m.cond 1 x.a).2+1, x.s+1, x.l, x.d⟩).2.a+1, (R (1 + m.nx (m.cond 1 x.a).2 2).toNat ⟨(m.cond 1 x.a).2+1, x.s+1, x.l, x.d⟩).2.s, (R (1 + m.nx (m.cond 1 x.a).2 2).toNat ⟨(m.cond 1 x.a).2+1, x.s+1, x.l, x.d⟩).2.l, (R (1 + m.nx (m.cond 1 x.a).2 2).toNat ⟨(m.cond 1 x.a).2+1, x.s+1, x.l, x.d⟩).2.d⟩ (k+1) (by dsimp only; omega)
theorem runS_rt {m : Mk} {k dep : Nat} {step : Ms → List Sm × Ms} (h : ∀ x, x.l ≠ 0 → x.s + 10 * x.l + 10 < 1000000 → Rt m k dep x.s (step x).2.s (step x).1) (hu : ∀ x, x.l ≠ 0 → Less x (step x).2) :
    ∀ n x, x.s + 10 * x.l + 10 < 1000000 → Rt m k dep x.s (runS step n x).2.s (runS step n x).1
  | 0, x, _ => Rt.nil _ _ _ _
  | n + 1, x, hx => by
    rw [runS]
    split
    · exact Rt.nil _ _ _ _
    · rename_i hl
      have u := hu x hl
      have := u.2.1
      exact (h x hl hx).app (runS_rt h hu n _ (by omega))
theorem Mk.step_rt {m : Mk} (h : m.Rok) (dep : Nat) {R : Nat → Ms → List Sm × Ms} (hR : ∀ e, dep = e + 1 → LRt m e R) (hu : ∀ n x, Less x (R n x).2) (k : Nat) (x : Ms) (hl : x.l ≠ 0) (hs : x.s + 10 * x.l + 10 < 1000000) : Rt m k dep x.s (m.step dep R x).2.s (m.step dep R x).1 := by
  unfold Mk.step
  split
  · rename_i hd
    obtain ⟨e, rfl⟩ : ∃ e, dep = e + 1 := ⟨dep - 1, by omega⟩
    exact m.nested_rt h (hR e rfl) hu _ ⟨x.a+1, x.s, x.l-1, x.d⟩ k (by dsimp only; omega)
  · exact m.other_rt h _ k dep dep ⟨x.a+1, x.s, x.l-1, x.d⟩ (by dsimp only; omega)
theorem Mk.stmts_rt {m : Mk} (h : m.Rok) : ∀ dep, LRt m dep (m.stmts dep)
  | 0 => fun n x k hx => by
    have hh : ∀ h ∈ m.heads, h.params.length ≤ 12 ∧ h.given.length ≤ 12 := fun y hy => by have := h.heads y hy; omega
    rw [Mk.stmts]
    exact runS_rt (fun y hl hy => m.step_rt h 0 (fun e he => by omega) (fun n x => Less.refl x) k y hl hy) (fun y hl => (m.step_use hh 0 (fun n x => Less.refl x) y hl).1) n x hx
  | dep + 1 => fun n x k hx => by
    have hh : ∀ h ∈ m.heads, h.params.length ≤ 12 ∧ h.given.length ≤ 12 := fun y hy => by have := h.heads y hy; omega
    rw [Mk.stmts]
    exact runS_rt (fun y hl hy => m.step_rt h (dep+1) (fun e he => by cases he; exact Mk.stmts_rt h dep) (m.stmts_use hh dep) k y hl hy) (fun y hl => (m.step_use hh (dep+1) (m.stmts_use hh dep) y hl).1) n x hx
end Abs
namespace Abs
open Go Go.Proofs
set_option maxRecDepth 100000
set_option maxHeartbeats 4000000
def Df.fn (d : Df) (fm : Int) (nm : List UInt8) : Df := ⟨d.id, d.site, nm, fm, d.part, d.params, d.given, d.vars, d.refs, d.arrays, d.budget, d.body⟩
structure MdDf (hs : List Hd) (id : Int) (s t : Nat) (d : Df) : Prop where
  id : d.id = id
  base : ∀ fm nm, NmOk nm → 0 ≤ fm ∧ fm ≤ 1 → DfRight (d.fn fm nm) declD
  firm : 0 ≤ d.firm ∧ d.firm ≤ 1
  name : NmOk d.name
  calls : ∀ z ∈ flL d.body 1, CallH hs z.1
  sites : Up s t (sitesOf d)
  np : d.params.length ≤ 12 ∧ d.given.length ≤ 4
theorem declD_ok : DcOk declD := by
  have r : ∀ a b c : Int, -2147483648 ≤ a → a ≤ b → b ≤ 2147483647 → 0 ≤ c ∧ c ≤ 255 → RngOk ⟨a, b, c⟩ := fun a b c h1 h2 h3 h4 => ⟨h1, h2, h3, h4⟩
  refine ⟨⟨fun x hx => ?_, by decide⟩, ⟨fun x hx => ?_, by decide⟩, ⟨fun x hx => ?_, by decide⟩, ⟨fun x hx => ?_, by decide⟩, by decide, by decide, by decide⟩
  · simp only [declD, List.mem_cons, List.not_mem_nil, or_false] at hx
    rcases hx with rfl | rfl <;> exact r _ _ _ (by omega) (by omega) (by omega) (by omega)
  · simp only [declD, List.mem_cons, List.not_mem_nil, or_false] at hx
    rcases hx with rfl | rfl <;> exact r _ _ _ (by omega) (by omega) (by omega) (by omega)
  · simp only [declD, List.mem_cons, List.not_mem_nil, or_false] at hx
    subst hx
    exact ⟨r _ _ _ (by omega) (by omega) (by omega) (by omega), by decide⟩
  · simp only [declD, List.mem_cons, List.not_mem_nil, or_false] at hx
    rcases hx with rfl | rfl | rfl <;> omega
theorem Mk.params_right (m : Mk) (a : Nat) : ∀ i, ∀ r ∈ m.params a i, RngOk r
  | 0 => fun r hr => by simp [Mk.params] at hr
  | i + 1 => fun r hr => by
    simp only [Mk.params] at hr
    rcases List.mem_append.1 hr with hr | hr
    · exact Mk.params_right m a i r hr
    · rw [List.mem_singleton.1 hr]
      have h := List.mem_of_getElem? (m.rng_at (a + i))
      simp only [rngs, List.mem_cons, List.not_mem_nil, or_false] at h
      rcases h with h | h | h | h <;> rw [h] <;> exact ⟨by decide, by decide, by decide, by decide⟩
theorem Mk.budget_right (m : Mk) (a : Nat) : 1 ≤ m.budget a ∧ m.budget a ≤ 20000 := by
  have h := List.mem_of_getElem? (m.budget_at a)
  simp only [budgets, List.mem_cons, List.not_mem_nil, or_false] at h
  rcases h with h | h | h | h <;> rw [h] <;> omega
theorem nm_ok (j : Nat) (h : j < 4) : NmOk (nameOf (11 + j)) := by
  rcases (show j = 0 ∨ j = 1 ∨ j = 2 ∨ j = 3 by omega) with rfl | rfl | rfl | rfl <;> exact ⟨by decide, by decide⟩
theorem Mk.partX_bd (m : Mk) (a : Nat) : 0 ≤ m.partX a ∧ m.partX a ≤ 2 := by
  have h := m.nx_bd (a+1) (n := 6) (by omega)
  have h1 : 0 ≤ (m.nx (a+1) 6).tdiv 2 ∧ (m.nx (a+1) 6).tdiv 2 < 6 := by rw [Int.tdiv_eq_ediv_of_nonneg h.1]; omega
  have h2 : IntKind.i64.wrap ((m.nx (a+1) 6).tdiv 2) = (m.nx (a+1) 6).tdiv 2 := by
    simp [IntKind.wrap, IntKind.signed, IntKind.bits]; omega
  unfold Mk.partX
  rw [h2, Int.tmod_eq_emod_of_nonneg h1.1]; omega
theorem Mk.defR_right (m : Mk) (hh : ∀ h ∈ m.heads, (1 ≤ h.id ∧ h.id ≤ 100) ∧ h.params.length ≤ 12 ∧ h.given.length ≤ 4) (j : Nat) (hj : j < 4) (a s : Nat) (hs : s + 200 < 1000000) (part : Int) (hp : 0 ≤ part ∧ part ≤ 2) (c : Nat) (hc : c ≤ 2) (gs : List Rng) (hg : gs = [] ∨ gs = [givenR])
    (b2 : Nat) (ar : List Ar) (ha : ar = [⟨4, 0⟩] ∨ (ar = [⟨4, 0⟩, ⟨8, 1⟩] ∧ 0 < c)) :
    MdDf m.heads (11 + j) s ((m.defR (11 + j) a s part c gs b2 ar).2.s + 1) (m.defR (11 + j) a s part c gs b2 ar).1 := by
  have pl := m.params_len (a+1+1+1+1+1) c
  have pl2 : ((m.params (a+1+1+1+1+1) c).map encR).length = c := by rw [List.length_map]; exact pl
  have bv := m.nx_bd ((a+1+1+1+1+1 + c)+1) (n := 2) (by omega)
  have bf := m.nx_bd a (n := 2) (by omega)
  have bb := m.budget_right (a+1+1)
  have pr := m.params_right (a+1+1+1+1+1) c
  have gl : gs.length ≤ 1 := by rcases hg with rfl | rfl <;> simp
  have gr : ∀ r ∈ gs, RngOk r := by
    rcases hg with rfl | rfl
    · intro r hr; simp at hr
    · intro r hr
      rw [List.mem_singleton.1 hr]; exact ⟨by decide, by decide, by decide, by decide⟩
  have al : 0 < ar.length ∧ ar.length ≤ 2 := by rcases ha with rfl | ⟨rfl, _⟩ <;> simp
  have ao : ∀ x ∈ ar, (1 ≤ x.len ∧ x.len ≤ 64) ∧ 0 ≤ x.of' ∧ x.of' ≤ (c : Int) := by
    rcases ha with rfl | ⟨rfl, h0⟩
    · intro x hx
      rw [List.mem_singleton.1 hx]; dsimp only; omega
    · intro x hx
      simp only [List.mem_cons, List.not_mem_nil, or_false] at hx
      rcases hx with rfl | rfl <;> dsimp only <;> omega
  obtain ⟨D0, hD0⟩ : ∃ D0, D0 = m.dG (11 + j) a part (m.params (a+1+1+1+1+1) c) gs ((((m.params (a+1+1+1+1+1) c).map encR).length : Nat) + 2 + m.nx ((a+1+1+1+1+1 + c)+1) 2) 2 ar [] 0 := ⟨_, rfl⟩
  have rok : (m.with' D0).Rok := by
    rw [hD0]
    exact ⟨by show ((m.params (a+1+1+1+1+1) c).length : Int) < (((m.params (a+1+1+1+1+1) c).map encR).length : Nat) + 2 + m.nx ((a+1+1+1+1+1 + c)+1) 2; rw [pl, pl2]; omega, al.1, rfl, hh⟩
  have rt := (m.with' D0).stmts_rt rok 2 (1 + m.nx b2 5).toNat ⟨b2+1, s, 9, 0⟩ 1 (by dsimp only; omega)
  have us := (m.with' D0).stmts_use (fun h hx => by have := hh h hx; omega) 2 (1 + m.nx b2 5).toNat ⟨b2+1, s, 9, 0⟩
  simp only [Less] at us
  have eR : m.defR (11 + j) a s part c gs b2 ar = (m.dG (11 + j) a part (m.params (a+1+1+1+1+1) c) gs ((((m.params (a+1+1+1+1+1) c).map encR).length : Nat) + 2 + m.nx ((a+1+1+1+1+1 + c)+1) 2) 2 ar ((m.with' D0).stmts 2 (1 + m.nx b2 5).toNat ⟨b2+1, s, 9, 0⟩).1 (((m.with' D0).stmts 2 (1 + m.nx b2 5).toNat ⟨b2+1, s, 9, 0⟩).2.s+1 : Nat), ((m.with' D0).stmts 2 (1 + m.nx b2 5).toNat ⟨b2+1, s, 9, 0⟩).2) := by
    rw [hD0]; rfl
  rw [eR]
  generalize (m.with' D0).stmts 2 (1 + m.nx b2 5).toNat ⟨b2+1, s, 9, 0⟩ = r at *
  dsimp only at rt
  have hup : Up s (r.2.s + 1) (sitesL (flL r.1 1) ++ [((r.2.s + 1 : Nat) : Int)]) := rt.up.app (Up.one r.2.s)
  have hlen := rt.up.len
  rw [sitesL, List.length_map, flL_len] at hlen
  have hse := rt.up.le
  refine ⟨rfl, fun fm nm hn hf => ?_, by show 0 ≤ m.nx a 2 ∧ m.nx a 2 ≤ 1; omega, nm_ok j hj, fun z hz => (rt.ok z hz).2.1, hup, ⟨by show (m.params _ _).length ≤ 12; omega, by show gs.length ≤ 4; omega⟩⟩
  refine ⟨⟨?_, ?_, ?_, by decide, by decide, by decide, by decide, by decide, by decide, by decide⟩, ?_, ?_, hn, ?_, ?_, ?_, ?_, bb, pr, gr, ⟨fun x hx => ?_, ?_⟩, ?_, fun z hz => ?_, fun z hz => ?_, ?_⟩
  · show ((((m.params _ _).map encR).length : Nat) : Int) + 2 + _ < _; rw [pl2]; omega
  · show (2 : Int) < _; omega
  · show ar.length < _; omega
  · show (1 : Int) ≤ 11 + j ∧ (11 : Int) + j ≤ _; omega
  · show (1 : Int) ≤ ((r.2.s + 1 : Nat) : Int) ∧ ((r.2.s + 1 : Nat) : Int) ≤ _; omega
  · show 0 ≤ fm ∧ fm ≤ 2 - 1; omega
  · show 0 ≤ part ∧ part ≤ 3 - 1; omega
  · show ((m.params _ _).length : Int) ≤ ((((m.params _ _).map encR).length : Nat) : Int) + 2 + _ ∧ ((((m.params _ _).map encR).length : Nat) : Int) + 2 + _ ≤ _; rw [pl, pl2]; omega
  · show (gs.length : Int) ≤ 2 ∧ (2 : Int) ≤ 4; omega
  · have := ao x hx
    exact ⟨this.1, by show 0 ≤ x.of' ∧ x.of' ≤ ((m.params _ _).length : Int); rw [pl]; exact this.2⟩
  · show ar.length ≤ 4; omega
  · show szL r.1 ≤ 199; omega
  · exact Nat.le_trans (rt.ok z hz).2.2 (by omega)
  · obtain ⟨o, ho⟩ := (rt.ok z hz).1
    subst hD0
    exact ⟨o, ho.op, ho.kind, ho.site, ho.n, ho.m, ho.v, ho.x, ho.y, ho.c, ho.args, ho.body, ho.els⟩
  · have hi := hup.inc
    have hnd : (sitesL (flL r.1 1) ++ [((r.2.s + 1 : Nat) : Int)]).Nodup := hi.imp (fun h => by omega)
    show (((r.2.s + 1 : Nat) : Int) :: sitesL (flL r.1 1)).Nodup
    exact (List.perm_append_singleton _ _).nodup_iff.1 hnd
theorem Mk.def_right (m : Mk) (hh : ∀ h ∈ m.heads, (1 ≤ h.id ∧ h.id ≤ 100) ∧ h.params.length ≤ 12 ∧ h.given.length ≤ 4) (j : Nat) (hj : j < 4) (th : Bool) (a s : Nat) (hs : s + 200 < 1000000) :
    MdDf m.heads (11 + j) s ((m.def' (11 + j) th a s).2.s + 1) (m.def' (11 + j) th a s).1 := by
  have bX := m.nx_bd (a+1+1+1+1) (n := 3) (by omega)
  have hp := m.partX_bd a
  obtain ⟨c, hc, hc2⟩ : ∃ c, (if th then 0 else (m.nx (a+1+1+1+1) 3).toNat) = c ∧ c ≤ 2 := ⟨_, rfl, by split <;> omega⟩
  have g1 : ∀ b : Bool, (if b then [givenR] else []) = [] ∨ (if b then [givenR] else []) = [givenR] := by intro b; cases b <;> simp
  have g2 : ∀ b : Bool, (if b then [⟨4, 0⟩, ⟨8, 1⟩] else [⟨4, 0⟩] : List Ar) = [⟨4, 0⟩] ∨ (if b then [⟨4, 0⟩, ⟨8, 1⟩] else [⟨4, 0⟩] : List Ar) = [⟨4, 0⟩, ⟨8, 1⟩] := by intro b; cases b <;> simp
  unfold Mk.def'
  rw [hc]
  refine m.defR_right hh j hj a s hs _ ?_ _ hc2 _ (g1 _) _ _ ?_
  · split <;> omega
  · by_cases h0 : c = 0
    · rw [if_pos h0]; exact .inl rfl
    · rw [if_neg h0]
      exact (g2 _).imp id fun e => ⟨e, by omega⟩
end Abs
namespace Abs
open Go Go.Proofs
set_option maxRecDepth 100000
set_option maxHeartbeats 4000000
structure AllR (ds : List Df) (t : Nat) : Prop where
  get : ∀ k (hk : k < ds.length), ∃ u v, MdDf ((ds.take k).map headOf) (11 + k) u v ds[k]
  sites : Up 100 t (ds.flatMap sitesOf)
theorem AllR.snoc {ds : List Df} {t u : Nat} {d : Df} (h : AllR ds t) (hd : MdDf (ds.map headOf) (11 + ds.length) t u d) : AllR (ds ++ [d]) u := by
  refine ⟨fun k hk => ?_, ?_⟩
  · rw [List.length_append, List.length_singleton] at hk
    by_cases hlt : k < ds.length
    · rw [List.take_append_of_le_length (by omega), List.getElem_append_left hlt]
      exact h.get k hlt
    · have e : k = ds.length := by omega
      subst e
      rw [List.take_left, List.getElem_append_right (Nat.le_refl _)]
      simp only [Nat.sub_self, List.getElem_cons_zero]
      exact ⟨t, u, hd⟩
  · rw [List.flatMap_append, List.flatMap_singleton]; exact h.sites.app hd.sites
theorem AllR.heads {ds : List Df} {t : Nat} (h : AllR ds t) (hl : ds.length ≤ 80) : ∀ x ∈ ds.map headOf, (1 ≤ x.id ∧ x.id ≤ 100) ∧ x.params.length ≤ 12 ∧ x.given.length ≤ 4 := fun x hx => by
  obtain ⟨d, hd, rfl⟩ := List.mem_map.1 hx
  obtain ⟨k, hk, rfl⟩ := List.mem_iff_getElem.1 hd
  obtain ⟨u, v, g⟩ := h.get k hk
  refine ⟨?_, g.np⟩
  show 1 ≤ ds[k].id ∧ ds[k].id ≤ 100
  rw [g.id]; omega
theorem mdRun_all (L : List UInt8) (n : Nat) : ∀ i, i ≤ 4 → AllR (mdRun L n i).defs (mdRun L n i).s
  | 0, _ => ⟨fun k hk => by simp [mdRun] at hk, Up.nil 100⟩
  | i + 1, hi => by
    have ih := mdRun_all L n i (by omega)
    have ok := mdRun_ok L n i
    have hs := ok.s
    have hn := ok.nd
    have hh := mdRun_heads L n i
    have g := ((mdRun L n i).mk' L).def_right (by rw [show ((mdRun L n i).mk' L).heads = (mdRun L n i).heads from rfl, hh]; exact ih.heads (by omega)) i (by omega) (lastT L (i + 1 == n) (mdRun L n i)) (lastA (i + 1 == n) (mdRun L n i)) (mdRun L n i).s (by omega)
    rw [show ((mdRun L n i).mk' L).heads = (mdRun L n i).heads from rfl, hh] at g
    refine ih.snoc ?_
    rw [hn]; exact g
theorem madeP_all (L : List UInt8) : ∃ t, t ≤ 464 ∧ AllR (madeP L).defs t := by
  obtain ⟨n, e, h1, h2⟩ := madeP_defs L
  rw [e]
  exact ⟨_, by have := (mdRun_ok L n n).s; omega, mdRun_all L n n h1⟩
theorem mAt_skip (n : Int) (r : Mp Bool) : ∀ k i, mAt n (List.replicate k none ++ r) i = mAt n r (i + k)
  | 0, i => rfl
  | k + 1, i => by
    rw [List.replicate_succ, List.cons_append]
    show mAt n (List.replicate k none ++ r) (i + 1) = _
    rw [mAt_skip n r k (i + 1)]; congr 1; omega
theorem mLook_skip (n : Int) (r : Mp Bool) : ∀ k, mLook n (List.replicate k none ++ r) = mLook n r
  | 0 => rfl
  | k + 1 => by rw [List.replicate_succ, List.cons_append]; exact mLook_skip n r k
theorem setOf_yes {l : List Int} {n : Int} (h : n ∈ l) : mLook n (setOf l) = some true := by
  induction l with
  | nil => cases h
  | cons x l ih =>
    show mLook n (some (x, true) :: setOf l) = _
    simp only [mLook]
    cases hb : n == x with
    | true => rfl
    | false =>
      rcases List.mem_cons.1 h with rfl | h
      · simp at hb
      · exact ih h
theorem mHas_skip (l : List Int) (k : Nat) (n : Int) : mHas (List.replicate k none ++ setOf l) n = decide (n ∈ l) := by
  unfold mHas
  rw [mLook_skip]
  by_cases h : n ∈ l
  · rw [setOf_yes h]; simp [h]
  · rw [setOf_no h]; simp [h]
theorem putAll_set : ∀ (l : List Df) (a : List Int), (a ++ l.map (·.id)).Nodup → putAll l (setOf a) = setOf (a ++ l.map (·.id))
  | [], a, _ => by simp [putAll]
  | d :: l, a, h => by
    have hn : d.id ∉ a := fun hm => by
      rw [List.nodup_append] at h
      exact h.2.2 _ hm _ List.mem_cons_self rfl
    have e : mPut d.id true (setOf a) = setOf (a ++ [d.id]) := by
      unfold mPut
      rw [mAt_no hn]; simp [setOf]
    show putAll l (mPut d.id true (setOf a)) = _
    rw [e, putAll_set l (a ++ [d.id]) (by simpa using h)]
    simp
theorem ix_first {α : Type} {p : α → Bool} : ∀ {l : List α} {k : Nat} (i : Nat) (hk : k < l.length), p l[k] = true → (∀ j (hj : j < k), p (l[j]'(by omega)) = false) → ix p l i = ((i + k : Nat) : Int)
  | [], k, _, hk, _, _ => by simp at hk
  | x :: l, 0, i, hk, h, _ => by
    have h : p x = true := h
    rw [ix, if_pos h]; rfl
  | x :: l, k + 1, i, hk, h, hn => by
    have h0 : p x = false := hn 0 (by omega)
    rw [ix, if_neg (by rw [h0]; simp), ix_first (l := l) (k := k) (i + 1) (by simpa using hk) h (fun j hj => hn (j + 1) (by omega))]
    congr 1; omega
theorem ix_no_any {α : Type} {p : α → Bool} {l : List α} (h : ∀ x ∈ l, p x = false) : ix p l 0 = -1 := by
  rcases ix_cases (p := p) l 0 with e | ⟨k, hk, _, e⟩
  · exact e
  · rw [h _ (List.getElem_mem hk)] at e; cases e
def Back (l : List Df) : Prop := ∀ k (hk : k < l.length), ∀ c ∈ callsOf l[k].body, c ∉ (l.drop k).map (·.id)
theorem ordG_all {l : List Df} (hb : Back l) (hn : (l.map (·.id)).Nodup) : ∀ (n k : Nat) (acc : List Int), k + n = l.length →
    (ordG l (n + 1) (List.replicate k none ++ setOf ((l.drop k).map (·.id))) acc).length = acc.length + n
  | 0, k, acc, h => by
    have e : l.drop k = [] := List.drop_eq_nil_of_le (by omega)
    rw [e, ordG_end]
    · rfl
    · refine ix_no_any fun d hd => ?_
      unfold rdy
      rw [mHas_skip]; simp
  | n + 1, k, acc, h => by
    have hk : k < l.length := by omega
    have ed : l.drop k = l[k] :: l.drop (k+1) := List.drop_eq_getElem_cons hk
    have hix : ix (rdy (List.replicate k none ++ setOf ((l.drop k).map (·.id)))) l 0 = ((k : Nat) : Int) := by
      have := ix_first (p := rdy (List.replicate k none ++ setOf ((l.drop k).map (·.id)))) 0 hk (by
          unfold rdy
          rw [mHas_skip, ix_no_any fun c hc => by rw [mHas_skip]; exact decide_eq_false (hb k hk c hc)]
          rw [ed]
          show (decide (l[k].id ∈ l[k].id :: (l.drop (k+1)).map (·.id)) && !decide ((-1 : Int) ≥ 0)) = true
          rw [decide_eq_true List.mem_cons_self]; rfl) (fun j hj => by
          unfold rdy
          rw [mHas_skip, decide_eq_false]
          · rfl
          intro hm
          have e2 : l.map (·.id) = (l.take k).map (·.id) ++ (l.drop k).map (·.id) := by rw [← List.map_append, List.take_append_drop]
          rw [e2, List.nodup_append] at hn
          exact hn.2.2 _ (List.mem_map.2 ⟨_, List.mem_take_iff_getElem.2 ⟨j, by omega, rfl⟩, rfl⟩) _ hm rfl)
      rw [this]; congr 1; omega
    rw [ordG_step hk hix]
    have hd : mDel l[k].id (List.replicate k none ++ setOf ((l.drop k).map (·.id))) = List.replicate (k+1) none ++ setOf ((l.drop (k+1)).map (·.id)) := by
      unfold mDel
      rw [mAt_skip, ed]
      have : mAt l[k].id (setOf ((l[k] :: l.drop (k+1)).map (·.id))) (0 + k) = some k := by
        show mAt l[k].id (some (l[k].id, true) :: _) (0 + k) = _
        simp [mAt]
      rw [this]
      dsimp only
      rw [List.set_append_right _ _ (by simp)]
      rw [List.length_replicate, Nat.sub_self]
      show List.replicate k none ++ (none :: setOf ((l.drop (k+1)).map (·.id))) = _
      rw [List.replicate_succ', List.append_assoc]; rfl
    rw [hd, ordG_all hb hn n (k+1) _ (by omega), List.length_append]
    simp; omega
theorem order_len {p : Pg} (hb : Back p.defs) (hn : (p.defs.map (·.id)).Nodup) : (orderP p).length = p.defs.length := by
  have e := putAll_set p.defs [] (by simpa using hn)
  have := ordG_all hb hn p.defs.length 0 [] (by omega)
  unfold orderP
  rw [show putAll p.defs [] = setOf (p.defs.map (·.id)) from e, live_setOf, List.length_map]
  simpa using this
theorem calls_in {body : List Sm} {c : Int} (h : c ∈ callsOf body) : ∃ z ∈ flL body 1, z.1.op = 13 ∧ z.1.m = c := by
  have h2 : c ∈ callees (flL body 1) := ((sortC_SI (callees (flL body 1))).2 c).1 h
  obtain ⟨z, hz, e⟩ := List.mem_map.1 h2
  obtain ⟨h3, h4⟩ := List.mem_filter.1 hz
  exact ⟨z, h3, by simpa using h4, e⟩
end Abs
namespace Abs
open Go Go.Proofs
set_option maxRecDepth 100000
set_option maxHeartbeats 4000000
def othN : List UInt8 := [111, 116, 104, 101, 114]
def fnD (fm : Int) (b : Bool) (d : Df) : Df := d.fn fm (match b with | true => othN | false => d.name)
def fnAll (fm : Int) (b : Bool) (ds : List Df) : List Df := ds.map (fnD fm b)
def moreL (fm : Int) (b : Bool) (ds : List Df) (x : Df) : List Df := fnAll fm b ds ++ [x]
def moreP (fm : Int) (b : Bool) (ds : List Df) (x : Df) : Pg := ⟨declD, (moreL fm b ds x).map headOf, moreL fm b ds x, []⟩
theorem spare_right (id n : Int) (hid : 20 ≤ id ∧ id ≤ 21) (hn : 0 ≤ n ∧ n < 4) : DfRight (spareD id n) declD := by
  have ef : flL (spareD id n).body 1 = [(.mk (5001 + 10 * id) 24 0 0 0 (.mk 1 0 n []) (.mk 0 0 0 []) (.mk 0 [] []) [] [] [] [], 1)] := by
    show flL [_] 1 = _
    rw [flL, flL, flS_eq]; rfl
  have z0 : ∀ k : Int, 0 ≤ k → (0 : Int) ≤ 0 ∧ (0 : Int) ≤ k := fun k h => ⟨by omega, h⟩
  refine ⟨⟨(by show (0 : Int) < 2^40; decide), (by show (0 : Int) < 2^40; decide), (by show 0 < 2^40; decide), by decide, by decide, by decide, by decide, by decide, by decide, by decide⟩,
    (by show 1 ≤ id ∧ id ≤ 1073741824; omega), (by show 1 ≤ 5000 + 10 * id ∧ 5000 + 10 * id ≤ 1073741824; omega), ⟨(by show ∀ b ∈ ([115, 112, 97, 114, 101] : List UInt8), 97 ≤ b.toNat ∧ b.toNat ≤ 122; decide), (by show 1 ≤ 5 ∧ 5 ≤ 20; decide)⟩,
    z0 (2 - 1) (by decide), z0 (3 - 1) (by decide), z0 12 (by decide), z0 4 (by decide), (by show (1 : Int) ≤ 5 ∧ (5 : Int) ≤ 20000; decide), (fun r hr => absurd hr List.not_mem_nil), (fun r hr => absurd hr List.not_mem_nil), ⟨(fun a ha => absurd ha List.not_mem_nil), (by show 0 ≤ 4; decide)⟩, ?_, fun z hz => ?_, fun z hz => ?_, ?_⟩
  · rw [← flL_len _ 1, ef]; show 1 ≤ 199; decide
  · rw [ef] at hz
    rw [List.mem_singleton.1 hz]; show 1 ≤ 10; decide
  · rw [ef] at hz
    rw [List.mem_singleton.1 hz]
    exact ⟨24, rfl, by omega, by show 1 ≤ 5001 + 10 * id ∧ 5001 + 10 * id ≤ _; omega, rfl, rfl, rfl, ⟨1, by omega, .num (by omega)⟩, rfl, rfl, ⟨rfl, rfl⟩, .inr rfl, .inr rfl⟩
  · rw [ef]
    show [5000 + 10 * id, 5001 + 10 * id].Nodup
    simp
theorem last_inc {α : Type} {f : α → Int} : ∀ {l : List α} {v : Int}, (v :: l.map f).Pairwise (· < ·) → ∀ k (hk : k < l.length), v ≤ (l.take k).foldl (fun _ d => f d) v ∧ (l.take k).foldl (fun _ d => f d) v < f l[k]
  | [], _, _, k, hk => by simp at hk
  | x :: l, v, h, 0, hk => ⟨Int.le_refl v, (List.pairwise_cons.1 h).1 _ (List.mem_cons_self)⟩
  | x :: l, v, h, k + 1, hk => by
    have h1 := (List.pairwise_cons.1 h).1 (f x) List.mem_cons_self
    have h2 := last_inc (l := l) (v := f x) (List.pairwise_cons.1 h).2 k (by simpa using hk)
    exact ⟨by show v ≤ (l.take k).foldl _ (f x); omega, h2.2⟩
section
variable {fm : Int} {b : Bool} {ds : List Df} {t : Nat} {sid sn : Int} (h : AllR ds t) (ht : t ≤ 464) (hl : ds.length ≤ 4) (hf : 0 ≤ fm ∧ fm ≤ 1) (hs : 20 ≤ sid ∧ sid ≤ 21) (hn : 0 ≤ sn ∧ sn < 4)
include h
theorem all_ids : ds.map (·.id) = (List.range ds.length).map fun j : Nat => 11 + (j : Int) := by
  apply List.ext_getElem
  · simp
  · intro k h1 h2
    have hk : k < ds.length := by simpa using h1
    obtain ⟨u, v, g⟩ := h.get k hk
    simp only [List.getElem_map, List.getElem_range]
    exact g.id
include hl hs
theorem more_ids : (0 :: (moreL fm b ds (spareD sid sn)).map (·.id)).Pairwise (· < ·) := by
  have e : (moreL fm b ds (spareD sid sn)).map (·.id) = ((List.range ds.length).map fun j : Nat => 11 + (j : Int)) ++ [sid] := by
    rw [← all_ids h]; simp [moreL, fnAll, spareD, fnD, Df.fn, Function.comp_def]
  rw [e, List.pairwise_cons]
  refine ⟨fun x hx => ?_, List.pairwise_append.2 ⟨?_, List.pairwise_singleton _ _, fun x hx y hy => ?_⟩⟩
  · rcases List.mem_append.1 hx with hx | hx
    · obtain ⟨j, _, rfl⟩ := List.mem_map.1 hx; omega
    · rw [List.mem_singleton.1 hx]; omega
  · rw [List.pairwise_map]
    exact List.pairwise_lt_range.imp (fun h => by omega)
  · obtain ⟨j, hj, rfl⟩ := List.mem_map.1 hx
    have := List.mem_range.1 hj
    rw [List.mem_singleton.1 hy]; omega
theorem more_find {k : Nat} (hk : k < (moreL fm b ds (spareD sid sn)).length) : findH (moreP fm b ds (spareD sid sn)) (moreL fm b ds (spareD sid sn))[k].id = (headOf (moreL fm b ds (spareD sid sn))[k], true) := by
  have hi := (List.pairwise_cons.1 (more_ids h hl hs (fm := fm) (b := b) (sn := sn))).2
  unfold findH
  show fnd _ zHd ((moreL fm b ds (spareD sid sn)).map headOf) = _
  have := fnd_first (p := fun x : Hd => x.id == (moreL fm b ds (spareD sid sn))[k].id) (z := zHd) (l := (moreL fm b ds (spareD sid sn)).map headOf) (k := k) (by simpa using hk) (by simp [headOf]) (fun j hj => by
    have := List.pairwise_iff_getElem.1 hi j k (by simp; omega) (by simpa using hk) hj
    simp only [List.getElem_map] at this ⊢
    simp only [headOf, beq_eq_false_iff_ne]
    omega)
  rw [this]; simp
include ht hf hn
theorem more_right : PgRight (moreP fm b ds (spareD sid sn)) := by
  have hids := more_ids h hl hs (fm := fm) (b := b) (sn := sn)
  have hlen : (moreL fm b ds (spareD sid sn)).length = ds.length + 1 := by simp [moreL, fnAll]
  have hfind := fun k hk => more_find h hl hs (fm := fm) (b := b) (sn := sn) (k := k) hk
  have hget : ∀ k (hk : k < ds.length), (moreL fm b ds (spareD sid sn))[k]'(by omega) = fnD fm b ds[k] := fun k hk => by
    simp only [moreL]
    rw [List.getElem_append_left (by simpa [fnAll] using hk)]
    simp [fnAll]
  have hlast : (moreL fm b ds (spareD sid sn))[ds.length]'(by omega) = spareD sid sn := by
    simp only [moreL]
    rw [List.getElem_append_right (by simp [fnAll])]
    simp [fnAll]
  have hr : ∀ k (hk : k < ds.length), DfRight (fnD fm b ds[k]) declD := fun k hk => by
    obtain ⟨u, v, g⟩ := h.get k hk
    cases b with
    | true => exact g.base fm othN ⟨by decide, by decide⟩ hf
    | false => exact g.base fm ds[k].name g.name hf
  have hright : ∀ k (hk : k < (moreL fm b ds (spareD sid sn)).length), DfRight (moreL fm b ds (spareD sid sn))[k] declD := fun k hk => by
    by_cases hlt : k < ds.length
    · rw [hget k hlt]; exact hr k hlt
    · have e : k = ds.length := by omega
      subst e
      rw [hlast]; exact spare_right sid sn hs hn
  have hcall : ∀ k (hk : k < (moreL fm b ds (spareD sid sn)).length), ∀ z ∈ flL (moreL fm b ds (spareD sid sn))[k].body 1, z.1.op = 13 → ∃ i, ∃ hi : i < k, z.1.m = ((moreL fm b ds (spareD sid sn))[i]'(by omega)).id ∧ ((moreL fm b ds (spareD sid sn))[i]'(by omega)).params.length = z.1.args.length ∧ ((moreL fm b ds (spareD sid sn))[i]'(by omega)).given.length = z.1.ptrs.length := fun k hk z hz ho => by
    by_cases hlt : k < ds.length
    · rw [hget k hlt] at hz
      obtain ⟨u, v, g⟩ := h.get k hlt
      obtain ⟨y, hy, e1, e2, e3⟩ := g.calls z hz ho
      obtain ⟨d, hd, rfl⟩ := List.mem_map.1 hy
      obtain ⟨i, hi, rfl⟩ := List.mem_take_iff_getElem.1 hd
      refine ⟨i, by omega, ?_⟩
      rw [hget i (by omega)]
      exact ⟨e1, e2, e3⟩
    · have e : k = ds.length := by omega
      subst e
      rw [hlast] at hz
      have ef : flL (spareD sid sn).body 1 = [(.mk (5001 + 10 * sid) 24 0 0 0 (.mk 1 0 sn []) (.mk 0 0 0 []) (.mk 0 [] []) [] [] [] [], 1)] := by
        show flL [_] 1 = _
        rw [flL, flL, flS_eq]; rfl
      rw [ef] at hz
      rw [List.mem_singleton.1 hz] at ho
      exact absurd ho (by simp [Sm.op])
  have hnd : ((moreL fm b ds (spareD sid sn)).map (·.id)).Nodup := (List.pairwise_cons.1 hids).2.imp (fun h => by omega)
  refine ⟨declD_ok, ⟨fun x hx => ?_, by show ((moreL fm b ds (spareD sid sn)).map headOf).length ≤ 40; rw [List.length_map]; omega, fun k hk => ?_⟩, by show (moreL fm b ds (spareD sid sn)).length ≤ 40; omega, by show (0 : Nat) ≤ 4; omega, fun d hd => ?_, fun k hk => (last_inc hids k hk).2, ?_, (fun t ht => absurd ht List.not_mem_nil), ?_, fun d hd => ?_⟩
  · obtain ⟨d, hd, rfl⟩ := List.mem_map.1 hx
    obtain ⟨k, hk, rfl⟩ := List.mem_iff_getElem.1 hd
    have r := hright k hk
    exact ⟨r.id.2, r.firm, r.part, ⟨r.params, by have := r.vars; show (moreL fm b ds (spareD sid sn))[k].params.length ≤ 12; omega⟩, r.given, by have := r.refs; show (moreL fm b ds (spareD sid sn))[k].given.length ≤ 4; omega⟩
  · have hk2 : k < (moreL fm b ds (spareD sid sn)).length := by simpa [moreP] using hk
    have := last_inc (f := fun x : Hd => x.id) (l := (moreL fm b ds (spareD sid sn)).map headOf) (v := 0) (by rw [List.map_map]; exact hids) k (by simpa using hk2)
    exact ⟨this.1, this.2⟩
  · obtain ⟨k, hk, rfl⟩ := List.mem_iff_getElem.1 (show d ∈ moreL fm b ds (spareD sid sn) from hd)
    refine ⟨hright k hk, hfind k hk, fun z hz ho => ?_⟩
    obtain ⟨i, hi, e1, e2, e3⟩ := hcall k hk z hz ho
    rw [e1]
    exact ⟨_, hfind i (by omega), e2, e3⟩
  · show ((moreL fm b ds (spareD sid sn)).flatMap sitesOf).Nodup
    have e : (fnAll fm b ds).flatMap sitesOf = ds.flatMap sitesOf := by rw [fnAll, List.flatMap_map]; rfl
    rw [moreL, List.flatMap_append, e, List.flatMap_singleton, List.nodup_append]
    have es : sitesOf (spareD sid sn) = [5001 + 10 * sid, 5000 + 10 * sid] := by
      show (flL [_] 1).map _ ++ _ = _
      rw [flL, flL, flS_eq]; rfl
    refine ⟨h.sites.inc.imp (fun h => by omega), ?_, fun x hx y hy => ?_⟩
    · rw [es]; simp
    · rw [es] at hy
      have := h.sites.bd x hx
      simp only [List.mem_cons, List.not_mem_nil, or_false] at hy
      omega
  · refine order_len (p := moreP fm b ds (spareD sid sn)) (fun k hk c hc hm => ?_) hnd
    obtain ⟨z, hz, ho, e⟩ := calls_in hc
    obtain ⟨i, hi, e1, _⟩ := hcall k hk z hz ho
    obtain ⟨d, hd, e2⟩ := List.mem_map.1 hm
    obtain ⟨j, hj, rfl⟩ := List.mem_drop_iff_getElem.1 hd
    have hk' : k < (moreL fm b ds (spareD sid sn)).length := hk
    have hj' : k + j < (moreL fm b ds (spareD sid sn)).length := by have : j + k < (moreL fm b ds (spareD sid sn)).length := hj; omega
    have hp := List.pairwise_iff_getElem.1 (List.pairwise_cons.1 hids).2 i (k + j) (by rw [List.length_map]; omega) (by rw [List.length_map]; exact hj') (by omega)
    simp only [List.getElem_map] at hp
    have e3 : ((moreL fm b ds (spareD sid sn))[k + j]'hj').id = c := e2
    omega
  · obtain ⟨k, hk, rfl⟩ := List.mem_iff_getElem.1 (show d ∈ moreL fm b ds (spareD sid sn) from hd)
    have hz := (hright k hk).size
    have := rcalls_len (moreL fm b ds (spareD sid sn))[k].body
    rw [calls_eq]; omega
end
end Abs
namespace Abs
open Go Go.Proofs
set_option maxRecDepth 100000
set_option maxHeartbeats 4000000
def closedP (p : Pg) (id : Int) : Pg := ⟨p.d, p.heads, p.defs.filter fun d => d.id != id, p.threads⟩
theorem closed_ok (p : Pg) (id : Int) (h : p.defs.length < 2^30) (ht : p.threads = []) : CallsA Tryz.prog 23 [encP p, it id] ct0 (encP (closedP p id)) ct0 := by
  have cH : CallsA Tryz.prog 21 [ints p.threads, it id] ct0 (bo false) ct0 := by
    have := refHas_ok p.threads id (by rw [ht]; decide)
    rw [ht] at this ⊢; exact this
  refine fn_ok hm Tryz.func23 (fun _ => false) [] (fun _ => []) (by kernel_rfl) ?_
  refine run ?_
  refine LoopS.mk ⟨[], HeadS.lp (fun r : CR => r.k ≤ p.defs.length ∧ r.acc = ((p.defs.take r.k).filter fun d => d.id != id).map encD) (fun r => ⟨[(6, it r.k), (5, .ref 7 r.acc.length)], [], [(7, ⟨12, true, r.acc⟩)]⟩) (fun r => p.defs.length - r.k) ⟨0, []⟩ ⟨Nat.zero_le _, rfl⟩ ?_⟩
  rintro ⟨k, acc⟩ ⟨hJ, ha⟩
  dsimp only at hJ ha ⊢
  have hal : acc.length ≤ p.defs.length := by
    have := List.length_filter_le (fun d : Df => d.id != id) (p.defs.take k)
    rw [ha, List.length_map]; rw [List.length_take] at this; omega
  by_cases hk : k < p.defs.length
  · have b1 : decide ((k : Int) < ((p.defs.map encD).length : Nat)) = true := decide_eq_true (by rw [List.length_map]; omega)
    refine (Bool.eq_false_or_eq_true (p.defs[k].id != id)).elim (fun b2 => ?_) (fun b2 => ?_)
    · have e : acc ++ [encD p.defs[k]] = ((p.defs.take (k+1)).filter fun d => d.id != id).map encD := by rw [ha, flt_yes hk b2, List.map_append]; rfl
      refine run ?_
      refine Idx.map hk rfl ?_
      refine run ?_
      refine Idx.map hk rfl ?_
      refine run ?_
      refine ⟨⟨⟨k + 1, _⟩, ⟨hk, e⟩⟩, Nat.sub_lt_sub_left hk (Nat.lt_succ_self _), ?_⟩
      repeat' (first | exact trivial | exact rfl | refine ⟨?_, ?_⟩ | refine ⟨?_, ?_, ?_⟩)
    · have e : acc = ((p.defs.take (k+1)).filter fun d => d.id != id).map encD := by rw [ha, flt_no hk b2]
      refine run ?_
      refine Idx.map hk rfl ?_
      refine run ?_; repeat ((apply call_ok; first | exact (cH)); refine run ?_)
      refine ⟨⟨⟨k + 1, _⟩, ⟨hk, e⟩⟩, Nat.sub_lt_sub_left hk (Nat.lt_succ_self _), ?_⟩
      repeat' (first | exact trivial | exact rfl | refine ⟨?_, ?_⟩ | refine ⟨?_, ?_, ?_⟩)
  · have b1 : decide ((k : Int) < ((p.defs.map encD).length : Nat)) = false := decide_eq_false (by rw [List.length_map]; omega)
    rw [List.take_of_length_le (by omega)] at ha
    refine run ?_
    exact Done.mk (congrArg (fun x => Dat.agg (cDc p.d ++ [lst 5 encH p.heads, .sl 12 x false, ints p.threads])) ha) rfl
theorem var1_ok (p q : Pg) (z : Ch) (c : CallsA Tryz.prog 30 [encP p, encCh z] ct0 (encP q) ct0) : CallsA Tryz.prog 9 [encP p, lst 3 encCh [z]] ct0 (encP q) ct0 := by
  refine fn_ok hm Tryz.func9 (fun _ => false) [] (fun _ => []) (by kernel_rfl) ?_
  refine run ?_
  refine LoopS.mk ⟨[], HeadS.lp (fun r : Nat × Pg => (r.1 = 0 ∧ r.2 = p) ∨ (r.1 = 1 ∧ r.2 = q)) (fun r => ⟨[(5, it r.1)], [(2, encP r.2)], []⟩) (fun r => 1 - r.1) (0, p) (.inl ⟨rfl, rfl⟩) ?_⟩
  rintro ⟨k, P⟩ hJ
  dsimp only at hJ
  refine hJ.elim (fun hJ => ?_) (fun hJ => ?_)
  · obtain ⟨rfl, rfl⟩ := hJ
    refine run ?_
    refine Idx.at rfl (by dsimp only; omega) rfl ?_
    refine run ?_; repeat ((apply call_ok; first | exact (c)); refine run ?_)
    refine ⟨⟨(1, q), .inr ⟨rfl, rfl⟩⟩, (by dsimp only; omega), ?_⟩
    repeat' (first | exact trivial | exact rfl | refine ⟨?_, ?_⟩ | refine ⟨?_, ?_, ?_⟩)
  · obtain ⟨rfl, rfl⟩ := hJ
    refine run ?_
    exact Done.mk rfl rfl
theorem fnAll_at {fm : Int} {b : Bool} {l : List Df} {k : Nat} (h : k < l.length) : nth ((fnAll fm b (l.take k) ++ l.drop k).map encD) ((k : Int)).toNat = some (encD l[k]) := by
  rw [show ((k : Int)).toNat = k from rfl, nth_eq, List.getElem?_map, List.getElem?_append_right (by simp [fnAll]; omega)]
  have : (fnAll fm b (l.take k)).length = k := by simp [fnAll]; omega
  rw [this, Nat.sub_self, List.getElem?_drop]; simp [h]
theorem fnAll_set {fm : Int} {b : Bool} {l : List Df} {k : Nat} (h : k < l.length) : ((fnAll fm b (l.take k) ++ l.drop k).map encD).set ((k : Int)).toNat (encD (fnD fm b l[k])) = (fnAll fm b (l.take (k+1)) ++ l.drop (k+1)).map encD := by
  have e : (fnAll fm b (l.take k)).length = k := by simp [fnAll]; omega
  rw [show ((k : Int)).toNat = k from rfl, ← List.map_set, List.set_append_right _ _ (by omega), e, Nat.sub_self, List.drop_eq_getElem_cons h, List.take_succ_eq_append_getElem h]
  show (fnAll fm b (l.take k) ++ (fnD fm b l[k] :: l.drop (k+1))).map encD = _
  simp only [fnAll, List.map_append, List.map_cons, List.map_nil, List.append_assoc, List.cons_append, List.nil_append]
theorem f6X (x : Cse) (name : Bool) (firm : Int) (hf : 0 ≤ firm ∧ firm < 256) (P M C : Pg) (S : Su) (sums : List Sy) (id : Int) (n1 nc : Ne) (ec : Int) (hl : P.defs.length < 2^20)
    (c8 : CallsA Tryz.prog 8 [encCase x] ct0 (.tup [encP P, it id, encSu S, lst 11 encSy sums]) ct0)
    (c22 : CallsA Tryz.prog 22 [encP ⟨P.d, P.heads, fnAll (firm.tmod 2) name P.defs, P.threads⟩] ct0 (encP (wHeads ⟨P.d, P.heads, fnAll (firm.tmod 2) name P.defs, P.threads⟩)) ct0)
    (c9 : CallsA Tryz.prog 9 [encP ⟨P.d, (fnAll (firm.tmod 2) name P.defs).map headOf, fnAll (firm.tmod 2) name P.defs, []⟩, lst 3 encCh [⟨3, 0, firm⟩]] ct0 (encP M) ct0)
    (c23 : CallsA Tryz.prog 23 [encP ⟨P.d, (fnAll (firm.tmod 2) name P.defs).map headOf, fnAll (firm.tmod 2) name P.defs, []⟩, it 11] ct0 (encP C) ct0)
    (a1 : CallsA Tryz.prog 10 [encP P, encSu S, it id, lst 11 encSy sums] ct0 (.agg (cN n1 ++ [it 0])) ct0)
    (a2 : CallsA Tryz.prog 10 [encP M, encSu S, it id, lst 11 encSy sums] ct0 (.agg (cN n1 ++ [it 0])) ct0)
    (a3 : CallsA Tryz.prog 10 [encP C, encSu S, it id, lst 11 encSy sums] ct0 (.agg (cN nc ++ [it ec])) ct0) (h3 : id = 11 ∨ (nc = n1 ∧ ec = 0))
    (c24 : CallsA Tryz.prog 24 [encP M] ct0 (it 0) ct0) (c16 : CallsA Tryz.prog 16 [encN n1, encN n1] ct0 (bo true) ct0) : CallsA Tryz.prog 6 [encCase x, bo name, u8 firm] ct0 (bo true) ct0 := by
  have c7 := examples_ok
  have hf2 := tm_bd hf.1 2 (by omega)
  have hdl : (P.defs.map encD).length = P.defs.length := List.length_map ..
  refine (Bool.eq_false_or_eq_true (id == 11)).elim (fun b7 => ?_) (fun b7 => ?_)
  all_goals
    refine (Bool.eq_false_or_eq_true (name)).elim (fun hb => ?_) (fun hb => ?_)
  all_goals
    first
    | (have e := h3.resolve_left (ne_of_beq_false b7)
       obtain ⟨e1, e2⟩ := e
       subst e1
       subst e2)
    | skip
    first
    | have hd : ∀ d, fnD (firm.tmod 2) name d = d.fn (firm.tmod 2) othN := fun d => by rw [hb]; rfl
    | have hd : ∀ d, fnD (firm.tmod 2) name d = d.fn (firm.tmod 2) d.name := fun d => by rw [hb]; rfl
    refine fn_ok hm Tryz.func6 (fun _ => false) [] (fun _ => []) (by kernel_rfl) ?_
    refine run ?_; repeat ((apply call_ok; first | exact (c7) | exact (c8)); refine run ?_)
    refine LoopS.mk ⟨[], HeadS.lp (fun r : CR => r.k ≤ P.defs.length ∧ r.acc = (fnAll (firm.tmod 2) name (P.defs.take r.k) ++ P.defs.drop r.k).map encD) (fun r => ⟨[(13, it r.k)], [], [(31, ⟨12, true, r.acc⟩)]⟩) (fun r => P.defs.length - r.k) ⟨0, P.defs.map encD⟩ ⟨Nat.zero_le _, rfl⟩ ?_⟩
    rintro ⟨k, acc⟩ ⟨hJ, ha⟩
    dsimp only at hJ ha ⊢
    have hal : acc.length = P.defs.length := by rw [ha, List.length_map, List.length_append, fnAll, List.length_map, List.length_take, List.length_drop]; omega
    have hal2 : ([] ++ P.defs.map encD).length = acc.length := by rw [List.nil_append, hdl, hal]
    by_cases hk : k < P.defs.length
    · have b1 : decide ((k : Int) < (([] ++ P.defs.map encD).length : Nat)) = true := decide_eq_true (by rw [List.nil_append, List.length_map]; omega)
      have hn := fnAll_at (fm := firm.tmod 2) (b := name) hk
      rw [← ha] at hn
      have hs := fnAll_set (fm := firm.tmod 2) (b := name) hk
      rw [← ha, hd] at hs
      refine run ?_
      iterate 4
        refine Idx.at hal2 (by omega) hn ?_
        refine run ?_
      refine ⟨⟨⟨k + 1, _⟩, ⟨hk, hs⟩⟩, Nat.sub_lt_sub_left hk (Nat.lt_succ_self _), ?_⟩
      repeat' (first | exact trivial | exact rfl | refine And.intro ?_ ?_ | refine Holds.mk ?_ ?_ ?_)
    · have b1 : decide ((k : Int) < (([] ++ P.defs.map encD).length : Nat)) = false := decide_eq_false (by rw [List.nil_append, List.length_map]; omega)
      have hA : acc = (fnAll (firm.tmod 2) name P.defs).map encD := by rw [ha, List.take_of_length_le (by omega), List.drop_eq_nil_of_le (by omega), List.append_nil]
      have c22' : CallsA Tryz.prog 22 [.agg (cDc P.d ++ [lst 5 encH P.heads, .sl 12 acc false, ints P.threads])] ct0 (encP (wHeads ⟨P.d, P.heads, fnAll (firm.tmod 2) name P.defs, P.threads⟩)) ct0 := by rw [hA]; exact c22
      refine run ?_; repeat ((apply call_ok; first | exact (c22') | exact (c9) | exact (c23) | exact (a1) | exact (a2) | exact (a3) | exact (c24) | exact (c16)); refine run ?_)
      exact Done.mk rfl rfl
end Abs
namespace Abs
open Go Go.Proofs
set_option maxRecDepth 100000
set_option maxHeartbeats 4000000
theorem fnd_some {α : Type} {p : α → Bool} {z : α} : ∀ {l : List α}, (∃ x ∈ l, p x = true) → (fnd p z l).2 = true
  | [], h => by obtain ⟨x, hx, _⟩ := h; simp at hx
  | y :: l, h => by
    rw [fnd]
    split
    · rfl
    · next hn =>
      obtain ⟨x, hx, hp⟩ := h
      rcases List.mem_cons.1 hx with rfl | hx
      · exact absurd hp hn
      · exact fnd_some ⟨x, hx, hp⟩
theorem fnd_filter {α : Type} {p q : α → Bool} {z : α} (h : ∀ x, p x = true → q x = true) : ∀ l : List α, fnd p z (l.filter q) = fnd p z l
  | [] => rfl
  | x :: l => by
    have ih := fnd_filter (z := z) h l
    cases hq : q x with
    | true => rw [List.filter_cons_of_pos hq, fnd, fnd, ih]
    | false =>
      have hp : p x = false := by
        cases e : p x with
        | false => rfl
        | true => rw [h x e] at hq; cases hq
      rw [List.filter_cons_of_neg (by rw [hq]; simp), ih, fnd, if_neg (by rw [hp]; simp)]
def hd0 (h : Hd) : Hd := ⟨h.id, 0, h.part, h.params, h.given⟩
theorem fnd_fn (fm : Int) (b : Bool) (c : Int) (r : List Hd) : ∀ ds : List Df, (fnd (fun x : Hd => x.id == c) zHd (ds.map headOf)).2 = true →
    (fnd (fun x : Hd => x.id == c) zHd ((fnAll fm b ds).map headOf ++ r)).2 = true ∧ hd0 (fnd (fun x : Hd => x.id == c) zHd ((fnAll fm b ds).map headOf ++ r)).1 = hd0 (fnd (fun x : Hd => x.id == c) zHd (ds.map headOf)).1
  | [], h => by cases h
  | d :: ds, h => by
    show (fnd _ zHd (headOf (fnD fm b d) :: _)).2 = true ∧ hd0 (fnd _ zHd (headOf (fnD fm b d) :: _)).1 = hd0 (fnd _ zHd (headOf d :: ds.map headOf)).1
    have h' : (fnd (fun x : Hd => x.id == c) zHd (headOf d :: ds.map headOf)).2 = true := h
    rw [fnd] at h' ⊢
    rw [fnd]
    have e : (headOf (fnD fm b d)).id = (headOf d).id := rfl
    rw [e]
    by_cases hx : ((headOf d).id == c) = true
    · simp only [hx, if_true]; exact ⟨trivial, rfl⟩
    · simp only [hx] at h' ⊢
      exact fnd_fn fm b c r ds h'
section
variable {p q : Pg} (hd : p.d = q.d)
def HdsLike (p q : Pg) (c : Int) : Prop := (fnd (fun x : Hd => x.id == c) zHd p.heads).2 = true ∧ (fnd (fun x : Hd => x.id == c) zHd q.heads).2 = true ∧ hd0 (hdOf p c) = hd0 (hdOf q c)
include hd
theorem need_like {d e : Df} (he : nmD d = nmD e) (h : ∀ c ∈ rcalls e.body, HdsLike p q c) (s : Su) (id : Int) (sums : List Sy) : mkNe p s id sums d = mkNe q s id sums e := by
  have hb : (nmD d).body = (nmD e).body := congrArg Df.body he
  have hb : d.body = e.body := hb
  have e1 : ∀ c ∈ rcalls e.body, wHd p c = wHd q c := fun c hc => by
    have := (h c hc).2.2
    have q1 : (hd0 (hdOf p c)).id = (hd0 (hdOf q c)).id := congrArg Hd.id this
    have q2 : (hd0 (hdOf p c)).part = (hd0 (hdOf q c)).part := congrArg Hd.part this
    have q3 : (hd0 (hdOf p c)).params = (hd0 (hdOf q c)).params := congrArg Hd.params this
    have q4 : (hd0 (hdOf p c)).given = (hd0 (hdOf q c)).given := congrArg Hd.given this
    simp only [hd0] at q1 q2 q3 q4
    unfold wHd
    rw [q1, q2, q3, q4]
  have e2 : ∀ c ∈ rcalls e.body, sumOf p sums c = sumOf q sums c := fun c hc => by
    unfold sumOf topOf
    rw [(h c hc).1, (h c hc).2.1]
  have e3 : declW p (rcalls e.body) = declW q (rcalls e.body) := by
    unfold declW
    rw [show declC p = declC q by unfold declC declB declA; rw [hd]]
    congr 1
    unfold List.flatMap
    rw [List.map_congr_left e1]
  unfold mkNe
  rw [he, hb, e3, List.map_congr_left e2]
end
theorem spare_dfok (id n : Int) (h : 20 ≤ id ∧ id ≤ 21) : DfOk 1 (spareD id n) := by
  refine ⟨by show 0 ≤ id ∧ id < 100; omega, ⟨Nat.zero_le _, Nat.zero_le _⟩, Nat.zero_le _, ?_, by show 5 ≤ 100; decide⟩
  show W [_] ≤ _
  rw [W_cons, W_nil, wSB]
  simp [wE, wEs, wC, wCs, wl, W]
theorem fnD_dfok {d : Df} (fm : Int) (b : Bool) (h : DfOk 0 d) : DfOk 1 (fnD fm b d) :=
  ⟨h.id, h.np, h.na, h.up.w, by cases b; exact h.nm; show 5 ≤ 100; decide⟩
theorem fits_of {l : List Df} (h : ∀ d ∈ l, DfOk 1 d) (h0 : 0 < l.length) (h5 : l.length ≤ 5) : Fits ⟨declD, l.map headOf, l, []⟩ := by
  have hp : PgOk 1 ⟨declD, l.map headOf, l, [0]⟩ := ⟨rfl, rfl, ⟨rfl, rfl, rfl, rfl⟩, rfl, h0, h5, Nat.zero_lt_one, by show 1 ≤ 2; decide, h⟩
  have f := hp.fits (by omega)
  exact ⟨f.locks, f.nheads, f.ndefs, f.words, f.decl⟩
theorem need_of {p : Pg} {s : Su} {sums : List Sy} {d : Df} {id : Int} (hid : fnd (fun x : Df => x.id == id) zDf p.defs = (d, true)) (hd : DfOk 1 d) : needOf p s id sums = (mkNe p s id sums d, 0) := by
  unfold needOf
  rw [hid]
  have := hd.words
  rw [if_pos rfl, if_pos (by show (wD (nmD d)).length ≤ 100000; omega)]
theorem fnd_inc {l : List Df} (h : (l.map (·.id)).Pairwise (· < ·)) {k : Nat} (hk : k < l.length) : fnd (fun x : Df => x.id == l[k].id) zDf l = (l[k], true) :=
  fnd_first hk (by simp) (fun j hj => by
    have := List.pairwise_iff_getElem.1 h j k (by rw [List.length_map]; omega) (by rw [List.length_map]; exact hk) hj
    simp only [List.getElem_map] at this
    rw [beq_eq_false_iff_ne]; omega)
theorem tw_all {α : Type} {p : α → Bool} : ∀ {l : List α}, (∀ x ∈ l, p x = true) → l.takeWhile p = l
  | [], _ => rfl
  | x :: l, h => by rw [List.takeWhile_cons_of_pos (h x List.mem_cons_self), tw_all fun y hy => h y (List.mem_cons_of_mem _ hy)]
theorem gd_lt {α : Type} {l : List α} {k : Nat} {z : α} (h : k < l.length) : l.getD k z = l[k] := by rw [List.getD_eq_getElem?_getD, List.getElem?_eq_getElem h]; rfl
theorem fnd_none {α : Type} {p : α → Bool} {z : α} : ∀ {l : List α}, (∀ x ∈ l, p x = false) → (fnd p z l).2 = false
  | [], _ => rfl
  | x :: l, h => by
    rw [fnd, if_neg (by rw [h x List.mem_cons_self]; simp)]
    exact fnd_none fun y hy => h y (List.mem_cons_of_mem _ hy)
theorem finP_more (p : Pg) (l : List Df) (x : Df) (h : ∀ d ∈ l, d.id < x.id) : finP ⟨p.d, p.heads, l ++ [x], p.threads⟩ = ⟨p.d, (l ++ [x]).map headOf, l ++ [x], p.threads⟩ := by
  have e1 : (l ++ [x]).dropLast = l := by simp
  have e2 : (l ++ [x]).getLastD zD = x := by simp
  have e3 : insD l x = l ++ [x] := by
    unfold insD
    rw [tw_all (fun d hd => decide_eq_true (h d hd)), List.filter_eq_nil_iff.2 (fun d hd => by have := h d hd; simp; omega), List.append_nil]
  unfold finP sortP wHeads
  dsimp only
  rw [e1, e2, e3]
theorem law4 (xs : List Dat) (h : TyEach [caseS, .bool, .int .u8] xs) : CallsA Tryz.prog 6 xs ⟨[], []⟩ (.bool true) ⟨[], []⟩ := by
  obtain ⟨l1, _, rfl, h1, h⟩ := tyE_cons h
  obtain ⟨l2, _, rfl, h2, h⟩ := tyE_cons h
  obtain ⟨l3, _, rfl, h3, h⟩ := tyE_cons h
  have := tyE_nil h
  subst this
  obtain ⟨x, ex, okx⟩ := case_of h1
  obtain ⟨name, rfl⟩ : ∃ b, l2 = [bo b] := by rw [Ty] at h2; exact h2
  obtain ⟨firm, rfl, hf⟩ := ty_u8 h3
  rw [ex]
  have hp := madeP_ok x.b
  have hk := kC_lt okx
  have c8 := madeC_ok x okx
  have hr := rulesC_len x
  have hr' : (setupC x).rules.length < 2^30 := by show (rulesC x).length < _; omega
  have hsl : (sumsP (madeP x.b) x.s).length < 2^40 := by rw [sumsP_len]; have := (hp.fits (by omega)).nheads; omega
  have hsm := sumsP_mem hp okx.s
  have eid : idC x = ((madeP x.b).defs[kC x]'hk.1).id := by unfold idC; rw [gd_lt hk.1]
  obtain ⟨t, ht, hall⟩ := madeP_all x.b
  have hmd : (madeP x.b).d = declD := rfl
  have hids := all_ids hall
  have hdn := hp.nd
  have hpos := hp.pos
  have f0 := hp.fits (by omega)
  have hD := hp.ok
  have hhd := hp.heads
  have hkk := hk.1
  generalize kC x = kk at *
  generalize sumsP (madeP x.b) x.s = sums at *
  generalize setupC x = S at *
  generalize idC x = id at *
  generalize madeP x.b = P at *
  obtain ⟨fm, hfm⟩ : ∃ fm, fm = firm.tmod 2 := ⟨_, rfl⟩
  have hfm2 : 0 ≤ fm ∧ fm ≤ 1 := by have := tm_bd hf.1 2 (by omega); omega
  have hx2 : 20 ≤ 20 + firm.tmod 2 ∧ 20 + firm.tmod 2 ≤ 21 := by omega
  have hn4 := tm_bd hf.1 4 (by omega)
  obtain ⟨X, hX⟩ : ∃ X, X = spareD (20 + firm.tmod 2) (firm.tmod 4) := ⟨_, rfl⟩
  have hQl : (fnAll fm name P.defs).length = P.defs.length := by simp [fnAll]
  have hQok : ∀ d ∈ fnAll fm name P.defs, DfOk 1 d := fun d hd => by
    obtain ⟨e, he, rfl⟩ := List.mem_map.1 hd
    exact fnD_dfok fm name (hD e he)
  have hMok : ∀ d ∈ moreL fm name P.defs X, DfOk 1 d := fun d hd => by
    rcases List.mem_append.1 hd with hd | hd
    · exact hQok d hd
    · rw [List.mem_singleton.1 hd, hX]; exact spare_dfok _ _ hx2
  have hMl : (moreL fm name P.defs X).length = P.defs.length + 1 := by simp [moreL, hQl]
  have fQ := fits_of hQok (by omega) (by omega)
  have fM := fits_of hMok (by omega) (by omega)
  have incM : ((moreL fm name P.defs X).map (·.id)).Pairwise (· < ·) := by
    have := more_ids hall (by omega) (sid := 20 + firm.tmod 2) (sn := firm.tmod 4) hx2 (fm := fm) (b := name)
    rw [← hX] at this
    exact (List.pairwise_cons.1 this).2
  have incQ : ((fnAll fm name P.defs).map (·.id)).Pairwise (· < ·) := by
    rw [moreL, List.map_append, List.pairwise_append] at incM
    exact incM.1
  have lowQ : ∀ d ∈ fnAll fm name P.defs, d.id < X.id := fun d hd => by
    rw [moreL, List.map_append, List.pairwise_append] at incM
    exact incM.2.2 _ (List.mem_map.2 ⟨d, hd, rfl⟩) _ List.mem_cons_self
  have hgQ : ∀ k (hk : k < P.defs.length), (fnAll fm name P.defs)[k]'(by omega) = fnD fm name P.defs[k] := fun k hk => by simp [fnAll]
  have hfind : ∀ c ∈ rcalls P.defs[kk].body, (fnd (fun x : Hd => x.id == c) zHd (P.defs.map headOf)).2 = true := fun c hc => by
    rw [← calls_eq] at hc
    obtain ⟨z, hz, ho, e⟩ := calls_in hc
    obtain ⟨u, v, g⟩ := hall.get kk hkk
    obtain ⟨y, hy, e1, _⟩ := g.calls z hz ho
    obtain ⟨d, hd, rfl⟩ := List.mem_map.1 hy
    exact fnd_some ⟨headOf d, List.mem_map.2 ⟨d, List.mem_of_mem_take hd, rfl⟩, by rw [← e, e1]; simp⟩
  have likeM : ∀ c ∈ rcalls P.defs[kk].body, HdsLike ⟨declD, (moreL fm name P.defs X).map headOf, moreL fm name P.defs X, []⟩ P c := fun c hc => by
    have h1 := hfind c hc
    have h2 := fnd_fn fm name c [headOf X] P.defs h1
    rw [HdsLike, hhd]
    unfold hdOf
    rw [hhd]
    have e : (moreL fm name P.defs X).map headOf = (fnAll fm name P.defs).map headOf ++ [headOf X] := by simp [moreL]
    dsimp only
    rw [e]
    exact ⟨h2.1, h1, h2.2⟩
  have likeQ : ∀ c ∈ rcalls P.defs[kk].body, HdsLike ⟨declD, (fnAll fm name P.defs).map headOf, fnAll fm name P.defs, []⟩ P c := fun c hc => by
    have h1 := hfind c hc
    have h2 := fnd_fn fm name c [] P.defs h1
    rw [List.append_nil] at h2
    rw [HdsLike, hhd]
    unfold hdOf
    rw [hhd]
    exact ⟨h2.1, h1, h2.2⟩
  have enm : nmD (fnD fm name P.defs[kk]) = nmD P.defs[kk] := rfl
  have n1 : needOf P S id sums = (mkNe P S id sums P.defs[kk], 0) := by
    have : P.defs.map (·.id) = (fnAll fm name P.defs).map (·.id) := by rw [fnAll, List.map_map]; rfl
    refine need_of ?_ (hD _ (List.getElem_mem hkk)).up
    rw [eid]; exact fnd_inc (by rw [this]; exact incQ) hkk
  have n2 : needOf ⟨declD, (moreL fm name P.defs X).map headOf, moreL fm name P.defs X, []⟩ S id sums = (mkNe P S id sums P.defs[kk], 0) := by
    have hg : (moreL fm name P.defs X)[kk]'(by omega) = fnD fm name P.defs[kk] := by
      simp only [moreL]
      rw [List.getElem_append_left (by omega)]; exact hgQ kk hkk
    have := fnd_inc incM (k := kk) (by omega)
    rw [hg] at this
    rw [need_of (d := fnD fm name P.defs[kk]) (by rw [eid]; exact this) (fnD_dfok fm name (hD _ (List.getElem_mem hkk))), need_like hmd.symm enm likeM]
  have n3 : needOf ⟨declD, (fnAll fm name P.defs).map headOf, fnAll fm name P.defs, []⟩ S id sums = (mkNe P S id sums P.defs[kk], 0) := by
    have := fnd_inc incQ (k := kk) (by omega)
    rw [hgQ kk hkk] at this
    rw [need_of (d := fnD fm name P.defs[kk]) (by rw [eid]; exact this) (fnD_dfok fm name (hD _ (List.getElem_mem hkk))), need_like hmd.symm enm likeQ]
  have fC : Fits (closedP ⟨declD, (fnAll fm name P.defs).map headOf, fnAll fm name P.defs, []⟩ 11) := by
    refine ⟨fQ.locks, fQ.nheads, ?_, fun d hd => fQ.words d (List.mem_filter.1 hd).1, fun d hd => fQ.decl d (List.mem_filter.1 hd).1⟩
    have := List.length_filter_le (fun d : Df => d.id != 11) (fnAll fm name P.defs)
    show ((fnAll fm name P.defs).filter _).length < _
    omega
  have a1 := need_ok P S id sums f0 hsl hr'
  have a2 := need_ok _ S id sums fM hsl hr'
  have a3 := need_ok _ S id sums fC hsl hr'
  rw [n1] at a1
  rw [n2] at a2
  have ok1 := needOf_ok (p := P) (s := S) (sums := sums) id f0 hr' hsm
  rw [n1] at ok1
  have c16 := depSame_ok _ (mkNe P S id sums P.defs[kk]) ok1
  rw [beq_self_eq_true] at c16
  have cw := withHeads_ok ⟨P.d, P.heads, fnAll (firm.tmod 2) name P.defs, P.threads⟩ (by show (fnAll _ _ _).length < _; rw [← hfm]; omega)
  have cx : ChCx ⟨declD, (fnAll fm name P.defs).map headOf, fnAll fm name P.defs, []⟩ ⟨3, 0, firm⟩ 0 := by
    refine ⟨⟨by show (0 : Int) ≤ 3 ∧ (3 : Int) < 256; decide, by show (0 : Int) ≤ 0 ∧ (0 : Int) < 256; decide, hf⟩, by show 0 < (fnAll fm name P.defs).length; omega, by show (fnAll fm name P.defs).length < _; omega, ?_, ?_⟩
    · show (0 : Int).tmod _ = 0; simp
    · have := (hQok _ (List.getElem_mem (show 0 < (fnAll fm name P.defs).length by omega))).id
      show 0 ≤ ((fnAll fm name P.defs).getD 0 zD).id ∧ _
      rw [gd_lt (by omega)]
      omega
  have cc := change3_ok cx rfl
  have hno : (fnd (fun x : Df => x.id == 20 + firm.tmod 2) zDf (fnAll fm name P.defs)).2 = false := fnd_none fun d hd => by
    have := lowQ d hd
    rw [hX] at this
    have h2 : d.id < 20 + firm.tmod 2 := this
    rw [beq_eq_false_iff_ne]; omega
  rw [if_neg (by show ¬ (fnd (fun x : Df => x.id == 20 + firm.tmod 2) zDf (fnAll fm name P.defs)).2 = true; rw [hno]; simp)] at cc
  have em := finP_more ⟨declD, (fnAll fm name P.defs).map headOf, fnAll fm name P.defs, []⟩ (fnAll fm name P.defs) X lowQ
  have cc2 : CallsA Tryz.prog 30 [encP ⟨declD, (fnAll fm name P.defs).map headOf, fnAll fm name P.defs, []⟩, encCh ⟨3, 0, firm⟩] ct0 (encP ⟨declD, (moreL fm name P.defs X).map headOf, moreL fm name P.defs X, []⟩) ct0 := by
    rw [hX] at em ⊢
    have e2 : (⟨declD, (moreL fm name P.defs (spareD (20 + firm.tmod 2) (firm.tmod 4))).map headOf, moreL fm name P.defs (spareD (20 + firm.tmod 2) (firm.tmod 4)), []⟩ : Pg) = _ := em.symm
    rw [e2]; exact cc
  have c9 := var1_ok _ _ _ cc2
  have c23 := closed_ok ⟨declD, (fnAll fm name P.defs).map headOf, fnAll fm name P.defs, []⟩ 11 (by show (fnAll fm name P.defs).length < _; omega) rfl
  have right := more_right hall ht (by omega) hfm2 hx2 hn4 (b := name)
  rw [← hX] at right
  have c24 := shProgram_ok _ right
  have h3 : id = 11 ∨ ((needOf (closedP ⟨declD, (fnAll fm name P.defs).map headOf, fnAll fm name P.defs, []⟩ 11) S id sums).1 = mkNe P S id sums P.defs[kk] ∧ (needOf (closedP ⟨declD, (fnAll fm name P.defs).map headOf, fnAll fm name P.defs, []⟩ 11) S id sums).2 = 0) := by
    by_cases h11 : id = 11
    · exact .inl h11
    · refine .inr ?_
      have e : needOf (closedP ⟨declD, (fnAll fm name P.defs).map headOf, fnAll fm name P.defs, []⟩ 11) S id sums = needOf ⟨declD, (fnAll fm name P.defs).map headOf, fnAll fm name P.defs, []⟩ S id sums := by
        unfold needOf
        rw [show (closedP ⟨declD, (fnAll fm name P.defs).map headOf, fnAll fm name P.defs, []⟩ 11).defs = (fnAll fm name P.defs).filter fun d => d.id != 11 from rfl, fnd_filter (fun d hd => by simp at hd ⊢; omega)]
        rfl
      rw [e, n3]; exact ⟨rfl, rfl⟩
  subst hfm
  exact f6X x name firm hf P ⟨declD, (moreL (firm.tmod 2) name P.defs X).map headOf, moreL (firm.tmod 2) name P.defs X, []⟩ (closedP ⟨declD, (fnAll (firm.tmod 2) name P.defs).map headOf, fnAll (firm.tmod 2) name P.defs, []⟩ 11) S sums id _ _ _ (by omega) c8 cw (by rw [hmd]; exact c9) (by rw [hmd]; exact c23) a1 a2 a3 h3 c24 c16
end Abs
