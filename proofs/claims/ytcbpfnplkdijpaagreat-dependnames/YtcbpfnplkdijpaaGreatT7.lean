/- A part of a proof: an abstract machine, proved sound, or contracts of functions. No condition. -/
import Derived.Test.YtcbpfnplkdijpaaGreatT6
set_option linter.unusedVariables false
set_option linter.unusedSimpArgs false
namespace Abs
open Go Go.Proofs
set_option maxRecDepth 100000
set_option maxHeartbeats 4000000
def declD : Dc := ⟨[⟨0, 20, 1⟩, ⟨-5, 5, 0⟩], [⟨0, 9, 1⟩, ⟨0, 100, 2⟩], [⟨2, ⟨0, 15, 1⟩⟩], [0, 1, 3], 3, 3, 2⟩
theorem declared_ok : CallsA Tryz.prog 65 [] ct0 (.agg (cDc declD)) ct0 := by
  refine fn_ok hm Tryz.func65 (fun _ => false) [] (fun _ => []) (by kernel_rfl) ?_
  refine run ?_
  exact Done.mk rfl rfl
def headOf (d : Df) : Hd := ⟨d.id, d.firm, d.part, d.params, d.given⟩
theorem head_ok (d : Df) : CallsA Tryz.prog 55 [encD d] ct0 (encH (headOf d)) ct0 := by
  refine fn_ok hm Tryz.func55 (fun _ => false) [] (fun _ => []) (by kernel_rfl) ?_
  refine run ?_
  exact Done.mk rfl rfl
def encMkR (m : Mk) (nm : Nat) (a s l p d : Nat) (n : Nat) : Dat := .agg ([byt m.L, it a] ++ (cDc m.d ++ ([.ref 1000 (m.heads.map encH).length, .ref 1001 (m.defs.map encD).length, .ref 1002 (m.th.map it).length] ++
  ([it m.D.id, it m.D.site, .str m.D.name, it m.D.firm, it m.D.part, .ref nm n, lst 3 encR m.D.given, it m.D.vars, it m.D.refs, lst 2 encA m.D.arrays, it m.D.budget, lst 20 encS m.D.body] ++ [it s, it l, it p, it d, bo m.calm]))))
def ctR (m : Mk) (a s l p d : Nat) (ps : List Dat) : Ct := ⟨[encMkR m 1003 a s l p d ps.length], [⟨5, true, m.heads.map encH⟩, ⟨12, true, m.defs.map encD⟩, ⟨1, true, m.th.map it⟩, ⟨3, true, ps⟩]⟩
theorem nextR_ok (m : Mk) (ps : List Dat) (a s l p d : Nat) (n : Int) (h : a < 2^60) (hn : 0 < n) : CallsA Tryz.prog 109 [mp, it n] (ctR m a s l p d ps) (it (m.nx a n)) (ctR m (a + 1) s l p d ps) := by
  by_cases hl : a < m.L.length
  · have hb : decide ((a : Int) + 1 > ((m.L.map fun b => Dat.int .u8 b.toNat).length : Nat)) = false := by simp; omega
    have hu := UInt8.toNat_lt (m.L[a])
    refine fn_ok hm Tryz.func109 (fun _ => false) [] (fun _ => []) (by kernel_rfl) ?_
    refine run ?_
    refine Idx.mapE a (by omega) (by omega) rfl ?_
    refine run ?_
    refine Done.mk (congrArg it ?_) rfl
    simp [Mk.nx, List.getD, hl]
  · have hb : decide ((a : Int) + 1 > ((m.L.map fun b => Dat.int .u8 b.toNat).length : Nat)) = true := by simp; omega
    refine fn_ok hm Tryz.func109 (fun _ => false) [] (fun _ => []) (by kernel_rfl) ?_
    refine run ?_
    refine Done.mk (congrArg it ?_) rfl
    simp [Mk.nx, List.getD, hl]
def encMkA (m : Mk) (nm : Nat) (a s l p d : Nat) (n : Nat) : Dat := .agg ([byt m.L, it a] ++ (cDc m.d ++ ([.ref 1000 (m.heads.map encH).length, .ref 1001 (m.defs.map encD).length, .ref 1002 (m.th.map it).length] ++
  ([it m.D.id, it m.D.site, .str m.D.name, it m.D.firm, it m.D.part, lst 3 encR m.D.params, lst 3 encR m.D.given, it m.D.vars, it m.D.refs, .ref nm n, it m.D.budget, lst 20 encS m.D.body] ++ [it s, it l, it p, it d, bo m.calm]))))
def ctA (m : Mk) (a s l p d : Nat) (ps : List Dat) : Ct := ⟨[encMkA m 1003 a s l p d ps.length], [⟨5, true, m.heads.map encH⟩, ⟨12, true, m.defs.map encD⟩, ⟨1, true, m.th.map it⟩, ⟨2, true, ps⟩]⟩
theorem nextA_ok (m : Mk) (ps : List Dat) (a s l p d : Nat) (n : Int) (h : a < 2^60) (hn : 0 < n) : CallsA Tryz.prog 109 [mp, it n] (ctA m a s l p d ps) (it (m.nx a n)) (ctA m (a + 1) s l p d ps) := by
  by_cases hl : a < m.L.length
  · have hb : decide ((a : Int) + 1 > ((m.L.map fun b => Dat.int .u8 b.toNat).length : Nat)) = false := by simp; omega
    have hu := UInt8.toNat_lt (m.L[a])
    refine fn_ok hm Tryz.func109 (fun _ => false) [] (fun _ => []) (by kernel_rfl) ?_
    refine run ?_
    refine Idx.mapE a (by omega) (by omega) rfl ?_
    refine run ?_
    refine Done.mk (congrArg it ?_) rfl
    simp [Mk.nx, List.getD, hl]
  · have hb : decide ((a : Int) + 1 > ((m.L.map fun b => Dat.int .u8 b.toNat).length : Nat)) = true := by simp; omega
    refine fn_ok hm Tryz.func109 (fun _ => false) [] (fun _ => []) (by kernel_rfl) ?_
    refine run ?_
    refine Done.mk (congrArg it ?_) rfl
    simp [Mk.nx, List.getD, hl]
def rngs : List Rng := [⟨0, 3, 0⟩, ⟨-2, 5, 1⟩, ⟨0, 9, 3⟩, ⟨2, 2, 0⟩]
def Mk.rng (m : Mk) (a : Nat) : Rng := rngs.getD (m.nx a 4).toNat ⟨0, 0, 0⟩
theorem Mk.rng_at (m : Mk) (a : Nat) : rngs[(m.nx a 4).toNat]? = some (m.rng a) := by
  have h := m.nx_bd a (n := 4) (by omega)
  have h2 : (m.nx a 4).toNat < rngs.length := by simp [rngs]; omega
  simp [Mk.rng, List.getD, h2]
def Mk.params (m : Mk) (a : Nat) : Nat → List Rng
  | 0 => []
  | i + 1 => m.params a i ++ [m.rng (a + i)]
theorem Mk.params_len (m : Mk) (a : Nat) : ∀ i, (m.params a i).length = i
  | 0 => rfl
  | i + 1 => by simp only [Mk.params, List.length_append, m.params_len a i]; rfl
def budgets : List Int := [400, 60, 20, 2000]
def Mk.budget (m : Mk) (a : Nat) : Int := budgets.getD (m.nx a 4).toNat 0
theorem Mk.budget_at (m : Mk) (a : Nat) : budgets[(m.nx a 4).toNat]? = some (m.budget a) := by
  have h := m.nx_bd a (n := 4) (by omega)
  have h2 : (m.nx a 4).toNat < budgets.length := by simp [budgets]; omega
  simp [Mk.budget, List.getD, h2]
def letters : List UInt8 := [97, 98, 99, 100, 101, 102, 103, 104]
def nameOf (id : Int) : List UInt8 := cut letters (some (id.tmod 8)) (some (id.tmod 8 + 1))
def Mk.with' (m : Mk) (D : Df) : Mk := ⟨m.L, m.d, m.heads, m.defs, m.th, D, m.calm⟩
def Mk.d0 (m : Mk) (id : Int) (a : Nat) (part : Int) : Df := ⟨id, 0, nameOf id, m.nx a 2, part, [], [], 0, 0, [], m.budget (a+1+1), []⟩
theorem nextR (m : Mk) (D : Df) (ps : List Dat) (a s l p d : Nat) (n : Int) (h : a < 2^60) (hn : 0 < n) : CallsA Tryz.prog 109 [mp, it n] (ctR (m.with' D) a s l p d ps) (it (m.nx a n)) (ctR (m.with' D) (a + 1) s l p d ps) := nextR_ok (m.with' D) ps a s l p d n h hn
theorem nextA (m : Mk) (D : Df) (ps : List Dat) (a s l p d : Nat) (n : Int) (h : a < 2^60) (hn : 0 < n) : CallsA Tryz.prog 109 [mp, it n] (ctA (m.with' D) a s l p d ps) (it (m.nx a n)) (ctA (m.with' D) (a + 1) s l p d ps) := nextA_ok (m.with' D) ps a s l p d n h hn
theorem nextD (m : Mk) (D : Df) (a s l p d : Nat) (n : Int) (h : a < 2^60) (hn : 0 < n) : CallsA Tryz.prog 109 [mp, it n] (ctM (m.with' D) a s l p d) (it (m.nx a n)) (ctM (m.with' D) (a + 1) s l p d) := next_ok (m.with' D) a s l p d n h hn
def hintDef : Nat → List Ad
  | 1 => [.cell 1000 17 32, .layCell 1000 18, .layCell 1000 21, .layCell 1000 23]
  | 10 => [.layCell 1000 17]
  | 12 => [.layCell 1000 18]
  | 17 => [.layCell 1000 21]
  | _ => []
structure PR where
  v : Int
  k : Nat
  acc : List Dat
def Mk.dG (m : Mk) (id : Int) (a : Nat) (part : Int) (ps gs : List Rng) (vars refs : Int) (ar : List Ar) (body : List Sm) (site : Int) : Df := ⟨id, site, nameOf id, m.nx a 2, part, ps, gs, vars, refs, ar, m.budget (a+1+1), body⟩
def Mk.partX (m : Mk) (a : Nat) : Int := (IntKind.i64.wrap ((m.nx (a+1) 6).tdiv 2)).tmod 3
def givenR : Rng := ⟨-10, 10, 1⟩
structure Mk.Core (m : Mk) : Prop where
  calm : m.calm = false
  heads : ∀ h ∈ m.heads, h.params.length ≤ 12 ∧ h.given.length ≤ 12
  nh : m.heads.length < 2^30
theorem Mk.with_fine {m : Mk} (h : m.Core) {D : Df} (h1 : (D.params.length : Int) < D.vars) (h2 : D.vars < 2^40) (h3 : 0 < D.arrays.length) (h4 : D.arrays.length < 2^40) : (m.with' D).Fine :=
  ⟨⟨by rw [Mk.nP_eq]; exact ⟨h1, h2, by show (D.params.length : Int) < _; omega⟩, by rw [Mk.nA_eq]; exact ⟨by show (0:Int) < (D.arrays.length : Int); omega, by show (D.arrays.length : Int) < _; omega⟩⟩, h.calm, h.heads, h.nh⟩
def ctEnd (m : Mk) (D : Df) (a s l p d : Nat) : Ct := ctM ⟨m.L, m.d, m.heads ++ [headOf D], m.defs ++ [D], m.th, D, m.calm⟩ a s l p d
theorem ctEnd_eq (m : Mk) (D : Df) (a s l p d : Nat) : ctEnd m D a s l p d = ⟨[.agg ([byt m.L, it a] ++ (cDc m.d ++ ([.ref 1000 (m.heads.map encH ++ [encH (headOf D)]).length, .ref 1001 (m.defs.map encD ++ [encD D]).length, .ref 1002 (m.th.map it).length] ++ (cD D ++ [it s, it l, it p, it d, bo m.calm]))))],
    [⟨5, true, m.heads.map encH ++ [encH (headOf D)]⟩, ⟨12, true, m.defs.map encD ++ [encD D]⟩, ⟨1, true, m.th.map it⟩]⟩ := by
  simp [ctEnd, ctM, encMk]
theorem def_t11 (m : Mk) (id : Int) (a s l p d : Nat) (fine : m.Core) (hid : 0 ≤ id ∧ id < 100) (h : a + 5000 < 2^58) (h' : s + 300 < 2^58) (hp : p < 2^40) (hlen : m.heads.length < 2^20 ∧ m.defs.length < 2^20)
    (t0 : (m.nx (a+1+1+1) 2 == 0) = true) (t1 : (m.nx (a+1+1+1+1+1 + 0) 4 == 0) = true) : CallsA Tryz.prog 110 [mp, it id, bo true] (ctM m a s l p d) (.tup [])
    (ctEnd m (m.dG id a 0 (m.params (a+1+1+1+1+1) 0) [] (((((m.params (a+1+1+1+1+1) 0).map encR).length : Nat) : Int) + 2 + m.nx ((a+1+1+1+1+1 + 0)+1) 2) 2 [⟨4, 0⟩] ((m.with' (m.dG id a 0 (m.params (a+1+1+1+1+1) 0) [] (((((m.params (a+1+1+1+1+1) 0).map encR).length : Nat) : Int) + 2 + m.nx ((a+1+1+1+1+1 + 0)+1) 2) 2 [⟨4, 0⟩] [] 0)).stmts 2 (1 + m.nx ((a+1+1+1+1+1 + 0)+1+1) 5).toNat ⟨((a+1+1+1+1+1 + 0)+1+1)+1, s, 9, 0⟩).1 (((m.with' (m.dG id a 0 (m.params (a+1+1+1+1+1) 0) [] (((((m.params (a+1+1+1+1+1) 0).map encR).length : Nat) : Int) + 2 + m.nx ((a+1+1+1+1+1 + 0)+1) 2) 2 [⟨4, 0⟩] [] 0)).stmts 2 (1 + m.nx ((a+1+1+1+1+1 + 0)+1+1) 5).toNat ⟨((a+1+1+1+1+1 + 0)+1+1)+1, s, 9, 0⟩).2.s+1 : Nat)) ((m.with' (m.dG id a 0 (m.params (a+1+1+1+1+1) 0) [] (((((m.params (a+1+1+1+1+1) 0).map encR).length : Nat) : Int) + 2 + m.nx ((a+1+1+1+1+1 + 0)+1) 2) 2 [⟨4, 0⟩] [] 0)).stmts 2 (1 + m.nx ((a+1+1+1+1+1 + 0)+1+1) 5).toNat ⟨((a+1+1+1+1+1 + 0)+1+1)+1, s, 9, 0⟩).2.a (((m.with' (m.dG id a 0 (m.params (a+1+1+1+1+1) 0) [] (((((m.params (a+1+1+1+1+1) 0).map encR).length : Nat) : Int) + 2 + m.nx ((a+1+1+1+1+1 + 0)+1) 2) 2 [⟨4, 0⟩] [] 0)).stmts 2 (1 + m.nx ((a+1+1+1+1+1 + 0)+1+1) 5).toNat ⟨((a+1+1+1+1+1 + 0)+1+1)+1, s, 9, 0⟩).2.s+1) ((m.with' (m.dG id a 0 (m.params (a+1+1+1+1+1) 0) [] (((((m.params (a+1+1+1+1+1) 0).map encR).length : Nat) : Int) + 2 + m.nx ((a+1+1+1+1+1 + 0)+1) 2) 2 [⟨4, 0⟩] [] 0)).stmts 2 (1 + m.nx ((a+1+1+1+1+1 + 0)+1+1) 5).toNat ⟨((a+1+1+1+1+1 + 0)+1+1)+1, s, 9, 0⟩).2.l p ((m.with' (m.dG id a 0 (m.params (a+1+1+1+1+1) 0) [] (((((m.params (a+1+1+1+1+1) 0).map encR).length : Nat) : Int) + 2 + m.nx ((a+1+1+1+1+1 + 0)+1) 2) 2 [⟨4, 0⟩] [] 0)).stmts 2 (1 + m.nx ((a+1+1+1+1+1 + 0)+1+1) 5).toNat ⟨((a+1+1+1+1+1 + 0)+1+1)+1, s, 9, 0⟩).2.d) := by
  have bi : 0 ≤ id.tmod 8 ∧ id.tmod 8 < 8 := ⟨Int.tmod_nonneg _ hid.1, Int.tmod_lt_of_pos _ (by omega)⟩
  have n0 := m.nx_bd a (n := 2) (by omega)
  have n1 := m.nx_bd (a+1) (n := 6) (by omega)
  have n2 := m.nx_bd (a+1+1) (n := 4) (by omega)
  have hcalm := fine.calm
  have bX := m.nx_bd (a+1+1+1+1) (n := 3) (by omega)
  have bv := m.nx_bd ((a+1+1+1+1+1 + 0)+1) (n := 2) (by omega)
  have b5 := m.nx_bd ((a+1+1+1+1+1 + 0)+1+1) (n := 5) (by omega)
  have pl : (m.params (a+1+1+1+1+1) 0).length = 0 := m.params_len _ _
  have pl2 : ((m.params (a+1+1+1+1+1) 0).map encR).length = 0 := by rw [List.length_map]; exact pl
  have pl2a : ((m.with' (m.dG id a 0 (m.params (a+1+1+1+1+1) 0) [] 0 0 [] [] 0)).D.params.map encR).length = 0 := pl2
  have pl2b : ((m.with' (m.dG id a 0 (m.params (a+1+1+1+1+1) 0) [] 0 0 [] [] 0)).D.params.map encR).length = 0 := pl2
  have pl3 : decide (((((m.params (a+1+1+1+1+1) 0).map encR).length : Nat) : Int) > 0) = false := by rw [pl2]; rfl
  have k1 : ((1 + m.nx ((a+1+1+1+1+1 + 0)+1+1) 5).toNat : Int) = 1 + m.nx ((a+1+1+1+1+1 + 0)+1+1) 5 := by omega
  have fineD : (m.with' (m.dG id a 0 (m.params (a+1+1+1+1+1) 0) [] (((((m.params (a+1+1+1+1+1) 0).map encR).length : Nat) : Int) + 2 + m.nx ((a+1+1+1+1+1 + 0)+1) 2) 2 [⟨4, 0⟩] [] 0)).Fine := Mk.with_fine fine (by simp only [Mk.dG]; omega) (by simp only [Mk.dG]; omega) (by simp [Mk.dG]) (by simp [Mk.dG])
  have r1 := stmts_ok _ fineD (1 + m.nx ((a+1+1+1+1+1 + 0)+1+1) 5).toNat (by omega) 2 (((a+1+1+1+1+1 + 0)+1+1)+1) s 9 p 0 (by omega) (by omega) (by omega) (by omega) (by omega) (by omega)
  rw [k1] at r1
  have us := (m.with' (m.dG id a 0 (m.params (a+1+1+1+1+1) 0) [] (((((m.params (a+1+1+1+1+1) 0).map encR).length : Nat) : Int) + 2 + m.nx ((a+1+1+1+1+1 + 0)+1) 2) 2 [⟨4, 0⟩] [] 0)).stmts_use fineD.heads 2 (1 + m.nx ((a+1+1+1+1+1 + 0)+1+1) 5).toNat ⟨((a+1+1+1+1+1 + 0)+1+1)+1, s, 9, 0⟩
  simp only [Less] at us
  rw [ctEnd_eq]
  generalize hR : (m.with' (m.dG id a 0 (m.params (a+1+1+1+1+1) 0) [] (((((m.params (a+1+1+1+1+1) 0).map encR).length : Nat) : Int) + 2 + m.nx ((a+1+1+1+1+1 + 0)+1) 2) 2 [⟨4, 0⟩] [] 0)).stmts 2 (1 + m.nx ((a+1+1+1+1+1 + 0)+1+1) 5).toNat ⟨((a+1+1+1+1+1 + 0)+1+1)+1, s, 9, 0⟩ = rr at *
  have hl1 : (m.with' (m.dG id a 0 (m.params (a+1+1+1+1+1) 0) [] (((((m.params (a+1+1+1+1+1) 0).map encR).length : Nat) : Int) + 2 + m.nx ((a+1+1+1+1+1 + 0)+1) 2) 2 [⟨4, 0⟩] rr.1 0)).defs.length < 2^20 := hlen.2
  have hl2 : (m.with' (m.dG id a 0 (m.params (a+1+1+1+1+1) 0) [] (((((m.params (a+1+1+1+1+1) 0).map encR).length : Nat) : Int) + 2 + m.nx ((a+1+1+1+1+1 + 0)+1) 2) 2 [⟨4, 0⟩] rr.1 0)).heads.length < 2^20 := hlen.1
  have hl3 : (m.with' (m.dG id a 0 (m.params (a+1+1+1+1+1) 0) [] ((((m.params (a+1+1+1+1+1) 0).length : Nat) : Int) + 2 + m.nx ((a+1+1+1+1+1 + 0)+1) 2) 2 [⟨4, 0⟩] rr.1 0)).defs.length < 2^20 := hlen.2
  have hl4 : (m.with' (m.dG id a 0 (m.params (a+1+1+1+1+1) 0) [] ((((m.params (a+1+1+1+1+1) 0).length : Nat) : Int) + 2 + m.nx ((a+1+1+1+1+1 + 0)+1) 2) 2 [⟨4, 0⟩] rr.1 0)).heads.length < 2^20 := hlen.1
  have hl5 : (m.with' (m.dG id a 0 (m.params (a+1+1+1+1+1) 0) [] ((((m.params (a+1+1+1+1+1) 0).length : Nat) : Int) + 2 + m.nx (a + 5 + 1) 2) 2 [⟨4, 0⟩] rr.1 0)).defs.length < 2^20 := hlen.2
  have hl6 : (m.with' (m.dG id a 0 (m.params (a+1+1+1+1+1) 0) [] ((((m.params (a+1+1+1+1+1) 0).length : Nat) : Int) + 2 + m.nx (a + 5 + 1) 2) 2 [⟨4, 0⟩] rr.1 0)).heads.length < 2^20 := hlen.1
  refine fn_ok hm Tryz.func110 (fun _ => false) [] hintDef (by kernel_rfl) ?_
  refine run ?_; repeat ((apply call_ok; first | exact (next_ok m _ _ _ _ _ _ (by omega) (by omega))); refine run ?_)
  iterate 2
    refine Idx.mapG (f := it) (m.nx (a+1+1) 4).toNat (m.budget (a+1+1)) (by omega) (m.budget_at (a+1+1)) rfl ?_
    refine run ?_
  refine run ?_; repeat ((apply call_ok; first | exact (nextR m (m.dG id a (m.partX a) [] [] 0 0 [] [] 0) [] _ _ _ _ _ _ (by omega) (by omega)) | exact (nextR m (m.dG id a 0 [] [] 0 0 [] [] 0) [] _ _ _ _ _ _ (by omega) (by omega))); refine run ?_)
  refine LoopS.mk ⟨[], HeadS.inv (fun r : PR => r.v = m.nx (a+1+1+1+1) 3 - r.k ∧ r.k ≤ 0 ∧ r.acc = (m.params (a+1+1+1+1+1) r.k).map encR)
    (fun r => ⟨[(7, it r.v)], [(1000, encMkR (m.with' (m.dG id a 0 [] [] 0 0 [] [] 0)) 32 (a+1+1+1+1+1 + r.k) s l p d r.acc.length)], [(32, ⟨3, true, r.acc⟩)]⟩)
    (fun r => 0 - r.k) ⟨m.nx (a+1+1+1+1) 3, 0, []⟩ ⟨by simp, Nat.zero_le _, rfl⟩ ?_ ?_ ?_ ?_ ?_⟩
  · repeat' (first | exact trivial | exact rfl | refine ⟨?_, ?_⟩ | refine ⟨?_, ?_, ?_⟩)
  · kernel_rfl
  · kernel_rfl
  · intro r; exact ⟨rfl, rfl, rfl⟩
  rintro ⟨v, k, acc⟩ ⟨w1, w2, w3⟩
  dsimp only at w1 w2 w3 ⊢
  have hb1 : k = 0 := by omega
  subst hb1
  subst w3
  refine Br.mk (fun hb => ?_) (fun hb => ?_)
  all_goals
    refine run ?_; repeat ((apply call_ok; first | exact (nextD m (m.dG id a 0 (m.params (a+1+1+1+1+1) 0) [] 0 0 [] [] 0) _ _ _ _ _ _ (by omega) (by omega)) | exact (nextD m (m.dG id a 0 (m.params (a+1+1+1+1+1) 0) [] 0 0 [] [] 0) _ _ _ _ _ _ (by omega) (by omega)) | exact (nextA m (m.dG id a 0 (m.params (a+1+1+1+1+1) 0) [] (((((m.params (a+1+1+1+1+1) 0).map encR).length : Nat) : Int) + 2 + m.nx ((a+1+1+1+1+1 + 0)+1) 2) 2 [] [] 0) [encA ⟨4, 0⟩] _ _ _ _ _ _ (by omega) (by omega)) | exact (nextD m (m.dG id a 0 (m.params (a+1+1+1+1+1) 0) [] (((((m.params (a+1+1+1+1+1) 0).map encR).length : Nat) : Int) + 2 + m.nx ((a+1+1+1+1+1 + 0)+1) 2) 2 [⟨4, 0⟩] [] 0) _ _ _ _ _ _ (by omega) (by omega)) | exact (r1) | exact (site_ok (m.with' (m.dG id a 0 (m.params (a+1+1+1+1+1) 0) [] (((((m.params (a+1+1+1+1+1) 0).map encR).length : Nat) : Int) + 2 + m.nx ((a+1+1+1+1+1 + 0)+1) 2) 2 [⟨4, 0⟩] rr.1 0)) _ _ _ _ _ (by omega)) | exact (head_ok (m.dG id a 0 (m.params (a+1+1+1+1+1) 0) [] (((((m.params (a+1+1+1+1+1) 0).map encR).length : Nat) : Int) + 2 + m.nx ((a+1+1+1+1+1 + 0)+1) 2) 2 [⟨4, 0⟩] rr.1 (rr.2.s+1 : Nat)))); refine run ?_)
    exact Done.mk rfl rfl
theorem def_f110 (m : Mk) (id : Int) (a s l p d : Nat) (fine : m.Core) (hid : 0 ≤ id ∧ id < 100) (h : a + 5000 < 2^58) (h' : s + 300 < 2^58) (hp : p < 2^40) (hlen : m.heads.length < 2^20 ∧ m.defs.length < 2^20)
    (t0 : (m.nx (a+1+1+1) 2 == 0) = true) (t1 : (m.nx (a+1+1+1+1+1 + (m.nx (a+1+1+1+1) 3).toNat) 4 == 0) = true) (hX : m.nx (a+1+1+1+1) 3 = 0) : CallsA Tryz.prog 110 [mp, it id, bo false] (ctM m a s l p d) (.tup [])
    (ctEnd m (m.dG id a 0 (m.params (a+1+1+1+1+1) (m.nx (a+1+1+1+1) 3).toNat) [givenR] (((((m.params (a+1+1+1+1+1) (m.nx (a+1+1+1+1) 3).toNat).map encR).length : Nat) : Int) + 2 + m.nx ((a+1+1+1+1+1 + (m.nx (a+1+1+1+1) 3).toNat)+1) 2) 2 [⟨4, 0⟩] ((m.with' (m.dG id a 0 (m.params (a+1+1+1+1+1) (m.nx (a+1+1+1+1) 3).toNat) [givenR] (((((m.params (a+1+1+1+1+1) (m.nx (a+1+1+1+1) 3).toNat).map encR).length : Nat) : Int) + 2 + m.nx ((a+1+1+1+1+1 + (m.nx (a+1+1+1+1) 3).toNat)+1) 2) 2 [⟨4, 0⟩] [] 0)).stmts 2 (1 + m.nx ((a+1+1+1+1+1 + (m.nx (a+1+1+1+1) 3).toNat)+1+1) 5).toNat ⟨((a+1+1+1+1+1 + (m.nx (a+1+1+1+1) 3).toNat)+1+1)+1, s, 9, 0⟩).1 (((m.with' (m.dG id a 0 (m.params (a+1+1+1+1+1) (m.nx (a+1+1+1+1) 3).toNat) [givenR] (((((m.params (a+1+1+1+1+1) (m.nx (a+1+1+1+1) 3).toNat).map encR).length : Nat) : Int) + 2 + m.nx ((a+1+1+1+1+1 + (m.nx (a+1+1+1+1) 3).toNat)+1) 2) 2 [⟨4, 0⟩] [] 0)).stmts 2 (1 + m.nx ((a+1+1+1+1+1 + (m.nx (a+1+1+1+1) 3).toNat)+1+1) 5).toNat ⟨((a+1+1+1+1+1 + (m.nx (a+1+1+1+1) 3).toNat)+1+1)+1, s, 9, 0⟩).2.s+1 : Nat)) ((m.with' (m.dG id a 0 (m.params (a+1+1+1+1+1) (m.nx (a+1+1+1+1) 3).toNat) [givenR] (((((m.params (a+1+1+1+1+1) (m.nx (a+1+1+1+1) 3).toNat).map encR).length : Nat) : Int) + 2 + m.nx ((a+1+1+1+1+1 + (m.nx (a+1+1+1+1) 3).toNat)+1) 2) 2 [⟨4, 0⟩] [] 0)).stmts 2 (1 + m.nx ((a+1+1+1+1+1 + (m.nx (a+1+1+1+1) 3).toNat)+1+1) 5).toNat ⟨((a+1+1+1+1+1 + (m.nx (a+1+1+1+1) 3).toNat)+1+1)+1, s, 9, 0⟩).2.a (((m.with' (m.dG id a 0 (m.params (a+1+1+1+1+1) (m.nx (a+1+1+1+1) 3).toNat) [givenR] (((((m.params (a+1+1+1+1+1) (m.nx (a+1+1+1+1) 3).toNat).map encR).length : Nat) : Int) + 2 + m.nx ((a+1+1+1+1+1 + (m.nx (a+1+1+1+1) 3).toNat)+1) 2) 2 [⟨4, 0⟩] [] 0)).stmts 2 (1 + m.nx ((a+1+1+1+1+1 + (m.nx (a+1+1+1+1) 3).toNat)+1+1) 5).toNat ⟨((a+1+1+1+1+1 + (m.nx (a+1+1+1+1) 3).toNat)+1+1)+1, s, 9, 0⟩).2.s+1) ((m.with' (m.dG id a 0 (m.params (a+1+1+1+1+1) (m.nx (a+1+1+1+1) 3).toNat) [givenR] (((((m.params (a+1+1+1+1+1) (m.nx (a+1+1+1+1) 3).toNat).map encR).length : Nat) : Int) + 2 + m.nx ((a+1+1+1+1+1 + (m.nx (a+1+1+1+1) 3).toNat)+1) 2) 2 [⟨4, 0⟩] [] 0)).stmts 2 (1 + m.nx ((a+1+1+1+1+1 + (m.nx (a+1+1+1+1) 3).toNat)+1+1) 5).toNat ⟨((a+1+1+1+1+1 + (m.nx (a+1+1+1+1) 3).toNat)+1+1)+1, s, 9, 0⟩).2.l p ((m.with' (m.dG id a 0 (m.params (a+1+1+1+1+1) (m.nx (a+1+1+1+1) 3).toNat) [givenR] (((((m.params (a+1+1+1+1+1) (m.nx (a+1+1+1+1) 3).toNat).map encR).length : Nat) : Int) + 2 + m.nx ((a+1+1+1+1+1 + (m.nx (a+1+1+1+1) 3).toNat)+1) 2) 2 [⟨4, 0⟩] [] 0)).stmts 2 (1 + m.nx ((a+1+1+1+1+1 + (m.nx (a+1+1+1+1) 3).toNat)+1+1) 5).toNat ⟨((a+1+1+1+1+1 + (m.nx (a+1+1+1+1) 3).toNat)+1+1)+1, s, 9, 0⟩).2.d) := by
  have bi : 0 ≤ id.tmod 8 ∧ id.tmod 8 < 8 := ⟨Int.tmod_nonneg _ hid.1, Int.tmod_lt_of_pos _ (by omega)⟩
  have n0 := m.nx_bd a (n := 2) (by omega)
  have n1 := m.nx_bd (a+1) (n := 6) (by omega)
  have n2 := m.nx_bd (a+1+1) (n := 4) (by omega)
  have hcalm := fine.calm
  have bX := m.nx_bd (a+1+1+1+1) (n := 3) (by omega)
  have bv := m.nx_bd ((a+1+1+1+1+1 + (m.nx (a+1+1+1+1) 3).toNat)+1) (n := 2) (by omega)
  have b5 := m.nx_bd ((a+1+1+1+1+1 + (m.nx (a+1+1+1+1) 3).toNat)+1+1) (n := 5) (by omega)
  have pl : (m.params (a+1+1+1+1+1) (m.nx (a+1+1+1+1) 3).toNat).length = (m.nx (a+1+1+1+1) 3).toNat := m.params_len _ _
  have pl2 : ((m.params (a+1+1+1+1+1) (m.nx (a+1+1+1+1) 3).toNat).map encR).length = (m.nx (a+1+1+1+1) 3).toNat := by rw [List.length_map]; exact pl
  have pl2a : ((m.with' (m.dG id a 0 (m.params (a+1+1+1+1+1) (m.nx (a+1+1+1+1) 3).toNat) [] 0 0 [] [] 0)).D.params.map encR).length = (m.nx (a+1+1+1+1) 3).toNat := pl2
  have pl2b : ((m.with' (m.dG id a 0 (m.params (a+1+1+1+1+1) (m.nx (a+1+1+1+1) 3).toNat) [givenR] 0 0 [] [] 0)).D.params.map encR).length = (m.nx (a+1+1+1+1) 3).toNat := pl2
  have pl3 : decide ((((m.params (a+1+1+1+1+1) (m.nx (a+1+1+1+1) 3).toNat).map encR).length : Nat) > (0 : Int)) = false := by rw [pl2, hX]; rfl
  have k1 : ((1 + m.nx ((a+1+1+1+1+1 + (m.nx (a+1+1+1+1) 3).toNat)+1+1) 5).toNat : Int) = 1 + m.nx ((a+1+1+1+1+1 + (m.nx (a+1+1+1+1) 3).toNat)+1+1) 5 := by omega
  have fineD : (m.with' (m.dG id a 0 (m.params (a+1+1+1+1+1) (m.nx (a+1+1+1+1) 3).toNat) [givenR] (((((m.params (a+1+1+1+1+1) (m.nx (a+1+1+1+1) 3).toNat).map encR).length : Nat) : Int) + 2 + m.nx ((a+1+1+1+1+1 + (m.nx (a+1+1+1+1) 3).toNat)+1) 2) 2 [⟨4, 0⟩] [] 0)).Fine := Mk.with_fine fine (by simp only [Mk.dG]; omega) (by simp only [Mk.dG]; omega) (by simp [Mk.dG]) (by simp [Mk.dG])
  have r1 := stmts_ok _ fineD (1 + m.nx ((a+1+1+1+1+1 + (m.nx (a+1+1+1+1) 3).toNat)+1+1) 5).toNat (by omega) 2 (((a+1+1+1+1+1 + (m.nx (a+1+1+1+1) 3).toNat)+1+1)+1) s 9 p 0 (by omega) (by omega) (by omega) (by omega) (by omega) (by omega)
  rw [k1] at r1
  have us := (m.with' (m.dG id a 0 (m.params (a+1+1+1+1+1) (m.nx (a+1+1+1+1) 3).toNat) [givenR] (((((m.params (a+1+1+1+1+1) (m.nx (a+1+1+1+1) 3).toNat).map encR).length : Nat) : Int) + 2 + m.nx ((a+1+1+1+1+1 + (m.nx (a+1+1+1+1) 3).toNat)+1) 2) 2 [⟨4, 0⟩] [] 0)).stmts_use fineD.heads 2 (1 + m.nx ((a+1+1+1+1+1 + (m.nx (a+1+1+1+1) 3).toNat)+1+1) 5).toNat ⟨((a+1+1+1+1+1 + (m.nx (a+1+1+1+1) 3).toNat)+1+1)+1, s, 9, 0⟩
  simp only [Less] at us
  rw [ctEnd_eq]
  generalize hR : (m.with' (m.dG id a 0 (m.params (a+1+1+1+1+1) (m.nx (a+1+1+1+1) 3).toNat) [givenR] (((((m.params (a+1+1+1+1+1) (m.nx (a+1+1+1+1) 3).toNat).map encR).length : Nat) : Int) + 2 + m.nx ((a+1+1+1+1+1 + (m.nx (a+1+1+1+1) 3).toNat)+1) 2) 2 [⟨4, 0⟩] [] 0)).stmts 2 (1 + m.nx ((a+1+1+1+1+1 + (m.nx (a+1+1+1+1) 3).toNat)+1+1) 5).toNat ⟨((a+1+1+1+1+1 + (m.nx (a+1+1+1+1) 3).toNat)+1+1)+1, s, 9, 0⟩ = rr at *
  have hl1 : (m.with' (m.dG id a 0 (m.params (a+1+1+1+1+1) (m.nx (a+1+1+1+1) 3).toNat) [givenR] (((((m.params (a+1+1+1+1+1) (m.nx (a+1+1+1+1) 3).toNat).map encR).length : Nat) : Int) + 2 + m.nx ((a+1+1+1+1+1 + (m.nx (a+1+1+1+1) 3).toNat)+1) 2) 2 [⟨4, 0⟩] rr.1 0)).defs.length < 2^20 := hlen.2
  have hl2 : (m.with' (m.dG id a 0 (m.params (a+1+1+1+1+1) (m.nx (a+1+1+1+1) 3).toNat) [givenR] (((((m.params (a+1+1+1+1+1) (m.nx (a+1+1+1+1) 3).toNat).map encR).length : Nat) : Int) + 2 + m.nx ((a+1+1+1+1+1 + (m.nx (a+1+1+1+1) 3).toNat)+1) 2) 2 [⟨4, 0⟩] rr.1 0)).heads.length < 2^20 := hlen.1
  have hl3 : (m.with' (m.dG id a 0 (m.params (a+1+1+1+1+1) (m.nx (a+1+1+1+1) 3).toNat) [givenR] ((((m.params (a+1+1+1+1+1) (m.nx (a+1+1+1+1) 3).toNat).length : Nat) : Int) + 2 + m.nx ((a+1+1+1+1+1 + (m.nx (a+1+1+1+1) 3).toNat)+1) 2) 2 [⟨4, 0⟩] rr.1 0)).defs.length < 2^20 := hlen.2
  have hl4 : (m.with' (m.dG id a 0 (m.params (a+1+1+1+1+1) (m.nx (a+1+1+1+1) 3).toNat) [givenR] ((((m.params (a+1+1+1+1+1) (m.nx (a+1+1+1+1) 3).toNat).length : Nat) : Int) + 2 + m.nx ((a+1+1+1+1+1 + (m.nx (a+1+1+1+1) 3).toNat)+1) 2) 2 [⟨4, 0⟩] rr.1 0)).heads.length < 2^20 := hlen.1
  refine fn_ok hm Tryz.func110 (fun _ => false) [] hintDef (by kernel_rfl) ?_
  refine run ?_; repeat ((apply call_ok; first | exact (next_ok m _ _ _ _ _ _ (by omega) (by omega))); refine run ?_)
  iterate 2
    refine Idx.mapG (f := it) (m.nx (a+1+1) 4).toNat (m.budget (a+1+1)) (by omega) (m.budget_at (a+1+1)) rfl ?_
    refine run ?_
  refine run ?_; repeat ((apply call_ok; first | exact (nextR m (m.dG id a (m.partX a) [] [] 0 0 [] [] 0) [] _ _ _ _ _ _ (by omega) (by omega)) | exact (nextR m (m.dG id a 0 [] [] 0 0 [] [] 0) [] _ _ _ _ _ _ (by omega) (by omega))); refine run ?_)
  refine LoopS.mk ⟨[], HeadS.inv (fun r : PR => r.v = m.nx (a+1+1+1+1) 3 - r.k ∧ r.k ≤ (m.nx (a+1+1+1+1) 3).toNat ∧ r.acc = (m.params (a+1+1+1+1+1) r.k).map encR)
    (fun r => ⟨[(7, it r.v)], [(1000, encMkR (m.with' (m.dG id a 0 [] [] 0 0 [] [] 0)) 32 (a+1+1+1+1+1 + r.k) s l p d r.acc.length)], [(32, ⟨3, true, r.acc⟩)]⟩)
    (fun r => (m.nx (a+1+1+1+1) 3).toNat - r.k) ⟨m.nx (a+1+1+1+1) 3, 0, []⟩ ⟨by simp, Nat.zero_le _, rfl⟩ ?_ ?_ ?_ ?_ ?_⟩
  · repeat' (first | exact trivial | exact rfl | refine ⟨?_, ?_⟩ | refine ⟨?_, ?_, ?_⟩)
  · kernel_rfl
  · kernel_rfl
  · intro r; exact ⟨rfl, rfl, rfl⟩
  rintro ⟨v, k, acc⟩ ⟨w1, w2, w3⟩
  dsimp only at w1 w2 w3 ⊢
  refine Br.mk (fun hb => ?_) (fun hb => ?_)
  · have hb1 : 0 < v := by simpa using hb
    have hl : acc.length = k := by rw [w3]; simp [m.params_len]
    have bk := m.nx_bd (a+1+1+1+1+1 + k) (n := 4) (by omega)
    refine run ?_; repeat ((apply call_ok; first | exact (nextR m (m.dG id a 0 [] [] 0 0 [] [] 0) _ _ _ _ _ _ _ (by omega) (by omega))); refine run ?_)
    iterate 2
      refine Idx.mapG (f := encR) (m.nx (a+1+1+1+1+1 + k) 4).toNat (m.rng (a+1+1+1+1+1 + k)) (by omega) (m.rng_at _) rfl ?_
      refine run ?_
    refine ⟨⟨⟨v - 1, k + 1, acc ++ [encR (m.rng (a+1+1+1+1+1 + k))]⟩, by dsimp only; omega, by dsimp only; omega, by rw [w3]; simp [Mk.params]⟩, by dsimp only; omega, ?_⟩
    repeat' (first | exact trivial | exact rfl | refine ⟨?_, ?_⟩ | refine ⟨?_, ?_, ?_⟩)
  · have hb1 : k = (m.nx (a+1+1+1+1) 3).toNat := by simp at hb; omega
    subst hb1
    subst w3
    refine run ?_; repeat ((apply call_ok; first | exact (nextD m (m.dG id a 0 (m.params (a+1+1+1+1+1) (m.nx (a+1+1+1+1) 3).toNat) [] 0 0 [] [] 0) _ _ _ _ _ _ (by omega) (by omega)) | exact (nextD m (m.dG id a 0 (m.params (a+1+1+1+1+1) (m.nx (a+1+1+1+1) 3).toNat) [givenR] 0 0 [] [] 0) _ _ _ _ _ _ (by omega) (by omega)) | exact (nextA m (m.dG id a 0 (m.params (a+1+1+1+1+1) (m.nx (a+1+1+1+1) 3).toNat) [givenR] (((((m.params (a+1+1+1+1+1) (m.nx (a+1+1+1+1) 3).toNat).map encR).length : Nat) : Int) + 2 + m.nx ((a+1+1+1+1+1 + (m.nx (a+1+1+1+1) 3).toNat)+1) 2) 2 [] [] 0) [encA ⟨4, 0⟩] _ _ _ _ _ _ (by omega) (by omega)) | exact (nextD m (m.dG id a 0 (m.params (a+1+1+1+1+1) (m.nx (a+1+1+1+1) 3).toNat) [givenR] (((((m.params (a+1+1+1+1+1) (m.nx (a+1+1+1+1) 3).toNat).map encR).length : Nat) : Int) + 2 + m.nx ((a+1+1+1+1+1 + (m.nx (a+1+1+1+1) 3).toNat)+1) 2) 2 [⟨4, 0⟩] [] 0) _ _ _ _ _ _ (by omega) (by omega)) | exact (r1) | exact (site_ok (m.with' (m.dG id a 0 (m.params (a+1+1+1+1+1) (m.nx (a+1+1+1+1) 3).toNat) [givenR] (((((m.params (a+1+1+1+1+1) (m.nx (a+1+1+1+1) 3).toNat).map encR).length : Nat) : Int) + 2 + m.nx ((a+1+1+1+1+1 + (m.nx (a+1+1+1+1) 3).toNat)+1) 2) 2 [⟨4, 0⟩] rr.1 0)) _ _ _ _ _ (by omega)) | exact (head_ok (m.dG id a 0 (m.params (a+1+1+1+1+1) (m.nx (a+1+1+1+1) 3).toNat) [givenR] (((((m.params (a+1+1+1+1+1) (m.nx (a+1+1+1+1) 3).toNat).map encR).length : Nat) : Int) + 2 + m.nx ((a+1+1+1+1+1 + (m.nx (a+1+1+1+1) 3).toNat)+1) 2) 2 [⟨4, 0⟩] rr.1 (rr.2.s+1 : Nat)))); refine run ?_)
    exact Done.mk rfl rfl
theorem def_f111 (m : Mk) (id : Int) (a s l p d : Nat) (fine : m.Core) (hid : 0 ≤ id ∧ id < 100) (h : a + 5000 < 2^58) (h' : s + 300 < 2^58) (hp : p < 2^40) (hlen : m.heads.length < 2^20 ∧ m.defs.length < 2^20)
    (t0 : (m.nx (a+1+1+1) 2 == 0) = true) (t1 : (m.nx (a+1+1+1+1+1 + (m.nx (a+1+1+1+1) 3).toNat) 4 == 0) = true) (hX : 0 < m.nx (a+1+1+1+1) 3) (t2 : (m.nx ((a+1+1+1+1+1 + (m.nx (a+1+1+1+1) 3).toNat)+1+1) 2 == 0) = true) : CallsA Tryz.prog 110 [mp, it id, bo false] (ctM m a s l p d) (.tup [])
    (ctEnd m (m.dG id a 0 (m.params (a+1+1+1+1+1) (m.nx (a+1+1+1+1) 3).toNat) [givenR] (((((m.params (a+1+1+1+1+1) (m.nx (a+1+1+1+1) 3).toNat).map encR).length : Nat) : Int) + 2 + m.nx ((a+1+1+1+1+1 + (m.nx (a+1+1+1+1) 3).toNat)+1) 2) 2 [⟨4, 0⟩, ⟨8, 1⟩] ((m.with' (m.dG id a 0 (m.params (a+1+1+1+1+1) (m.nx (a+1+1+1+1) 3).toNat) [givenR] (((((m.params (a+1+1+1+1+1) (m.nx (a+1+1+1+1) 3).toNat).map encR).length : Nat) : Int) + 2 + m.nx ((a+1+1+1+1+1 + (m.nx (a+1+1+1+1) 3).toNat)+1) 2) 2 [⟨4, 0⟩, ⟨8, 1⟩] [] 0)).stmts 2 (1 + m.nx ((a+1+1+1+1+1 + (m.nx (a+1+1+1+1) 3).toNat)+1+1+1) 5).toNat ⟨((a+1+1+1+1+1 + (m.nx (a+1+1+1+1) 3).toNat)+1+1+1)+1, s, 9, 0⟩).1 (((m.with' (m.dG id a 0 (m.params (a+1+1+1+1+1) (m.nx (a+1+1+1+1) 3).toNat) [givenR] (((((m.params (a+1+1+1+1+1) (m.nx (a+1+1+1+1) 3).toNat).map encR).length : Nat) : Int) + 2 + m.nx ((a+1+1+1+1+1 + (m.nx (a+1+1+1+1) 3).toNat)+1) 2) 2 [⟨4, 0⟩, ⟨8, 1⟩] [] 0)).stmts 2 (1 + m.nx ((a+1+1+1+1+1 + (m.nx (a+1+1+1+1) 3).toNat)+1+1+1) 5).toNat ⟨((a+1+1+1+1+1 + (m.nx (a+1+1+1+1) 3).toNat)+1+1+1)+1, s, 9, 0⟩).2.s+1 : Nat)) ((m.with' (m.dG id a 0 (m.params (a+1+1+1+1+1) (m.nx (a+1+1+1+1) 3).toNat) [givenR] (((((m.params (a+1+1+1+1+1) (m.nx (a+1+1+1+1) 3).toNat).map encR).length : Nat) : Int) + 2 + m.nx ((a+1+1+1+1+1 + (m.nx (a+1+1+1+1) 3).toNat)+1) 2) 2 [⟨4, 0⟩, ⟨8, 1⟩] [] 0)).stmts 2 (1 + m.nx ((a+1+1+1+1+1 + (m.nx (a+1+1+1+1) 3).toNat)+1+1+1) 5).toNat ⟨((a+1+1+1+1+1 + (m.nx (a+1+1+1+1) 3).toNat)+1+1+1)+1, s, 9, 0⟩).2.a (((m.with' (m.dG id a 0 (m.params (a+1+1+1+1+1) (m.nx (a+1+1+1+1) 3).toNat) [givenR] (((((m.params (a+1+1+1+1+1) (m.nx (a+1+1+1+1) 3).toNat).map encR).length : Nat) : Int) + 2 + m.nx ((a+1+1+1+1+1 + (m.nx (a+1+1+1+1) 3).toNat)+1) 2) 2 [⟨4, 0⟩, ⟨8, 1⟩] [] 0)).stmts 2 (1 + m.nx ((a+1+1+1+1+1 + (m.nx (a+1+1+1+1) 3).toNat)+1+1+1) 5).toNat ⟨((a+1+1+1+1+1 + (m.nx (a+1+1+1+1) 3).toNat)+1+1+1)+1, s, 9, 0⟩).2.s+1) ((m.with' (m.dG id a 0 (m.params (a+1+1+1+1+1) (m.nx (a+1+1+1+1) 3).toNat) [givenR] (((((m.params (a+1+1+1+1+1) (m.nx (a+1+1+1+1) 3).toNat).map encR).length : Nat) : Int) + 2 + m.nx ((a+1+1+1+1+1 + (m.nx (a+1+1+1+1) 3).toNat)+1) 2) 2 [⟨4, 0⟩, ⟨8, 1⟩] [] 0)).stmts 2 (1 + m.nx ((a+1+1+1+1+1 + (m.nx (a+1+1+1+1) 3).toNat)+1+1+1) 5).toNat ⟨((a+1+1+1+1+1 + (m.nx (a+1+1+1+1) 3).toNat)+1+1+1)+1, s, 9, 0⟩).2.l p ((m.with' (m.dG id a 0 (m.params (a+1+1+1+1+1) (m.nx (a+1+1+1+1) 3).toNat) [givenR] (((((m.params (a+1+1+1+1+1) (m.nx (a+1+1+1+1) 3).toNat).map encR).length : Nat) : Int) + 2 + m.nx ((a+1+1+1+1+1 + (m.nx (a+1+1+1+1) 3).toNat)+1) 2) 2 [⟨4, 0⟩, ⟨8, 1⟩] [] 0)).stmts 2 (1 + m.nx ((a+1+1+1+1+1 + (m.nx (a+1+1+1+1) 3).toNat)+1+1+1) 5).toNat ⟨((a+1+1+1+1+1 + (m.nx (a+1+1+1+1) 3).toNat)+1+1+1)+1, s, 9, 0⟩).2.d) := by
  have bi : 0 ≤ id.tmod 8 ∧ id.tmod 8 < 8 := ⟨Int.tmod_nonneg _ hid.1, Int.tmod_lt_of_pos _ (by omega)⟩
  have n0 := m.nx_bd a (n := 2) (by omega)
  have n1 := m.nx_bd (a+1) (n := 6) (by omega)
  have n2 := m.nx_bd (a+1+1) (n := 4) (by omega)
  have hcalm := fine.calm
  have bX := m.nx_bd (a+1+1+1+1) (n := 3) (by omega)
  have bv := m.nx_bd ((a+1+1+1+1+1 + (m.nx (a+1+1+1+1) 3).toNat)+1) (n := 2) (by omega)
  have b5 := m.nx_bd ((a+1+1+1+1+1 + (m.nx (a+1+1+1+1) 3).toNat)+1+1+1) (n := 5) (by omega)
  have pl : (m.params (a+1+1+1+1+1) (m.nx (a+1+1+1+1) 3).toNat).length = (m.nx (a+1+1+1+1) 3).toNat := m.params_len _ _
  have pl2 : ((m.params (a+1+1+1+1+1) (m.nx (a+1+1+1+1) 3).toNat).map encR).length = (m.nx (a+1+1+1+1) 3).toNat := by rw [List.length_map]; exact pl
  have pl2a : ((m.with' (m.dG id a 0 (m.params (a+1+1+1+1+1) (m.nx (a+1+1+1+1) 3).toNat) [] 0 0 [] [] 0)).D.params.map encR).length = (m.nx (a+1+1+1+1) 3).toNat := pl2
  have pl2b : ((m.with' (m.dG id a 0 (m.params (a+1+1+1+1+1) (m.nx (a+1+1+1+1) 3).toNat) [givenR] 0 0 [] [] 0)).D.params.map encR).length = (m.nx (a+1+1+1+1) 3).toNat := pl2
  have pl3 : decide (((((m.params (a+1+1+1+1+1) (m.nx (a+1+1+1+1) 3).toNat).map encR).length : Nat) : Int) > 0) = true := by rw [pl2]; simp; omega
  have k1 : ((1 + m.nx ((a+1+1+1+1+1 + (m.nx (a+1+1+1+1) 3).toNat)+1+1+1) 5).toNat : Int) = 1 + m.nx ((a+1+1+1+1+1 + (m.nx (a+1+1+1+1) 3).toNat)+1+1+1) 5 := by omega
  have fineD : (m.with' (m.dG id a 0 (m.params (a+1+1+1+1+1) (m.nx (a+1+1+1+1) 3).toNat) [givenR] (((((m.params (a+1+1+1+1+1) (m.nx (a+1+1+1+1) 3).toNat).map encR).length : Nat) : Int) + 2 + m.nx ((a+1+1+1+1+1 + (m.nx (a+1+1+1+1) 3).toNat)+1) 2) 2 [⟨4, 0⟩, ⟨8, 1⟩] [] 0)).Fine := Mk.with_fine fine (by simp only [Mk.dG]; omega) (by simp only [Mk.dG]; omega) (by simp [Mk.dG]) (by simp [Mk.dG])
  have r1 := stmts_ok _ fineD (1 + m.nx ((a+1+1+1+1+1 + (m.nx (a+1+1+1+1) 3).toNat)+1+1+1) 5).toNat (by omega) 2 (((a+1+1+1+1+1 + (m.nx (a+1+1+1+1) 3).toNat)+1+1+1)+1) s 9 p 0 (by omega) (by omega) (by omega) (by omega) (by omega) (by omega)
  rw [k1] at r1
  have us := (m.with' (m.dG id a 0 (m.params (a+1+1+1+1+1) (m.nx (a+1+1+1+1) 3).toNat) [givenR] (((((m.params (a+1+1+1+1+1) (m.nx (a+1+1+1+1) 3).toNat).map encR).length : Nat) : Int) + 2 + m.nx ((a+1+1+1+1+1 + (m.nx (a+1+1+1+1) 3).toNat)+1) 2) 2 [⟨4, 0⟩, ⟨8, 1⟩] [] 0)).stmts_use fineD.heads 2 (1 + m.nx ((a+1+1+1+1+1 + (m.nx (a+1+1+1+1) 3).toNat)+1+1+1) 5).toNat ⟨((a+1+1+1+1+1 + (m.nx (a+1+1+1+1) 3).toNat)+1+1+1)+1, s, 9, 0⟩
  simp only [Less] at us
  rw [ctEnd_eq]
  generalize hR : (m.with' (m.dG id a 0 (m.params (a+1+1+1+1+1) (m.nx (a+1+1+1+1) 3).toNat) [givenR] (((((m.params (a+1+1+1+1+1) (m.nx (a+1+1+1+1) 3).toNat).map encR).length : Nat) : Int) + 2 + m.nx ((a+1+1+1+1+1 + (m.nx (a+1+1+1+1) 3).toNat)+1) 2) 2 [⟨4, 0⟩, ⟨8, 1⟩] [] 0)).stmts 2 (1 + m.nx ((a+1+1+1+1+1 + (m.nx (a+1+1+1+1) 3).toNat)+1+1+1) 5).toNat ⟨((a+1+1+1+1+1 + (m.nx (a+1+1+1+1) 3).toNat)+1+1+1)+1, s, 9, 0⟩ = rr at *
  have hl1 : (m.with' (m.dG id a 0 (m.params (a+1+1+1+1+1) (m.nx (a+1+1+1+1) 3).toNat) [givenR] (((((m.params (a+1+1+1+1+1) (m.nx (a+1+1+1+1) 3).toNat).map encR).length : Nat) : Int) + 2 + m.nx ((a+1+1+1+1+1 + (m.nx (a+1+1+1+1) 3).toNat)+1) 2) 2 [⟨4, 0⟩, ⟨8, 1⟩] rr.1 0)).defs.length < 2^20 := hlen.2
  have hl2 : (m.with' (m.dG id a 0 (m.params (a+1+1+1+1+1) (m.nx (a+1+1+1+1) 3).toNat) [givenR] (((((m.params (a+1+1+1+1+1) (m.nx (a+1+1+1+1) 3).toNat).map encR).length : Nat) : Int) + 2 + m.nx ((a+1+1+1+1+1 + (m.nx (a+1+1+1+1) 3).toNat)+1) 2) 2 [⟨4, 0⟩, ⟨8, 1⟩] rr.1 0)).heads.length < 2^20 := hlen.1
  have hl3 : (m.with' (m.dG id a 0 (m.params (a+1+1+1+1+1) (m.nx (a+1+1+1+1) 3).toNat) [givenR] ((((m.params (a+1+1+1+1+1) (m.nx (a+1+1+1+1) 3).toNat).length : Nat) : Int) + 2 + m.nx ((a+1+1+1+1+1 + (m.nx (a+1+1+1+1) 3).toNat)+1) 2) 2 [⟨4, 0⟩, ⟨8, 1⟩] rr.1 0)).defs.length < 2^20 := hlen.2
  have hl4 : (m.with' (m.dG id a 0 (m.params (a+1+1+1+1+1) (m.nx (a+1+1+1+1) 3).toNat) [givenR] ((((m.params (a+1+1+1+1+1) (m.nx (a+1+1+1+1) 3).toNat).length : Nat) : Int) + 2 + m.nx ((a+1+1+1+1+1 + (m.nx (a+1+1+1+1) 3).toNat)+1) 2) 2 [⟨4, 0⟩, ⟨8, 1⟩] rr.1 0)).heads.length < 2^20 := hlen.1
  refine fn_ok hm Tryz.func110 (fun _ => false) [] hintDef (by kernel_rfl) ?_
  refine run ?_; repeat ((apply call_ok; first | exact (next_ok m _ _ _ _ _ _ (by omega) (by omega))); refine run ?_)
  iterate 2
    refine Idx.mapG (f := it) (m.nx (a+1+1) 4).toNat (m.budget (a+1+1)) (by omega) (m.budget_at (a+1+1)) rfl ?_
    refine run ?_
  refine run ?_; repeat ((apply call_ok; first | exact (nextR m (m.dG id a (m.partX a) [] [] 0 0 [] [] 0) [] _ _ _ _ _ _ (by omega) (by omega)) | exact (nextR m (m.dG id a 0 [] [] 0 0 [] [] 0) [] _ _ _ _ _ _ (by omega) (by omega))); refine run ?_)
  refine LoopS.mk ⟨[], HeadS.inv (fun r : PR => r.v = m.nx (a+1+1+1+1) 3 - r.k ∧ r.k ≤ (m.nx (a+1+1+1+1) 3).toNat ∧ r.acc = (m.params (a+1+1+1+1+1) r.k).map encR)
    (fun r => ⟨[(7, it r.v)], [(1000, encMkR (m.with' (m.dG id a 0 [] [] 0 0 [] [] 0)) 32 (a+1+1+1+1+1 + r.k) s l p d r.acc.length)], [(32, ⟨3, true, r.acc⟩)]⟩)
    (fun r => (m.nx (a+1+1+1+1) 3).toNat - r.k) ⟨m.nx (a+1+1+1+1) 3, 0, []⟩ ⟨by simp, Nat.zero_le _, rfl⟩ ?_ ?_ ?_ ?_ ?_⟩
  · repeat' (first | exact trivial | exact rfl | refine ⟨?_, ?_⟩ | refine ⟨?_, ?_, ?_⟩)
  · kernel_rfl
  · kernel_rfl
  · intro r; exact ⟨rfl, rfl, rfl⟩
  rintro ⟨v, k, acc⟩ ⟨w1, w2, w3⟩
  dsimp only at w1 w2 w3 ⊢
  refine Br.mk (fun hb => ?_) (fun hb => ?_)
  · have hb1 : 0 < v := by simpa using hb
    have hl : acc.length = k := by rw [w3]; simp [m.params_len]
    have bk := m.nx_bd (a+1+1+1+1+1 + k) (n := 4) (by omega)
    refine run ?_; repeat ((apply call_ok; first | exact (nextR m (m.dG id a 0 [] [] 0 0 [] [] 0) _ _ _ _ _ _ _ (by omega) (by omega))); refine run ?_)
    iterate 2
      refine Idx.mapG (f := encR) (m.nx (a+1+1+1+1+1 + k) 4).toNat (m.rng (a+1+1+1+1+1 + k)) (by omega) (m.rng_at _) rfl ?_
      refine run ?_
    refine ⟨⟨⟨v - 1, k + 1, acc ++ [encR (m.rng (a+1+1+1+1+1 + k))]⟩, by dsimp only; omega, by dsimp only; omega, by rw [w3]; simp [Mk.params]⟩, by dsimp only; omega, ?_⟩
    repeat' (first | exact trivial | exact rfl | refine ⟨?_, ?_⟩ | refine ⟨?_, ?_, ?_⟩)
  · have hb1 : k = (m.nx (a+1+1+1+1) 3).toNat := by simp at hb; omega
    subst hb1
    subst w3
    refine run ?_; repeat ((apply call_ok; first | exact (nextD m (m.dG id a 0 (m.params (a+1+1+1+1+1) (m.nx (a+1+1+1+1) 3).toNat) [] 0 0 [] [] 0) _ _ _ _ _ _ (by omega) (by omega)) | exact (nextD m (m.dG id a 0 (m.params (a+1+1+1+1+1) (m.nx (a+1+1+1+1) 3).toNat) [givenR] 0 0 [] [] 0) _ _ _ _ _ _ (by omega) (by omega)) | exact (nextA m (m.dG id a 0 (m.params (a+1+1+1+1+1) (m.nx (a+1+1+1+1) 3).toNat) [givenR] (((((m.params (a+1+1+1+1+1) (m.nx (a+1+1+1+1) 3).toNat).map encR).length : Nat) : Int) + 2 + m.nx ((a+1+1+1+1+1 + (m.nx (a+1+1+1+1) 3).toNat)+1) 2) 2 [] [] 0) [encA ⟨4, 0⟩] _ _ _ _ _ _ (by omega) (by omega)) | exact (nextD m (m.dG id a 0 (m.params (a+1+1+1+1+1) (m.nx (a+1+1+1+1) 3).toNat) [givenR] (((((m.params (a+1+1+1+1+1) (m.nx (a+1+1+1+1) 3).toNat).map encR).length : Nat) : Int) + 2 + m.nx ((a+1+1+1+1+1 + (m.nx (a+1+1+1+1) 3).toNat)+1) 2) 2 [⟨4, 0⟩, ⟨8, 1⟩] [] 0) _ _ _ _ _ _ (by omega) (by omega)) | exact (r1) | exact (site_ok (m.with' (m.dG id a 0 (m.params (a+1+1+1+1+1) (m.nx (a+1+1+1+1) 3).toNat) [givenR] (((((m.params (a+1+1+1+1+1) (m.nx (a+1+1+1+1) 3).toNat).map encR).length : Nat) : Int) + 2 + m.nx ((a+1+1+1+1+1 + (m.nx (a+1+1+1+1) 3).toNat)+1) 2) 2 [⟨4, 0⟩, ⟨8, 1⟩] rr.1 0)) _ _ _ _ _ (by omega)) | exact (head_ok (m.dG id a 0 (m.params (a+1+1+1+1+1) (m.nx (a+1+1+1+1) 3).toNat) [givenR] (((((m.params (a+1+1+1+1+1) (m.nx (a+1+1+1+1) 3).toNat).map encR).length : Nat) : Int) + 2 + m.nx ((a+1+1+1+1+1 + (m.nx (a+1+1+1+1) 3).toNat)+1) 2) 2 [⟨4, 0⟩, ⟨8, 1⟩] rr.1 (rr.2.s+1 : Nat)))); refine run ?_)
    exact Done.mk rfl rfl
theorem def_f112 (m : Mk) (id : Int) (a s l p d : Nat) (fine : m.Core) (hid : 0 ≤ id ∧ id < 100) (h : a + 5000 < 2^58) (h' : s + 300 < 2^58) (hp : p < 2^40) (hlen : m.heads.length < 2^20 ∧ m.defs.length < 2^20)
    (t0 : (m.nx (a+1+1+1) 2 == 0) = true) (t1 : (m.nx (a+1+1+1+1+1 + (m.nx (a+1+1+1+1) 3).toNat) 4 == 0) = true) (hX : 0 < m.nx (a+1+1+1+1) 3) (t2 : (m.nx ((a+1+1+1+1+1 + (m.nx (a+1+1+1+1) 3).toNat)+1+1) 2 == 0) = false) : CallsA Tryz.prog 110 [mp, it id, bo false] (ctM m a s l p d) (.tup [])
    (ctEnd m (m.dG id a 0 (m.params (a+1+1+1+1+1) (m.nx (a+1+1+1+1) 3).toNat) [givenR] (((((m.params (a+1+1+1+1+1) (m.nx (a+1+1+1+1) 3).toNat).map encR).length : Nat) : Int) + 2 + m.nx ((a+1+1+1+1+1 + (m.nx (a+1+1+1+1) 3).toNat)+1) 2) 2 [⟨4, 0⟩] ((m.with' (m.dG id a 0 (m.params (a+1+1+1+1+1) (m.nx (a+1+1+1+1) 3).toNat) [givenR] (((((m.params (a+1+1+1+1+1) (m.nx (a+1+1+1+1) 3).toNat).map encR).length : Nat) : Int) + 2 + m.nx ((a+1+1+1+1+1 + (m.nx (a+1+1+1+1) 3).toNat)+1) 2) 2 [⟨4, 0⟩] [] 0)).stmts 2 (1 + m.nx ((a+1+1+1+1+1 + (m.nx (a+1+1+1+1) 3).toNat)+1+1+1) 5).toNat ⟨((a+1+1+1+1+1 + (m.nx (a+1+1+1+1) 3).toNat)+1+1+1)+1, s, 9, 0⟩).1 (((m.with' (m.dG id a 0 (m.params (a+1+1+1+1+1) (m.nx (a+1+1+1+1) 3).toNat) [givenR] (((((m.params (a+1+1+1+1+1) (m.nx (a+1+1+1+1) 3).toNat).map encR).length : Nat) : Int) + 2 + m.nx ((a+1+1+1+1+1 + (m.nx (a+1+1+1+1) 3).toNat)+1) 2) 2 [⟨4, 0⟩] [] 0)).stmts 2 (1 + m.nx ((a+1+1+1+1+1 + (m.nx (a+1+1+1+1) 3).toNat)+1+1+1) 5).toNat ⟨((a+1+1+1+1+1 + (m.nx (a+1+1+1+1) 3).toNat)+1+1+1)+1, s, 9, 0⟩).2.s+1 : Nat)) ((m.with' (m.dG id a 0 (m.params (a+1+1+1+1+1) (m.nx (a+1+1+1+1) 3).toNat) [givenR] (((((m.params (a+1+1+1+1+1) (m.nx (a+1+1+1+1) 3).toNat).map encR).length : Nat) : Int) + 2 + m.nx ((a+1+1+1+1+1 + (m.nx (a+1+1+1+1) 3).toNat)+1) 2) 2 [⟨4, 0⟩] [] 0)).stmts 2 (1 + m.nx ((a+1+1+1+1+1 + (m.nx (a+1+1+1+1) 3).toNat)+1+1+1) 5).toNat ⟨((a+1+1+1+1+1 + (m.nx (a+1+1+1+1) 3).toNat)+1+1+1)+1, s, 9, 0⟩).2.a (((m.with' (m.dG id a 0 (m.params (a+1+1+1+1+1) (m.nx (a+1+1+1+1) 3).toNat) [givenR] (((((m.params (a+1+1+1+1+1) (m.nx (a+1+1+1+1) 3).toNat).map encR).length : Nat) : Int) + 2 + m.nx ((a+1+1+1+1+1 + (m.nx (a+1+1+1+1) 3).toNat)+1) 2) 2 [⟨4, 0⟩] [] 0)).stmts 2 (1 + m.nx ((a+1+1+1+1+1 + (m.nx (a+1+1+1+1) 3).toNat)+1+1+1) 5).toNat ⟨((a+1+1+1+1+1 + (m.nx (a+1+1+1+1) 3).toNat)+1+1+1)+1, s, 9, 0⟩).2.s+1) ((m.with' (m.dG id a 0 (m.params (a+1+1+1+1+1) (m.nx (a+1+1+1+1) 3).toNat) [givenR] (((((m.params (a+1+1+1+1+1) (m.nx (a+1+1+1+1) 3).toNat).map encR).length : Nat) : Int) + 2 + m.nx ((a+1+1+1+1+1 + (m.nx (a+1+1+1+1) 3).toNat)+1) 2) 2 [⟨4, 0⟩] [] 0)).stmts 2 (1 + m.nx ((a+1+1+1+1+1 + (m.nx (a+1+1+1+1) 3).toNat)+1+1+1) 5).toNat ⟨((a+1+1+1+1+1 + (m.nx (a+1+1+1+1) 3).toNat)+1+1+1)+1, s, 9, 0⟩).2.l p ((m.with' (m.dG id a 0 (m.params (a+1+1+1+1+1) (m.nx (a+1+1+1+1) 3).toNat) [givenR] (((((m.params (a+1+1+1+1+1) (m.nx (a+1+1+1+1) 3).toNat).map encR).length : Nat) : Int) + 2 + m.nx ((a+1+1+1+1+1 + (m.nx (a+1+1+1+1) 3).toNat)+1) 2) 2 [⟨4, 0⟩] [] 0)).stmts 2 (1 + m.nx ((a+1+1+1+1+1 + (m.nx (a+1+1+1+1) 3).toNat)+1+1+1) 5).toNat ⟨((a+1+1+1+1+1 + (m.nx (a+1+1+1+1) 3).toNat)+1+1+1)+1, s, 9, 0⟩).2.d) := by
  have bi : 0 ≤ id.tmod 8 ∧ id.tmod 8 < 8 := ⟨Int.tmod_nonneg _ hid.1, Int.tmod_lt_of_pos _ (by omega)⟩
  have n0 := m.nx_bd a (n := 2) (by omega)
  have n1 := m.nx_bd (a+1) (n := 6) (by omega)
  have n2 := m.nx_bd (a+1+1) (n := 4) (by omega)
  have hcalm := fine.calm
  have bX := m.nx_bd (a+1+1+1+1) (n := 3) (by omega)
  have bv := m.nx_bd ((a+1+1+1+1+1 + (m.nx (a+1+1+1+1) 3).toNat)+1) (n := 2) (by omega)
  have b5 := m.nx_bd ((a+1+1+1+1+1 + (m.nx (a+1+1+1+1) 3).toNat)+1+1+1) (n := 5) (by omega)
  have pl : (m.params (a+1+1+1+1+1) (m.nx (a+1+1+1+1) 3).toNat).length = (m.nx (a+1+1+1+1) 3).toNat := m.params_len _ _
  have pl2 : ((m.params (a+1+1+1+1+1) (m.nx (a+1+1+1+1) 3).toNat).map encR).length = (m.nx (a+1+1+1+1) 3).toNat := by rw [List.length_map]; exact pl
  have pl2a : ((m.with' (m.dG id a 0 (m.params (a+1+1+1+1+1) (m.nx (a+1+1+1+1) 3).toNat) [] 0 0 [] [] 0)).D.params.map encR).length = (m.nx (a+1+1+1+1) 3).toNat := pl2
  have pl2b : ((m.with' (m.dG id a 0 (m.params (a+1+1+1+1+1) (m.nx (a+1+1+1+1) 3).toNat) [givenR] 0 0 [] [] 0)).D.params.map encR).length = (m.nx (a+1+1+1+1) 3).toNat := pl2
  have pl3 : decide (((((m.params (a+1+1+1+1+1) (m.nx (a+1+1+1+1) 3).toNat).map encR).length : Nat) : Int) > 0) = true := by rw [pl2]; simp; omega
  have k1 : ((1 + m.nx ((a+1+1+1+1+1 + (m.nx (a+1+1+1+1) 3).toNat)+1+1+1) 5).toNat : Int) = 1 + m.nx ((a+1+1+1+1+1 + (m.nx (a+1+1+1+1) 3).toNat)+1+1+1) 5 := by omega
  have fineD : (m.with' (m.dG id a 0 (m.params (a+1+1+1+1+1) (m.nx (a+1+1+1+1) 3).toNat) [givenR] (((((m.params (a+1+1+1+1+1) (m.nx (a+1+1+1+1) 3).toNat).map encR).length : Nat) : Int) + 2 + m.nx ((a+1+1+1+1+1 + (m.nx (a+1+1+1+1) 3).toNat)+1) 2) 2 [⟨4, 0⟩] [] 0)).Fine := Mk.with_fine fine (by simp only [Mk.dG]; omega) (by simp only [Mk.dG]; omega) (by simp [Mk.dG]) (by simp [Mk.dG])
  have r1 := stmts_ok _ fineD (1 + m.nx ((a+1+1+1+1+1 + (m.nx (a+1+1+1+1) 3).toNat)+1+1+1) 5).toNat (by omega) 2 (((a+1+1+1+1+1 + (m.nx (a+1+1+1+1) 3).toNat)+1+1+1)+1) s 9 p 0 (by omega) (by omega) (by omega) (by omega) (by omega) (by omega)
  rw [k1] at r1
  have us := (m.with' (m.dG id a 0 (m.params (a+1+1+1+1+1) (m.nx (a+1+1+1+1) 3).toNat) [givenR] (((((m.params (a+1+1+1+1+1) (m.nx (a+1+1+1+1) 3).toNat).map encR).length : Nat) : Int) + 2 + m.nx ((a+1+1+1+1+1 + (m.nx (a+1+1+1+1) 3).toNat)+1) 2) 2 [⟨4, 0⟩] [] 0)).stmts_use fineD.heads 2 (1 + m.nx ((a+1+1+1+1+1 + (m.nx (a+1+1+1+1) 3).toNat)+1+1+1) 5).toNat ⟨((a+1+1+1+1+1 + (m.nx (a+1+1+1+1) 3).toNat)+1+1+1)+1, s, 9, 0⟩
  simp only [Less] at us
  rw [ctEnd_eq]
  generalize hR : (m.with' (m.dG id a 0 (m.params (a+1+1+1+1+1) (m.nx (a+1+1+1+1) 3).toNat) [givenR] (((((m.params (a+1+1+1+1+1) (m.nx (a+1+1+1+1) 3).toNat).map encR).length : Nat) : Int) + 2 + m.nx ((a+1+1+1+1+1 + (m.nx (a+1+1+1+1) 3).toNat)+1) 2) 2 [⟨4, 0⟩] [] 0)).stmts 2 (1 + m.nx ((a+1+1+1+1+1 + (m.nx (a+1+1+1+1) 3).toNat)+1+1+1) 5).toNat ⟨((a+1+1+1+1+1 + (m.nx (a+1+1+1+1) 3).toNat)+1+1+1)+1, s, 9, 0⟩ = rr at *
  have hl1 : (m.with' (m.dG id a 0 (m.params (a+1+1+1+1+1) (m.nx (a+1+1+1+1) 3).toNat) [givenR] (((((m.params (a+1+1+1+1+1) (m.nx (a+1+1+1+1) 3).toNat).map encR).length : Nat) : Int) + 2 + m.nx ((a+1+1+1+1+1 + (m.nx (a+1+1+1+1) 3).toNat)+1) 2) 2 [⟨4, 0⟩] rr.1 0)).defs.length < 2^20 := hlen.2
  have hl2 : (m.with' (m.dG id a 0 (m.params (a+1+1+1+1+1) (m.nx (a+1+1+1+1) 3).toNat) [givenR] (((((m.params (a+1+1+1+1+1) (m.nx (a+1+1+1+1) 3).toNat).map encR).length : Nat) : Int) + 2 + m.nx ((a+1+1+1+1+1 + (m.nx (a+1+1+1+1) 3).toNat)+1) 2) 2 [⟨4, 0⟩] rr.1 0)).heads.length < 2^20 := hlen.1
  have hl3 : (m.with' (m.dG id a 0 (m.params (a+1+1+1+1+1) (m.nx (a+1+1+1+1) 3).toNat) [givenR] ((((m.params (a+1+1+1+1+1) (m.nx (a+1+1+1+1) 3).toNat).length : Nat) : Int) + 2 + m.nx ((a+1+1+1+1+1 + (m.nx (a+1+1+1+1) 3).toNat)+1) 2) 2 [⟨4, 0⟩] rr.1 0)).defs.length < 2^20 := hlen.2
  have hl4 : (m.with' (m.dG id a 0 (m.params (a+1+1+1+1+1) (m.nx (a+1+1+1+1) 3).toNat) [givenR] ((((m.params (a+1+1+1+1+1) (m.nx (a+1+1+1+1) 3).toNat).length : Nat) : Int) + 2 + m.nx ((a+1+1+1+1+1 + (m.nx (a+1+1+1+1) 3).toNat)+1) 2) 2 [⟨4, 0⟩] rr.1 0)).heads.length < 2^20 := hlen.1
  refine fn_ok hm Tryz.func110 (fun _ => false) [] hintDef (by kernel_rfl) ?_
  refine run ?_; repeat ((apply call_ok; first | exact (next_ok m _ _ _ _ _ _ (by omega) (by omega))); refine run ?_)
  iterate 2
    refine Idx.mapG (f := it) (m.nx (a+1+1) 4).toNat (m.budget (a+1+1)) (by omega) (m.budget_at (a+1+1)) rfl ?_
    refine run ?_
  refine run ?_; repeat ((apply call_ok; first | exact (nextR m (m.dG id a (m.partX a) [] [] 0 0 [] [] 0) [] _ _ _ _ _ _ (by omega) (by omega)) | exact (nextR m (m.dG id a 0 [] [] 0 0 [] [] 0) [] _ _ _ _ _ _ (by omega) (by omega))); refine run ?_)
  refine LoopS.mk ⟨[], HeadS.inv (fun r : PR => r.v = m.nx (a+1+1+1+1) 3 - r.k ∧ r.k ≤ (m.nx (a+1+1+1+1) 3).toNat ∧ r.acc = (m.params (a+1+1+1+1+1) r.k).map encR)
    (fun r => ⟨[(7, it r.v)], [(1000, encMkR (m.with' (m.dG id a 0 [] [] 0 0 [] [] 0)) 32 (a+1+1+1+1+1 + r.k) s l p d r.acc.length)], [(32, ⟨3, true, r.acc⟩)]⟩)
    (fun r => (m.nx (a+1+1+1+1) 3).toNat - r.k) ⟨m.nx (a+1+1+1+1) 3, 0, []⟩ ⟨by simp, Nat.zero_le _, rfl⟩ ?_ ?_ ?_ ?_ ?_⟩
  · repeat' (first | exact trivial | exact rfl | refine ⟨?_, ?_⟩ | refine ⟨?_, ?_, ?_⟩)
  · kernel_rfl
  · kernel_rfl
  · intro r; exact ⟨rfl, rfl, rfl⟩
  rintro ⟨v, k, acc⟩ ⟨w1, w2, w3⟩
  dsimp only at w1 w2 w3 ⊢
  refine Br.mk (fun hb => ?_) (fun hb => ?_)
  · have hb1 : 0 < v := by simpa using hb
    have hl : acc.length = k := by rw [w3]; simp [m.params_len]
    have bk := m.nx_bd (a+1+1+1+1+1 + k) (n := 4) (by omega)
    refine run ?_; repeat ((apply call_ok; first | exact (nextR m (m.dG id a 0 [] [] 0 0 [] [] 0) _ _ _ _ _ _ _ (by omega) (by omega))); refine run ?_)
    iterate 2
      refine Idx.mapG (f := encR) (m.nx (a+1+1+1+1+1 + k) 4).toNat (m.rng (a+1+1+1+1+1 + k)) (by omega) (m.rng_at _) rfl ?_
      refine run ?_
    refine ⟨⟨⟨v - 1, k + 1, acc ++ [encR (m.rng (a+1+1+1+1+1 + k))]⟩, by dsimp only; omega, by dsimp only; omega, by rw [w3]; simp [Mk.params]⟩, by dsimp only; omega, ?_⟩
    repeat' (first | exact trivial | exact rfl | refine ⟨?_, ?_⟩ | refine ⟨?_, ?_, ?_⟩)
  · have hb1 : k = (m.nx (a+1+1+1+1) 3).toNat := by simp at hb; omega
    subst hb1
    subst w3
    refine run ?_; repeat ((apply call_ok; first | exact (nextD m (m.dG id a 0 (m.params (a+1+1+1+1+1) (m.nx (a+1+1+1+1) 3).toNat) [] 0 0 [] [] 0) _ _ _ _ _ _ (by omega) (by omega)) | exact (nextD m (m.dG id a 0 (m.params (a+1+1+1+1+1) (m.nx (a+1+1+1+1) 3).toNat) [givenR] 0 0 [] [] 0) _ _ _ _ _ _ (by omega) (by omega)) | exact (nextA m (m.dG id a 0 (m.params (a+1+1+1+1+1) (m.nx (a+1+1+1+1) 3).toNat) [givenR] (((((m.params (a+1+1+1+1+1) (m.nx (a+1+1+1+1) 3).toNat).map encR).length : Nat) : Int) + 2 + m.nx ((a+1+1+1+1+1 + (m.nx (a+1+1+1+1) 3).toNat)+1) 2) 2 [] [] 0) [encA ⟨4, 0⟩] _ _ _ _ _ _ (by omega) (by omega)) | exact (nextD m (m.dG id a 0 (m.params (a+1+1+1+1+1) (m.nx (a+1+1+1+1) 3).toNat) [givenR] (((((m.params (a+1+1+1+1+1) (m.nx (a+1+1+1+1) 3).toNat).map encR).length : Nat) : Int) + 2 + m.nx ((a+1+1+1+1+1 + (m.nx (a+1+1+1+1) 3).toNat)+1) 2) 2 [⟨4, 0⟩] [] 0) _ _ _ _ _ _ (by omega) (by omega)) | exact (r1) | exact (site_ok (m.with' (m.dG id a 0 (m.params (a+1+1+1+1+1) (m.nx (a+1+1+1+1) 3).toNat) [givenR] (((((m.params (a+1+1+1+1+1) (m.nx (a+1+1+1+1) 3).toNat).map encR).length : Nat) : Int) + 2 + m.nx ((a+1+1+1+1+1 + (m.nx (a+1+1+1+1) 3).toNat)+1) 2) 2 [⟨4, 0⟩] rr.1 0)) _ _ _ _ _ (by omega)) | exact (head_ok (m.dG id a 0 (m.params (a+1+1+1+1+1) (m.nx (a+1+1+1+1) 3).toNat) [givenR] (((((m.params (a+1+1+1+1+1) (m.nx (a+1+1+1+1) 3).toNat).map encR).length : Nat) : Int) + 2 + m.nx ((a+1+1+1+1+1 + (m.nx (a+1+1+1+1) 3).toNat)+1) 2) 2 [⟨4, 0⟩] rr.1 (rr.2.s+1 : Nat)))); refine run ?_)
    exact Done.mk rfl rfl
theorem def_t10 (m : Mk) (id : Int) (a s l p d : Nat) (fine : m.Core) (hid : 0 ≤ id ∧ id < 100) (h : a + 5000 < 2^58) (h' : s + 300 < 2^58) (hp : p < 2^40) (hlen : m.heads.length < 2^20 ∧ m.defs.length < 2^20)
    (t0 : (m.nx (a+1+1+1) 2 == 0) = true) (t1 : (m.nx (a+1+1+1+1+1 + 0) 4 == 0) = false) : CallsA Tryz.prog 110 [mp, it id, bo true] (ctM m a s l p d) (.tup [])
    (ctEnd m (m.dG id a 0 (m.params (a+1+1+1+1+1) 0) [] (((((m.params (a+1+1+1+1+1) 0).map encR).length : Nat) : Int) + 2 + m.nx ((a+1+1+1+1+1 + 0)+1) 2) 2 [⟨4, 0⟩] ((m.with' (m.dG id a 0 (m.params (a+1+1+1+1+1) 0) [] (((((m.params (a+1+1+1+1+1) 0).map encR).length : Nat) : Int) + 2 + m.nx ((a+1+1+1+1+1 + 0)+1) 2) 2 [⟨4, 0⟩] [] 0)).stmts 2 (1 + m.nx ((a+1+1+1+1+1 + 0)+1+1) 5).toNat ⟨((a+1+1+1+1+1 + 0)+1+1)+1, s, 9, 0⟩).1 (((m.with' (m.dG id a 0 (m.params (a+1+1+1+1+1) 0) [] (((((m.params (a+1+1+1+1+1) 0).map encR).length : Nat) : Int) + 2 + m.nx ((a+1+1+1+1+1 + 0)+1) 2) 2 [⟨4, 0⟩] [] 0)).stmts 2 (1 + m.nx ((a+1+1+1+1+1 + 0)+1+1) 5).toNat ⟨((a+1+1+1+1+1 + 0)+1+1)+1, s, 9, 0⟩).2.s+1 : Nat)) ((m.with' (m.dG id a 0 (m.params (a+1+1+1+1+1) 0) [] (((((m.params (a+1+1+1+1+1) 0).map encR).length : Nat) : Int) + 2 + m.nx ((a+1+1+1+1+1 + 0)+1) 2) 2 [⟨4, 0⟩] [] 0)).stmts 2 (1 + m.nx ((a+1+1+1+1+1 + 0)+1+1) 5).toNat ⟨((a+1+1+1+1+1 + 0)+1+1)+1, s, 9, 0⟩).2.a (((m.with' (m.dG id a 0 (m.params (a+1+1+1+1+1) 0) [] (((((m.params (a+1+1+1+1+1) 0).map encR).length : Nat) : Int) + 2 + m.nx ((a+1+1+1+1+1 + 0)+1) 2) 2 [⟨4, 0⟩] [] 0)).stmts 2 (1 + m.nx ((a+1+1+1+1+1 + 0)+1+1) 5).toNat ⟨((a+1+1+1+1+1 + 0)+1+1)+1, s, 9, 0⟩).2.s+1) ((m.with' (m.dG id a 0 (m.params (a+1+1+1+1+1) 0) [] (((((m.params (a+1+1+1+1+1) 0).map encR).length : Nat) : Int) + 2 + m.nx ((a+1+1+1+1+1 + 0)+1) 2) 2 [⟨4, 0⟩] [] 0)).stmts 2 (1 + m.nx ((a+1+1+1+1+1 + 0)+1+1) 5).toNat ⟨((a+1+1+1+1+1 + 0)+1+1)+1, s, 9, 0⟩).2.l p ((m.with' (m.dG id a 0 (m.params (a+1+1+1+1+1) 0) [] (((((m.params (a+1+1+1+1+1) 0).map encR).length : Nat) : Int) + 2 + m.nx ((a+1+1+1+1+1 + 0)+1) 2) 2 [⟨4, 0⟩] [] 0)).stmts 2 (1 + m.nx ((a+1+1+1+1+1 + 0)+1+1) 5).toNat ⟨((a+1+1+1+1+1 + 0)+1+1)+1, s, 9, 0⟩).2.d) := by
  have bi : 0 ≤ id.tmod 8 ∧ id.tmod 8 < 8 := ⟨Int.tmod_nonneg _ hid.1, Int.tmod_lt_of_pos _ (by omega)⟩
  have n0 := m.nx_bd a (n := 2) (by omega)
  have n1 := m.nx_bd (a+1) (n := 6) (by omega)
  have n2 := m.nx_bd (a+1+1) (n := 4) (by omega)
  have hcalm := fine.calm
  have bX := m.nx_bd (a+1+1+1+1) (n := 3) (by omega)
  have bv := m.nx_bd ((a+1+1+1+1+1 + 0)+1) (n := 2) (by omega)
  have b5 := m.nx_bd ((a+1+1+1+1+1 + 0)+1+1) (n := 5) (by omega)
  have pl : (m.params (a+1+1+1+1+1) 0).length = 0 := m.params_len _ _
  have pl2 : ((m.params (a+1+1+1+1+1) 0).map encR).length = 0 := by rw [List.length_map]; exact pl
  have pl2a : ((m.with' (m.dG id a 0 (m.params (a+1+1+1+1+1) 0) [] 0 0 [] [] 0)).D.params.map encR).length = 0 := pl2
  have pl2b : ((m.with' (m.dG id a 0 (m.params (a+1+1+1+1+1) 0) [] 0 0 [] [] 0)).D.params.map encR).length = 0 := pl2
  have pl3 : decide (((((m.params (a+1+1+1+1+1) 0).map encR).length : Nat) : Int) > 0) = false := by rw [pl2]; rfl
  have k1 : ((1 + m.nx ((a+1+1+1+1+1 + 0)+1+1) 5).toNat : Int) = 1 + m.nx ((a+1+1+1+1+1 + 0)+1+1) 5 := by omega
  have fineD : (m.with' (m.dG id a 0 (m.params (a+1+1+1+1+1) 0) [] (((((m.params (a+1+1+1+1+1) 0).map encR).length : Nat) : Int) + 2 + m.nx ((a+1+1+1+1+1 + 0)+1) 2) 2 [⟨4, 0⟩] [] 0)).Fine := Mk.with_fine fine (by simp only [Mk.dG]; omega) (by simp only [Mk.dG]; omega) (by simp [Mk.dG]) (by simp [Mk.dG])
  have r1 := stmts_ok _ fineD (1 + m.nx ((a+1+1+1+1+1 + 0)+1+1) 5).toNat (by omega) 2 (((a+1+1+1+1+1 + 0)+1+1)+1) s 9 p 0 (by omega) (by omega) (by omega) (by omega) (by omega) (by omega)
  rw [k1] at r1
  have us := (m.with' (m.dG id a 0 (m.params (a+1+1+1+1+1) 0) [] (((((m.params (a+1+1+1+1+1) 0).map encR).length : Nat) : Int) + 2 + m.nx ((a+1+1+1+1+1 + 0)+1) 2) 2 [⟨4, 0⟩] [] 0)).stmts_use fineD.heads 2 (1 + m.nx ((a+1+1+1+1+1 + 0)+1+1) 5).toNat ⟨((a+1+1+1+1+1 + 0)+1+1)+1, s, 9, 0⟩
  simp only [Less] at us
  rw [ctEnd_eq]
  generalize hR : (m.with' (m.dG id a 0 (m.params (a+1+1+1+1+1) 0) [] (((((m.params (a+1+1+1+1+1) 0).map encR).length : Nat) : Int) + 2 + m.nx ((a+1+1+1+1+1 + 0)+1) 2) 2 [⟨4, 0⟩] [] 0)).stmts 2 (1 + m.nx ((a+1+1+1+1+1 + 0)+1+1) 5).toNat ⟨((a+1+1+1+1+1 + 0)+1+1)+1, s, 9, 0⟩ = rr at *
  have hl1 : (m.with' (m.dG id a 0 (m.params (a+1+1+1+1+1) 0) [] (((((m.params (a+1+1+1+1+1) 0).map encR).length : Nat) : Int) + 2 + m.nx ((a+1+1+1+1+1 + 0)+1) 2) 2 [⟨4, 0⟩] rr.1 0)).defs.length < 2^20 := hlen.2
  have hl2 : (m.with' (m.dG id a 0 (m.params (a+1+1+1+1+1) 0) [] (((((m.params (a+1+1+1+1+1) 0).map encR).length : Nat) : Int) + 2 + m.nx ((a+1+1+1+1+1 + 0)+1) 2) 2 [⟨4, 0⟩] rr.1 0)).heads.length < 2^20 := hlen.1
  have hl3 : (m.with' (m.dG id a 0 (m.params (a+1+1+1+1+1) 0) [] ((((m.params (a+1+1+1+1+1) 0).length : Nat) : Int) + 2 + m.nx ((a+1+1+1+1+1 + 0)+1) 2) 2 [⟨4, 0⟩] rr.1 0)).defs.length < 2^20 := hlen.2
  have hl4 : (m.with' (m.dG id a 0 (m.params (a+1+1+1+1+1) 0) [] ((((m.params (a+1+1+1+1+1) 0).length : Nat) : Int) + 2 + m.nx ((a+1+1+1+1+1 + 0)+1) 2) 2 [⟨4, 0⟩] rr.1 0)).heads.length < 2^20 := hlen.1
  have hl5 : (m.with' (m.dG id a 0 (m.params (a+1+1+1+1+1) 0) [] ((((m.params (a+1+1+1+1+1) 0).length : Nat) : Int) + 2 + m.nx (a + 5 + 1) 2) 2 [⟨4, 0⟩] rr.1 0)).defs.length < 2^20 := hlen.2
  have hl6 : (m.with' (m.dG id a 0 (m.params (a+1+1+1+1+1) 0) [] ((((m.params (a+1+1+1+1+1) 0).length : Nat) : Int) + 2 + m.nx (a + 5 + 1) 2) 2 [⟨4, 0⟩] rr.1 0)).heads.length < 2^20 := hlen.1
  refine fn_ok hm Tryz.func110 (fun _ => false) [] hintDef (by kernel_rfl) ?_
  refine run ?_; repeat ((apply call_ok; first | exact (next_ok m _ _ _ _ _ _ (by omega) (by omega))); refine run ?_)
  iterate 2
    refine Idx.mapG (f := it) (m.nx (a+1+1) 4).toNat (m.budget (a+1+1)) (by omega) (m.budget_at (a+1+1)) rfl ?_
    refine run ?_
  refine run ?_; repeat ((apply call_ok; first | exact (nextR m (m.dG id a (m.partX a) [] [] 0 0 [] [] 0) [] _ _ _ _ _ _ (by omega) (by omega)) | exact (nextR m (m.dG id a 0 [] [] 0 0 [] [] 0) [] _ _ _ _ _ _ (by omega) (by omega))); refine run ?_)
  refine LoopS.mk ⟨[], HeadS.inv (fun r : PR => r.v = m.nx (a+1+1+1+1) 3 - r.k ∧ r.k ≤ 0 ∧ r.acc = (m.params (a+1+1+1+1+1) r.k).map encR)
    (fun r => ⟨[(7, it r.v)], [(1000, encMkR (m.with' (m.dG id a 0 [] [] 0 0 [] [] 0)) 32 (a+1+1+1+1+1 + r.k) s l p d r.acc.length)], [(32, ⟨3, true, r.acc⟩)]⟩)
    (fun r => 0 - r.k) ⟨m.nx (a+1+1+1+1) 3, 0, []⟩ ⟨by simp, Nat.zero_le _, rfl⟩ ?_ ?_ ?_ ?_ ?_⟩
  · repeat' (first | exact trivial | exact rfl | refine ⟨?_, ?_⟩ | refine ⟨?_, ?_, ?_⟩)
  · kernel_rfl
  · kernel_rfl
  · intro r; exact ⟨rfl, rfl, rfl⟩
  rintro ⟨v, k, acc⟩ ⟨w1, w2, w3⟩
  dsimp only at w1 w2 w3 ⊢
  have hb1 : k = 0 := by omega
  subst hb1
  subst w3
  refine Br.mk (fun hb => ?_) (fun hb => ?_)
  all_goals
    refine run ?_; repeat ((apply call_ok; first | exact (nextD m (m.dG id a 0 (m.params (a+1+1+1+1+1) 0) [] 0 0 [] [] 0) _ _ _ _ _ _ (by omega) (by omega)) | exact (nextD m (m.dG id a 0 (m.params (a+1+1+1+1+1) 0) [] 0 0 [] [] 0) _ _ _ _ _ _ (by omega) (by omega)) | exact (nextA m (m.dG id a 0 (m.params (a+1+1+1+1+1) 0) [] (((((m.params (a+1+1+1+1+1) 0).map encR).length : Nat) : Int) + 2 + m.nx ((a+1+1+1+1+1 + 0)+1) 2) 2 [] [] 0) [encA ⟨4, 0⟩] _ _ _ _ _ _ (by omega) (by omega)) | exact (nextD m (m.dG id a 0 (m.params (a+1+1+1+1+1) 0) [] (((((m.params (a+1+1+1+1+1) 0).map encR).length : Nat) : Int) + 2 + m.nx ((a+1+1+1+1+1 + 0)+1) 2) 2 [⟨4, 0⟩] [] 0) _ _ _ _ _ _ (by omega) (by omega)) | exact (r1) | exact (site_ok (m.with' (m.dG id a 0 (m.params (a+1+1+1+1+1) 0) [] (((((m.params (a+1+1+1+1+1) 0).map encR).length : Nat) : Int) + 2 + m.nx ((a+1+1+1+1+1 + 0)+1) 2) 2 [⟨4, 0⟩] rr.1 0)) _ _ _ _ _ (by omega)) | exact (head_ok (m.dG id a 0 (m.params (a+1+1+1+1+1) 0) [] (((((m.params (a+1+1+1+1+1) 0).map encR).length : Nat) : Int) + 2 + m.nx ((a+1+1+1+1+1 + 0)+1) 2) 2 [⟨4, 0⟩] rr.1 (rr.2.s+1 : Nat)))); refine run ?_)
    exact Done.mk rfl rfl
theorem def_f100 (m : Mk) (id : Int) (a s l p d : Nat) (fine : m.Core) (hid : 0 ≤ id ∧ id < 100) (h : a + 5000 < 2^58) (h' : s + 300 < 2^58) (hp : p < 2^40) (hlen : m.heads.length < 2^20 ∧ m.defs.length < 2^20)
    (t0 : (m.nx (a+1+1+1) 2 == 0) = true) (t1 : (m.nx (a+1+1+1+1+1 + (m.nx (a+1+1+1+1) 3).toNat) 4 == 0) = false) (hX : m.nx (a+1+1+1+1) 3 = 0) : CallsA Tryz.prog 110 [mp, it id, bo false] (ctM m a s l p d) (.tup [])
    (ctEnd m (m.dG id a 0 (m.params (a+1+1+1+1+1) (m.nx (a+1+1+1+1) 3).toNat) [] (((((m.params (a+1+1+1+1+1) (m.nx (a+1+1+1+1) 3).toNat).map encR).length : Nat) : Int) + 2 + m.nx ((a+1+1+1+1+1 + (m.nx (a+1+1+1+1) 3).toNat)+1) 2) 2 [⟨4, 0⟩] ((m.with' (m.dG id a 0 (m.params (a+1+1+1+1+1) (m.nx (a+1+1+1+1) 3).toNat) [] (((((m.params (a+1+1+1+1+1) (m.nx (a+1+1+1+1) 3).toNat).map encR).length : Nat) : Int) + 2 + m.nx ((a+1+1+1+1+1 + (m.nx (a+1+1+1+1) 3).toNat)+1) 2) 2 [⟨4, 0⟩] [] 0)).stmts 2 (1 + m.nx ((a+1+1+1+1+1 + (m.nx (a+1+1+1+1) 3).toNat)+1+1) 5).toNat ⟨((a+1+1+1+1+1 + (m.nx (a+1+1+1+1) 3).toNat)+1+1)+1, s, 9, 0⟩).1 (((m.with' (m.dG id a 0 (m.params (a+1+1+1+1+1) (m.nx (a+1+1+1+1) 3).toNat) [] (((((m.params (a+1+1+1+1+1) (m.nx (a+1+1+1+1) 3).toNat).map encR).length : Nat) : Int) + 2 + m.nx ((a+1+1+1+1+1 + (m.nx (a+1+1+1+1) 3).toNat)+1) 2) 2 [⟨4, 0⟩] [] 0)).stmts 2 (1 + m.nx ((a+1+1+1+1+1 + (m.nx (a+1+1+1+1) 3).toNat)+1+1) 5).toNat ⟨((a+1+1+1+1+1 + (m.nx (a+1+1+1+1) 3).toNat)+1+1)+1, s, 9, 0⟩).2.s+1 : Nat)) ((m.with' (m.dG id a 0 (m.params (a+1+1+1+1+1) (m.nx (a+1+1+1+1) 3).toNat) [] (((((m.params (a+1+1+1+1+1) (m.nx (a+1+1+1+1) 3).toNat).map encR).length : Nat) : Int) + 2 + m.nx ((a+1+1+1+1+1 + (m.nx (a+1+1+1+1) 3).toNat)+1) 2) 2 [⟨4, 0⟩] [] 0)).stmts 2 (1 + m.nx ((a+1+1+1+1+1 + (m.nx (a+1+1+1+1) 3).toNat)+1+1) 5).toNat ⟨((a+1+1+1+1+1 + (m.nx (a+1+1+1+1) 3).toNat)+1+1)+1, s, 9, 0⟩).2.a (((m.with' (m.dG id a 0 (m.params (a+1+1+1+1+1) (m.nx (a+1+1+1+1) 3).toNat) [] (((((m.params (a+1+1+1+1+1) (m.nx (a+1+1+1+1) 3).toNat).map encR).length : Nat) : Int) + 2 + m.nx ((a+1+1+1+1+1 + (m.nx (a+1+1+1+1) 3).toNat)+1) 2) 2 [⟨4, 0⟩] [] 0)).stmts 2 (1 + m.nx ((a+1+1+1+1+1 + (m.nx (a+1+1+1+1) 3).toNat)+1+1) 5).toNat ⟨((a+1+1+1+1+1 + (m.nx (a+1+1+1+1) 3).toNat)+1+1)+1, s, 9, 0⟩).2.s+1) ((m.with' (m.dG id a 0 (m.params (a+1+1+1+1+1) (m.nx (a+1+1+1+1) 3).toNat) [] (((((m.params (a+1+1+1+1+1) (m.nx (a+1+1+1+1) 3).toNat).map encR).length : Nat) : Int) + 2 + m.nx ((a+1+1+1+1+1 + (m.nx (a+1+1+1+1) 3).toNat)+1) 2) 2 [⟨4, 0⟩] [] 0)).stmts 2 (1 + m.nx ((a+1+1+1+1+1 + (m.nx (a+1+1+1+1) 3).toNat)+1+1) 5).toNat ⟨((a+1+1+1+1+1 + (m.nx (a+1+1+1+1) 3).toNat)+1+1)+1, s, 9, 0⟩).2.l p ((m.with' (m.dG id a 0 (m.params (a+1+1+1+1+1) (m.nx (a+1+1+1+1) 3).toNat) [] (((((m.params (a+1+1+1+1+1) (m.nx (a+1+1+1+1) 3).toNat).map encR).length : Nat) : Int) + 2 + m.nx ((a+1+1+1+1+1 + (m.nx (a+1+1+1+1) 3).toNat)+1) 2) 2 [⟨4, 0⟩] [] 0)).stmts 2 (1 + m.nx ((a+1+1+1+1+1 + (m.nx (a+1+1+1+1) 3).toNat)+1+1) 5).toNat ⟨((a+1+1+1+1+1 + (m.nx (a+1+1+1+1) 3).toNat)+1+1)+1, s, 9, 0⟩).2.d) := by
  have bi : 0 ≤ id.tmod 8 ∧ id.tmod 8 < 8 := ⟨Int.tmod_nonneg _ hid.1, Int.tmod_lt_of_pos _ (by omega)⟩
  have n0 := m.nx_bd a (n := 2) (by omega)
  have n1 := m.nx_bd (a+1) (n := 6) (by omega)
  have n2 := m.nx_bd (a+1+1) (n := 4) (by omega)
  have hcalm := fine.calm
  have bX := m.nx_bd (a+1+1+1+1) (n := 3) (by omega)
  have bv := m.nx_bd ((a+1+1+1+1+1 + (m.nx (a+1+1+1+1) 3).toNat)+1) (n := 2) (by omega)
  have b5 := m.nx_bd ((a+1+1+1+1+1 + (m.nx (a+1+1+1+1) 3).toNat)+1+1) (n := 5) (by omega)
  have pl : (m.params (a+1+1+1+1+1) (m.nx (a+1+1+1+1) 3).toNat).length = (m.nx (a+1+1+1+1) 3).toNat := m.params_len _ _
  have pl2 : ((m.params (a+1+1+1+1+1) (m.nx (a+1+1+1+1) 3).toNat).map encR).length = (m.nx (a+1+1+1+1) 3).toNat := by rw [List.length_map]; exact pl
  have pl2a : ((m.with' (m.dG id a 0 (m.params (a+1+1+1+1+1) (m.nx (a+1+1+1+1) 3).toNat) [] 0 0 [] [] 0)).D.params.map encR).length = (m.nx (a+1+1+1+1) 3).toNat := pl2
  have pl2b : ((m.with' (m.dG id a 0 (m.params (a+1+1+1+1+1) (m.nx (a+1+1+1+1) 3).toNat) [] 0 0 [] [] 0)).D.params.map encR).length = (m.nx (a+1+1+1+1) 3).toNat := pl2
  have pl3 : decide ((((m.params (a+1+1+1+1+1) (m.nx (a+1+1+1+1) 3).toNat).map encR).length : Nat) > (0 : Int)) = false := by rw [pl2, hX]; rfl
  have k1 : ((1 + m.nx ((a+1+1+1+1+1 + (m.nx (a+1+1+1+1) 3).toNat)+1+1) 5).toNat : Int) = 1 + m.nx ((a+1+1+1+1+1 + (m.nx (a+1+1+1+1) 3).toNat)+1+1) 5 := by omega
  have fineD : (m.with' (m.dG id a 0 (m.params (a+1+1+1+1+1) (m.nx (a+1+1+1+1) 3).toNat) [] (((((m.params (a+1+1+1+1+1) (m.nx (a+1+1+1+1) 3).toNat).map encR).length : Nat) : Int) + 2 + m.nx ((a+1+1+1+1+1 + (m.nx (a+1+1+1+1) 3).toNat)+1) 2) 2 [⟨4, 0⟩] [] 0)).Fine := Mk.with_fine fine (by simp only [Mk.dG]; omega) (by simp only [Mk.dG]; omega) (by simp [Mk.dG]) (by simp [Mk.dG])
  have r1 := stmts_ok _ fineD (1 + m.nx ((a+1+1+1+1+1 + (m.nx (a+1+1+1+1) 3).toNat)+1+1) 5).toNat (by omega) 2 (((a+1+1+1+1+1 + (m.nx (a+1+1+1+1) 3).toNat)+1+1)+1) s 9 p 0 (by omega) (by omega) (by omega) (by omega) (by omega) (by omega)
  rw [k1] at r1
  have us := (m.with' (m.dG id a 0 (m.params (a+1+1+1+1+1) (m.nx (a+1+1+1+1) 3).toNat) [] (((((m.params (a+1+1+1+1+1) (m.nx (a+1+1+1+1) 3).toNat).map encR).length : Nat) : Int) + 2 + m.nx ((a+1+1+1+1+1 + (m.nx (a+1+1+1+1) 3).toNat)+1) 2) 2 [⟨4, 0⟩] [] 0)).stmts_use fineD.heads 2 (1 + m.nx ((a+1+1+1+1+1 + (m.nx (a+1+1+1+1) 3).toNat)+1+1) 5).toNat ⟨((a+1+1+1+1+1 + (m.nx (a+1+1+1+1) 3).toNat)+1+1)+1, s, 9, 0⟩
  simp only [Less] at us
  rw [ctEnd_eq]
  generalize hR : (m.with' (m.dG id a 0 (m.params (a+1+1+1+1+1) (m.nx (a+1+1+1+1) 3).toNat) [] (((((m.params (a+1+1+1+1+1) (m.nx (a+1+1+1+1) 3).toNat).map encR).length : Nat) : Int) + 2 + m.nx ((a+1+1+1+1+1 + (m.nx (a+1+1+1+1) 3).toNat)+1) 2) 2 [⟨4, 0⟩] [] 0)).stmts 2 (1 + m.nx ((a+1+1+1+1+1 + (m.nx (a+1+1+1+1) 3).toNat)+1+1) 5).toNat ⟨((a+1+1+1+1+1 + (m.nx (a+1+1+1+1) 3).toNat)+1+1)+1, s, 9, 0⟩ = rr at *
  have hl1 : (m.with' (m.dG id a 0 (m.params (a+1+1+1+1+1) (m.nx (a+1+1+1+1) 3).toNat) [] (((((m.params (a+1+1+1+1+1) (m.nx (a+1+1+1+1) 3).toNat).map encR).length : Nat) : Int) + 2 + m.nx ((a+1+1+1+1+1 + (m.nx (a+1+1+1+1) 3).toNat)+1) 2) 2 [⟨4, 0⟩] rr.1 0)).defs.length < 2^20 := hlen.2
  have hl2 : (m.with' (m.dG id a 0 (m.params (a+1+1+1+1+1) (m.nx (a+1+1+1+1) 3).toNat) [] (((((m.params (a+1+1+1+1+1) (m.nx (a+1+1+1+1) 3).toNat).map encR).length : Nat) : Int) + 2 + m.nx ((a+1+1+1+1+1 + (m.nx (a+1+1+1+1) 3).toNat)+1) 2) 2 [⟨4, 0⟩] rr.1 0)).heads.length < 2^20 := hlen.1
  have hl3 : (m.with' (m.dG id a 0 (m.params (a+1+1+1+1+1) (m.nx (a+1+1+1+1) 3).toNat) [] ((((m.params (a+1+1+1+1+1) (m.nx (a+1+1+1+1) 3).toNat).length : Nat) : Int) + 2 + m.nx ((a+1+1+1+1+1 + (m.nx (a+1+1+1+1) 3).toNat)+1) 2) 2 [⟨4, 0⟩] rr.1 0)).defs.length < 2^20 := hlen.2
  have hl4 : (m.with' (m.dG id a 0 (m.params (a+1+1+1+1+1) (m.nx (a+1+1+1+1) 3).toNat) [] ((((m.params (a+1+1+1+1+1) (m.nx (a+1+1+1+1) 3).toNat).length : Nat) : Int) + 2 + m.nx ((a+1+1+1+1+1 + (m.nx (a+1+1+1+1) 3).toNat)+1) 2) 2 [⟨4, 0⟩] rr.1 0)).heads.length < 2^20 := hlen.1
  refine fn_ok hm Tryz.func110 (fun _ => false) [] hintDef (by kernel_rfl) ?_
  refine run ?_; repeat ((apply call_ok; first | exact (next_ok m _ _ _ _ _ _ (by omega) (by omega))); refine run ?_)
  iterate 2
    refine Idx.mapG (f := it) (m.nx (a+1+1) 4).toNat (m.budget (a+1+1)) (by omega) (m.budget_at (a+1+1)) rfl ?_
    refine run ?_
  refine run ?_; repeat ((apply call_ok; first | exact (nextR m (m.dG id a (m.partX a) [] [] 0 0 [] [] 0) [] _ _ _ _ _ _ (by omega) (by omega)) | exact (nextR m (m.dG id a 0 [] [] 0 0 [] [] 0) [] _ _ _ _ _ _ (by omega) (by omega))); refine run ?_)
  refine LoopS.mk ⟨[], HeadS.inv (fun r : PR => r.v = m.nx (a+1+1+1+1) 3 - r.k ∧ r.k ≤ (m.nx (a+1+1+1+1) 3).toNat ∧ r.acc = (m.params (a+1+1+1+1+1) r.k).map encR)
    (fun r => ⟨[(7, it r.v)], [(1000, encMkR (m.with' (m.dG id a 0 [] [] 0 0 [] [] 0)) 32 (a+1+1+1+1+1 + r.k) s l p d r.acc.length)], [(32, ⟨3, true, r.acc⟩)]⟩)
    (fun r => (m.nx (a+1+1+1+1) 3).toNat - r.k) ⟨m.nx (a+1+1+1+1) 3, 0, []⟩ ⟨by simp, Nat.zero_le _, rfl⟩ ?_ ?_ ?_ ?_ ?_⟩
  · repeat' (first | exact trivial | exact rfl | refine ⟨?_, ?_⟩ | refine ⟨?_, ?_, ?_⟩)
  · kernel_rfl
  · kernel_rfl
  · intro r; exact ⟨rfl, rfl, rfl⟩
  rintro ⟨v, k, acc⟩ ⟨w1, w2, w3⟩
  dsimp only at w1 w2 w3 ⊢
  refine Br.mk (fun hb => ?_) (fun hb => ?_)
  · have hb1 : 0 < v := by simpa using hb
    have hl : acc.length = k := by rw [w3]; simp [m.params_len]
    have bk := m.nx_bd (a+1+1+1+1+1 + k) (n := 4) (by omega)
    refine run ?_; repeat ((apply call_ok; first | exact (nextR m (m.dG id a 0 [] [] 0 0 [] [] 0) _ _ _ _ _ _ _ (by omega) (by omega))); refine run ?_)
    iterate 2
      refine Idx.mapG (f := encR) (m.nx (a+1+1+1+1+1 + k) 4).toNat (m.rng (a+1+1+1+1+1 + k)) (by omega) (m.rng_at _) rfl ?_
      refine run ?_
    refine ⟨⟨⟨v - 1, k + 1, acc ++ [encR (m.rng (a+1+1+1+1+1 + k))]⟩, by dsimp only; omega, by dsimp only; omega, by rw [w3]; simp [Mk.params]⟩, by dsimp only; omega, ?_⟩
    repeat' (first | exact trivial | exact rfl | refine ⟨?_, ?_⟩ | refine ⟨?_, ?_, ?_⟩)
  · have hb1 : k = (m.nx (a+1+1+1+1) 3).toNat := by simp at hb; omega
    subst hb1
    subst w3
    refine run ?_; repeat ((apply call_ok; first | exact (nextD m (m.dG id a 0 (m.params (a+1+1+1+1+1) (m.nx (a+1+1+1+1) 3).toNat) [] 0 0 [] [] 0) _ _ _ _ _ _ (by omega) (by omega)) | exact (nextD m (m.dG id a 0 (m.params (a+1+1+1+1+1) (m.nx (a+1+1+1+1) 3).toNat) [] 0 0 [] [] 0) _ _ _ _ _ _ (by omega) (by omega)) | exact (nextA m (m.dG id a 0 (m.params (a+1+1+1+1+1) (m.nx (a+1+1+1+1) 3).toNat) [] (((((m.params (a+1+1+1+1+1) (m.nx (a+1+1+1+1) 3).toNat).map encR).length : Nat) : Int) + 2 + m.nx ((a+1+1+1+1+1 + (m.nx (a+1+1+1+1) 3).toNat)+1) 2) 2 [] [] 0) [encA ⟨4, 0⟩] _ _ _ _ _ _ (by omega) (by omega)) | exact (nextD m (m.dG id a 0 (m.params (a+1+1+1+1+1) (m.nx (a+1+1+1+1) 3).toNat) [] (((((m.params (a+1+1+1+1+1) (m.nx (a+1+1+1+1) 3).toNat).map encR).length : Nat) : Int) + 2 + m.nx ((a+1+1+1+1+1 + (m.nx (a+1+1+1+1) 3).toNat)+1) 2) 2 [⟨4, 0⟩] [] 0) _ _ _ _ _ _ (by omega) (by omega)) | exact (r1) | exact (site_ok (m.with' (m.dG id a 0 (m.params (a+1+1+1+1+1) (m.nx (a+1+1+1+1) 3).toNat) [] (((((m.params (a+1+1+1+1+1) (m.nx (a+1+1+1+1) 3).toNat).map encR).length : Nat) : Int) + 2 + m.nx ((a+1+1+1+1+1 + (m.nx (a+1+1+1+1) 3).toNat)+1) 2) 2 [⟨4, 0⟩] rr.1 0)) _ _ _ _ _ (by omega)) | exact (head_ok (m.dG id a 0 (m.params (a+1+1+1+1+1) (m.nx (a+1+1+1+1) 3).toNat) [] (((((m.params (a+1+1+1+1+1) (m.nx (a+1+1+1+1) 3).toNat).map encR).length : Nat) : Int) + 2 + m.nx ((a+1+1+1+1+1 + (m.nx (a+1+1+1+1) 3).toNat)+1) 2) 2 [⟨4, 0⟩] rr.1 (rr.2.s+1 : Nat)))); refine run ?_)
    exact Done.mk rfl rfl
theorem def_f101 (m : Mk) (id : Int) (a s l p d : Nat) (fine : m.Core) (hid : 0 ≤ id ∧ id < 100) (h : a + 5000 < 2^58) (h' : s + 300 < 2^58) (hp : p < 2^40) (hlen : m.heads.length < 2^20 ∧ m.defs.length < 2^20)
    (t0 : (m.nx (a+1+1+1) 2 == 0) = true) (t1 : (m.nx (a+1+1+1+1+1 + (m.nx (a+1+1+1+1) 3).toNat) 4 == 0) = false) (hX : 0 < m.nx (a+1+1+1+1) 3) (t2 : (m.nx ((a+1+1+1+1+1 + (m.nx (a+1+1+1+1) 3).toNat)+1+1) 2 == 0) = true) : CallsA Tryz.prog 110 [mp, it id, bo false] (ctM m a s l p d) (.tup [])
    (ctEnd m (m.dG id a 0 (m.params (a+1+1+1+1+1) (m.nx (a+1+1+1+1) 3).toNat) [] (((((m.params (a+1+1+1+1+1) (m.nx (a+1+1+1+1) 3).toNat).map encR).length : Nat) : Int) + 2 + m.nx ((a+1+1+1+1+1 + (m.nx (a+1+1+1+1) 3).toNat)+1) 2) 2 [⟨4, 0⟩, ⟨8, 1⟩] ((m.with' (m.dG id a 0 (m.params (a+1+1+1+1+1) (m.nx (a+1+1+1+1) 3).toNat) [] (((((m.params (a+1+1+1+1+1) (m.nx (a+1+1+1+1) 3).toNat).map encR).length : Nat) : Int) + 2 + m.nx ((a+1+1+1+1+1 + (m.nx (a+1+1+1+1) 3).toNat)+1) 2) 2 [⟨4, 0⟩, ⟨8, 1⟩] [] 0)).stmts 2 (1 + m.nx ((a+1+1+1+1+1 + (m.nx (a+1+1+1+1) 3).toNat)+1+1+1) 5).toNat ⟨((a+1+1+1+1+1 + (m.nx (a+1+1+1+1) 3).toNat)+1+1+1)+1, s, 9, 0⟩).1 (((m.with' (m.dG id a 0 (m.params (a+1+1+1+1+1) (m.nx (a+1+1+1+1) 3).toNat) [] (((((m.params (a+1+1+1+1+1) (m.nx (a+1+1+1+1) 3).toNat).map encR).length : Nat) : Int) + 2 + m.nx ((a+1+1+1+1+1 + (m.nx (a+1+1+1+1) 3).toNat)+1) 2) 2 [⟨4, 0⟩, ⟨8, 1⟩] [] 0)).stmts 2 (1 + m.nx ((a+1+1+1+1+1 + (m.nx (a+1+1+1+1) 3).toNat)+1+1+1) 5).toNat ⟨((a+1+1+1+1+1 + (m.nx (a+1+1+1+1) 3).toNat)+1+1+1)+1, s, 9, 0⟩).2.s+1 : Nat)) ((m.with' (m.dG id a 0 (m.params (a+1+1+1+1+1) (m.nx (a+1+1+1+1) 3).toNat) [] (((((m.params (a+1+1+1+1+1) (m.nx (a+1+1+1+1) 3).toNat).map encR).length : Nat) : Int) + 2 + m.nx ((a+1+1+1+1+1 + (m.nx (a+1+1+1+1) 3).toNat)+1) 2) 2 [⟨4, 0⟩, ⟨8, 1⟩] [] 0)).stmts 2 (1 + m.nx ((a+1+1+1+1+1 + (m.nx (a+1+1+1+1) 3).toNat)+1+1+1) 5).toNat ⟨((a+1+1+1+1+1 + (m.nx (a+1+1+1+1) 3).toNat)+1+1+1)+1, s, 9, 0⟩).2.a (((m.with' (m.dG id a 0 (m.params (a+1+1+1+1+1) (m.nx (a+1+1+1+1) 3).toNat) [] (((((m.params (a+1+1+1+1+1) (m.nx (a+1+1+1+1) 3).toNat).map encR).length : Nat) : Int) + 2 + m.nx ((a+1+1+1+1+1 + (m.nx (a+1+1+1+1) 3).toNat)+1) 2) 2 [⟨4, 0⟩, ⟨8, 1⟩] [] 0)).stmts 2 (1 + m.nx ((a+1+1+1+1+1 + (m.nx (a+1+1+1+1) 3).toNat)+1+1+1) 5).toNat ⟨((a+1+1+1+1+1 + (m.nx (a+1+1+1+1) 3).toNat)+1+1+1)+1, s, 9, 0⟩).2.s+1) ((m.with' (m.dG id a 0 (m.params (a+1+1+1+1+1) (m.nx (a+1+1+1+1) 3).toNat) [] (((((m.params (a+1+1+1+1+1) (m.nx (a+1+1+1+1) 3).toNat).map encR).length : Nat) : Int) + 2 + m.nx ((a+1+1+1+1+1 + (m.nx (a+1+1+1+1) 3).toNat)+1) 2) 2 [⟨4, 0⟩, ⟨8, 1⟩] [] 0)).stmts 2 (1 + m.nx ((a+1+1+1+1+1 + (m.nx (a+1+1+1+1) 3).toNat)+1+1+1) 5).toNat ⟨((a+1+1+1+1+1 + (m.nx (a+1+1+1+1) 3).toNat)+1+1+1)+1, s, 9, 0⟩).2.l p ((m.with' (m.dG id a 0 (m.params (a+1+1+1+1+1) (m.nx (a+1+1+1+1) 3).toNat) [] (((((m.params (a+1+1+1+1+1) (m.nx (a+1+1+1+1) 3).toNat).map encR).length : Nat) : Int) + 2 + m.nx ((a+1+1+1+1+1 + (m.nx (a+1+1+1+1) 3).toNat)+1) 2) 2 [⟨4, 0⟩, ⟨8, 1⟩] [] 0)).stmts 2 (1 + m.nx ((a+1+1+1+1+1 + (m.nx (a+1+1+1+1) 3).toNat)+1+1+1) 5).toNat ⟨((a+1+1+1+1+1 + (m.nx (a+1+1+1+1) 3).toNat)+1+1+1)+1, s, 9, 0⟩).2.d) := by
  have bi : 0 ≤ id.tmod 8 ∧ id.tmod 8 < 8 := ⟨Int.tmod_nonneg _ hid.1, Int.tmod_lt_of_pos _ (by omega)⟩
  have n0 := m.nx_bd a (n := 2) (by omega)
  have n1 := m.nx_bd (a+1) (n := 6) (by omega)
  have n2 := m.nx_bd (a+1+1) (n := 4) (by omega)
  have hcalm := fine.calm
  have bX := m.nx_bd (a+1+1+1+1) (n := 3) (by omega)
  have bv := m.nx_bd ((a+1+1+1+1+1 + (m.nx (a+1+1+1+1) 3).toNat)+1) (n := 2) (by omega)
  have b5 := m.nx_bd ((a+1+1+1+1+1 + (m.nx (a+1+1+1+1) 3).toNat)+1+1+1) (n := 5) (by omega)
  have pl : (m.params (a+1+1+1+1+1) (m.nx (a+1+1+1+1) 3).toNat).length = (m.nx (a+1+1+1+1) 3).toNat := m.params_len _ _
  have pl2 : ((m.params (a+1+1+1+1+1) (m.nx (a+1+1+1+1) 3).toNat).map encR).length = (m.nx (a+1+1+1+1) 3).toNat := by rw [List.length_map]; exact pl
  have pl2a : ((m.with' (m.dG id a 0 (m.params (a+1+1+1+1+1) (m.nx (a+1+1+1+1) 3).toNat) [] 0 0 [] [] 0)).D.params.map encR).length = (m.nx (a+1+1+1+1) 3).toNat := pl2
  have pl2b : ((m.with' (m.dG id a 0 (m.params (a+1+1+1+1+1) (m.nx (a+1+1+1+1) 3).toNat) [] 0 0 [] [] 0)).D.params.map encR).length = (m.nx (a+1+1+1+1) 3).toNat := pl2
  have pl3 : decide (((((m.params (a+1+1+1+1+1) (m.nx (a+1+1+1+1) 3).toNat).map encR).length : Nat) : Int) > 0) = true := by rw [pl2]; simp; omega
  have k1 : ((1 + m.nx ((a+1+1+1+1+1 + (m.nx (a+1+1+1+1) 3).toNat)+1+1+1) 5).toNat : Int) = 1 + m.nx ((a+1+1+1+1+1 + (m.nx (a+1+1+1+1) 3).toNat)+1+1+1) 5 := by omega
  have fineD : (m.with' (m.dG id a 0 (m.params (a+1+1+1+1+1) (m.nx (a+1+1+1+1) 3).toNat) [] (((((m.params (a+1+1+1+1+1) (m.nx (a+1+1+1+1) 3).toNat).map encR).length : Nat) : Int) + 2 + m.nx ((a+1+1+1+1+1 + (m.nx (a+1+1+1+1) 3).toNat)+1) 2) 2 [⟨4, 0⟩, ⟨8, 1⟩] [] 0)).Fine := Mk.with_fine fine (by simp only [Mk.dG]; omega) (by simp only [Mk.dG]; omega) (by simp [Mk.dG]) (by simp [Mk.dG])
  have r1 := stmts_ok _ fineD (1 + m.nx ((a+1+1+1+1+1 + (m.nx (a+1+1+1+1) 3).toNat)+1+1+1) 5).toNat (by omega) 2 (((a+1+1+1+1+1 + (m.nx (a+1+1+1+1) 3).toNat)+1+1+1)+1) s 9 p 0 (by omega) (by omega) (by omega) (by omega) (by omega) (by omega)
  rw [k1] at r1
  have us := (m.with' (m.dG id a 0 (m.params (a+1+1+1+1+1) (m.nx (a+1+1+1+1) 3).toNat) [] (((((m.params (a+1+1+1+1+1) (m.nx (a+1+1+1+1) 3).toNat).map encR).length : Nat) : Int) + 2 + m.nx ((a+1+1+1+1+1 + (m.nx (a+1+1+1+1) 3).toNat)+1) 2) 2 [⟨4, 0⟩, ⟨8, 1⟩] [] 0)).stmts_use fineD.heads 2 (1 + m.nx ((a+1+1+1+1+1 + (m.nx (a+1+1+1+1) 3).toNat)+1+1+1) 5).toNat ⟨((a+1+1+1+1+1 + (m.nx (a+1+1+1+1) 3).toNat)+1+1+1)+1, s, 9, 0⟩
  simp only [Less] at us
  rw [ctEnd_eq]
  generalize hR : (m.with' (m.dG id a 0 (m.params (a+1+1+1+1+1) (m.nx (a+1+1+1+1) 3).toNat) [] (((((m.params (a+1+1+1+1+1) (m.nx (a+1+1+1+1) 3).toNat).map encR).length : Nat) : Int) + 2 + m.nx ((a+1+1+1+1+1 + (m.nx (a+1+1+1+1) 3).toNat)+1) 2) 2 [⟨4, 0⟩, ⟨8, 1⟩] [] 0)).stmts 2 (1 + m.nx ((a+1+1+1+1+1 + (m.nx (a+1+1+1+1) 3).toNat)+1+1+1) 5).toNat ⟨((a+1+1+1+1+1 + (m.nx (a+1+1+1+1) 3).toNat)+1+1+1)+1, s, 9, 0⟩ = rr at *
  have hl1 : (m.with' (m.dG id a 0 (m.params (a+1+1+1+1+1) (m.nx (a+1+1+1+1) 3).toNat) [] (((((m.params (a+1+1+1+1+1) (m.nx (a+1+1+1+1) 3).toNat).map encR).length : Nat) : Int) + 2 + m.nx ((a+1+1+1+1+1 + (m.nx (a+1+1+1+1) 3).toNat)+1) 2) 2 [⟨4, 0⟩, ⟨8, 1⟩] rr.1 0)).defs.length < 2^20 := hlen.2
  have hl2 : (m.with' (m.dG id a 0 (m.params (a+1+1+1+1+1) (m.nx (a+1+1+1+1) 3).toNat) [] (((((m.params (a+1+1+1+1+1) (m.nx (a+1+1+1+1) 3).toNat).map encR).length : Nat) : Int) + 2 + m.nx ((a+1+1+1+1+1 + (m.nx (a+1+1+1+1) 3).toNat)+1) 2) 2 [⟨4, 0⟩, ⟨8, 1⟩] rr.1 0)).heads.length < 2^20 := hlen.1
  have hl3 : (m.with' (m.dG id a 0 (m.params (a+1+1+1+1+1) (m.nx (a+1+1+1+1) 3).toNat) [] ((((m.params (a+1+1+1+1+1) (m.nx (a+1+1+1+1) 3).toNat).length : Nat) : Int) + 2 + m.nx ((a+1+1+1+1+1 + (m.nx (a+1+1+1+1) 3).toNat)+1) 2) 2 [⟨4, 0⟩, ⟨8, 1⟩] rr.1 0)).defs.length < 2^20 := hlen.2
  have hl4 : (m.with' (m.dG id a 0 (m.params (a+1+1+1+1+1) (m.nx (a+1+1+1+1) 3).toNat) [] ((((m.params (a+1+1+1+1+1) (m.nx (a+1+1+1+1) 3).toNat).length : Nat) : Int) + 2 + m.nx ((a+1+1+1+1+1 + (m.nx (a+1+1+1+1) 3).toNat)+1) 2) 2 [⟨4, 0⟩, ⟨8, 1⟩] rr.1 0)).heads.length < 2^20 := hlen.1
  refine fn_ok hm Tryz.func110 (fun _ => false) [] hintDef (by kernel_rfl) ?_
  refine run ?_; repeat ((apply call_ok; first | exact (next_ok m _ _ _ _ _ _ (by omega) (by omega))); refine run ?_)
  iterate 2
    refine Idx.mapG (f := it) (m.nx (a+1+1) 4).toNat (m.budget (a+1+1)) (by omega) (m.budget_at (a+1+1)) rfl ?_
    refine run ?_
  refine run ?_; repeat ((apply call_ok; first | exact (nextR m (m.dG id a (m.partX a) [] [] 0 0 [] [] 0) [] _ _ _ _ _ _ (by omega) (by omega)) | exact (nextR m (m.dG id a 0 [] [] 0 0 [] [] 0) [] _ _ _ _ _ _ (by omega) (by omega))); refine run ?_)
  refine LoopS.mk ⟨[], HeadS.inv (fun r : PR => r.v = m.nx (a+1+1+1+1) 3 - r.k ∧ r.k ≤ (m.nx (a+1+1+1+1) 3).toNat ∧ r.acc = (m.params (a+1+1+1+1+1) r.k).map encR)
    (fun r => ⟨[(7, it r.v)], [(1000, encMkR (m.with' (m.dG id a 0 [] [] 0 0 [] [] 0)) 32 (a+1+1+1+1+1 + r.k) s l p d r.acc.length)], [(32, ⟨3, true, r.acc⟩)]⟩)
    (fun r => (m.nx (a+1+1+1+1) 3).toNat - r.k) ⟨m.nx (a+1+1+1+1) 3, 0, []⟩ ⟨by simp, Nat.zero_le _, rfl⟩ ?_ ?_ ?_ ?_ ?_⟩
  · repeat' (first | exact trivial | exact rfl | refine ⟨?_, ?_⟩ | refine ⟨?_, ?_, ?_⟩)
  · kernel_rfl
  · kernel_rfl
  · intro r; exact ⟨rfl, rfl, rfl⟩
  rintro ⟨v, k, acc⟩ ⟨w1, w2, w3⟩
  dsimp only at w1 w2 w3 ⊢
  refine Br.mk (fun hb => ?_) (fun hb => ?_)
  · have hb1 : 0 < v := by simpa using hb
    have hl : acc.length = k := by rw [w3]; simp [m.params_len]
    have bk := m.nx_bd (a+1+1+1+1+1 + k) (n := 4) (by omega)
    refine run ?_; repeat ((apply call_ok; first | exact (nextR m (m.dG id a 0 [] [] 0 0 [] [] 0) _ _ _ _ _ _ _ (by omega) (by omega))); refine run ?_)
    iterate 2
      refine Idx.mapG (f := encR) (m.nx (a+1+1+1+1+1 + k) 4).toNat (m.rng (a+1+1+1+1+1 + k)) (by omega) (m.rng_at _) rfl ?_
      refine run ?_
    refine ⟨⟨⟨v - 1, k + 1, acc ++ [encR (m.rng (a+1+1+1+1+1 + k))]⟩, by dsimp only; omega, by dsimp only; omega, by rw [w3]; simp [Mk.params]⟩, by dsimp only; omega, ?_⟩
    repeat' (first | exact trivial | exact rfl | refine ⟨?_, ?_⟩ | refine ⟨?_, ?_, ?_⟩)
  · have hb1 : k = (m.nx (a+1+1+1+1) 3).toNat := by simp at hb; omega
    subst hb1
    subst w3
    refine run ?_; repeat ((apply call_ok; first | exact (nextD m (m.dG id a 0 (m.params (a+1+1+1+1+1) (m.nx (a+1+1+1+1) 3).toNat) [] 0 0 [] [] 0) _ _ _ _ _ _ (by omega) (by omega)) | exact (nextD m (m.dG id a 0 (m.params (a+1+1+1+1+1) (m.nx (a+1+1+1+1) 3).toNat) [] 0 0 [] [] 0) _ _ _ _ _ _ (by omega) (by omega)) | exact (nextA m (m.dG id a 0 (m.params (a+1+1+1+1+1) (m.nx (a+1+1+1+1) 3).toNat) [] (((((m.params (a+1+1+1+1+1) (m.nx (a+1+1+1+1) 3).toNat).map encR).length : Nat) : Int) + 2 + m.nx ((a+1+1+1+1+1 + (m.nx (a+1+1+1+1) 3).toNat)+1) 2) 2 [] [] 0) [encA ⟨4, 0⟩] _ _ _ _ _ _ (by omega) (by omega)) | exact (nextD m (m.dG id a 0 (m.params (a+1+1+1+1+1) (m.nx (a+1+1+1+1) 3).toNat) [] (((((m.params (a+1+1+1+1+1) (m.nx (a+1+1+1+1) 3).toNat).map encR).length : Nat) : Int) + 2 + m.nx ((a+1+1+1+1+1 + (m.nx (a+1+1+1+1) 3).toNat)+1) 2) 2 [⟨4, 0⟩, ⟨8, 1⟩] [] 0) _ _ _ _ _ _ (by omega) (by omega)) | exact (r1) | exact (site_ok (m.with' (m.dG id a 0 (m.params (a+1+1+1+1+1) (m.nx (a+1+1+1+1) 3).toNat) [] (((((m.params (a+1+1+1+1+1) (m.nx (a+1+1+1+1) 3).toNat).map encR).length : Nat) : Int) + 2 + m.nx ((a+1+1+1+1+1 + (m.nx (a+1+1+1+1) 3).toNat)+1) 2) 2 [⟨4, 0⟩, ⟨8, 1⟩] rr.1 0)) _ _ _ _ _ (by omega)) | exact (head_ok (m.dG id a 0 (m.params (a+1+1+1+1+1) (m.nx (a+1+1+1+1) 3).toNat) [] (((((m.params (a+1+1+1+1+1) (m.nx (a+1+1+1+1) 3).toNat).map encR).length : Nat) : Int) + 2 + m.nx ((a+1+1+1+1+1 + (m.nx (a+1+1+1+1) 3).toNat)+1) 2) 2 [⟨4, 0⟩, ⟨8, 1⟩] rr.1 (rr.2.s+1 : Nat)))); refine run ?_)
    exact Done.mk rfl rfl
theorem def_f102 (m : Mk) (id : Int) (a s l p d : Nat) (fine : m.Core) (hid : 0 ≤ id ∧ id < 100) (h : a + 5000 < 2^58) (h' : s + 300 < 2^58) (hp : p < 2^40) (hlen : m.heads.length < 2^20 ∧ m.defs.length < 2^20)
    (t0 : (m.nx (a+1+1+1) 2 == 0) = true) (t1 : (m.nx (a+1+1+1+1+1 + (m.nx (a+1+1+1+1) 3).toNat) 4 == 0) = false) (hX : 0 < m.nx (a+1+1+1+1) 3) (t2 : (m.nx ((a+1+1+1+1+1 + (m.nx (a+1+1+1+1) 3).toNat)+1+1) 2 == 0) = false) : CallsA Tryz.prog 110 [mp, it id, bo false] (ctM m a s l p d) (.tup [])
    (ctEnd m (m.dG id a 0 (m.params (a+1+1+1+1+1) (m.nx (a+1+1+1+1) 3).toNat) [] (((((m.params (a+1+1+1+1+1) (m.nx (a+1+1+1+1) 3).toNat).map encR).length : Nat) : Int) + 2 + m.nx ((a+1+1+1+1+1 + (m.nx (a+1+1+1+1) 3).toNat)+1) 2) 2 [⟨4, 0⟩] ((m.with' (m.dG id a 0 (m.params (a+1+1+1+1+1) (m.nx (a+1+1+1+1) 3).toNat) [] (((((m.params (a+1+1+1+1+1) (m.nx (a+1+1+1+1) 3).toNat).map encR).length : Nat) : Int) + 2 + m.nx ((a+1+1+1+1+1 + (m.nx (a+1+1+1+1) 3).toNat)+1) 2) 2 [⟨4, 0⟩] [] 0)).stmts 2 (1 + m.nx ((a+1+1+1+1+1 + (m.nx (a+1+1+1+1) 3).toNat)+1+1+1) 5).toNat ⟨((a+1+1+1+1+1 + (m.nx (a+1+1+1+1) 3).toNat)+1+1+1)+1, s, 9, 0⟩).1 (((m.with' (m.dG id a 0 (m.params (a+1+1+1+1+1) (m.nx (a+1+1+1+1) 3).toNat) [] (((((m.params (a+1+1+1+1+1) (m.nx (a+1+1+1+1) 3).toNat).map encR).length : Nat) : Int) + 2 + m.nx ((a+1+1+1+1+1 + (m.nx (a+1+1+1+1) 3).toNat)+1) 2) 2 [⟨4, 0⟩] [] 0)).stmts 2 (1 + m.nx ((a+1+1+1+1+1 + (m.nx (a+1+1+1+1) 3).toNat)+1+1+1) 5).toNat ⟨((a+1+1+1+1+1 + (m.nx (a+1+1+1+1) 3).toNat)+1+1+1)+1, s, 9, 0⟩).2.s+1 : Nat)) ((m.with' (m.dG id a 0 (m.params (a+1+1+1+1+1) (m.nx (a+1+1+1+1) 3).toNat) [] (((((m.params (a+1+1+1+1+1) (m.nx (a+1+1+1+1) 3).toNat).map encR).length : Nat) : Int) + 2 + m.nx ((a+1+1+1+1+1 + (m.nx (a+1+1+1+1) 3).toNat)+1) 2) 2 [⟨4, 0⟩] [] 0)).stmts 2 (1 + m.nx ((a+1+1+1+1+1 + (m.nx (a+1+1+1+1) 3).toNat)+1+1+1) 5).toNat ⟨((a+1+1+1+1+1 + (m.nx (a+1+1+1+1) 3).toNat)+1+1+1)+1, s, 9, 0⟩).2.a (((m.with' (m.dG id a 0 (m.params (a+1+1+1+1+1) (m.nx (a+1+1+1+1) 3).toNat) [] (((((m.params (a+1+1+1+1+1) (m.nx (a+1+1+1+1) 3).toNat).map encR).length : Nat) : Int) + 2 + m.nx ((a+1+1+1+1+1 + (m.nx (a+1+1+1+1) 3).toNat)+1) 2) 2 [⟨4, 0⟩] [] 0)).stmts 2 (1 + m.nx ((a+1+1+1+1+1 + (m.nx (a+1+1+1+1) 3).toNat)+1+1+1) 5).toNat ⟨((a+1+1+1+1+1 + (m.nx (a+1+1+1+1) 3).toNat)+1+1+1)+1, s, 9, 0⟩).2.s+1) ((m.with' (m.dG id a 0 (m.params (a+1+1+1+1+1) (m.nx (a+1+1+1+1) 3).toNat) [] (((((m.params (a+1+1+1+1+1) (m.nx (a+1+1+1+1) 3).toNat).map encR).length : Nat) : Int) + 2 + m.nx ((a+1+1+1+1+1 + (m.nx (a+1+1+1+1) 3).toNat)+1) 2) 2 [⟨4, 0⟩] [] 0)).stmts 2 (1 + m.nx ((a+1+1+1+1+1 + (m.nx (a+1+1+1+1) 3).toNat)+1+1+1) 5).toNat ⟨((a+1+1+1+1+1 + (m.nx (a+1+1+1+1) 3).toNat)+1+1+1)+1, s, 9, 0⟩).2.l p ((m.with' (m.dG id a 0 (m.params (a+1+1+1+1+1) (m.nx (a+1+1+1+1) 3).toNat) [] (((((m.params (a+1+1+1+1+1) (m.nx (a+1+1+1+1) 3).toNat).map encR).length : Nat) : Int) + 2 + m.nx ((a+1+1+1+1+1 + (m.nx (a+1+1+1+1) 3).toNat)+1) 2) 2 [⟨4, 0⟩] [] 0)).stmts 2 (1 + m.nx ((a+1+1+1+1+1 + (m.nx (a+1+1+1+1) 3).toNat)+1+1+1) 5).toNat ⟨((a+1+1+1+1+1 + (m.nx (a+1+1+1+1) 3).toNat)+1+1+1)+1, s, 9, 0⟩).2.d) := by
  have bi : 0 ≤ id.tmod 8 ∧ id.tmod 8 < 8 := ⟨Int.tmod_nonneg _ hid.1, Int.tmod_lt_of_pos _ (by omega)⟩
  have n0 := m.nx_bd a (n := 2) (by omega)
  have n1 := m.nx_bd (a+1) (n := 6) (by omega)
  have n2 := m.nx_bd (a+1+1) (n := 4) (by omega)
  have hcalm := fine.calm
  have bX := m.nx_bd (a+1+1+1+1) (n := 3) (by omega)
  have bv := m.nx_bd ((a+1+1+1+1+1 + (m.nx (a+1+1+1+1) 3).toNat)+1) (n := 2) (by omega)
  have b5 := m.nx_bd ((a+1+1+1+1+1 + (m.nx (a+1+1+1+1) 3).toNat)+1+1+1) (n := 5) (by omega)
  have pl : (m.params (a+1+1+1+1+1) (m.nx (a+1+1+1+1) 3).toNat).length = (m.nx (a+1+1+1+1) 3).toNat := m.params_len _ _
  have pl2 : ((m.params (a+1+1+1+1+1) (m.nx (a+1+1+1+1) 3).toNat).map encR).length = (m.nx (a+1+1+1+1) 3).toNat := by rw [List.length_map]; exact pl
  have pl2a : ((m.with' (m.dG id a 0 (m.params (a+1+1+1+1+1) (m.nx (a+1+1+1+1) 3).toNat) [] 0 0 [] [] 0)).D.params.map encR).length = (m.nx (a+1+1+1+1) 3).toNat := pl2
  have pl2b : ((m.with' (m.dG id a 0 (m.params (a+1+1+1+1+1) (m.nx (a+1+1+1+1) 3).toNat) [] 0 0 [] [] 0)).D.params.map encR).length = (m.nx (a+1+1+1+1) 3).toNat := pl2
  have pl3 : decide (((((m.params (a+1+1+1+1+1) (m.nx (a+1+1+1+1) 3).toNat).map encR).length : Nat) : Int) > 0) = true := by rw [pl2]; simp; omega
  have k1 : ((1 + m.nx ((a+1+1+1+1+1 + (m.nx (a+1+1+1+1) 3).toNat)+1+1+1) 5).toNat : Int) = 1 + m.nx ((a+1+1+1+1+1 + (m.nx (a+1+1+1+1) 3).toNat)+1+1+1) 5 := by omega
  have fineD : (m.with' (m.dG id a 0 (m.params (a+1+1+1+1+1) (m.nx (a+1+1+1+1) 3).toNat) [] (((((m.params (a+1+1+1+1+1) (m.nx (a+1+1+1+1) 3).toNat).map encR).length : Nat) : Int) + 2 + m.nx ((a+1+1+1+1+1 + (m.nx (a+1+1+1+1) 3).toNat)+1) 2) 2 [⟨4, 0⟩] [] 0)).Fine := Mk.with_fine fine (by simp only [Mk.dG]; omega) (by simp only [Mk.dG]; omega) (by simp [Mk.dG]) (by simp [Mk.dG])
  have r1 := stmts_ok _ fineD (1 + m.nx ((a+1+1+1+1+1 + (m.nx (a+1+1+1+1) 3).toNat)+1+1+1) 5).toNat (by omega) 2 (((a+1+1+1+1+1 + (m.nx (a+1+1+1+1) 3).toNat)+1+1+1)+1) s 9 p 0 (by omega) (by omega) (by omega) (by omega) (by omega) (by omega)
  rw [k1] at r1
  have us := (m.with' (m.dG id a 0 (m.params (a+1+1+1+1+1) (m.nx (a+1+1+1+1) 3).toNat) [] (((((m.params (a+1+1+1+1+1) (m.nx (a+1+1+1+1) 3).toNat).map encR).length : Nat) : Int) + 2 + m.nx ((a+1+1+1+1+1 + (m.nx (a+1+1+1+1) 3).toNat)+1) 2) 2 [⟨4, 0⟩] [] 0)).stmts_use fineD.heads 2 (1 + m.nx ((a+1+1+1+1+1 + (m.nx (a+1+1+1+1) 3).toNat)+1+1+1) 5).toNat ⟨((a+1+1+1+1+1 + (m.nx (a+1+1+1+1) 3).toNat)+1+1+1)+1, s, 9, 0⟩
  simp only [Less] at us
  rw [ctEnd_eq]
  generalize hR : (m.with' (m.dG id a 0 (m.params (a+1+1+1+1+1) (m.nx (a+1+1+1+1) 3).toNat) [] (((((m.params (a+1+1+1+1+1) (m.nx (a+1+1+1+1) 3).toNat).map encR).length : Nat) : Int) + 2 + m.nx ((a+1+1+1+1+1 + (m.nx (a+1+1+1+1) 3).toNat)+1) 2) 2 [⟨4, 0⟩] [] 0)).stmts 2 (1 + m.nx ((a+1+1+1+1+1 + (m.nx (a+1+1+1+1) 3).toNat)+1+1+1) 5).toNat ⟨((a+1+1+1+1+1 + (m.nx (a+1+1+1+1) 3).toNat)+1+1+1)+1, s, 9, 0⟩ = rr at *
  have hl1 : (m.with' (m.dG id a 0 (m.params (a+1+1+1+1+1) (m.nx (a+1+1+1+1) 3).toNat) [] (((((m.params (a+1+1+1+1+1) (m.nx (a+1+1+1+1) 3).toNat).map encR).length : Nat) : Int) + 2 + m.nx ((a+1+1+1+1+1 + (m.nx (a+1+1+1+1) 3).toNat)+1) 2) 2 [⟨4, 0⟩] rr.1 0)).defs.length < 2^20 := hlen.2
  have hl2 : (m.with' (m.dG id a 0 (m.params (a+1+1+1+1+1) (m.nx (a+1+1+1+1) 3).toNat) [] (((((m.params (a+1+1+1+1+1) (m.nx (a+1+1+1+1) 3).toNat).map encR).length : Nat) : Int) + 2 + m.nx ((a+1+1+1+1+1 + (m.nx (a+1+1+1+1) 3).toNat)+1) 2) 2 [⟨4, 0⟩] rr.1 0)).heads.length < 2^20 := hlen.1
  have hl3 : (m.with' (m.dG id a 0 (m.params (a+1+1+1+1+1) (m.nx (a+1+1+1+1) 3).toNat) [] ((((m.params (a+1+1+1+1+1) (m.nx (a+1+1+1+1) 3).toNat).length : Nat) : Int) + 2 + m.nx ((a+1+1+1+1+1 + (m.nx (a+1+1+1+1) 3).toNat)+1) 2) 2 [⟨4, 0⟩] rr.1 0)).defs.length < 2^20 := hlen.2
  have hl4 : (m.with' (m.dG id a 0 (m.params (a+1+1+1+1+1) (m.nx (a+1+1+1+1) 3).toNat) [] ((((m.params (a+1+1+1+1+1) (m.nx (a+1+1+1+1) 3).toNat).length : Nat) : Int) + 2 + m.nx ((a+1+1+1+1+1 + (m.nx (a+1+1+1+1) 3).toNat)+1) 2) 2 [⟨4, 0⟩] rr.1 0)).heads.length < 2^20 := hlen.1
  refine fn_ok hm Tryz.func110 (fun _ => false) [] hintDef (by kernel_rfl) ?_
  refine run ?_; repeat ((apply call_ok; first | exact (next_ok m _ _ _ _ _ _ (by omega) (by omega))); refine run ?_)
  iterate 2
    refine Idx.mapG (f := it) (m.nx (a+1+1) 4).toNat (m.budget (a+1+1)) (by omega) (m.budget_at (a+1+1)) rfl ?_
    refine run ?_
  refine run ?_; repeat ((apply call_ok; first | exact (nextR m (m.dG id a (m.partX a) [] [] 0 0 [] [] 0) [] _ _ _ _ _ _ (by omega) (by omega)) | exact (nextR m (m.dG id a 0 [] [] 0 0 [] [] 0) [] _ _ _ _ _ _ (by omega) (by omega))); refine run ?_)
  refine LoopS.mk ⟨[], HeadS.inv (fun r : PR => r.v = m.nx (a+1+1+1+1) 3 - r.k ∧ r.k ≤ (m.nx (a+1+1+1+1) 3).toNat ∧ r.acc = (m.params (a+1+1+1+1+1) r.k).map encR)
    (fun r => ⟨[(7, it r.v)], [(1000, encMkR (m.with' (m.dG id a 0 [] [] 0 0 [] [] 0)) 32 (a+1+1+1+1+1 + r.k) s l p d r.acc.length)], [(32, ⟨3, true, r.acc⟩)]⟩)
    (fun r => (m.nx (a+1+1+1+1) 3).toNat - r.k) ⟨m.nx (a+1+1+1+1) 3, 0, []⟩ ⟨by simp, Nat.zero_le _, rfl⟩ ?_ ?_ ?_ ?_ ?_⟩
  · repeat' (first | exact trivial | exact rfl | refine ⟨?_, ?_⟩ | refine ⟨?_, ?_, ?_⟩)
  · kernel_rfl
  · kernel_rfl
  · intro r; exact ⟨rfl, rfl, rfl⟩
  rintro ⟨v, k, acc⟩ ⟨w1, w2, w3⟩
  dsimp only at w1 w2 w3 ⊢
  refine Br.mk (fun hb => ?_) (fun hb => ?_)
  · have hb1 : 0 < v := by simpa using hb
    have hl : acc.length = k := by rw [w3]; simp [m.params_len]
    have bk := m.nx_bd (a+1+1+1+1+1 + k) (n := 4) (by omega)
    refine run ?_; repeat ((apply call_ok; first | exact (nextR m (m.dG id a 0 [] [] 0 0 [] [] 0) _ _ _ _ _ _ _ (by omega) (by omega))); refine run ?_)
    iterate 2
      refine Idx.mapG (f := encR) (m.nx (a+1+1+1+1+1 + k) 4).toNat (m.rng (a+1+1+1+1+1 + k)) (by omega) (m.rng_at _) rfl ?_
      refine run ?_
    refine ⟨⟨⟨v - 1, k + 1, acc ++ [encR (m.rng (a+1+1+1+1+1 + k))]⟩, by dsimp only; omega, by dsimp only; omega, by rw [w3]; simp [Mk.params]⟩, by dsimp only; omega, ?_⟩
    repeat' (first | exact trivial | exact rfl | refine ⟨?_, ?_⟩ | refine ⟨?_, ?_, ?_⟩)
  · have hb1 : k = (m.nx (a+1+1+1+1) 3).toNat := by simp at hb; omega
    subst hb1
    subst w3
    refine run ?_; repeat ((apply call_ok; first | exact (nextD m (m.dG id a 0 (m.params (a+1+1+1+1+1) (m.nx (a+1+1+1+1) 3).toNat) [] 0 0 [] [] 0) _ _ _ _ _ _ (by omega) (by omega)) | exact (nextD m (m.dG id a 0 (m.params (a+1+1+1+1+1) (m.nx (a+1+1+1+1) 3).toNat) [] 0 0 [] [] 0) _ _ _ _ _ _ (by omega) (by omega)) | exact (nextA m (m.dG id a 0 (m.params (a+1+1+1+1+1) (m.nx (a+1+1+1+1) 3).toNat) [] (((((m.params (a+1+1+1+1+1) (m.nx (a+1+1+1+1) 3).toNat).map encR).length : Nat) : Int) + 2 + m.nx ((a+1+1+1+1+1 + (m.nx (a+1+1+1+1) 3).toNat)+1) 2) 2 [] [] 0) [encA ⟨4, 0⟩] _ _ _ _ _ _ (by omega) (by omega)) | exact (nextD m (m.dG id a 0 (m.params (a+1+1+1+1+1) (m.nx (a+1+1+1+1) 3).toNat) [] (((((m.params (a+1+1+1+1+1) (m.nx (a+1+1+1+1) 3).toNat).map encR).length : Nat) : Int) + 2 + m.nx ((a+1+1+1+1+1 + (m.nx (a+1+1+1+1) 3).toNat)+1) 2) 2 [⟨4, 0⟩] [] 0) _ _ _ _ _ _ (by omega) (by omega)) | exact (r1) | exact (site_ok (m.with' (m.dG id a 0 (m.params (a+1+1+1+1+1) (m.nx (a+1+1+1+1) 3).toNat) [] (((((m.params (a+1+1+1+1+1) (m.nx (a+1+1+1+1) 3).toNat).map encR).length : Nat) : Int) + 2 + m.nx ((a+1+1+1+1+1 + (m.nx (a+1+1+1+1) 3).toNat)+1) 2) 2 [⟨4, 0⟩] rr.1 0)) _ _ _ _ _ (by omega)) | exact (head_ok (m.dG id a 0 (m.params (a+1+1+1+1+1) (m.nx (a+1+1+1+1) 3).toNat) [] (((((m.params (a+1+1+1+1+1) (m.nx (a+1+1+1+1) 3).toNat).map encR).length : Nat) : Int) + 2 + m.nx ((a+1+1+1+1+1 + (m.nx (a+1+1+1+1) 3).toNat)+1) 2) 2 [⟨4, 0⟩] rr.1 (rr.2.s+1 : Nat)))); refine run ?_)
    exact Done.mk rfl rfl
theorem def_t01 (m : Mk) (id : Int) (a s l p d : Nat) (fine : m.Core) (hid : 0 ≤ id ∧ id < 100) (h : a + 5000 < 2^58) (h' : s + 300 < 2^58) (hp : p < 2^40) (hlen : m.heads.length < 2^20 ∧ m.defs.length < 2^20)
    (t0 : (m.nx (a+1+1+1) 2 == 0) = false) (t1 : (m.nx (a+1+1+1+1+1 + 0) 4 == 0) = true) : CallsA Tryz.prog 110 [mp, it id, bo true] (ctM m a s l p d) (.tup [])
    (ctEnd m (m.dG id a (m.partX a) (m.params (a+1+1+1+1+1) 0) [] (((((m.params (a+1+1+1+1+1) 0).map encR).length : Nat) : Int) + 2 + m.nx ((a+1+1+1+1+1 + 0)+1) 2) 2 [⟨4, 0⟩] ((m.with' (m.dG id a (m.partX a) (m.params (a+1+1+1+1+1) 0) [] (((((m.params (a+1+1+1+1+1) 0).map encR).length : Nat) : Int) + 2 + m.nx ((a+1+1+1+1+1 + 0)+1) 2) 2 [⟨4, 0⟩] [] 0)).stmts 2 (1 + m.nx ((a+1+1+1+1+1 + 0)+1+1) 5).toNat ⟨((a+1+1+1+1+1 + 0)+1+1)+1, s, 9, 0⟩).1 (((m.with' (m.dG id a (m.partX a) (m.params (a+1+1+1+1+1) 0) [] (((((m.params (a+1+1+1+1+1) 0).map encR).length : Nat) : Int) + 2 + m.nx ((a+1+1+1+1+1 + 0)+1) 2) 2 [⟨4, 0⟩] [] 0)).stmts 2 (1 + m.nx ((a+1+1+1+1+1 + 0)+1+1) 5).toNat ⟨((a+1+1+1+1+1 + 0)+1+1)+1, s, 9, 0⟩).2.s+1 : Nat)) ((m.with' (m.dG id a (m.partX a) (m.params (a+1+1+1+1+1) 0) [] (((((m.params (a+1+1+1+1+1) 0).map encR).length : Nat) : Int) + 2 + m.nx ((a+1+1+1+1+1 + 0)+1) 2) 2 [⟨4, 0⟩] [] 0)).stmts 2 (1 + m.nx ((a+1+1+1+1+1 + 0)+1+1) 5).toNat ⟨((a+1+1+1+1+1 + 0)+1+1)+1, s, 9, 0⟩).2.a (((m.with' (m.dG id a (m.partX a) (m.params (a+1+1+1+1+1) 0) [] (((((m.params (a+1+1+1+1+1) 0).map encR).length : Nat) : Int) + 2 + m.nx ((a+1+1+1+1+1 + 0)+1) 2) 2 [⟨4, 0⟩] [] 0)).stmts 2 (1 + m.nx ((a+1+1+1+1+1 + 0)+1+1) 5).toNat ⟨((a+1+1+1+1+1 + 0)+1+1)+1, s, 9, 0⟩).2.s+1) ((m.with' (m.dG id a (m.partX a) (m.params (a+1+1+1+1+1) 0) [] (((((m.params (a+1+1+1+1+1) 0).map encR).length : Nat) : Int) + 2 + m.nx ((a+1+1+1+1+1 + 0)+1) 2) 2 [⟨4, 0⟩] [] 0)).stmts 2 (1 + m.nx ((a+1+1+1+1+1 + 0)+1+1) 5).toNat ⟨((a+1+1+1+1+1 + 0)+1+1)+1, s, 9, 0⟩).2.l p ((m.with' (m.dG id a (m.partX a) (m.params (a+1+1+1+1+1) 0) [] (((((m.params (a+1+1+1+1+1) 0).map encR).length : Nat) : Int) + 2 + m.nx ((a+1+1+1+1+1 + 0)+1) 2) 2 [⟨4, 0⟩] [] 0)).stmts 2 (1 + m.nx ((a+1+1+1+1+1 + 0)+1+1) 5).toNat ⟨((a+1+1+1+1+1 + 0)+1+1)+1, s, 9, 0⟩).2.d) := by
  have bi : 0 ≤ id.tmod 8 ∧ id.tmod 8 < 8 := ⟨Int.tmod_nonneg _ hid.1, Int.tmod_lt_of_pos _ (by omega)⟩
  have n0 := m.nx_bd a (n := 2) (by omega)
  have n1 := m.nx_bd (a+1) (n := 6) (by omega)
  have n2 := m.nx_bd (a+1+1) (n := 4) (by omega)
  have hcalm := fine.calm
  have bX := m.nx_bd (a+1+1+1+1) (n := 3) (by omega)
  have bv := m.nx_bd ((a+1+1+1+1+1 + 0)+1) (n := 2) (by omega)
  have b5 := m.nx_bd ((a+1+1+1+1+1 + 0)+1+1) (n := 5) (by omega)
  have pl : (m.params (a+1+1+1+1+1) 0).length = 0 := m.params_len _ _
  have pl2 : ((m.params (a+1+1+1+1+1) 0).map encR).length = 0 := by rw [List.length_map]; exact pl
  have pl2a : ((m.with' (m.dG id a (m.partX a) (m.params (a+1+1+1+1+1) 0) [] 0 0 [] [] 0)).D.params.map encR).length = 0 := pl2
  have pl2b : ((m.with' (m.dG id a (m.partX a) (m.params (a+1+1+1+1+1) 0) [] 0 0 [] [] 0)).D.params.map encR).length = 0 := pl2
  have pl3 : decide (((((m.params (a+1+1+1+1+1) 0).map encR).length : Nat) : Int) > 0) = false := by rw [pl2]; rfl
  have k1 : ((1 + m.nx ((a+1+1+1+1+1 + 0)+1+1) 5).toNat : Int) = 1 + m.nx ((a+1+1+1+1+1 + 0)+1+1) 5 := by omega
  have fineD : (m.with' (m.dG id a (m.partX a) (m.params (a+1+1+1+1+1) 0) [] (((((m.params (a+1+1+1+1+1) 0).map encR).length : Nat) : Int) + 2 + m.nx ((a+1+1+1+1+1 + 0)+1) 2) 2 [⟨4, 0⟩] [] 0)).Fine := Mk.with_fine fine (by simp only [Mk.dG]; omega) (by simp only [Mk.dG]; omega) (by simp [Mk.dG]) (by simp [Mk.dG])
  have r1 := stmts_ok _ fineD (1 + m.nx ((a+1+1+1+1+1 + 0)+1+1) 5).toNat (by omega) 2 (((a+1+1+1+1+1 + 0)+1+1)+1) s 9 p 0 (by omega) (by omega) (by omega) (by omega) (by omega) (by omega)
  rw [k1] at r1
  have us := (m.with' (m.dG id a (m.partX a) (m.params (a+1+1+1+1+1) 0) [] (((((m.params (a+1+1+1+1+1) 0).map encR).length : Nat) : Int) + 2 + m.nx ((a+1+1+1+1+1 + 0)+1) 2) 2 [⟨4, 0⟩] [] 0)).stmts_use fineD.heads 2 (1 + m.nx ((a+1+1+1+1+1 + 0)+1+1) 5).toNat ⟨((a+1+1+1+1+1 + 0)+1+1)+1, s, 9, 0⟩
  simp only [Less] at us
  rw [ctEnd_eq]
  generalize hR : (m.with' (m.dG id a (m.partX a) (m.params (a+1+1+1+1+1) 0) [] (((((m.params (a+1+1+1+1+1) 0).map encR).length : Nat) : Int) + 2 + m.nx ((a+1+1+1+1+1 + 0)+1) 2) 2 [⟨4, 0⟩] [] 0)).stmts 2 (1 + m.nx ((a+1+1+1+1+1 + 0)+1+1) 5).toNat ⟨((a+1+1+1+1+1 + 0)+1+1)+1, s, 9, 0⟩ = rr at *
  have hl1 : (m.with' (m.dG id a (m.partX a) (m.params (a+1+1+1+1+1) 0) [] (((((m.params (a+1+1+1+1+1) 0).map encR).length : Nat) : Int) + 2 + m.nx ((a+1+1+1+1+1 + 0)+1) 2) 2 [⟨4, 0⟩] rr.1 0)).defs.length < 2^20 := hlen.2
  have hl2 : (m.with' (m.dG id a (m.partX a) (m.params (a+1+1+1+1+1) 0) [] (((((m.params (a+1+1+1+1+1) 0).map encR).length : Nat) : Int) + 2 + m.nx ((a+1+1+1+1+1 + 0)+1) 2) 2 [⟨4, 0⟩] rr.1 0)).heads.length < 2^20 := hlen.1
  have hl3 : (m.with' (m.dG id a (m.partX a) (m.params (a+1+1+1+1+1) 0) [] ((((m.params (a+1+1+1+1+1) 0).length : Nat) : Int) + 2 + m.nx ((a+1+1+1+1+1 + 0)+1) 2) 2 [⟨4, 0⟩] rr.1 0)).defs.length < 2^20 := hlen.2
  have hl4 : (m.with' (m.dG id a (m.partX a) (m.params (a+1+1+1+1+1) 0) [] ((((m.params (a+1+1+1+1+1) 0).length : Nat) : Int) + 2 + m.nx ((a+1+1+1+1+1 + 0)+1) 2) 2 [⟨4, 0⟩] rr.1 0)).heads.length < 2^20 := hlen.1
  have hl5 : (m.with' (m.dG id a (m.partX a) (m.params (a+1+1+1+1+1) 0) [] ((((m.params (a+1+1+1+1+1) 0).length : Nat) : Int) + 2 + m.nx (a + 5 + 1) 2) 2 [⟨4, 0⟩] rr.1 0)).defs.length < 2^20 := hlen.2
  have hl6 : (m.with' (m.dG id a (m.partX a) (m.params (a+1+1+1+1+1) 0) [] ((((m.params (a+1+1+1+1+1) 0).length : Nat) : Int) + 2 + m.nx (a + 5 + 1) 2) 2 [⟨4, 0⟩] rr.1 0)).heads.length < 2^20 := hlen.1
  refine fn_ok hm Tryz.func110 (fun _ => false) [] hintDef (by kernel_rfl) ?_
  refine run ?_; repeat ((apply call_ok; first | exact (next_ok m _ _ _ _ _ _ (by omega) (by omega))); refine run ?_)
  iterate 2
    refine Idx.mapG (f := it) (m.nx (a+1+1) 4).toNat (m.budget (a+1+1)) (by omega) (m.budget_at (a+1+1)) rfl ?_
    refine run ?_
  refine run ?_; repeat ((apply call_ok; first | exact (nextR m (m.dG id a (m.partX a) [] [] 0 0 [] [] 0) [] _ _ _ _ _ _ (by omega) (by omega)) | exact (nextR m (m.dG id a (m.partX a) [] [] 0 0 [] [] 0) [] _ _ _ _ _ _ (by omega) (by omega))); refine run ?_)
  refine LoopS.mk ⟨[], HeadS.inv (fun r : PR => r.v = m.nx (a+1+1+1+1) 3 - r.k ∧ r.k ≤ 0 ∧ r.acc = (m.params (a+1+1+1+1+1) r.k).map encR)
    (fun r => ⟨[(7, it r.v)], [(1000, encMkR (m.with' (m.dG id a (m.partX a) [] [] 0 0 [] [] 0)) 32 (a+1+1+1+1+1 + r.k) s l p d r.acc.length)], [(32, ⟨3, true, r.acc⟩)]⟩)
    (fun r => 0 - r.k) ⟨m.nx (a+1+1+1+1) 3, 0, []⟩ ⟨by simp, Nat.zero_le _, rfl⟩ ?_ ?_ ?_ ?_ ?_⟩
  · repeat' (first | exact trivial | exact rfl | refine ⟨?_, ?_⟩ | refine ⟨?_, ?_, ?_⟩)
  · kernel_rfl
  · kernel_rfl
  · intro r; exact ⟨rfl, rfl, rfl⟩
  rintro ⟨v, k, acc⟩ ⟨w1, w2, w3⟩
  dsimp only at w1 w2 w3 ⊢
  have hb1 : k = 0 := by omega
  subst hb1
  subst w3
  refine Br.mk (fun hb => ?_) (fun hb => ?_)
  all_goals
    refine run ?_; repeat ((apply call_ok; first | exact (nextD m (m.dG id a (m.partX a) (m.params (a+1+1+1+1+1) 0) [] 0 0 [] [] 0) _ _ _ _ _ _ (by omega) (by omega)) | exact (nextD m (m.dG id a (m.partX a) (m.params (a+1+1+1+1+1) 0) [] 0 0 [] [] 0) _ _ _ _ _ _ (by omega) (by omega)) | exact (nextA m (m.dG id a (m.partX a) (m.params (a+1+1+1+1+1) 0) [] (((((m.params (a+1+1+1+1+1) 0).map encR).length : Nat) : Int) + 2 + m.nx ((a+1+1+1+1+1 + 0)+1) 2) 2 [] [] 0) [encA ⟨4, 0⟩] _ _ _ _ _ _ (by omega) (by omega)) | exact (nextD m (m.dG id a (m.partX a) (m.params (a+1+1+1+1+1) 0) [] (((((m.params (a+1+1+1+1+1) 0).map encR).length : Nat) : Int) + 2 + m.nx ((a+1+1+1+1+1 + 0)+1) 2) 2 [⟨4, 0⟩] [] 0) _ _ _ _ _ _ (by omega) (by omega)) | exact (r1) | exact (site_ok (m.with' (m.dG id a (m.partX a) (m.params (a+1+1+1+1+1) 0) [] (((((m.params (a+1+1+1+1+1) 0).map encR).length : Nat) : Int) + 2 + m.nx ((a+1+1+1+1+1 + 0)+1) 2) 2 [⟨4, 0⟩] rr.1 0)) _ _ _ _ _ (by omega)) | exact (head_ok (m.dG id a (m.partX a) (m.params (a+1+1+1+1+1) 0) [] (((((m.params (a+1+1+1+1+1) 0).map encR).length : Nat) : Int) + 2 + m.nx ((a+1+1+1+1+1 + 0)+1) 2) 2 [⟨4, 0⟩] rr.1 (rr.2.s+1 : Nat)))); refine run ?_)
    exact Done.mk rfl rfl
theorem def_f010 (m : Mk) (id : Int) (a s l p d : Nat) (fine : m.Core) (hid : 0 ≤ id ∧ id < 100) (h : a + 5000 < 2^58) (h' : s + 300 < 2^58) (hp : p < 2^40) (hlen : m.heads.length < 2^20 ∧ m.defs.length < 2^20)
    (t0 : (m.nx (a+1+1+1) 2 == 0) = false) (t1 : (m.nx (a+1+1+1+1+1 + (m.nx (a+1+1+1+1) 3).toNat) 4 == 0) = true) (hX : m.nx (a+1+1+1+1) 3 = 0) : CallsA Tryz.prog 110 [mp, it id, bo false] (ctM m a s l p d) (.tup [])
    (ctEnd m (m.dG id a (m.partX a) (m.params (a+1+1+1+1+1) (m.nx (a+1+1+1+1) 3).toNat) [givenR] (((((m.params (a+1+1+1+1+1) (m.nx (a+1+1+1+1) 3).toNat).map encR).length : Nat) : Int) + 2 + m.nx ((a+1+1+1+1+1 + (m.nx (a+1+1+1+1) 3).toNat)+1) 2) 2 [⟨4, 0⟩] ((m.with' (m.dG id a (m.partX a) (m.params (a+1+1+1+1+1) (m.nx (a+1+1+1+1) 3).toNat) [givenR] (((((m.params (a+1+1+1+1+1) (m.nx (a+1+1+1+1) 3).toNat).map encR).length : Nat) : Int) + 2 + m.nx ((a+1+1+1+1+1 + (m.nx (a+1+1+1+1) 3).toNat)+1) 2) 2 [⟨4, 0⟩] [] 0)).stmts 2 (1 + m.nx ((a+1+1+1+1+1 + (m.nx (a+1+1+1+1) 3).toNat)+1+1) 5).toNat ⟨((a+1+1+1+1+1 + (m.nx (a+1+1+1+1) 3).toNat)+1+1)+1, s, 9, 0⟩).1 (((m.with' (m.dG id a (m.partX a) (m.params (a+1+1+1+1+1) (m.nx (a+1+1+1+1) 3).toNat) [givenR] (((((m.params (a+1+1+1+1+1) (m.nx (a+1+1+1+1) 3).toNat).map encR).length : Nat) : Int) + 2 + m.nx ((a+1+1+1+1+1 + (m.nx (a+1+1+1+1) 3).toNat)+1) 2) 2 [⟨4, 0⟩] [] 0)).stmts 2 (1 + m.nx ((a+1+1+1+1+1 + (m.nx (a+1+1+1+1) 3).toNat)+1+1) 5).toNat ⟨((a+1+1+1+1+1 + (m.nx (a+1+1+1+1) 3).toNat)+1+1)+1, s, 9, 0⟩).2.s+1 : Nat)) ((m.with' (m.dG id a (m.partX a) (m.params (a+1+1+1+1+1) (m.nx (a+1+1+1+1) 3).toNat) [givenR] (((((m.params (a+1+1+1+1+1) (m.nx (a+1+1+1+1) 3).toNat).map encR).length : Nat) : Int) + 2 + m.nx ((a+1+1+1+1+1 + (m.nx (a+1+1+1+1) 3).toNat)+1) 2) 2 [⟨4, 0⟩] [] 0)).stmts 2 (1 + m.nx ((a+1+1+1+1+1 + (m.nx (a+1+1+1+1) 3).toNat)+1+1) 5).toNat ⟨((a+1+1+1+1+1 + (m.nx (a+1+1+1+1) 3).toNat)+1+1)+1, s, 9, 0⟩).2.a (((m.with' (m.dG id a (m.partX a) (m.params (a+1+1+1+1+1) (m.nx (a+1+1+1+1) 3).toNat) [givenR] (((((m.params (a+1+1+1+1+1) (m.nx (a+1+1+1+1) 3).toNat).map encR).length : Nat) : Int) + 2 + m.nx ((a+1+1+1+1+1 + (m.nx (a+1+1+1+1) 3).toNat)+1) 2) 2 [⟨4, 0⟩] [] 0)).stmts 2 (1 + m.nx ((a+1+1+1+1+1 + (m.nx (a+1+1+1+1) 3).toNat)+1+1) 5).toNat ⟨((a+1+1+1+1+1 + (m.nx (a+1+1+1+1) 3).toNat)+1+1)+1, s, 9, 0⟩).2.s+1) ((m.with' (m.dG id a (m.partX a) (m.params (a+1+1+1+1+1) (m.nx (a+1+1+1+1) 3).toNat) [givenR] (((((m.params (a+1+1+1+1+1) (m.nx (a+1+1+1+1) 3).toNat).map encR).length : Nat) : Int) + 2 + m.nx ((a+1+1+1+1+1 + (m.nx (a+1+1+1+1) 3).toNat)+1) 2) 2 [⟨4, 0⟩] [] 0)).stmts 2 (1 + m.nx ((a+1+1+1+1+1 + (m.nx (a+1+1+1+1) 3).toNat)+1+1) 5).toNat ⟨((a+1+1+1+1+1 + (m.nx (a+1+1+1+1) 3).toNat)+1+1)+1, s, 9, 0⟩).2.l p ((m.with' (m.dG id a (m.partX a) (m.params (a+1+1+1+1+1) (m.nx (a+1+1+1+1) 3).toNat) [givenR] (((((m.params (a+1+1+1+1+1) (m.nx (a+1+1+1+1) 3).toNat).map encR).length : Nat) : Int) + 2 + m.nx ((a+1+1+1+1+1 + (m.nx (a+1+1+1+1) 3).toNat)+1) 2) 2 [⟨4, 0⟩] [] 0)).stmts 2 (1 + m.nx ((a+1+1+1+1+1 + (m.nx (a+1+1+1+1) 3).toNat)+1+1) 5).toNat ⟨((a+1+1+1+1+1 + (m.nx (a+1+1+1+1) 3).toNat)+1+1)+1, s, 9, 0⟩).2.d) := by
  have bi : 0 ≤ id.tmod 8 ∧ id.tmod 8 < 8 := ⟨Int.tmod_nonneg _ hid.1, Int.tmod_lt_of_pos _ (by omega)⟩
  have n0 := m.nx_bd a (n := 2) (by omega)
  have n1 := m.nx_bd (a+1) (n := 6) (by omega)
  have n2 := m.nx_bd (a+1+1) (n := 4) (by omega)
  have hcalm := fine.calm
  have bX := m.nx_bd (a+1+1+1+1) (n := 3) (by omega)
  have bv := m.nx_bd ((a+1+1+1+1+1 + (m.nx (a+1+1+1+1) 3).toNat)+1) (n := 2) (by omega)
  have b5 := m.nx_bd ((a+1+1+1+1+1 + (m.nx (a+1+1+1+1) 3).toNat)+1+1) (n := 5) (by omega)
  have pl : (m.params (a+1+1+1+1+1) (m.nx (a+1+1+1+1) 3).toNat).length = (m.nx (a+1+1+1+1) 3).toNat := m.params_len _ _
  have pl2 : ((m.params (a+1+1+1+1+1) (m.nx (a+1+1+1+1) 3).toNat).map encR).length = (m.nx (a+1+1+1+1) 3).toNat := by rw [List.length_map]; exact pl
  have pl2a : ((m.with' (m.dG id a (m.partX a) (m.params (a+1+1+1+1+1) (m.nx (a+1+1+1+1) 3).toNat) [] 0 0 [] [] 0)).D.params.map encR).length = (m.nx (a+1+1+1+1) 3).toNat := pl2
  have pl2b : ((m.with' (m.dG id a (m.partX a) (m.params (a+1+1+1+1+1) (m.nx (a+1+1+1+1) 3).toNat) [givenR] 0 0 [] [] 0)).D.params.map encR).length = (m.nx (a+1+1+1+1) 3).toNat := pl2
  have pl3 : decide ((((m.params (a+1+1+1+1+1) (m.nx (a+1+1+1+1) 3).toNat).map encR).length : Nat) > (0 : Int)) = false := by rw [pl2, hX]; rfl
  have k1 : ((1 + m.nx ((a+1+1+1+1+1 + (m.nx (a+1+1+1+1) 3).toNat)+1+1) 5).toNat : Int) = 1 + m.nx ((a+1+1+1+1+1 + (m.nx (a+1+1+1+1) 3).toNat)+1+1) 5 := by omega
  have fineD : (m.with' (m.dG id a (m.partX a) (m.params (a+1+1+1+1+1) (m.nx (a+1+1+1+1) 3).toNat) [givenR] (((((m.params (a+1+1+1+1+1) (m.nx (a+1+1+1+1) 3).toNat).map encR).length : Nat) : Int) + 2 + m.nx ((a+1+1+1+1+1 + (m.nx (a+1+1+1+1) 3).toNat)+1) 2) 2 [⟨4, 0⟩] [] 0)).Fine := Mk.with_fine fine (by simp only [Mk.dG]; omega) (by simp only [Mk.dG]; omega) (by simp [Mk.dG]) (by simp [Mk.dG])
  have r1 := stmts_ok _ fineD (1 + m.nx ((a+1+1+1+1+1 + (m.nx (a+1+1+1+1) 3).toNat)+1+1) 5).toNat (by omega) 2 (((a+1+1+1+1+1 + (m.nx (a+1+1+1+1) 3).toNat)+1+1)+1) s 9 p 0 (by omega) (by omega) (by omega) (by omega) (by omega) (by omega)
  rw [k1] at r1
  have us := (m.with' (m.dG id a (m.partX a) (m.params (a+1+1+1+1+1) (m.nx (a+1+1+1+1) 3).toNat) [givenR] (((((m.params (a+1+1+1+1+1) (m.nx (a+1+1+1+1) 3).toNat).map encR).length : Nat) : Int) + 2 + m.nx ((a+1+1+1+1+1 + (m.nx (a+1+1+1+1) 3).toNat)+1) 2) 2 [⟨4, 0⟩] [] 0)).stmts_use fineD.heads 2 (1 + m.nx ((a+1+1+1+1+1 + (m.nx (a+1+1+1+1) 3).toNat)+1+1) 5).toNat ⟨((a+1+1+1+1+1 + (m.nx (a+1+1+1+1) 3).toNat)+1+1)+1, s, 9, 0⟩
  simp only [Less] at us
  rw [ctEnd_eq]
  generalize hR : (m.with' (m.dG id a (m.partX a) (m.params (a+1+1+1+1+1) (m.nx (a+1+1+1+1) 3).toNat) [givenR] (((((m.params (a+1+1+1+1+1) (m.nx (a+1+1+1+1) 3).toNat).map encR).length : Nat) : Int) + 2 + m.nx ((a+1+1+1+1+1 + (m.nx (a+1+1+1+1) 3).toNat)+1) 2) 2 [⟨4, 0⟩] [] 0)).stmts 2 (1 + m.nx ((a+1+1+1+1+1 + (m.nx (a+1+1+1+1) 3).toNat)+1+1) 5).toNat ⟨((a+1+1+1+1+1 + (m.nx (a+1+1+1+1) 3).toNat)+1+1)+1, s, 9, 0⟩ = rr at *
  have hl1 : (m.with' (m.dG id a (m.partX a) (m.params (a+1+1+1+1+1) (m.nx (a+1+1+1+1) 3).toNat) [givenR] (((((m.params (a+1+1+1+1+1) (m.nx (a+1+1+1+1) 3).toNat).map encR).length : Nat) : Int) + 2 + m.nx ((a+1+1+1+1+1 + (m.nx (a+1+1+1+1) 3).toNat)+1) 2) 2 [⟨4, 0⟩] rr.1 0)).defs.length < 2^20 := hlen.2
  have hl2 : (m.with' (m.dG id a (m.partX a) (m.params (a+1+1+1+1+1) (m.nx (a+1+1+1+1) 3).toNat) [givenR] (((((m.params (a+1+1+1+1+1) (m.nx (a+1+1+1+1) 3).toNat).map encR).length : Nat) : Int) + 2 + m.nx ((a+1+1+1+1+1 + (m.nx (a+1+1+1+1) 3).toNat)+1) 2) 2 [⟨4, 0⟩] rr.1 0)).heads.length < 2^20 := hlen.1
  have hl3 : (m.with' (m.dG id a (m.partX a) (m.params (a+1+1+1+1+1) (m.nx (a+1+1+1+1) 3).toNat) [givenR] ((((m.params (a+1+1+1+1+1) (m.nx (a+1+1+1+1) 3).toNat).length : Nat) : Int) + 2 + m.nx ((a+1+1+1+1+1 + (m.nx (a+1+1+1+1) 3).toNat)+1) 2) 2 [⟨4, 0⟩] rr.1 0)).defs.length < 2^20 := hlen.2
  have hl4 : (m.with' (m.dG id a (m.partX a) (m.params (a+1+1+1+1+1) (m.nx (a+1+1+1+1) 3).toNat) [givenR] ((((m.params (a+1+1+1+1+1) (m.nx (a+1+1+1+1) 3).toNat).length : Nat) : Int) + 2 + m.nx ((a+1+1+1+1+1 + (m.nx (a+1+1+1+1) 3).toNat)+1) 2) 2 [⟨4, 0⟩] rr.1 0)).heads.length < 2^20 := hlen.1
  refine fn_ok hm Tryz.func110 (fun _ => false) [] hintDef (by kernel_rfl) ?_
  refine run ?_; repeat ((apply call_ok; first | exact (next_ok m _ _ _ _ _ _ (by omega) (by omega))); refine run ?_)
  iterate 2
    refine Idx.mapG (f := it) (m.nx (a+1+1) 4).toNat (m.budget (a+1+1)) (by omega) (m.budget_at (a+1+1)) rfl ?_
    refine run ?_
  refine run ?_; repeat ((apply call_ok; first | exact (nextR m (m.dG id a (m.partX a) [] [] 0 0 [] [] 0) [] _ _ _ _ _ _ (by omega) (by omega)) | exact (nextR m (m.dG id a (m.partX a) [] [] 0 0 [] [] 0) [] _ _ _ _ _ _ (by omega) (by omega))); refine run ?_)
  refine LoopS.mk ⟨[], HeadS.inv (fun r : PR => r.v = m.nx (a+1+1+1+1) 3 - r.k ∧ r.k ≤ (m.nx (a+1+1+1+1) 3).toNat ∧ r.acc = (m.params (a+1+1+1+1+1) r.k).map encR)
    (fun r => ⟨[(7, it r.v)], [(1000, encMkR (m.with' (m.dG id a (m.partX a) [] [] 0 0 [] [] 0)) 32 (a+1+1+1+1+1 + r.k) s l p d r.acc.length)], [(32, ⟨3, true, r.acc⟩)]⟩)
    (fun r => (m.nx (a+1+1+1+1) 3).toNat - r.k) ⟨m.nx (a+1+1+1+1) 3, 0, []⟩ ⟨by simp, Nat.zero_le _, rfl⟩ ?_ ?_ ?_ ?_ ?_⟩
  · repeat' (first | exact trivial | exact rfl | refine ⟨?_, ?_⟩ | refine ⟨?_, ?_, ?_⟩)
  · kernel_rfl
  · kernel_rfl
  · intro r; exact ⟨rfl, rfl, rfl⟩
  rintro ⟨v, k, acc⟩ ⟨w1, w2, w3⟩
  dsimp only at w1 w2 w3 ⊢
  refine Br.mk (fun hb => ?_) (fun hb => ?_)
  · have hb1 : 0 < v := by simpa using hb
    have hl : acc.length = k := by rw [w3]; simp [m.params_len]
    have bk := m.nx_bd (a+1+1+1+1+1 + k) (n := 4) (by omega)
    refine run ?_; repeat ((apply call_ok; first | exact (nextR m (m.dG id a (m.partX a) [] [] 0 0 [] [] 0) _ _ _ _ _ _ _ (by omega) (by omega))); refine run ?_)
    iterate 2
      refine Idx.mapG (f := encR) (m.nx (a+1+1+1+1+1 + k) 4).toNat (m.rng (a+1+1+1+1+1 + k)) (by omega) (m.rng_at _) rfl ?_
      refine run ?_
    refine ⟨⟨⟨v - 1, k + 1, acc ++ [encR (m.rng (a+1+1+1+1+1 + k))]⟩, by dsimp only; omega, by dsimp only; omega, by rw [w3]; simp [Mk.params]⟩, by dsimp only; omega, ?_⟩
    repeat' (first | exact trivial | exact rfl | refine ⟨?_, ?_⟩ | refine ⟨?_, ?_, ?_⟩)
  · have hb1 : k = (m.nx (a+1+1+1+1) 3).toNat := by simp at hb; omega
    subst hb1
    subst w3
    refine run ?_; repeat ((apply call_ok; first | exact (nextD m (m.dG id a (m.partX a) (m.params (a+1+1+1+1+1) (m.nx (a+1+1+1+1) 3).toNat) [] 0 0 [] [] 0) _ _ _ _ _ _ (by omega) (by omega)) | exact (nextD m (m.dG id a (m.partX a) (m.params (a+1+1+1+1+1) (m.nx (a+1+1+1+1) 3).toNat) [givenR] 0 0 [] [] 0) _ _ _ _ _ _ (by omega) (by omega)) | exact (nextA m (m.dG id a (m.partX a) (m.params (a+1+1+1+1+1) (m.nx (a+1+1+1+1) 3).toNat) [givenR] (((((m.params (a+1+1+1+1+1) (m.nx (a+1+1+1+1) 3).toNat).map encR).length : Nat) : Int) + 2 + m.nx ((a+1+1+1+1+1 + (m.nx (a+1+1+1+1) 3).toNat)+1) 2) 2 [] [] 0) [encA ⟨4, 0⟩] _ _ _ _ _ _ (by omega) (by omega)) | exact (nextD m (m.dG id a (m.partX a) (m.params (a+1+1+1+1+1) (m.nx (a+1+1+1+1) 3).toNat) [givenR] (((((m.params (a+1+1+1+1+1) (m.nx (a+1+1+1+1) 3).toNat).map encR).length : Nat) : Int) + 2 + m.nx ((a+1+1+1+1+1 + (m.nx (a+1+1+1+1) 3).toNat)+1) 2) 2 [⟨4, 0⟩] [] 0) _ _ _ _ _ _ (by omega) (by omega)) | exact (r1) | exact (site_ok (m.with' (m.dG id a (m.partX a) (m.params (a+1+1+1+1+1) (m.nx (a+1+1+1+1) 3).toNat) [givenR] (((((m.params (a+1+1+1+1+1) (m.nx (a+1+1+1+1) 3).toNat).map encR).length : Nat) : Int) + 2 + m.nx ((a+1+1+1+1+1 + (m.nx (a+1+1+1+1) 3).toNat)+1) 2) 2 [⟨4, 0⟩] rr.1 0)) _ _ _ _ _ (by omega)) | exact (head_ok (m.dG id a (m.partX a) (m.params (a+1+1+1+1+1) (m.nx (a+1+1+1+1) 3).toNat) [givenR] (((((m.params (a+1+1+1+1+1) (m.nx (a+1+1+1+1) 3).toNat).map encR).length : Nat) : Int) + 2 + m.nx ((a+1+1+1+1+1 + (m.nx (a+1+1+1+1) 3).toNat)+1) 2) 2 [⟨4, 0⟩] rr.1 (rr.2.s+1 : Nat)))); refine run ?_)
    exact Done.mk rfl rfl
theorem def_f011 (m : Mk) (id : Int) (a s l p d : Nat) (fine : m.Core) (hid : 0 ≤ id ∧ id < 100) (h : a + 5000 < 2^58) (h' : s + 300 < 2^58) (hp : p < 2^40) (hlen : m.heads.length < 2^20 ∧ m.defs.length < 2^20)
    (t0 : (m.nx (a+1+1+1) 2 == 0) = false) (t1 : (m.nx (a+1+1+1+1+1 + (m.nx (a+1+1+1+1) 3).toNat) 4 == 0) = true) (hX : 0 < m.nx (a+1+1+1+1) 3) (t2 : (m.nx ((a+1+1+1+1+1 + (m.nx (a+1+1+1+1) 3).toNat)+1+1) 2 == 0) = true) : CallsA Tryz.prog 110 [mp, it id, bo false] (ctM m a s l p d) (.tup [])
    (ctEnd m (m.dG id a (m.partX a) (m.params (a+1+1+1+1+1) (m.nx (a+1+1+1+1) 3).toNat) [givenR] (((((m.params (a+1+1+1+1+1) (m.nx (a+1+1+1+1) 3).toNat).map encR).length : Nat) : Int) + 2 + m.nx ((a+1+1+1+1+1 + (m.nx (a+1+1+1+1) 3).toNat)+1) 2) 2 [⟨4, 0⟩, ⟨8, 1⟩] ((m.with' (m.dG id a (m.partX a) (m.params (a+1+1+1+1+1) (m.nx (a+1+1+1+1) 3).toNat) [givenR] (((((m.params (a+1+1+1+1+1) (m.nx (a+1+1+1+1) 3).toNat).map encR).length : Nat) : Int) + 2 + m.nx ((a+1+1+1+1+1 + (m.nx (a+1+1+1+1) 3).toNat)+1) 2) 2 [⟨4, 0⟩, ⟨8, 1⟩] [] 0)).stmts 2 (1 + m.nx ((a+1+1+1+1+1 + (m.nx (a+1+1+1+1) 3).toNat)+1+1+1) 5).toNat ⟨((a+1+1+1+1+1 + (m.nx (a+1+1+1+1) 3).toNat)+1+1+1)+1, s, 9, 0⟩).1 (((m.with' (m.dG id a (m.partX a) (m.params (a+1+1+1+1+1) (m.nx (a+1+1+1+1) 3).toNat) [givenR] (((((m.params (a+1+1+1+1+1) (m.nx (a+1+1+1+1) 3).toNat).map encR).length : Nat) : Int) + 2 + m.nx ((a+1+1+1+1+1 + (m.nx (a+1+1+1+1) 3).toNat)+1) 2) 2 [⟨4, 0⟩, ⟨8, 1⟩] [] 0)).stmts 2 (1 + m.nx ((a+1+1+1+1+1 + (m.nx (a+1+1+1+1) 3).toNat)+1+1+1) 5).toNat ⟨((a+1+1+1+1+1 + (m.nx (a+1+1+1+1) 3).toNat)+1+1+1)+1, s, 9, 0⟩).2.s+1 : Nat)) ((m.with' (m.dG id a (m.partX a) (m.params (a+1+1+1+1+1) (m.nx (a+1+1+1+1) 3).toNat) [givenR] (((((m.params (a+1+1+1+1+1) (m.nx (a+1+1+1+1) 3).toNat).map encR).length : Nat) : Int) + 2 + m.nx ((a+1+1+1+1+1 + (m.nx (a+1+1+1+1) 3).toNat)+1) 2) 2 [⟨4, 0⟩, ⟨8, 1⟩] [] 0)).stmts 2 (1 + m.nx ((a+1+1+1+1+1 + (m.nx (a+1+1+1+1) 3).toNat)+1+1+1) 5).toNat ⟨((a+1+1+1+1+1 + (m.nx (a+1+1+1+1) 3).toNat)+1+1+1)+1, s, 9, 0⟩).2.a (((m.with' (m.dG id a (m.partX a) (m.params (a+1+1+1+1+1) (m.nx (a+1+1+1+1) 3).toNat) [givenR] (((((m.params (a+1+1+1+1+1) (m.nx (a+1+1+1+1) 3).toNat).map encR).length : Nat) : Int) + 2 + m.nx ((a+1+1+1+1+1 + (m.nx (a+1+1+1+1) 3).toNat)+1) 2) 2 [⟨4, 0⟩, ⟨8, 1⟩] [] 0)).stmts 2 (1 + m.nx ((a+1+1+1+1+1 + (m.nx (a+1+1+1+1) 3).toNat)+1+1+1) 5).toNat ⟨((a+1+1+1+1+1 + (m.nx (a+1+1+1+1) 3).toNat)+1+1+1)+1, s, 9, 0⟩).2.s+1) ((m.with' (m.dG id a (m.partX a) (m.params (a+1+1+1+1+1) (m.nx (a+1+1+1+1) 3).toNat) [givenR] (((((m.params (a+1+1+1+1+1) (m.nx (a+1+1+1+1) 3).toNat).map encR).length : Nat) : Int) + 2 + m.nx ((a+1+1+1+1+1 + (m.nx (a+1+1+1+1) 3).toNat)+1) 2) 2 [⟨4, 0⟩, ⟨8, 1⟩] [] 0)).stmts 2 (1 + m.nx ((a+1+1+1+1+1 + (m.nx (a+1+1+1+1) 3).toNat)+1+1+1) 5).toNat ⟨((a+1+1+1+1+1 + (m.nx (a+1+1+1+1) 3).toNat)+1+1+1)+1, s, 9, 0⟩).2.l p ((m.with' (m.dG id a (m.partX a) (m.params (a+1+1+1+1+1) (m.nx (a+1+1+1+1) 3).toNat) [givenR] (((((m.params (a+1+1+1+1+1) (m.nx (a+1+1+1+1) 3).toNat).map encR).length : Nat) : Int) + 2 + m.nx ((a+1+1+1+1+1 + (m.nx (a+1+1+1+1) 3).toNat)+1) 2) 2 [⟨4, 0⟩, ⟨8, 1⟩] [] 0)).stmts 2 (1 + m.nx ((a+1+1+1+1+1 + (m.nx (a+1+1+1+1) 3).toNat)+1+1+1) 5).toNat ⟨((a+1+1+1+1+1 + (m.nx (a+1+1+1+1) 3).toNat)+1+1+1)+1, s, 9, 0⟩).2.d) := by
  have bi : 0 ≤ id.tmod 8 ∧ id.tmod 8 < 8 := ⟨Int.tmod_nonneg _ hid.1, Int.tmod_lt_of_pos _ (by omega)⟩
  have n0 := m.nx_bd a (n := 2) (by omega)
  have n1 := m.nx_bd (a+1) (n := 6) (by omega)
  have n2 := m.nx_bd (a+1+1) (n := 4) (by omega)
  have hcalm := fine.calm
  have bX := m.nx_bd (a+1+1+1+1) (n := 3) (by omega)
  have bv := m.nx_bd ((a+1+1+1+1+1 + (m.nx (a+1+1+1+1) 3).toNat)+1) (n := 2) (by omega)
  have b5 := m.nx_bd ((a+1+1+1+1+1 + (m.nx (a+1+1+1+1) 3).toNat)+1+1+1) (n := 5) (by omega)
  have pl : (m.params (a+1+1+1+1+1) (m.nx (a+1+1+1+1) 3).toNat).length = (m.nx (a+1+1+1+1) 3).toNat := m.params_len _ _
  have pl2 : ((m.params (a+1+1+1+1+1) (m.nx (a+1+1+1+1) 3).toNat).map encR).length = (m.nx (a+1+1+1+1) 3).toNat := by rw [List.length_map]; exact pl
  have pl2a : ((m.with' (m.dG id a (m.partX a) (m.params (a+1+1+1+1+1) (m.nx (a+1+1+1+1) 3).toNat) [] 0 0 [] [] 0)).D.params.map encR).length = (m.nx (a+1+1+1+1) 3).toNat := pl2
  have pl2b : ((m.with' (m.dG id a (m.partX a) (m.params (a+1+1+1+1+1) (m.nx (a+1+1+1+1) 3).toNat) [givenR] 0 0 [] [] 0)).D.params.map encR).length = (m.nx (a+1+1+1+1) 3).toNat := pl2
  have pl3 : decide (((((m.params (a+1+1+1+1+1) (m.nx (a+1+1+1+1) 3).toNat).map encR).length : Nat) : Int) > 0) = true := by rw [pl2]; simp; omega
  have k1 : ((1 + m.nx ((a+1+1+1+1+1 + (m.nx (a+1+1+1+1) 3).toNat)+1+1+1) 5).toNat : Int) = 1 + m.nx ((a+1+1+1+1+1 + (m.nx (a+1+1+1+1) 3).toNat)+1+1+1) 5 := by omega
  have fineD : (m.with' (m.dG id a (m.partX a) (m.params (a+1+1+1+1+1) (m.nx (a+1+1+1+1) 3).toNat) [givenR] (((((m.params (a+1+1+1+1+1) (m.nx (a+1+1+1+1) 3).toNat).map encR).length : Nat) : Int) + 2 + m.nx ((a+1+1+1+1+1 + (m.nx (a+1+1+1+1) 3).toNat)+1) 2) 2 [⟨4, 0⟩, ⟨8, 1⟩] [] 0)).Fine := Mk.with_fine fine (by simp only [Mk.dG]; omega) (by simp only [Mk.dG]; omega) (by simp [Mk.dG]) (by simp [Mk.dG])
  have r1 := stmts_ok _ fineD (1 + m.nx ((a+1+1+1+1+1 + (m.nx (a+1+1+1+1) 3).toNat)+1+1+1) 5).toNat (by omega) 2 (((a+1+1+1+1+1 + (m.nx (a+1+1+1+1) 3).toNat)+1+1+1)+1) s 9 p 0 (by omega) (by omega) (by omega) (by omega) (by omega) (by omega)
  rw [k1] at r1
  have us := (m.with' (m.dG id a (m.partX a) (m.params (a+1+1+1+1+1) (m.nx (a+1+1+1+1) 3).toNat) [givenR] (((((m.params (a+1+1+1+1+1) (m.nx (a+1+1+1+1) 3).toNat).map encR).length : Nat) : Int) + 2 + m.nx ((a+1+1+1+1+1 + (m.nx (a+1+1+1+1) 3).toNat)+1) 2) 2 [⟨4, 0⟩, ⟨8, 1⟩] [] 0)).stmts_use fineD.heads 2 (1 + m.nx ((a+1+1+1+1+1 + (m.nx (a+1+1+1+1) 3).toNat)+1+1+1) 5).toNat ⟨((a+1+1+1+1+1 + (m.nx (a+1+1+1+1) 3).toNat)+1+1+1)+1, s, 9, 0⟩
  simp only [Less] at us
  rw [ctEnd_eq]
  generalize hR : (m.with' (m.dG id a (m.partX a) (m.params (a+1+1+1+1+1) (m.nx (a+1+1+1+1) 3).toNat) [givenR] (((((m.params (a+1+1+1+1+1) (m.nx (a+1+1+1+1) 3).toNat).map encR).length : Nat) : Int) + 2 + m.nx ((a+1+1+1+1+1 + (m.nx (a+1+1+1+1) 3).toNat)+1) 2) 2 [⟨4, 0⟩, ⟨8, 1⟩] [] 0)).stmts 2 (1 + m.nx ((a+1+1+1+1+1 + (m.nx (a+1+1+1+1) 3).toNat)+1+1+1) 5).toNat ⟨((a+1+1+1+1+1 + (m.nx (a+1+1+1+1) 3).toNat)+1+1+1)+1, s, 9, 0⟩ = rr at *
  have hl1 : (m.with' (m.dG id a (m.partX a) (m.params (a+1+1+1+1+1) (m.nx (a+1+1+1+1) 3).toNat) [givenR] (((((m.params (a+1+1+1+1+1) (m.nx (a+1+1+1+1) 3).toNat).map encR).length : Nat) : Int) + 2 + m.nx ((a+1+1+1+1+1 + (m.nx (a+1+1+1+1) 3).toNat)+1) 2) 2 [⟨4, 0⟩, ⟨8, 1⟩] rr.1 0)).defs.length < 2^20 := hlen.2
  have hl2 : (m.with' (m.dG id a (m.partX a) (m.params (a+1+1+1+1+1) (m.nx (a+1+1+1+1) 3).toNat) [givenR] (((((m.params (a+1+1+1+1+1) (m.nx (a+1+1+1+1) 3).toNat).map encR).length : Nat) : Int) + 2 + m.nx ((a+1+1+1+1+1 + (m.nx (a+1+1+1+1) 3).toNat)+1) 2) 2 [⟨4, 0⟩, ⟨8, 1⟩] rr.1 0)).heads.length < 2^20 := hlen.1
  have hl3 : (m.with' (m.dG id a (m.partX a) (m.params (a+1+1+1+1+1) (m.nx (a+1+1+1+1) 3).toNat) [givenR] ((((m.params (a+1+1+1+1+1) (m.nx (a+1+1+1+1) 3).toNat).length : Nat) : Int) + 2 + m.nx ((a+1+1+1+1+1 + (m.nx (a+1+1+1+1) 3).toNat)+1) 2) 2 [⟨4, 0⟩, ⟨8, 1⟩] rr.1 0)).defs.length < 2^20 := hlen.2
  have hl4 : (m.with' (m.dG id a (m.partX a) (m.params (a+1+1+1+1+1) (m.nx (a+1+1+1+1) 3).toNat) [givenR] ((((m.params (a+1+1+1+1+1) (m.nx (a+1+1+1+1) 3).toNat).length : Nat) : Int) + 2 + m.nx ((a+1+1+1+1+1 + (m.nx (a+1+1+1+1) 3).toNat)+1) 2) 2 [⟨4, 0⟩, ⟨8, 1⟩] rr.1 0)).heads.length < 2^20 := hlen.1
  refine fn_ok hm Tryz.func110 (fun _ => false) [] hintDef (by kernel_rfl) ?_
  refine run ?_; repeat ((apply call_ok; first | exact (next_ok m _ _ _ _ _ _ (by omega) (by omega))); refine run ?_)
  iterate 2
    refine Idx.mapG (f := it) (m.nx (a+1+1) 4).toNat (m.budget (a+1+1)) (by omega) (m.budget_at (a+1+1)) rfl ?_
    refine run ?_
  refine run ?_; repeat ((apply call_ok; first | exact (nextR m (m.dG id a (m.partX a) [] [] 0 0 [] [] 0) [] _ _ _ _ _ _ (by omega) (by omega)) | exact (nextR m (m.dG id a (m.partX a) [] [] 0 0 [] [] 0) [] _ _ _ _ _ _ (by omega) (by omega))); refine run ?_)
  refine LoopS.mk ⟨[], HeadS.inv (fun r : PR => r.v = m.nx (a+1+1+1+1) 3 - r.k ∧ r.k ≤ (m.nx (a+1+1+1+1) 3).toNat ∧ r.acc = (m.params (a+1+1+1+1+1) r.k).map encR)
    (fun r => ⟨[(7, it r.v)], [(1000, encMkR (m.with' (m.dG id a (m.partX a) [] [] 0 0 [] [] 0)) 32 (a+1+1+1+1+1 + r.k) s l p d r.acc.length)], [(32, ⟨3, true, r.acc⟩)]⟩)
    (fun r => (m.nx (a+1+1+1+1) 3).toNat - r.k) ⟨m.nx (a+1+1+1+1) 3, 0, []⟩ ⟨by simp, Nat.zero_le _, rfl⟩ ?_ ?_ ?_ ?_ ?_⟩
  · repeat' (first | exact trivial | exact rfl | refine ⟨?_, ?_⟩ | refine ⟨?_, ?_, ?_⟩)
  · kernel_rfl
  · kernel_rfl
  · intro r; exact ⟨rfl, rfl, rfl⟩
  rintro ⟨v, k, acc⟩ ⟨w1, w2, w3⟩
  dsimp only at w1 w2 w3 ⊢
  refine Br.mk (fun hb => ?_) (fun hb => ?_)
  · have hb1 : 0 < v := by simpa using hb
    have hl : acc.length = k := by rw [w3]; simp [m.params_len]
    have bk := m.nx_bd (a+1+1+1+1+1 + k) (n := 4) (by omega)
    refine run ?_; repeat ((apply call_ok; first | exact (nextR m (m.dG id a (m.partX a) [] [] 0 0 [] [] 0) _ _ _ _ _ _ _ (by omega) (by omega))); refine run ?_)
    iterate 2
      refine Idx.mapG (f := encR) (m.nx (a+1+1+1+1+1 + k) 4).toNat (m.rng (a+1+1+1+1+1 + k)) (by omega) (m.rng_at _) rfl ?_
      refine run ?_
    refine ⟨⟨⟨v - 1, k + 1, acc ++ [encR (m.rng (a+1+1+1+1+1 + k))]⟩, by dsimp only; omega, by dsimp only; omega, by rw [w3]; simp [Mk.params]⟩, by dsimp only; omega, ?_⟩
    repeat' (first | exact trivial | exact rfl | refine ⟨?_, ?_⟩ | refine ⟨?_, ?_, ?_⟩)
  · have hb1 : k = (m.nx (a+1+1+1+1) 3).toNat := by simp at hb; omega
    subst hb1
    subst w3
    refine run ?_; repeat ((apply call_ok; first | exact (nextD m (m.dG id a (m.partX a) (m.params (a+1+1+1+1+1) (m.nx (a+1+1+1+1) 3).toNat) [] 0 0 [] [] 0) _ _ _ _ _ _ (by omega) (by omega)) | exact (nextD m (m.dG id a (m.partX a) (m.params (a+1+1+1+1+1) (m.nx (a+1+1+1+1) 3).toNat) [givenR] 0 0 [] [] 0) _ _ _ _ _ _ (by omega) (by omega)) | exact (nextA m (m.dG id a (m.partX a) (m.params (a+1+1+1+1+1) (m.nx (a+1+1+1+1) 3).toNat) [givenR] (((((m.params (a+1+1+1+1+1) (m.nx (a+1+1+1+1) 3).toNat).map encR).length : Nat) : Int) + 2 + m.nx ((a+1+1+1+1+1 + (m.nx (a+1+1+1+1) 3).toNat)+1) 2) 2 [] [] 0) [encA ⟨4, 0⟩] _ _ _ _ _ _ (by omega) (by omega)) | exact (nextD m (m.dG id a (m.partX a) (m.params (a+1+1+1+1+1) (m.nx (a+1+1+1+1) 3).toNat) [givenR] (((((m.params (a+1+1+1+1+1) (m.nx (a+1+1+1+1) 3).toNat).map encR).length : Nat) : Int) + 2 + m.nx ((a+1+1+1+1+1 + (m.nx (a+1+1+1+1) 3).toNat)+1) 2) 2 [⟨4, 0⟩, ⟨8, 1⟩] [] 0) _ _ _ _ _ _ (by omega) (by omega)) | exact (r1) | exact (site_ok (m.with' (m.dG id a (m.partX a) (m.params (a+1+1+1+1+1) (m.nx (a+1+1+1+1) 3).toNat) [givenR] (((((m.params (a+1+1+1+1+1) (m.nx (a+1+1+1+1) 3).toNat).map encR).length : Nat) : Int) + 2 + m.nx ((a+1+1+1+1+1 + (m.nx (a+1+1+1+1) 3).toNat)+1) 2) 2 [⟨4, 0⟩, ⟨8, 1⟩] rr.1 0)) _ _ _ _ _ (by omega)) | exact (head_ok (m.dG id a (m.partX a) (m.params (a+1+1+1+1+1) (m.nx (a+1+1+1+1) 3).toNat) [givenR] (((((m.params (a+1+1+1+1+1) (m.nx (a+1+1+1+1) 3).toNat).map encR).length : Nat) : Int) + 2 + m.nx ((a+1+1+1+1+1 + (m.nx (a+1+1+1+1) 3).toNat)+1) 2) 2 [⟨4, 0⟩, ⟨8, 1⟩] rr.1 (rr.2.s+1 : Nat)))); refine run ?_)
    exact Done.mk rfl rfl
theorem def_f012 (m : Mk) (id : Int) (a s l p d : Nat) (fine : m.Core) (hid : 0 ≤ id ∧ id < 100) (h : a + 5000 < 2^58) (h' : s + 300 < 2^58) (hp : p < 2^40) (hlen : m.heads.length < 2^20 ∧ m.defs.length < 2^20)
    (t0 : (m.nx (a+1+1+1) 2 == 0) = false) (t1 : (m.nx (a+1+1+1+1+1 + (m.nx (a+1+1+1+1) 3).toNat) 4 == 0) = true) (hX : 0 < m.nx (a+1+1+1+1) 3) (t2 : (m.nx ((a+1+1+1+1+1 + (m.nx (a+1+1+1+1) 3).toNat)+1+1) 2 == 0) = false) : CallsA Tryz.prog 110 [mp, it id, bo false] (ctM m a s l p d) (.tup [])
    (ctEnd m (m.dG id a (m.partX a) (m.params (a+1+1+1+1+1) (m.nx (a+1+1+1+1) 3).toNat) [givenR] (((((m.params (a+1+1+1+1+1) (m.nx (a+1+1+1+1) 3).toNat).map encR).length : Nat) : Int) + 2 + m.nx ((a+1+1+1+1+1 + (m.nx (a+1+1+1+1) 3).toNat)+1) 2) 2 [⟨4, 0⟩] ((m.with' (m.dG id a (m.partX a) (m.params (a+1+1+1+1+1) (m.nx (a+1+1+1+1) 3).toNat) [givenR] (((((m.params (a+1+1+1+1+1) (m.nx (a+1+1+1+1) 3).toNat).map encR).length : Nat) : Int) + 2 + m.nx ((a+1+1+1+1+1 + (m.nx (a+1+1+1+1) 3).toNat)+1) 2) 2 [⟨4, 0⟩] [] 0)).stmts 2 (1 + m.nx ((a+1+1+1+1+1 + (m.nx (a+1+1+1+1) 3).toNat)+1+1+1) 5).toNat ⟨((a+1+1+1+1+1 + (m.nx (a+1+1+1+1) 3).toNat)+1+1+1)+1, s, 9, 0⟩).1 (((m.with' (m.dG id a (m.partX a) (m.params (a+1+1+1+1+1) (m.nx (a+1+1+1+1) 3).toNat) [givenR] (((((m.params (a+1+1+1+1+1) (m.nx (a+1+1+1+1) 3).toNat).map encR).length : Nat) : Int) + 2 + m.nx ((a+1+1+1+1+1 + (m.nx (a+1+1+1+1) 3).toNat)+1) 2) 2 [⟨4, 0⟩] [] 0)).stmts 2 (1 + m.nx ((a+1+1+1+1+1 + (m.nx (a+1+1+1+1) 3).toNat)+1+1+1) 5).toNat ⟨((a+1+1+1+1+1 + (m.nx (a+1+1+1+1) 3).toNat)+1+1+1)+1, s, 9, 0⟩).2.s+1 : Nat)) ((m.with' (m.dG id a (m.partX a) (m.params (a+1+1+1+1+1) (m.nx (a+1+1+1+1) 3).toNat) [givenR] (((((m.params (a+1+1+1+1+1) (m.nx (a+1+1+1+1) 3).toNat).map encR).length : Nat) : Int) + 2 + m.nx ((a+1+1+1+1+1 + (m.nx (a+1+1+1+1) 3).toNat)+1) 2) 2 [⟨4, 0⟩] [] 0)).stmts 2 (1 + m.nx ((a+1+1+1+1+1 + (m.nx (a+1+1+1+1) 3).toNat)+1+1+1) 5).toNat ⟨((a+1+1+1+1+1 + (m.nx (a+1+1+1+1) 3).toNat)+1+1+1)+1, s, 9, 0⟩).2.a (((m.with' (m.dG id a (m.partX a) (m.params (a+1+1+1+1+1) (m.nx (a+1+1+1+1) 3).toNat) [givenR] (((((m.params (a+1+1+1+1+1) (m.nx (a+1+1+1+1) 3).toNat).map encR).length : Nat) : Int) + 2 + m.nx ((a+1+1+1+1+1 + (m.nx (a+1+1+1+1) 3).toNat)+1) 2) 2 [⟨4, 0⟩] [] 0)).stmts 2 (1 + m.nx ((a+1+1+1+1+1 + (m.nx (a+1+1+1+1) 3).toNat)+1+1+1) 5).toNat ⟨((a+1+1+1+1+1 + (m.nx (a+1+1+1+1) 3).toNat)+1+1+1)+1, s, 9, 0⟩).2.s+1) ((m.with' (m.dG id a (m.partX a) (m.params (a+1+1+1+1+1) (m.nx (a+1+1+1+1) 3).toNat) [givenR] (((((m.params (a+1+1+1+1+1) (m.nx (a+1+1+1+1) 3).toNat).map encR).length : Nat) : Int) + 2 + m.nx ((a+1+1+1+1+1 + (m.nx (a+1+1+1+1) 3).toNat)+1) 2) 2 [⟨4, 0⟩] [] 0)).stmts 2 (1 + m.nx ((a+1+1+1+1+1 + (m.nx (a+1+1+1+1) 3).toNat)+1+1+1) 5).toNat ⟨((a+1+1+1+1+1 + (m.nx (a+1+1+1+1) 3).toNat)+1+1+1)+1, s, 9, 0⟩).2.l p ((m.with' (m.dG id a (m.partX a) (m.params (a+1+1+1+1+1) (m.nx (a+1+1+1+1) 3).toNat) [givenR] (((((m.params (a+1+1+1+1+1) (m.nx (a+1+1+1+1) 3).toNat).map encR).length : Nat) : Int) + 2 + m.nx ((a+1+1+1+1+1 + (m.nx (a+1+1+1+1) 3).toNat)+1) 2) 2 [⟨4, 0⟩] [] 0)).stmts 2 (1 + m.nx ((a+1+1+1+1+1 + (m.nx (a+1+1+1+1) 3).toNat)+1+1+1) 5).toNat ⟨((a+1+1+1+1+1 + (m.nx (a+1+1+1+1) 3).toNat)+1+1+1)+1, s, 9, 0⟩).2.d) := by
  have bi : 0 ≤ id.tmod 8 ∧ id.tmod 8 < 8 := ⟨Int.tmod_nonneg _ hid.1, Int.tmod_lt_of_pos _ (by omega)⟩
  have n0 := m.nx_bd a (n := 2) (by omega)
  have n1 := m.nx_bd (a+1) (n := 6) (by omega)
  have n2 := m.nx_bd (a+1+1) (n := 4) (by omega)
  have hcalm := fine.calm
  have bX := m.nx_bd (a+1+1+1+1) (n := 3) (by omega)
  have bv := m.nx_bd ((a+1+1+1+1+1 + (m.nx (a+1+1+1+1) 3).toNat)+1) (n := 2) (by omega)
  have b5 := m.nx_bd ((a+1+1+1+1+1 + (m.nx (a+1+1+1+1) 3).toNat)+1+1+1) (n := 5) (by omega)
  have pl : (m.params (a+1+1+1+1+1) (m.nx (a+1+1+1+1) 3).toNat).length = (m.nx (a+1+1+1+1) 3).toNat := m.params_len _ _
  have pl2 : ((m.params (a+1+1+1+1+1) (m.nx (a+1+1+1+1) 3).toNat).map encR).length = (m.nx (a+1+1+1+1) 3).toNat := by rw [List.length_map]; exact pl
  have pl2a : ((m.with' (m.dG id a (m.partX a) (m.params (a+1+1+1+1+1) (m.nx (a+1+1+1+1) 3).toNat) [] 0 0 [] [] 0)).D.params.map encR).length = (m.nx (a+1+1+1+1) 3).toNat := pl2
  have pl2b : ((m.with' (m.dG id a (m.partX a) (m.params (a+1+1+1+1+1) (m.nx (a+1+1+1+1) 3).toNat) [givenR] 0 0 [] [] 0)).D.params.map encR).length = (m.nx (a+1+1+1+1) 3).toNat := pl2
  have pl3 : decide (((((m.params (a+1+1+1+1+1) (m.nx (a+1+1+1+1) 3).toNat).map encR).length : Nat) : Int) > 0) = true := by rw [pl2]; simp; omega
  have k1 : ((1 + m.nx ((a+1+1+1+1+1 + (m.nx (a+1+1+1+1) 3).toNat)+1+1+1) 5).toNat : Int) = 1 + m.nx ((a+1+1+1+1+1 + (m.nx (a+1+1+1+1) 3).toNat)+1+1+1) 5 := by omega
  have fineD : (m.with' (m.dG id a (m.partX a) (m.params (a+1+1+1+1+1) (m.nx (a+1+1+1+1) 3).toNat) [givenR] (((((m.params (a+1+1+1+1+1) (m.nx (a+1+1+1+1) 3).toNat).map encR).length : Nat) : Int) + 2 + m.nx ((a+1+1+1+1+1 + (m.nx (a+1+1+1+1) 3).toNat)+1) 2) 2 [⟨4, 0⟩] [] 0)).Fine := Mk.with_fine fine (by simp only [Mk.dG]; omega) (by simp only [Mk.dG]; omega) (by simp [Mk.dG]) (by simp [Mk.dG])
  have r1 := stmts_ok _ fineD (1 + m.nx ((a+1+1+1+1+1 + (m.nx (a+1+1+1+1) 3).toNat)+1+1+1) 5).toNat (by omega) 2 (((a+1+1+1+1+1 + (m.nx (a+1+1+1+1) 3).toNat)+1+1+1)+1) s 9 p 0 (by omega) (by omega) (by omega) (by omega) (by omega) (by omega)
  rw [k1] at r1
  have us := (m.with' (m.dG id a (m.partX a) (m.params (a+1+1+1+1+1) (m.nx (a+1+1+1+1) 3).toNat) [givenR] (((((m.params (a+1+1+1+1+1) (m.nx (a+1+1+1+1) 3).toNat).map encR).length : Nat) : Int) + 2 + m.nx ((a+1+1+1+1+1 + (m.nx (a+1+1+1+1) 3).toNat)+1) 2) 2 [⟨4, 0⟩] [] 0)).stmts_use fineD.heads 2 (1 + m.nx ((a+1+1+1+1+1 + (m.nx (a+1+1+1+1) 3).toNat)+1+1+1) 5).toNat ⟨((a+1+1+1+1+1 + (m.nx (a+1+1+1+1) 3).toNat)+1+1+1)+1, s, 9, 0⟩
  simp only [Less] at us
  rw [ctEnd_eq]
  generalize hR : (m.with' (m.dG id a (m.partX a) (m.params (a+1+1+1+1+1) (m.nx (a+1+1+1+1) 3).toNat) [givenR] (((((m.params (a+1+1+1+1+1) (m.nx (a+1+1+1+1) 3).toNat).map encR).length : Nat) : Int) + 2 + m.nx ((a+1+1+1+1+1 + (m.nx (a+1+1+1+1) 3).toNat)+1) 2) 2 [⟨4, 0⟩] [] 0)).stmts 2 (1 + m.nx ((a+1+1+1+1+1 + (m.nx (a+1+1+1+1) 3).toNat)+1+1+1) 5).toNat ⟨((a+1+1+1+1+1 + (m.nx (a+1+1+1+1) 3).toNat)+1+1+1)+1, s, 9, 0⟩ = rr at *
  have hl1 : (m.with' (m.dG id a (m.partX a) (m.params (a+1+1+1+1+1) (m.nx (a+1+1+1+1) 3).toNat) [givenR] (((((m.params (a+1+1+1+1+1) (m.nx (a+1+1+1+1) 3).toNat).map encR).length : Nat) : Int) + 2 + m.nx ((a+1+1+1+1+1 + (m.nx (a+1+1+1+1) 3).toNat)+1) 2) 2 [⟨4, 0⟩] rr.1 0)).defs.length < 2^20 := hlen.2
  have hl2 : (m.with' (m.dG id a (m.partX a) (m.params (a+1+1+1+1+1) (m.nx (a+1+1+1+1) 3).toNat) [givenR] (((((m.params (a+1+1+1+1+1) (m.nx (a+1+1+1+1) 3).toNat).map encR).length : Nat) : Int) + 2 + m.nx ((a+1+1+1+1+1 + (m.nx (a+1+1+1+1) 3).toNat)+1) 2) 2 [⟨4, 0⟩] rr.1 0)).heads.length < 2^20 := hlen.1
  have hl3 : (m.with' (m.dG id a (m.partX a) (m.params (a+1+1+1+1+1) (m.nx (a+1+1+1+1) 3).toNat) [givenR] ((((m.params (a+1+1+1+1+1) (m.nx (a+1+1+1+1) 3).toNat).length : Nat) : Int) + 2 + m.nx ((a+1+1+1+1+1 + (m.nx (a+1+1+1+1) 3).toNat)+1) 2) 2 [⟨4, 0⟩] rr.1 0)).defs.length < 2^20 := hlen.2
  have hl4 : (m.with' (m.dG id a (m.partX a) (m.params (a+1+1+1+1+1) (m.nx (a+1+1+1+1) 3).toNat) [givenR] ((((m.params (a+1+1+1+1+1) (m.nx (a+1+1+1+1) 3).toNat).length : Nat) : Int) + 2 + m.nx ((a+1+1+1+1+1 + (m.nx (a+1+1+1+1) 3).toNat)+1) 2) 2 [⟨4, 0⟩] rr.1 0)).heads.length < 2^20 := hlen.1
  refine fn_ok hm Tryz.func110 (fun _ => false) [] hintDef (by kernel_rfl) ?_
  refine run ?_; repeat ((apply call_ok; first | exact (next_ok m _ _ _ _ _ _ (by omega) (by omega))); refine run ?_)
  iterate 2
    refine Idx.mapG (f := it) (m.nx (a+1+1) 4).toNat (m.budget (a+1+1)) (by omega) (m.budget_at (a+1+1)) rfl ?_
    refine run ?_
  refine run ?_; repeat ((apply call_ok; first | exact (nextR m (m.dG id a (m.partX a) [] [] 0 0 [] [] 0) [] _ _ _ _ _ _ (by omega) (by omega)) | exact (nextR m (m.dG id a (m.partX a) [] [] 0 0 [] [] 0) [] _ _ _ _ _ _ (by omega) (by omega))); refine run ?_)
  refine LoopS.mk ⟨[], HeadS.inv (fun r : PR => r.v = m.nx (a+1+1+1+1) 3 - r.k ∧ r.k ≤ (m.nx (a+1+1+1+1) 3).toNat ∧ r.acc = (m.params (a+1+1+1+1+1) r.k).map encR)
    (fun r => ⟨[(7, it r.v)], [(1000, encMkR (m.with' (m.dG id a (m.partX a) [] [] 0 0 [] [] 0)) 32 (a+1+1+1+1+1 + r.k) s l p d r.acc.length)], [(32, ⟨3, true, r.acc⟩)]⟩)
    (fun r => (m.nx (a+1+1+1+1) 3).toNat - r.k) ⟨m.nx (a+1+1+1+1) 3, 0, []⟩ ⟨by simp, Nat.zero_le _, rfl⟩ ?_ ?_ ?_ ?_ ?_⟩
  · repeat' (first | exact trivial | exact rfl | refine ⟨?_, ?_⟩ | refine ⟨?_, ?_, ?_⟩)
  · kernel_rfl
  · kernel_rfl
  · intro r; exact ⟨rfl, rfl, rfl⟩
  rintro ⟨v, k, acc⟩ ⟨w1, w2, w3⟩
  dsimp only at w1 w2 w3 ⊢
  refine Br.mk (fun hb => ?_) (fun hb => ?_)
  · have hb1 : 0 < v := by simpa using hb
    have hl : acc.length = k := by rw [w3]; simp [m.params_len]
    have bk := m.nx_bd (a+1+1+1+1+1 + k) (n := 4) (by omega)
    refine run ?_; repeat ((apply call_ok; first | exact (nextR m (m.dG id a (m.partX a) [] [] 0 0 [] [] 0) _ _ _ _ _ _ _ (by omega) (by omega))); refine run ?_)
    iterate 2
      refine Idx.mapG (f := encR) (m.nx (a+1+1+1+1+1 + k) 4).toNat (m.rng (a+1+1+1+1+1 + k)) (by omega) (m.rng_at _) rfl ?_
      refine run ?_
    refine ⟨⟨⟨v - 1, k + 1, acc ++ [encR (m.rng (a+1+1+1+1+1 + k))]⟩, by dsimp only; omega, by dsimp only; omega, by rw [w3]; simp [Mk.params]⟩, by dsimp only; omega, ?_⟩
    repeat' (first | exact trivial | exact rfl | refine ⟨?_, ?_⟩ | refine ⟨?_, ?_, ?_⟩)
  · have hb1 : k = (m.nx (a+1+1+1+1) 3).toNat := by simp at hb; omega
    subst hb1
    subst w3
    refine run ?_; repeat ((apply call_ok; first | exact (nextD m (m.dG id a (m.partX a) (m.params (a+1+1+1+1+1) (m.nx (a+1+1+1+1) 3).toNat) [] 0 0 [] [] 0) _ _ _ _ _ _ (by omega) (by omega)) | exact (nextD m (m.dG id a (m.partX a) (m.params (a+1+1+1+1+1) (m.nx (a+1+1+1+1) 3).toNat) [givenR] 0 0 [] [] 0) _ _ _ _ _ _ (by omega) (by omega)) | exact (nextA m (m.dG id a (m.partX a) (m.params (a+1+1+1+1+1) (m.nx (a+1+1+1+1) 3).toNat) [givenR] (((((m.params (a+1+1+1+1+1) (m.nx (a+1+1+1+1) 3).toNat).map encR).length : Nat) : Int) + 2 + m.nx ((a+1+1+1+1+1 + (m.nx (a+1+1+1+1) 3).toNat)+1) 2) 2 [] [] 0) [encA ⟨4, 0⟩] _ _ _ _ _ _ (by omega) (by omega)) | exact (nextD m (m.dG id a (m.partX a) (m.params (a+1+1+1+1+1) (m.nx (a+1+1+1+1) 3).toNat) [givenR] (((((m.params (a+1+1+1+1+1) (m.nx (a+1+1+1+1) 3).toNat).map encR).length : Nat) : Int) + 2 + m.nx ((a+1+1+1+1+1 + (m.nx (a+1+1+1+1) 3).toNat)+1) 2) 2 [⟨4, 0⟩] [] 0) _ _ _ _ _ _ (by omega) (by omega)) | exact (r1) | exact (site_ok (m.with' (m.dG id a (m.partX a) (m.params (a+1+1+1+1+1) (m.nx (a+1+1+1+1) 3).toNat) [givenR] (((((m.params (a+1+1+1+1+1) (m.nx (a+1+1+1+1) 3).toNat).map encR).length : Nat) : Int) + 2 + m.nx ((a+1+1+1+1+1 + (m.nx (a+1+1+1+1) 3).toNat)+1) 2) 2 [⟨4, 0⟩] rr.1 0)) _ _ _ _ _ (by omega)) | exact (head_ok (m.dG id a (m.partX a) (m.params (a+1+1+1+1+1) (m.nx (a+1+1+1+1) 3).toNat) [givenR] (((((m.params (a+1+1+1+1+1) (m.nx (a+1+1+1+1) 3).toNat).map encR).length : Nat) : Int) + 2 + m.nx ((a+1+1+1+1+1 + (m.nx (a+1+1+1+1) 3).toNat)+1) 2) 2 [⟨4, 0⟩] rr.1 (rr.2.s+1 : Nat)))); refine run ?_)
    exact Done.mk rfl rfl
theorem def_t00 (m : Mk) (id : Int) (a s l p d : Nat) (fine : m.Core) (hid : 0 ≤ id ∧ id < 100) (h : a + 5000 < 2^58) (h' : s + 300 < 2^58) (hp : p < 2^40) (hlen : m.heads.length < 2^20 ∧ m.defs.length < 2^20)
    (t0 : (m.nx (a+1+1+1) 2 == 0) = false) (t1 : (m.nx (a+1+1+1+1+1 + 0) 4 == 0) = false) : CallsA Tryz.prog 110 [mp, it id, bo true] (ctM m a s l p d) (.tup [])
    (ctEnd m (m.dG id a (m.partX a) (m.params (a+1+1+1+1+1) 0) [] (((((m.params (a+1+1+1+1+1) 0).map encR).length : Nat) : Int) + 2 + m.nx ((a+1+1+1+1+1 + 0)+1) 2) 2 [⟨4, 0⟩] ((m.with' (m.dG id a (m.partX a) (m.params (a+1+1+1+1+1) 0) [] (((((m.params (a+1+1+1+1+1) 0).map encR).length : Nat) : Int) + 2 + m.nx ((a+1+1+1+1+1 + 0)+1) 2) 2 [⟨4, 0⟩] [] 0)).stmts 2 (1 + m.nx ((a+1+1+1+1+1 + 0)+1+1) 5).toNat ⟨((a+1+1+1+1+1 + 0)+1+1)+1, s, 9, 0⟩).1 (((m.with' (m.dG id a (m.partX a) (m.params (a+1+1+1+1+1) 0) [] (((((m.params (a+1+1+1+1+1) 0).map encR).length : Nat) : Int) + 2 + m.nx ((a+1+1+1+1+1 + 0)+1) 2) 2 [⟨4, 0⟩] [] 0)).stmts 2 (1 + m.nx ((a+1+1+1+1+1 + 0)+1+1) 5).toNat ⟨((a+1+1+1+1+1 + 0)+1+1)+1, s, 9, 0⟩).2.s+1 : Nat)) ((m.with' (m.dG id a (m.partX a) (m.params (a+1+1+1+1+1) 0) [] (((((m.params (a+1+1+1+1+1) 0).map encR).length : Nat) : Int) + 2 + m.nx ((a+1+1+1+1+1 + 0)+1) 2) 2 [⟨4, 0⟩] [] 0)).stmts 2 (1 + m.nx ((a+1+1+1+1+1 + 0)+1+1) 5).toNat ⟨((a+1+1+1+1+1 + 0)+1+1)+1, s, 9, 0⟩).2.a (((m.with' (m.dG id a (m.partX a) (m.params (a+1+1+1+1+1) 0) [] (((((m.params (a+1+1+1+1+1) 0).map encR).length : Nat) : Int) + 2 + m.nx ((a+1+1+1+1+1 + 0)+1) 2) 2 [⟨4, 0⟩] [] 0)).stmts 2 (1 + m.nx ((a+1+1+1+1+1 + 0)+1+1) 5).toNat ⟨((a+1+1+1+1+1 + 0)+1+1)+1, s, 9, 0⟩).2.s+1) ((m.with' (m.dG id a (m.partX a) (m.params (a+1+1+1+1+1) 0) [] (((((m.params (a+1+1+1+1+1) 0).map encR).length : Nat) : Int) + 2 + m.nx ((a+1+1+1+1+1 + 0)+1) 2) 2 [⟨4, 0⟩] [] 0)).stmts 2 (1 + m.nx ((a+1+1+1+1+1 + 0)+1+1) 5).toNat ⟨((a+1+1+1+1+1 + 0)+1+1)+1, s, 9, 0⟩).2.l p ((m.with' (m.dG id a (m.partX a) (m.params (a+1+1+1+1+1) 0) [] (((((m.params (a+1+1+1+1+1) 0).map encR).length : Nat) : Int) + 2 + m.nx ((a+1+1+1+1+1 + 0)+1) 2) 2 [⟨4, 0⟩] [] 0)).stmts 2 (1 + m.nx ((a+1+1+1+1+1 + 0)+1+1) 5).toNat ⟨((a+1+1+1+1+1 + 0)+1+1)+1, s, 9, 0⟩).2.d) := by
  have bi : 0 ≤ id.tmod 8 ∧ id.tmod 8 < 8 := ⟨Int.tmod_nonneg _ hid.1, Int.tmod_lt_of_pos _ (by omega)⟩
  have n0 := m.nx_bd a (n := 2) (by omega)
  have n1 := m.nx_bd (a+1) (n := 6) (by omega)
  have n2 := m.nx_bd (a+1+1) (n := 4) (by omega)
  have hcalm := fine.calm
  have bX := m.nx_bd (a+1+1+1+1) (n := 3) (by omega)
  have bv := m.nx_bd ((a+1+1+1+1+1 + 0)+1) (n := 2) (by omega)
  have b5 := m.nx_bd ((a+1+1+1+1+1 + 0)+1+1) (n := 5) (by omega)
  have pl : (m.params (a+1+1+1+1+1) 0).length = 0 := m.params_len _ _
  have pl2 : ((m.params (a+1+1+1+1+1) 0).map encR).length = 0 := by rw [List.length_map]; exact pl
  have pl2a : ((m.with' (m.dG id a (m.partX a) (m.params (a+1+1+1+1+1) 0) [] 0 0 [] [] 0)).D.params.map encR).length = 0 := pl2
  have pl2b : ((m.with' (m.dG id a (m.partX a) (m.params (a+1+1+1+1+1) 0) [] 0 0 [] [] 0)).D.params.map encR).length = 0 := pl2
  have pl3 : decide (((((m.params (a+1+1+1+1+1) 0).map encR).length : Nat) : Int) > 0) = false := by rw [pl2]; rfl
  have k1 : ((1 + m.nx ((a+1+1+1+1+1 + 0)+1+1) 5).toNat : Int) = 1 + m.nx ((a+1+1+1+1+1 + 0)+1+1) 5 := by omega
  have fineD : (m.with' (m.dG id a (m.partX a) (m.params (a+1+1+1+1+1) 0) [] (((((m.params (a+1+1+1+1+1) 0).map encR).length : Nat) : Int) + 2 + m.nx ((a+1+1+1+1+1 + 0)+1) 2) 2 [⟨4, 0⟩] [] 0)).Fine := Mk.with_fine fine (by simp only [Mk.dG]; omega) (by simp only [Mk.dG]; omega) (by simp [Mk.dG]) (by simp [Mk.dG])
  have r1 := stmts_ok _ fineD (1 + m.nx ((a+1+1+1+1+1 + 0)+1+1) 5).toNat (by omega) 2 (((a+1+1+1+1+1 + 0)+1+1)+1) s 9 p 0 (by omega) (by omega) (by omega) (by omega) (by omega) (by omega)
  rw [k1] at r1
  have us := (m.with' (m.dG id a (m.partX a) (m.params (a+1+1+1+1+1) 0) [] (((((m.params (a+1+1+1+1+1) 0).map encR).length : Nat) : Int) + 2 + m.nx ((a+1+1+1+1+1 + 0)+1) 2) 2 [⟨4, 0⟩] [] 0)).stmts_use fineD.heads 2 (1 + m.nx ((a+1+1+1+1+1 + 0)+1+1) 5).toNat ⟨((a+1+1+1+1+1 + 0)+1+1)+1, s, 9, 0⟩
  simp only [Less] at us
  rw [ctEnd_eq]
  generalize hR : (m.with' (m.dG id a (m.partX a) (m.params (a+1+1+1+1+1) 0) [] (((((m.params (a+1+1+1+1+1) 0).map encR).length : Nat) : Int) + 2 + m.nx ((a+1+1+1+1+1 + 0)+1) 2) 2 [⟨4, 0⟩] [] 0)).stmts 2 (1 + m.nx ((a+1+1+1+1+1 + 0)+1+1) 5).toNat ⟨((a+1+1+1+1+1 + 0)+1+1)+1, s, 9, 0⟩ = rr at *
  have hl1 : (m.with' (m.dG id a (m.partX a) (m.params (a+1+1+1+1+1) 0) [] (((((m.params (a+1+1+1+1+1) 0).map encR).length : Nat) : Int) + 2 + m.nx ((a+1+1+1+1+1 + 0)+1) 2) 2 [⟨4, 0⟩] rr.1 0)).defs.length < 2^20 := hlen.2
  have hl2 : (m.with' (m.dG id a (m.partX a) (m.params (a+1+1+1+1+1) 0) [] (((((m.params (a+1+1+1+1+1) 0).map encR).length : Nat) : Int) + 2 + m.nx ((a+1+1+1+1+1 + 0)+1) 2) 2 [⟨4, 0⟩] rr.1 0)).heads.length < 2^20 := hlen.1
  have hl3 : (m.with' (m.dG id a (m.partX a) (m.params (a+1+1+1+1+1) 0) [] ((((m.params (a+1+1+1+1+1) 0).length : Nat) : Int) + 2 + m.nx ((a+1+1+1+1+1 + 0)+1) 2) 2 [⟨4, 0⟩] rr.1 0)).defs.length < 2^20 := hlen.2
  have hl4 : (m.with' (m.dG id a (m.partX a) (m.params (a+1+1+1+1+1) 0) [] ((((m.params (a+1+1+1+1+1) 0).length : Nat) : Int) + 2 + m.nx ((a+1+1+1+1+1 + 0)+1) 2) 2 [⟨4, 0⟩] rr.1 0)).heads.length < 2^20 := hlen.1
  have hl5 : (m.with' (m.dG id a (m.partX a) (m.params (a+1+1+1+1+1) 0) [] ((((m.params (a+1+1+1+1+1) 0).length : Nat) : Int) + 2 + m.nx (a + 5 + 1) 2) 2 [⟨4, 0⟩] rr.1 0)).defs.length < 2^20 := hlen.2
  have hl6 : (m.with' (m.dG id a (m.partX a) (m.params (a+1+1+1+1+1) 0) [] ((((m.params (a+1+1+1+1+1) 0).length : Nat) : Int) + 2 + m.nx (a + 5 + 1) 2) 2 [⟨4, 0⟩] rr.1 0)).heads.length < 2^20 := hlen.1
  refine fn_ok hm Tryz.func110 (fun _ => false) [] hintDef (by kernel_rfl) ?_
  refine run ?_; repeat ((apply call_ok; first | exact (next_ok m _ _ _ _ _ _ (by omega) (by omega))); refine run ?_)
  iterate 2
    refine Idx.mapG (f := it) (m.nx (a+1+1) 4).toNat (m.budget (a+1+1)) (by omega) (m.budget_at (a+1+1)) rfl ?_
    refine run ?_
  refine run ?_; repeat ((apply call_ok; first | exact (nextR m (m.dG id a (m.partX a) [] [] 0 0 [] [] 0) [] _ _ _ _ _ _ (by omega) (by omega)) | exact (nextR m (m.dG id a (m.partX a) [] [] 0 0 [] [] 0) [] _ _ _ _ _ _ (by omega) (by omega))); refine run ?_)
  refine LoopS.mk ⟨[], HeadS.inv (fun r : PR => r.v = m.nx (a+1+1+1+1) 3 - r.k ∧ r.k ≤ 0 ∧ r.acc = (m.params (a+1+1+1+1+1) r.k).map encR)
    (fun r => ⟨[(7, it r.v)], [(1000, encMkR (m.with' (m.dG id a (m.partX a) [] [] 0 0 [] [] 0)) 32 (a+1+1+1+1+1 + r.k) s l p d r.acc.length)], [(32, ⟨3, true, r.acc⟩)]⟩)
    (fun r => 0 - r.k) ⟨m.nx (a+1+1+1+1) 3, 0, []⟩ ⟨by simp, Nat.zero_le _, rfl⟩ ?_ ?_ ?_ ?_ ?_⟩
  · repeat' (first | exact trivial | exact rfl | refine ⟨?_, ?_⟩ | refine ⟨?_, ?_, ?_⟩)
  · kernel_rfl
  · kernel_rfl
  · intro r; exact ⟨rfl, rfl, rfl⟩
  rintro ⟨v, k, acc⟩ ⟨w1, w2, w3⟩
  dsimp only at w1 w2 w3 ⊢
  have hb1 : k = 0 := by omega
  subst hb1
  subst w3
  refine Br.mk (fun hb => ?_) (fun hb => ?_)
  all_goals
    refine run ?_; repeat ((apply call_ok; first | exact (nextD m (m.dG id a (m.partX a) (m.params (a+1+1+1+1+1) 0) [] 0 0 [] [] 0) _ _ _ _ _ _ (by omega) (by omega)) | exact (nextD m (m.dG id a (m.partX a) (m.params (a+1+1+1+1+1) 0) [] 0 0 [] [] 0) _ _ _ _ _ _ (by omega) (by omega)) | exact (nextA m (m.dG id a (m.partX a) (m.params (a+1+1+1+1+1) 0) [] (((((m.params (a+1+1+1+1+1) 0).map encR).length : Nat) : Int) + 2 + m.nx ((a+1+1+1+1+1 + 0)+1) 2) 2 [] [] 0) [encA ⟨4, 0⟩] _ _ _ _ _ _ (by omega) (by omega)) | exact (nextD m (m.dG id a (m.partX a) (m.params (a+1+1+1+1+1) 0) [] (((((m.params (a+1+1+1+1+1) 0).map encR).length : Nat) : Int) + 2 + m.nx ((a+1+1+1+1+1 + 0)+1) 2) 2 [⟨4, 0⟩] [] 0) _ _ _ _ _ _ (by omega) (by omega)) | exact (r1) | exact (site_ok (m.with' (m.dG id a (m.partX a) (m.params (a+1+1+1+1+1) 0) [] (((((m.params (a+1+1+1+1+1) 0).map encR).length : Nat) : Int) + 2 + m.nx ((a+1+1+1+1+1 + 0)+1) 2) 2 [⟨4, 0⟩] rr.1 0)) _ _ _ _ _ (by omega)) | exact (head_ok (m.dG id a (m.partX a) (m.params (a+1+1+1+1+1) 0) [] (((((m.params (a+1+1+1+1+1) 0).map encR).length : Nat) : Int) + 2 + m.nx ((a+1+1+1+1+1 + 0)+1) 2) 2 [⟨4, 0⟩] rr.1 (rr.2.s+1 : Nat)))); refine run ?_)
    exact Done.mk rfl rfl
theorem def_f000 (m : Mk) (id : Int) (a s l p d : Nat) (fine : m.Core) (hid : 0 ≤ id ∧ id < 100) (h : a + 5000 < 2^58) (h' : s + 300 < 2^58) (hp : p < 2^40) (hlen : m.heads.length < 2^20 ∧ m.defs.length < 2^20)
    (t0 : (m.nx (a+1+1+1) 2 == 0) = false) (t1 : (m.nx (a+1+1+1+1+1 + (m.nx (a+1+1+1+1) 3).toNat) 4 == 0) = false) (hX : m.nx (a+1+1+1+1) 3 = 0) : CallsA Tryz.prog 110 [mp, it id, bo false] (ctM m a s l p d) (.tup [])
    (ctEnd m (m.dG id a (m.partX a) (m.params (a+1+1+1+1+1) (m.nx (a+1+1+1+1) 3).toNat) [] (((((m.params (a+1+1+1+1+1) (m.nx (a+1+1+1+1) 3).toNat).map encR).length : Nat) : Int) + 2 + m.nx ((a+1+1+1+1+1 + (m.nx (a+1+1+1+1) 3).toNat)+1) 2) 2 [⟨4, 0⟩] ((m.with' (m.dG id a (m.partX a) (m.params (a+1+1+1+1+1) (m.nx (a+1+1+1+1) 3).toNat) [] (((((m.params (a+1+1+1+1+1) (m.nx (a+1+1+1+1) 3).toNat).map encR).length : Nat) : Int) + 2 + m.nx ((a+1+1+1+1+1 + (m.nx (a+1+1+1+1) 3).toNat)+1) 2) 2 [⟨4, 0⟩] [] 0)).stmts 2 (1 + m.nx ((a+1+1+1+1+1 + (m.nx (a+1+1+1+1) 3).toNat)+1+1) 5).toNat ⟨((a+1+1+1+1+1 + (m.nx (a+1+1+1+1) 3).toNat)+1+1)+1, s, 9, 0⟩).1 (((m.with' (m.dG id a (m.partX a) (m.params (a+1+1+1+1+1) (m.nx (a+1+1+1+1) 3).toNat) [] (((((m.params (a+1+1+1+1+1) (m.nx (a+1+1+1+1) 3).toNat).map encR).length : Nat) : Int) + 2 + m.nx ((a+1+1+1+1+1 + (m.nx (a+1+1+1+1) 3).toNat)+1) 2) 2 [⟨4, 0⟩] [] 0)).stmts 2 (1 + m.nx ((a+1+1+1+1+1 + (m.nx (a+1+1+1+1) 3).toNat)+1+1) 5).toNat ⟨((a+1+1+1+1+1 + (m.nx (a+1+1+1+1) 3).toNat)+1+1)+1, s, 9, 0⟩).2.s+1 : Nat)) ((m.with' (m.dG id a (m.partX a) (m.params (a+1+1+1+1+1) (m.nx (a+1+1+1+1) 3).toNat) [] (((((m.params (a+1+1+1+1+1) (m.nx (a+1+1+1+1) 3).toNat).map encR).length : Nat) : Int) + 2 + m.nx ((a+1+1+1+1+1 + (m.nx (a+1+1+1+1) 3).toNat)+1) 2) 2 [⟨4, 0⟩] [] 0)).stmts 2 (1 + m.nx ((a+1+1+1+1+1 + (m.nx (a+1+1+1+1) 3).toNat)+1+1) 5).toNat ⟨((a+1+1+1+1+1 + (m.nx (a+1+1+1+1) 3).toNat)+1+1)+1, s, 9, 0⟩).2.a (((m.with' (m.dG id a (m.partX a) (m.params (a+1+1+1+1+1) (m.nx (a+1+1+1+1) 3).toNat) [] (((((m.params (a+1+1+1+1+1) (m.nx (a+1+1+1+1) 3).toNat).map encR).length : Nat) : Int) + 2 + m.nx ((a+1+1+1+1+1 + (m.nx (a+1+1+1+1) 3).toNat)+1) 2) 2 [⟨4, 0⟩] [] 0)).stmts 2 (1 + m.nx ((a+1+1+1+1+1 + (m.nx (a+1+1+1+1) 3).toNat)+1+1) 5).toNat ⟨((a+1+1+1+1+1 + (m.nx (a+1+1+1+1) 3).toNat)+1+1)+1, s, 9, 0⟩).2.s+1) ((m.with' (m.dG id a (m.partX a) (m.params (a+1+1+1+1+1) (m.nx (a+1+1+1+1) 3).toNat) [] (((((m.params (a+1+1+1+1+1) (m.nx (a+1+1+1+1) 3).toNat).map encR).length : Nat) : Int) + 2 + m.nx ((a+1+1+1+1+1 + (m.nx (a+1+1+1+1) 3).toNat)+1) 2) 2 [⟨4, 0⟩] [] 0)).stmts 2 (1 + m.nx ((a+1+1+1+1+1 + (m.nx (a+1+1+1+1) 3).toNat)+1+1) 5).toNat ⟨((a+1+1+1+1+1 + (m.nx (a+1+1+1+1) 3).toNat)+1+1)+1, s, 9, 0⟩).2.l p ((m.with' (m.dG id a (m.partX a) (m.params (a+1+1+1+1+1) (m.nx (a+1+1+1+1) 3).toNat) [] (((((m.params (a+1+1+1+1+1) (m.nx (a+1+1+1+1) 3).toNat).map encR).length : Nat) : Int) + 2 + m.nx ((a+1+1+1+1+1 + (m.nx (a+1+1+1+1) 3).toNat)+1) 2) 2 [⟨4, 0⟩] [] 0)).stmts 2 (1 + m.nx ((a+1+1+1+1+1 + (m.nx (a+1+1+1+1) 3).toNat)+1+1) 5).toNat ⟨((a+1+1+1+1+1 + (m.nx (a+1+1+1+1) 3).toNat)+1+1)+1, s, 9, 0⟩).2.d) := by
  have bi : 0 ≤ id.tmod 8 ∧ id.tmod 8 < 8 := ⟨Int.tmod_nonneg _ hid.1, Int.tmod_lt_of_pos _ (by omega)⟩
  have n0 := m.nx_bd a (n := 2) (by omega)
  have n1 := m.nx_bd (a+1) (n := 6) (by omega)
  have n2 := m.nx_bd (a+1+1) (n := 4) (by omega)
  have hcalm := fine.calm
  have bX := m.nx_bd (a+1+1+1+1) (n := 3) (by omega)
  have bv := m.nx_bd ((a+1+1+1+1+1 + (m.nx (a+1+1+1+1) 3).toNat)+1) (n := 2) (by omega)
  have b5 := m.nx_bd ((a+1+1+1+1+1 + (m.nx (a+1+1+1+1) 3).toNat)+1+1) (n := 5) (by omega)
  have pl : (m.params (a+1+1+1+1+1) (m.nx (a+1+1+1+1) 3).toNat).length = (m.nx (a+1+1+1+1) 3).toNat := m.params_len _ _
  have pl2 : ((m.params (a+1+1+1+1+1) (m.nx (a+1+1+1+1) 3).toNat).map encR).length = (m.nx (a+1+1+1+1) 3).toNat := by rw [List.length_map]; exact pl
  have pl2a : ((m.with' (m.dG id a (m.partX a) (m.params (a+1+1+1+1+1) (m.nx (a+1+1+1+1) 3).toNat) [] 0 0 [] [] 0)).D.params.map encR).length = (m.nx (a+1+1+1+1) 3).toNat := pl2
  have pl2b : ((m.with' (m.dG id a (m.partX a) (m.params (a+1+1+1+1+1) (m.nx (a+1+1+1+1) 3).toNat) [] 0 0 [] [] 0)).D.params.map encR).length = (m.nx (a+1+1+1+1) 3).toNat := pl2
  have pl3 : decide ((((m.params (a+1+1+1+1+1) (m.nx (a+1+1+1+1) 3).toNat).map encR).length : Nat) > (0 : Int)) = false := by rw [pl2, hX]; rfl
  have k1 : ((1 + m.nx ((a+1+1+1+1+1 + (m.nx (a+1+1+1+1) 3).toNat)+1+1) 5).toNat : Int) = 1 + m.nx ((a+1+1+1+1+1 + (m.nx (a+1+1+1+1) 3).toNat)+1+1) 5 := by omega
  have fineD : (m.with' (m.dG id a (m.partX a) (m.params (a+1+1+1+1+1) (m.nx (a+1+1+1+1) 3).toNat) [] (((((m.params (a+1+1+1+1+1) (m.nx (a+1+1+1+1) 3).toNat).map encR).length : Nat) : Int) + 2 + m.nx ((a+1+1+1+1+1 + (m.nx (a+1+1+1+1) 3).toNat)+1) 2) 2 [⟨4, 0⟩] [] 0)).Fine := Mk.with_fine fine (by simp only [Mk.dG]; omega) (by simp only [Mk.dG]; omega) (by simp [Mk.dG]) (by simp [Mk.dG])
  have r1 := stmts_ok _ fineD (1 + m.nx ((a+1+1+1+1+1 + (m.nx (a+1+1+1+1) 3).toNat)+1+1) 5).toNat (by omega) 2 (((a+1+1+1+1+1 + (m.nx (a+1+1+1+1) 3).toNat)+1+1)+1) s 9 p 0 (by omega) (by omega) (by omega) (by omega) (by omega) (by omega)
  rw [k1] at r1
  have us := (m.with' (m.dG id a (m.partX a) (m.params (a+1+1+1+1+1) (m.nx (a+1+1+1+1) 3).toNat) [] (((((m.params (a+1+1+1+1+1) (m.nx (a+1+1+1+1) 3).toNat).map encR).length : Nat) : Int) + 2 + m.nx ((a+1+1+1+1+1 + (m.nx (a+1+1+1+1) 3).toNat)+1) 2) 2 [⟨4, 0⟩] [] 0)).stmts_use fineD.heads 2 (1 + m.nx ((a+1+1+1+1+1 + (m.nx (a+1+1+1+1) 3).toNat)+1+1) 5).toNat ⟨((a+1+1+1+1+1 + (m.nx (a+1+1+1+1) 3).toNat)+1+1)+1, s, 9, 0⟩
  simp only [Less] at us
  rw [ctEnd_eq]
  generalize hR : (m.with' (m.dG id a (m.partX a) (m.params (a+1+1+1+1+1) (m.nx (a+1+1+1+1) 3).toNat) [] (((((m.params (a+1+1+1+1+1) (m.nx (a+1+1+1+1) 3).toNat).map encR).length : Nat) : Int) + 2 + m.nx ((a+1+1+1+1+1 + (m.nx (a+1+1+1+1) 3).toNat)+1) 2) 2 [⟨4, 0⟩] [] 0)).stmts 2 (1 + m.nx ((a+1+1+1+1+1 + (m.nx (a+1+1+1+1) 3).toNat)+1+1) 5).toNat ⟨((a+1+1+1+1+1 + (m.nx (a+1+1+1+1) 3).toNat)+1+1)+1, s, 9, 0⟩ = rr at *
  have hl1 : (m.with' (m.dG id a (m.partX a) (m.params (a+1+1+1+1+1) (m.nx (a+1+1+1+1) 3).toNat) [] (((((m.params (a+1+1+1+1+1) (m.nx (a+1+1+1+1) 3).toNat).map encR).length : Nat) : Int) + 2 + m.nx ((a+1+1+1+1+1 + (m.nx (a+1+1+1+1) 3).toNat)+1) 2) 2 [⟨4, 0⟩] rr.1 0)).defs.length < 2^20 := hlen.2
  have hl2 : (m.with' (m.dG id a (m.partX a) (m.params (a+1+1+1+1+1) (m.nx (a+1+1+1+1) 3).toNat) [] (((((m.params (a+1+1+1+1+1) (m.nx (a+1+1+1+1) 3).toNat).map encR).length : Nat) : Int) + 2 + m.nx ((a+1+1+1+1+1 + (m.nx (a+1+1+1+1) 3).toNat)+1) 2) 2 [⟨4, 0⟩] rr.1 0)).heads.length < 2^20 := hlen.1
  have hl3 : (m.with' (m.dG id a (m.partX a) (m.params (a+1+1+1+1+1) (m.nx (a+1+1+1+1) 3).toNat) [] ((((m.params (a+1+1+1+1+1) (m.nx (a+1+1+1+1) 3).toNat).length : Nat) : Int) + 2 + m.nx ((a+1+1+1+1+1 + (m.nx (a+1+1+1+1) 3).toNat)+1) 2) 2 [⟨4, 0⟩] rr.1 0)).defs.length < 2^20 := hlen.2
  have hl4 : (m.with' (m.dG id a (m.partX a) (m.params (a+1+1+1+1+1) (m.nx (a+1+1+1+1) 3).toNat) [] ((((m.params (a+1+1+1+1+1) (m.nx (a+1+1+1+1) 3).toNat).length : Nat) : Int) + 2 + m.nx ((a+1+1+1+1+1 + (m.nx (a+1+1+1+1) 3).toNat)+1) 2) 2 [⟨4, 0⟩] rr.1 0)).heads.length < 2^20 := hlen.1
  refine fn_ok hm Tryz.func110 (fun _ => false) [] hintDef (by kernel_rfl) ?_
  refine run ?_; repeat ((apply call_ok; first | exact (next_ok m _ _ _ _ _ _ (by omega) (by omega))); refine run ?_)
  iterate 2
    refine Idx.mapG (f := it) (m.nx (a+1+1) 4).toNat (m.budget (a+1+1)) (by omega) (m.budget_at (a+1+1)) rfl ?_
    refine run ?_
  refine run ?_; repeat ((apply call_ok; first | exact (nextR m (m.dG id a (m.partX a) [] [] 0 0 [] [] 0) [] _ _ _ _ _ _ (by omega) (by omega)) | exact (nextR m (m.dG id a (m.partX a) [] [] 0 0 [] [] 0) [] _ _ _ _ _ _ (by omega) (by omega))); refine run ?_)
  refine LoopS.mk ⟨[], HeadS.inv (fun r : PR => r.v = m.nx (a+1+1+1+1) 3 - r.k ∧ r.k ≤ (m.nx (a+1+1+1+1) 3).toNat ∧ r.acc = (m.params (a+1+1+1+1+1) r.k).map encR)
    (fun r => ⟨[(7, it r.v)], [(1000, encMkR (m.with' (m.dG id a (m.partX a) [] [] 0 0 [] [] 0)) 32 (a+1+1+1+1+1 + r.k) s l p d r.acc.length)], [(32, ⟨3, true, r.acc⟩)]⟩)
    (fun r => (m.nx (a+1+1+1+1) 3).toNat - r.k) ⟨m.nx (a+1+1+1+1) 3, 0, []⟩ ⟨by simp, Nat.zero_le _, rfl⟩ ?_ ?_ ?_ ?_ ?_⟩
  · repeat' (first | exact trivial | exact rfl | refine ⟨?_, ?_⟩ | refine ⟨?_, ?_, ?_⟩)
  · kernel_rfl
  · kernel_rfl
  · intro r; exact ⟨rfl, rfl, rfl⟩
  rintro ⟨v, k, acc⟩ ⟨w1, w2, w3⟩
  dsimp only at w1 w2 w3 ⊢
  refine Br.mk (fun hb => ?_) (fun hb => ?_)
  · have hb1 : 0 < v := by simpa using hb
    have hl : acc.length = k := by rw [w3]; simp [m.params_len]
    have bk := m.nx_bd (a+1+1+1+1+1 + k) (n := 4) (by omega)
    refine run ?_; repeat ((apply call_ok; first | exact (nextR m (m.dG id a (m.partX a) [] [] 0 0 [] [] 0) _ _ _ _ _ _ _ (by omega) (by omega))); refine run ?_)
    iterate 2
      refine Idx.mapG (f := encR) (m.nx (a+1+1+1+1+1 + k) 4).toNat (m.rng (a+1+1+1+1+1 + k)) (by omega) (m.rng_at _) rfl ?_
      refine run ?_
    refine ⟨⟨⟨v - 1, k + 1, acc ++ [encR (m.rng (a+1+1+1+1+1 + k))]⟩, by dsimp only; omega, by dsimp only; omega, by rw [w3]; simp [Mk.params]⟩, by dsimp only; omega, ?_⟩
    repeat' (first | exact trivial | exact rfl | refine ⟨?_, ?_⟩ | refine ⟨?_, ?_, ?_⟩)
  · have hb1 : k = (m.nx (a+1+1+1+1) 3).toNat := by simp at hb; omega
    subst hb1
    subst w3
    refine run ?_; repeat ((apply call_ok; first | exact (nextD m (m.dG id a (m.partX a) (m.params (a+1+1+1+1+1) (m.nx (a+1+1+1+1) 3).toNat) [] 0 0 [] [] 0) _ _ _ _ _ _ (by omega) (by omega)) | exact (nextD m (m.dG id a (m.partX a) (m.params (a+1+1+1+1+1) (m.nx (a+1+1+1+1) 3).toNat) [] 0 0 [] [] 0) _ _ _ _ _ _ (by omega) (by omega)) | exact (nextA m (m.dG id a (m.partX a) (m.params (a+1+1+1+1+1) (m.nx (a+1+1+1+1) 3).toNat) [] (((((m.params (a+1+1+1+1+1) (m.nx (a+1+1+1+1) 3).toNat).map encR).length : Nat) : Int) + 2 + m.nx ((a+1+1+1+1+1 + (m.nx (a+1+1+1+1) 3).toNat)+1) 2) 2 [] [] 0) [encA ⟨4, 0⟩] _ _ _ _ _ _ (by omega) (by omega)) | exact (nextD m (m.dG id a (m.partX a) (m.params (a+1+1+1+1+1) (m.nx (a+1+1+1+1) 3).toNat) [] (((((m.params (a+1+1+1+1+1) (m.nx (a+1+1+1+1) 3).toNat).map encR).length : Nat) : Int) + 2 + m.nx ((a+1+1+1+1+1 + (m.nx (a+1+1+1+1) 3).toNat)+1) 2) 2 [⟨4, 0⟩] [] 0) _ _ _ _ _ _ (by omega) (by omega)) | exact (r1) | exact (site_ok (m.with' (m.dG id a (m.partX a) (m.params (a+1+1+1+1+1) (m.nx (a+1+1+1+1) 3).toNat) [] (((((m.params (a+1+1+1+1+1) (m.nx (a+1+1+1+1) 3).toNat).map encR).length : Nat) : Int) + 2 + m.nx ((a+1+1+1+1+1 + (m.nx (a+1+1+1+1) 3).toNat)+1) 2) 2 [⟨4, 0⟩] rr.1 0)) _ _ _ _ _ (by omega)) | exact (head_ok (m.dG id a (m.partX a) (m.params (a+1+1+1+1+1) (m.nx (a+1+1+1+1) 3).toNat) [] (((((m.params (a+1+1+1+1+1) (m.nx (a+1+1+1+1) 3).toNat).map encR).length : Nat) : Int) + 2 + m.nx ((a+1+1+1+1+1 + (m.nx (a+1+1+1+1) 3).toNat)+1) 2) 2 [⟨4, 0⟩] rr.1 (rr.2.s+1 : Nat)))); refine run ?_)
    exact Done.mk rfl rfl
theorem def_f001 (m : Mk) (id : Int) (a s l p d : Nat) (fine : m.Core) (hid : 0 ≤ id ∧ id < 100) (h : a + 5000 < 2^58) (h' : s + 300 < 2^58) (hp : p < 2^40) (hlen : m.heads.length < 2^20 ∧ m.defs.length < 2^20)
    (t0 : (m.nx (a+1+1+1) 2 == 0) = false) (t1 : (m.nx (a+1+1+1+1+1 + (m.nx (a+1+1+1+1) 3).toNat) 4 == 0) = false) (hX : 0 < m.nx (a+1+1+1+1) 3) (t2 : (m.nx ((a+1+1+1+1+1 + (m.nx (a+1+1+1+1) 3).toNat)+1+1) 2 == 0) = true) : CallsA Tryz.prog 110 [mp, it id, bo false] (ctM m a s l p d) (.tup [])
    (ctEnd m (m.dG id a (m.partX a) (m.params (a+1+1+1+1+1) (m.nx (a+1+1+1+1) 3).toNat) [] (((((m.params (a+1+1+1+1+1) (m.nx (a+1+1+1+1) 3).toNat).map encR).length : Nat) : Int) + 2 + m.nx ((a+1+1+1+1+1 + (m.nx (a+1+1+1+1) 3).toNat)+1) 2) 2 [⟨4, 0⟩, ⟨8, 1⟩] ((m.with' (m.dG id a (m.partX a) (m.params (a+1+1+1+1+1) (m.nx (a+1+1+1+1) 3).toNat) [] (((((m.params (a+1+1+1+1+1) (m.nx (a+1+1+1+1) 3).toNat).map encR).length : Nat) : Int) + 2 + m.nx ((a+1+1+1+1+1 + (m.nx (a+1+1+1+1) 3).toNat)+1) 2) 2 [⟨4, 0⟩, ⟨8, 1⟩] [] 0)).stmts 2 (1 + m.nx ((a+1+1+1+1+1 + (m.nx (a+1+1+1+1) 3).toNat)+1+1+1) 5).toNat ⟨((a+1+1+1+1+1 + (m.nx (a+1+1+1+1) 3).toNat)+1+1+1)+1, s, 9, 0⟩).1 (((m.with' (m.dG id a (m.partX a) (m.params (a+1+1+1+1+1) (m.nx (a+1+1+1+1) 3).toNat) [] (((((m.params (a+1+1+1+1+1) (m.nx (a+1+1+1+1) 3).toNat).map encR).length : Nat) : Int) + 2 + m.nx ((a+1+1+1+1+1 + (m.nx (a+1+1+1+1) 3).toNat)+1) 2) 2 [⟨4, 0⟩, ⟨8, 1⟩] [] 0)).stmts 2 (1 + m.nx ((a+1+1+1+1+1 + (m.nx (a+1+1+1+1) 3).toNat)+1+1+1) 5).toNat ⟨((a+1+1+1+1+1 + (m.nx (a+1+1+1+1) 3).toNat)+1+1+1)+1, s, 9, 0⟩).2.s+1 : Nat)) ((m.with' (m.dG id a (m.partX a) (m.params (a+1+1+1+1+1) (m.nx (a+1+1+1+1) 3).toNat) [] (((((m.params (a+1+1+1+1+1) (m.nx (a+1+1+1+1) 3).toNat).map encR).length : Nat) : Int) + 2 + m.nx ((a+1+1+1+1+1 + (m.nx (a+1+1+1+1) 3).toNat)+1) 2) 2 [⟨4, 0⟩, ⟨8, 1⟩] [] 0)).stmts 2 (1 + m.nx ((a+1+1+1+1+1 + (m.nx (a+1+1+1+1) 3).toNat)+1+1+1) 5).toNat ⟨((a+1+1+1+1+1 + (m.nx (a+1+1+1+1) 3).toNat)+1+1+1)+1, s, 9, 0⟩).2.a (((m.with' (m.dG id a (m.partX a) (m.params (a+1+1+1+1+1) (m.nx (a+1+1+1+1) 3).toNat) [] (((((m.params (a+1+1+1+1+1) (m.nx (a+1+1+1+1) 3).toNat).map encR).length : Nat) : Int) + 2 + m.nx ((a+1+1+1+1+1 + (m.nx (a+1+1+1+1) 3).toNat)+1) 2) 2 [⟨4, 0⟩, ⟨8, 1⟩] [] 0)).stmts 2 (1 + m.nx ((a+1+1+1+1+1 + (m.nx (a+1+1+1+1) 3).toNat)+1+1+1) 5).toNat ⟨((a+1+1+1+1+1 + (m.nx (a+1+1+1+1) 3).toNat)+1+1+1)+1, s, 9, 0⟩).2.s+1) ((m.with' (m.dG id a (m.partX a) (m.params (a+1+1+1+1+1) (m.nx (a+1+1+1+1) 3).toNat) [] (((((m.params (a+1+1+1+1+1) (m.nx (a+1+1+1+1) 3).toNat).map encR).length : Nat) : Int) + 2 + m.nx ((a+1+1+1+1+1 + (m.nx (a+1+1+1+1) 3).toNat)+1) 2) 2 [⟨4, 0⟩, ⟨8, 1⟩] [] 0)).stmts 2 (1 + m.nx ((a+1+1+1+1+1 + (m.nx (a+1+1+1+1) 3).toNat)+1+1+1) 5).toNat ⟨((a+1+1+1+1+1 + (m.nx (a+1+1+1+1) 3).toNat)+1+1+1)+1, s, 9, 0⟩).2.l p ((m.with' (m.dG id a (m.partX a) (m.params (a+1+1+1+1+1) (m.nx (a+1+1+1+1) 3).toNat) [] (((((m.params (a+1+1+1+1+1) (m.nx (a+1+1+1+1) 3).toNat).map encR).length : Nat) : Int) + 2 + m.nx ((a+1+1+1+1+1 + (m.nx (a+1+1+1+1) 3).toNat)+1) 2) 2 [⟨4, 0⟩, ⟨8, 1⟩] [] 0)).stmts 2 (1 + m.nx ((a+1+1+1+1+1 + (m.nx (a+1+1+1+1) 3).toNat)+1+1+1) 5).toNat ⟨((a+1+1+1+1+1 + (m.nx (a+1+1+1+1) 3).toNat)+1+1+1)+1, s, 9, 0⟩).2.d) := by
  have bi : 0 ≤ id.tmod 8 ∧ id.tmod 8 < 8 := ⟨Int.tmod_nonneg _ hid.1, Int.tmod_lt_of_pos _ (by omega)⟩
  have n0 := m.nx_bd a (n := 2) (by omega)
  have n1 := m.nx_bd (a+1) (n := 6) (by omega)
  have n2 := m.nx_bd (a+1+1) (n := 4) (by omega)
  have hcalm := fine.calm
  have bX := m.nx_bd (a+1+1+1+1) (n := 3) (by omega)
  have bv := m.nx_bd ((a+1+1+1+1+1 + (m.nx (a+1+1+1+1) 3).toNat)+1) (n := 2) (by omega)
  have b5 := m.nx_bd ((a+1+1+1+1+1 + (m.nx (a+1+1+1+1) 3).toNat)+1+1+1) (n := 5) (by omega)
  have pl : (m.params (a+1+1+1+1+1) (m.nx (a+1+1+1+1) 3).toNat).length = (m.nx (a+1+1+1+1) 3).toNat := m.params_len _ _
  have pl2 : ((m.params (a+1+1+1+1+1) (m.nx (a+1+1+1+1) 3).toNat).map encR).length = (m.nx (a+1+1+1+1) 3).toNat := by rw [List.length_map]; exact pl
  have pl2a : ((m.with' (m.dG id a (m.partX a) (m.params (a+1+1+1+1+1) (m.nx (a+1+1+1+1) 3).toNat) [] 0 0 [] [] 0)).D.params.map encR).length = (m.nx (a+1+1+1+1) 3).toNat := pl2
  have pl2b : ((m.with' (m.dG id a (m.partX a) (m.params (a+1+1+1+1+1) (m.nx (a+1+1+1+1) 3).toNat) [] 0 0 [] [] 0)).D.params.map encR).length = (m.nx (a+1+1+1+1) 3).toNat := pl2
  have pl3 : decide (((((m.params (a+1+1+1+1+1) (m.nx (a+1+1+1+1) 3).toNat).map encR).length : Nat) : Int) > 0) = true := by rw [pl2]; simp; omega
  have k1 : ((1 + m.nx ((a+1+1+1+1+1 + (m.nx (a+1+1+1+1) 3).toNat)+1+1+1) 5).toNat : Int) = 1 + m.nx ((a+1+1+1+1+1 + (m.nx (a+1+1+1+1) 3).toNat)+1+1+1) 5 := by omega
  have fineD : (m.with' (m.dG id a (m.partX a) (m.params (a+1+1+1+1+1) (m.nx (a+1+1+1+1) 3).toNat) [] (((((m.params (a+1+1+1+1+1) (m.nx (a+1+1+1+1) 3).toNat).map encR).length : Nat) : Int) + 2 + m.nx ((a+1+1+1+1+1 + (m.nx (a+1+1+1+1) 3).toNat)+1) 2) 2 [⟨4, 0⟩, ⟨8, 1⟩] [] 0)).Fine := Mk.with_fine fine (by simp only [Mk.dG]; omega) (by simp only [Mk.dG]; omega) (by simp [Mk.dG]) (by simp [Mk.dG])
  have r1 := stmts_ok _ fineD (1 + m.nx ((a+1+1+1+1+1 + (m.nx (a+1+1+1+1) 3).toNat)+1+1+1) 5).toNat (by omega) 2 (((a+1+1+1+1+1 + (m.nx (a+1+1+1+1) 3).toNat)+1+1+1)+1) s 9 p 0 (by omega) (by omega) (by omega) (by omega) (by omega) (by omega)
  rw [k1] at r1
  have us := (m.with' (m.dG id a (m.partX a) (m.params (a+1+1+1+1+1) (m.nx (a+1+1+1+1) 3).toNat) [] (((((m.params (a+1+1+1+1+1) (m.nx (a+1+1+1+1) 3).toNat).map encR).length : Nat) : Int) + 2 + m.nx ((a+1+1+1+1+1 + (m.nx (a+1+1+1+1) 3).toNat)+1) 2) 2 [⟨4, 0⟩, ⟨8, 1⟩] [] 0)).stmts_use fineD.heads 2 (1 + m.nx ((a+1+1+1+1+1 + (m.nx (a+1+1+1+1) 3).toNat)+1+1+1) 5).toNat ⟨((a+1+1+1+1+1 + (m.nx (a+1+1+1+1) 3).toNat)+1+1+1)+1, s, 9, 0⟩
  simp only [Less] at us
  rw [ctEnd_eq]
  generalize hR : (m.with' (m.dG id a (m.partX a) (m.params (a+1+1+1+1+1) (m.nx (a+1+1+1+1) 3).toNat) [] (((((m.params (a+1+1+1+1+1) (m.nx (a+1+1+1+1) 3).toNat).map encR).length : Nat) : Int) + 2 + m.nx ((a+1+1+1+1+1 + (m.nx (a+1+1+1+1) 3).toNat)+1) 2) 2 [⟨4, 0⟩, ⟨8, 1⟩] [] 0)).stmts 2 (1 + m.nx ((a+1+1+1+1+1 + (m.nx (a+1+1+1+1) 3).toNat)+1+1+1) 5).toNat ⟨((a+1+1+1+1+1 + (m.nx (a+1+1+1+1) 3).toNat)+1+1+1)+1, s, 9, 0⟩ = rr at *
  have hl1 : (m.with' (m.dG id a (m.partX a) (m.params (a+1+1+1+1+1) (m.nx (a+1+1+1+1) 3).toNat) [] (((((m.params (a+1+1+1+1+1) (m.nx (a+1+1+1+1) 3).toNat).map encR).length : Nat) : Int) + 2 + m.nx ((a+1+1+1+1+1 + (m.nx (a+1+1+1+1) 3).toNat)+1) 2) 2 [⟨4, 0⟩, ⟨8, 1⟩] rr.1 0)).defs.length < 2^20 := hlen.2
  have hl2 : (m.with' (m.dG id a (m.partX a) (m.params (a+1+1+1+1+1) (m.nx (a+1+1+1+1) 3).toNat) [] (((((m.params (a+1+1+1+1+1) (m.nx (a+1+1+1+1) 3).toNat).map encR).length : Nat) : Int) + 2 + m.nx ((a+1+1+1+1+1 + (m.nx (a+1+1+1+1) 3).toNat)+1) 2) 2 [⟨4, 0⟩, ⟨8, 1⟩] rr.1 0)).heads.length < 2^20 := hlen.1
  have hl3 : (m.with' (m.dG id a (m.partX a) (m.params (a+1+1+1+1+1) (m.nx (a+1+1+1+1) 3).toNat) [] ((((m.params (a+1+1+1+1+1) (m.nx (a+1+1+1+1) 3).toNat).length : Nat) : Int) + 2 + m.nx ((a+1+1+1+1+1 + (m.nx (a+1+1+1+1) 3).toNat)+1) 2) 2 [⟨4, 0⟩, ⟨8, 1⟩] rr.1 0)).defs.length < 2^20 := hlen.2
  have hl4 : (m.with' (m.dG id a (m.partX a) (m.params (a+1+1+1+1+1) (m.nx (a+1+1+1+1) 3).toNat) [] ((((m.params (a+1+1+1+1+1) (m.nx (a+1+1+1+1) 3).toNat).length : Nat) : Int) + 2 + m.nx ((a+1+1+1+1+1 + (m.nx (a+1+1+1+1) 3).toNat)+1) 2) 2 [⟨4, 0⟩, ⟨8, 1⟩] rr.1 0)).heads.length < 2^20 := hlen.1
  refine fn_ok hm Tryz.func110 (fun _ => false) [] hintDef (by kernel_rfl) ?_
  refine run ?_; repeat ((apply call_ok; first | exact (next_ok m _ _ _ _ _ _ (by omega) (by omega))); refine run ?_)
  iterate 2
    refine Idx.mapG (f := it) (m.nx (a+1+1) 4).toNat (m.budget (a+1+1)) (by omega) (m.budget_at (a+1+1)) rfl ?_
    refine run ?_
  refine run ?_; repeat ((apply call_ok; first | exact (nextR m (m.dG id a (m.partX a) [] [] 0 0 [] [] 0) [] _ _ _ _ _ _ (by omega) (by omega)) | exact (nextR m (m.dG id a (m.partX a) [] [] 0 0 [] [] 0) [] _ _ _ _ _ _ (by omega) (by omega))); refine run ?_)
  refine LoopS.mk ⟨[], HeadS.inv (fun r : PR => r.v = m.nx (a+1+1+1+1) 3 - r.k ∧ r.k ≤ (m.nx (a+1+1+1+1) 3).toNat ∧ r.acc = (m.params (a+1+1+1+1+1) r.k).map encR)
    (fun r => ⟨[(7, it r.v)], [(1000, encMkR (m.with' (m.dG id a (m.partX a) [] [] 0 0 [] [] 0)) 32 (a+1+1+1+1+1 + r.k) s l p d r.acc.length)], [(32, ⟨3, true, r.acc⟩)]⟩)
    (fun r => (m.nx (a+1+1+1+1) 3).toNat - r.k) ⟨m.nx (a+1+1+1+1) 3, 0, []⟩ ⟨by simp, Nat.zero_le _, rfl⟩ ?_ ?_ ?_ ?_ ?_⟩
  · repeat' (first | exact trivial | exact rfl | refine ⟨?_, ?_⟩ | refine ⟨?_, ?_, ?_⟩)
  · kernel_rfl
  · kernel_rfl
  · intro r; exact ⟨rfl, rfl, rfl⟩
  rintro ⟨v, k, acc⟩ ⟨w1, w2, w3⟩
  dsimp only at w1 w2 w3 ⊢
  refine Br.mk (fun hb => ?_) (fun hb => ?_)
  · have hb1 : 0 < v := by simpa using hb
    have hl : acc.length = k := by rw [w3]; simp [m.params_len]
    have bk := m.nx_bd (a+1+1+1+1+1 + k) (n := 4) (by omega)
    refine run ?_; repeat ((apply call_ok; first | exact (nextR m (m.dG id a (m.partX a) [] [] 0 0 [] [] 0) _ _ _ _ _ _ _ (by omega) (by omega))); refine run ?_)
    iterate 2
      refine Idx.mapG (f := encR) (m.nx (a+1+1+1+1+1 + k) 4).toNat (m.rng (a+1+1+1+1+1 + k)) (by omega) (m.rng_at _) rfl ?_
      refine run ?_
    refine ⟨⟨⟨v - 1, k + 1, acc ++ [encR (m.rng (a+1+1+1+1+1 + k))]⟩, by dsimp only; omega, by dsimp only; omega, by rw [w3]; simp [Mk.params]⟩, by dsimp only; omega, ?_⟩
    repeat' (first | exact trivial | exact rfl | refine ⟨?_, ?_⟩ | refine ⟨?_, ?_, ?_⟩)
  · have hb1 : k = (m.nx (a+1+1+1+1) 3).toNat := by simp at hb; omega
    subst hb1
    subst w3
    refine run ?_; repeat ((apply call_ok; first | exact (nextD m (m.dG id a (m.partX a) (m.params (a+1+1+1+1+1) (m.nx (a+1+1+1+1) 3).toNat) [] 0 0 [] [] 0) _ _ _ _ _ _ (by omega) (by omega)) | exact (nextD m (m.dG id a (m.partX a) (m.params (a+1+1+1+1+1) (m.nx (a+1+1+1+1) 3).toNat) [] 0 0 [] [] 0) _ _ _ _ _ _ (by omega) (by omega)) | exact (nextA m (m.dG id a (m.partX a) (m.params (a+1+1+1+1+1) (m.nx (a+1+1+1+1) 3).toNat) [] (((((m.params (a+1+1+1+1+1) (m.nx (a+1+1+1+1) 3).toNat).map encR).length : Nat) : Int) + 2 + m.nx ((a+1+1+1+1+1 + (m.nx (a+1+1+1+1) 3).toNat)+1) 2) 2 [] [] 0) [encA ⟨4, 0⟩] _ _ _ _ _ _ (by omega) (by omega)) | exact (nextD m (m.dG id a (m.partX a) (m.params (a+1+1+1+1+1) (m.nx (a+1+1+1+1) 3).toNat) [] (((((m.params (a+1+1+1+1+1) (m.nx (a+1+1+1+1) 3).toNat).map encR).length : Nat) : Int) + 2 + m.nx ((a+1+1+1+1+1 + (m.nx (a+1+1+1+1) 3).toNat)+1) 2) 2 [⟨4, 0⟩, ⟨8, 1⟩] [] 0) _ _ _ _ _ _ (by omega) (by omega)) | exact (r1) | exact (site_ok (m.with' (m.dG id a (m.partX a) (m.params (a+1+1+1+1+1) (m.nx (a+1+1+1+1) 3).toNat) [] (((((m.params (a+1+1+1+1+1) (m.nx (a+1+1+1+1) 3).toNat).map encR).length : Nat) : Int) + 2 + m.nx ((a+1+1+1+1+1 + (m.nx (a+1+1+1+1) 3).toNat)+1) 2) 2 [⟨4, 0⟩, ⟨8, 1⟩] rr.1 0)) _ _ _ _ _ (by omega)) | exact (head_ok (m.dG id a (m.partX a) (m.params (a+1+1+1+1+1) (m.nx (a+1+1+1+1) 3).toNat) [] (((((m.params (a+1+1+1+1+1) (m.nx (a+1+1+1+1) 3).toNat).map encR).length : Nat) : Int) + 2 + m.nx ((a+1+1+1+1+1 + (m.nx (a+1+1+1+1) 3).toNat)+1) 2) 2 [⟨4, 0⟩, ⟨8, 1⟩] rr.1 (rr.2.s+1 : Nat)))); refine run ?_)
    exact Done.mk rfl rfl
theorem def_f002 (m : Mk) (id : Int) (a s l p d : Nat) (fine : m.Core) (hid : 0 ≤ id ∧ id < 100) (h : a + 5000 < 2^58) (h' : s + 300 < 2^58) (hp : p < 2^40) (hlen : m.heads.length < 2^20 ∧ m.defs.length < 2^20)
    (t0 : (m.nx (a+1+1+1) 2 == 0) = false) (t1 : (m.nx (a+1+1+1+1+1 + (m.nx (a+1+1+1+1) 3).toNat) 4 == 0) = false) (hX : 0 < m.nx (a+1+1+1+1) 3) (t2 : (m.nx ((a+1+1+1+1+1 + (m.nx (a+1+1+1+1) 3).toNat)+1+1) 2 == 0) = false) : CallsA Tryz.prog 110 [mp, it id, bo false] (ctM m a s l p d) (.tup [])
    (ctEnd m (m.dG id a (m.partX a) (m.params (a+1+1+1+1+1) (m.nx (a+1+1+1+1) 3).toNat) [] (((((m.params (a+1+1+1+1+1) (m.nx (a+1+1+1+1) 3).toNat).map encR).length : Nat) : Int) + 2 + m.nx ((a+1+1+1+1+1 + (m.nx (a+1+1+1+1) 3).toNat)+1) 2) 2 [⟨4, 0⟩] ((m.with' (m.dG id a (m.partX a) (m.params (a+1+1+1+1+1) (m.nx (a+1+1+1+1) 3).toNat) [] (((((m.params (a+1+1+1+1+1) (m.nx (a+1+1+1+1) 3).toNat).map encR).length : Nat) : Int) + 2 + m.nx ((a+1+1+1+1+1 + (m.nx (a+1+1+1+1) 3).toNat)+1) 2) 2 [⟨4, 0⟩] [] 0)).stmts 2 (1 + m.nx ((a+1+1+1+1+1 + (m.nx (a+1+1+1+1) 3).toNat)+1+1+1) 5).toNat ⟨((a+1+1+1+1+1 + (m.nx (a+1+1+1+1) 3).toNat)+1+1+1)+1, s, 9, 0⟩).1 (((m.with' (m.dG id a (m.partX a) (m.params (a+1+1+1+1+1) (m.nx (a+1+1+1+1) 3).toNat) [] (((((m.params (a+1+1+1+1+1) (m.nx (a+1+1+1+1) 3).toNat).map encR).length : Nat) : Int) + 2 + m.nx ((a+1+1+1+1+1 + (m.nx (a+1+1+1+1) 3).toNat)+1) 2) 2 [⟨4, 0⟩] [] 0)).stmts 2 (1 + m.nx ((a+1+1+1+1+1 + (m.nx (a+1+1+1+1) 3).toNat)+1+1+1) 5).toNat ⟨((a+1+1+1+1+1 + (m.nx (a+1+1+1+1) 3).toNat)+1+1+1)+1, s, 9, 0⟩).2.s+1 : Nat)) ((m.with' (m.dG id a (m.partX a) (m.params (a+1+1+1+1+1) (m.nx (a+1+1+1+1) 3).toNat) [] (((((m.params (a+1+1+1+1+1) (m.nx (a+1+1+1+1) 3).toNat).map encR).length : Nat) : Int) + 2 + m.nx ((a+1+1+1+1+1 + (m.nx (a+1+1+1+1) 3).toNat)+1) 2) 2 [⟨4, 0⟩] [] 0)).stmts 2 (1 + m.nx ((a+1+1+1+1+1 + (m.nx (a+1+1+1+1) 3).toNat)+1+1+1) 5).toNat ⟨((a+1+1+1+1+1 + (m.nx (a+1+1+1+1) 3).toNat)+1+1+1)+1, s, 9, 0⟩).2.a (((m.with' (m.dG id a (m.partX a) (m.params (a+1+1+1+1+1) (m.nx (a+1+1+1+1) 3).toNat) [] (((((m.params (a+1+1+1+1+1) (m.nx (a+1+1+1+1) 3).toNat).map encR).length : Nat) : Int) + 2 + m.nx ((a+1+1+1+1+1 + (m.nx (a+1+1+1+1) 3).toNat)+1) 2) 2 [⟨4, 0⟩] [] 0)).stmts 2 (1 + m.nx ((a+1+1+1+1+1 + (m.nx (a+1+1+1+1) 3).toNat)+1+1+1) 5).toNat ⟨((a+1+1+1+1+1 + (m.nx (a+1+1+1+1) 3).toNat)+1+1+1)+1, s, 9, 0⟩).2.s+1) ((m.with' (m.dG id a (m.partX a) (m.params (a+1+1+1+1+1) (m.nx (a+1+1+1+1) 3).toNat) [] (((((m.params (a+1+1+1+1+1) (m.nx (a+1+1+1+1) 3).toNat).map encR).length : Nat) : Int) + 2 + m.nx ((a+1+1+1+1+1 + (m.nx (a+1+1+1+1) 3).toNat)+1) 2) 2 [⟨4, 0⟩] [] 0)).stmts 2 (1 + m.nx ((a+1+1+1+1+1 + (m.nx (a+1+1+1+1) 3).toNat)+1+1+1) 5).toNat ⟨((a+1+1+1+1+1 + (m.nx (a+1+1+1+1) 3).toNat)+1+1+1)+1, s, 9, 0⟩).2.l p ((m.with' (m.dG id a (m.partX a) (m.params (a+1+1+1+1+1) (m.nx (a+1+1+1+1) 3).toNat) [] (((((m.params (a+1+1+1+1+1) (m.nx (a+1+1+1+1) 3).toNat).map encR).length : Nat) : Int) + 2 + m.nx ((a+1+1+1+1+1 + (m.nx (a+1+1+1+1) 3).toNat)+1) 2) 2 [⟨4, 0⟩] [] 0)).stmts 2 (1 + m.nx ((a+1+1+1+1+1 + (m.nx (a+1+1+1+1) 3).toNat)+1+1+1) 5).toNat ⟨((a+1+1+1+1+1 + (m.nx (a+1+1+1+1) 3).toNat)+1+1+1)+1, s, 9, 0⟩).2.d) := by
  have bi : 0 ≤ id.tmod 8 ∧ id.tmod 8 < 8 := ⟨Int.tmod_nonneg _ hid.1, Int.tmod_lt_of_pos _ (by omega)⟩
  have n0 := m.nx_bd a (n := 2) (by omega)
  have n1 := m.nx_bd (a+1) (n := 6) (by omega)
  have n2 := m.nx_bd (a+1+1) (n := 4) (by omega)
  have hcalm := fine.calm
  have bX := m.nx_bd (a+1+1+1+1) (n := 3) (by omega)
  have bv := m.nx_bd ((a+1+1+1+1+1 + (m.nx (a+1+1+1+1) 3).toNat)+1) (n := 2) (by omega)
  have b5 := m.nx_bd ((a+1+1+1+1+1 + (m.nx (a+1+1+1+1) 3).toNat)+1+1+1) (n := 5) (by omega)
  have pl : (m.params (a+1+1+1+1+1) (m.nx (a+1+1+1+1) 3).toNat).length = (m.nx (a+1+1+1+1) 3).toNat := m.params_len _ _
  have pl2 : ((m.params (a+1+1+1+1+1) (m.nx (a+1+1+1+1) 3).toNat).map encR).length = (m.nx (a+1+1+1+1) 3).toNat := by rw [List.length_map]; exact pl
  have pl2a : ((m.with' (m.dG id a (m.partX a) (m.params (a+1+1+1+1+1) (m.nx (a+1+1+1+1) 3).toNat) [] 0 0 [] [] 0)).D.params.map encR).length = (m.nx (a+1+1+1+1) 3).toNat := pl2
  have pl2b : ((m.with' (m.dG id a (m.partX a) (m.params (a+1+1+1+1+1) (m.nx (a+1+1+1+1) 3).toNat) [] 0 0 [] [] 0)).D.params.map encR).length = (m.nx (a+1+1+1+1) 3).toNat := pl2
  have pl3 : decide (((((m.params (a+1+1+1+1+1) (m.nx (a+1+1+1+1) 3).toNat).map encR).length : Nat) : Int) > 0) = true := by rw [pl2]; simp; omega
  have k1 : ((1 + m.nx ((a+1+1+1+1+1 + (m.nx (a+1+1+1+1) 3).toNat)+1+1+1) 5).toNat : Int) = 1 + m.nx ((a+1+1+1+1+1 + (m.nx (a+1+1+1+1) 3).toNat)+1+1+1) 5 := by omega
  have fineD : (m.with' (m.dG id a (m.partX a) (m.params (a+1+1+1+1+1) (m.nx (a+1+1+1+1) 3).toNat) [] (((((m.params (a+1+1+1+1+1) (m.nx (a+1+1+1+1) 3).toNat).map encR).length : Nat) : Int) + 2 + m.nx ((a+1+1+1+1+1 + (m.nx (a+1+1+1+1) 3).toNat)+1) 2) 2 [⟨4, 0⟩] [] 0)).Fine := Mk.with_fine fine (by simp only [Mk.dG]; omega) (by simp only [Mk.dG]; omega) (by simp [Mk.dG]) (by simp [Mk.dG])
  have r1 := stmts_ok _ fineD (1 + m.nx ((a+1+1+1+1+1 + (m.nx (a+1+1+1+1) 3).toNat)+1+1+1) 5).toNat (by omega) 2 (((a+1+1+1+1+1 + (m.nx (a+1+1+1+1) 3).toNat)+1+1+1)+1) s 9 p 0 (by omega) (by omega) (by omega) (by omega) (by omega) (by omega)
  rw [k1] at r1
  have us := (m.with' (m.dG id a (m.partX a) (m.params (a+1+1+1+1+1) (m.nx (a+1+1+1+1) 3).toNat) [] (((((m.params (a+1+1+1+1+1) (m.nx (a+1+1+1+1) 3).toNat).map encR).length : Nat) : Int) + 2 + m.nx ((a+1+1+1+1+1 + (m.nx (a+1+1+1+1) 3).toNat)+1) 2) 2 [⟨4, 0⟩] [] 0)).stmts_use fineD.heads 2 (1 + m.nx ((a+1+1+1+1+1 + (m.nx (a+1+1+1+1) 3).toNat)+1+1+1) 5).toNat ⟨((a+1+1+1+1+1 + (m.nx (a+1+1+1+1) 3).toNat)+1+1+1)+1, s, 9, 0⟩
  simp only [Less] at us
  rw [ctEnd_eq]
  generalize hR : (m.with' (m.dG id a (m.partX a) (m.params (a+1+1+1+1+1) (m.nx (a+1+1+1+1) 3).toNat) [] (((((m.params (a+1+1+1+1+1) (m.nx (a+1+1+1+1) 3).toNat).map encR).length : Nat) : Int) + 2 + m.nx ((a+1+1+1+1+1 + (m.nx (a+1+1+1+1) 3).toNat)+1) 2) 2 [⟨4, 0⟩] [] 0)).stmts 2 (1 + m.nx ((a+1+1+1+1+1 + (m.nx (a+1+1+1+1) 3).toNat)+1+1+1) 5).toNat ⟨((a+1+1+1+1+1 + (m.nx (a+1+1+1+1) 3).toNat)+1+1+1)+1, s, 9, 0⟩ = rr at *
  have hl1 : (m.with' (m.dG id a (m.partX a) (m.params (a+1+1+1+1+1) (m.nx (a+1+1+1+1) 3).toNat) [] (((((m.params (a+1+1+1+1+1) (m.nx (a+1+1+1+1) 3).toNat).map encR).length : Nat) : Int) + 2 + m.nx ((a+1+1+1+1+1 + (m.nx (a+1+1+1+1) 3).toNat)+1) 2) 2 [⟨4, 0⟩] rr.1 0)).defs.length < 2^20 := hlen.2
  have hl2 : (m.with' (m.dG id a (m.partX a) (m.params (a+1+1+1+1+1) (m.nx (a+1+1+1+1) 3).toNat) [] (((((m.params (a+1+1+1+1+1) (m.nx (a+1+1+1+1) 3).toNat).map encR).length : Nat) : Int) + 2 + m.nx ((a+1+1+1+1+1 + (m.nx (a+1+1+1+1) 3).toNat)+1) 2) 2 [⟨4, 0⟩] rr.1 0)).heads.length < 2^20 := hlen.1
  have hl3 : (m.with' (m.dG id a (m.partX a) (m.params (a+1+1+1+1+1) (m.nx (a+1+1+1+1) 3).toNat) [] ((((m.params (a+1+1+1+1+1) (m.nx (a+1+1+1+1) 3).toNat).length : Nat) : Int) + 2 + m.nx ((a+1+1+1+1+1 + (m.nx (a+1+1+1+1) 3).toNat)+1) 2) 2 [⟨4, 0⟩] rr.1 0)).defs.length < 2^20 := hlen.2
  have hl4 : (m.with' (m.dG id a (m.partX a) (m.params (a+1+1+1+1+1) (m.nx (a+1+1+1+1) 3).toNat) [] ((((m.params (a+1+1+1+1+1) (m.nx (a+1+1+1+1) 3).toNat).length : Nat) : Int) + 2 + m.nx ((a+1+1+1+1+1 + (m.nx (a+1+1+1+1) 3).toNat)+1) 2) 2 [⟨4, 0⟩] rr.1 0)).heads.length < 2^20 := hlen.1
  refine fn_ok hm Tryz.func110 (fun _ => false) [] hintDef (by kernel_rfl) ?_
  refine run ?_; repeat ((apply call_ok; first | exact (next_ok m _ _ _ _ _ _ (by omega) (by omega))); refine run ?_)
  iterate 2
    refine Idx.mapG (f := it) (m.nx (a+1+1) 4).toNat (m.budget (a+1+1)) (by omega) (m.budget_at (a+1+1)) rfl ?_
    refine run ?_
  refine run ?_; repeat ((apply call_ok; first | exact (nextR m (m.dG id a (m.partX a) [] [] 0 0 [] [] 0) [] _ _ _ _ _ _ (by omega) (by omega)) | exact (nextR m (m.dG id a (m.partX a) [] [] 0 0 [] [] 0) [] _ _ _ _ _ _ (by omega) (by omega))); refine run ?_)
  refine LoopS.mk ⟨[], HeadS.inv (fun r : PR => r.v = m.nx (a+1+1+1+1) 3 - r.k ∧ r.k ≤ (m.nx (a+1+1+1+1) 3).toNat ∧ r.acc = (m.params (a+1+1+1+1+1) r.k).map encR)
    (fun r => ⟨[(7, it r.v)], [(1000, encMkR (m.with' (m.dG id a (m.partX a) [] [] 0 0 [] [] 0)) 32 (a+1+1+1+1+1 + r.k) s l p d r.acc.length)], [(32, ⟨3, true, r.acc⟩)]⟩)
    (fun r => (m.nx (a+1+1+1+1) 3).toNat - r.k) ⟨m.nx (a+1+1+1+1) 3, 0, []⟩ ⟨by simp, Nat.zero_le _, rfl⟩ ?_ ?_ ?_ ?_ ?_⟩
  · repeat' (first | exact trivial | exact rfl | refine ⟨?_, ?_⟩ | refine ⟨?_, ?_, ?_⟩)
  · kernel_rfl
  · kernel_rfl
  · intro r; exact ⟨rfl, rfl, rfl⟩
  rintro ⟨v, k, acc⟩ ⟨w1, w2, w3⟩
  dsimp only at w1 w2 w3 ⊢
  refine Br.mk (fun hb => ?_) (fun hb => ?_)
  · have hb1 : 0 < v := by simpa using hb
    have hl : acc.length = k := by rw [w3]; simp [m.params_len]
    have bk := m.nx_bd (a+1+1+1+1+1 + k) (n := 4) (by omega)
    refine run ?_; repeat ((apply call_ok; first | exact (nextR m (m.dG id a (m.partX a) [] [] 0 0 [] [] 0) _ _ _ _ _ _ _ (by omega) (by omega))); refine run ?_)
    iterate 2
      refine Idx.mapG (f := encR) (m.nx (a+1+1+1+1+1 + k) 4).toNat (m.rng (a+1+1+1+1+1 + k)) (by omega) (m.rng_at _) rfl ?_
      refine run ?_
    refine ⟨⟨⟨v - 1, k + 1, acc ++ [encR (m.rng (a+1+1+1+1+1 + k))]⟩, by dsimp only; omega, by dsimp only; omega, by rw [w3]; simp [Mk.params]⟩, by dsimp only; omega, ?_⟩
    repeat' (first | exact trivial | exact rfl | refine ⟨?_, ?_⟩ | refine ⟨?_, ?_, ?_⟩)
  · have hb1 : k = (m.nx (a+1+1+1+1) 3).toNat := by simp at hb; omega
    subst hb1
    subst w3
    refine run ?_; repeat ((apply call_ok; first | exact (nextD m (m.dG id a (m.partX a) (m.params (a+1+1+1+1+1) (m.nx (a+1+1+1+1) 3).toNat) [] 0 0 [] [] 0) _ _ _ _ _ _ (by omega) (by omega)) | exact (nextD m (m.dG id a (m.partX a) (m.params (a+1+1+1+1+1) (m.nx (a+1+1+1+1) 3).toNat) [] 0 0 [] [] 0) _ _ _ _ _ _ (by omega) (by omega)) | exact (nextA m (m.dG id a (m.partX a) (m.params (a+1+1+1+1+1) (m.nx (a+1+1+1+1) 3).toNat) [] (((((m.params (a+1+1+1+1+1) (m.nx (a+1+1+1+1) 3).toNat).map encR).length : Nat) : Int) + 2 + m.nx ((a+1+1+1+1+1 + (m.nx (a+1+1+1+1) 3).toNat)+1) 2) 2 [] [] 0) [encA ⟨4, 0⟩] _ _ _ _ _ _ (by omega) (by omega)) | exact (nextD m (m.dG id a (m.partX a) (m.params (a+1+1+1+1+1) (m.nx (a+1+1+1+1) 3).toNat) [] (((((m.params (a+1+1+1+1+1) (m.nx (a+1+1+1+1) 3).toNat).map encR).length : Nat) : Int) + 2 + m.nx ((a+1+1+1+1+1 + (m.nx (a+1+1+1+1) 3).toNat)+1) 2) 2 [⟨4, 0⟩] [] 0) _ _ _ _ _ _ (by omega) (by omega)) | exact (r1) | exact (site_ok (m.with' (m.dG id a (m.partX a) (m.params (a+1+1+1+1+1) (m.nx (a+1+1+1+1) 3).toNat) [] (((((m.params (a+1+1+1+1+1) (m.nx (a+1+1+1+1) 3).toNat).map encR).length : Nat) : Int) + 2 + m.nx ((a+1+1+1+1+1 + (m.nx (a+1+1+1+1) 3).toNat)+1) 2) 2 [⟨4, 0⟩] rr.1 0)) _ _ _ _ _ (by omega)) | exact (head_ok (m.dG id a (m.partX a) (m.params (a+1+1+1+1+1) (m.nx (a+1+1+1+1) 3).toNat) [] (((((m.params (a+1+1+1+1+1) (m.nx (a+1+1+1+1) 3).toNat).map encR).length : Nat) : Int) + 2 + m.nx ((a+1+1+1+1+1 + (m.nx (a+1+1+1+1) 3).toNat)+1) 2) 2 [⟨4, 0⟩] rr.1 (rr.2.s+1 : Nat)))); refine run ?_)
    exact Done.mk rfl rfl
end Abs
namespace Abs
open Go Go.Proofs
set_option maxRecDepth 100000
set_option maxHeartbeats 4000000
structure QuOk (q : Qu) : Prop where
  r : RngOk q.r
  cap : 1 ≤ q.cap ∧ q.cap ≤ 16
theorem queue_right (q : Qu) (h : QuOk q) : CallsA Tryz.prog 93 [encQ q] ct0 (bo true) ct0 := by
  have h1 := h.cap
  have c : CallsA Tryz.prog 94 [.agg [it q.r.lo, it q.r.hi, it q.r.mask]] ct0 (bo true) ct0 := rightRange_ok q.r h.r
  refine fn_ok hm Tryz.func93 (fun _ => false) [] (fun _ => []) (by kernel_rfl) ?_
  refine run ?_; repeat ((apply call_ok; first | exact (c) | exact (in_yes _ _ _ (by omega) (by omega))); refine run ?_)
  exact Done.mk rfl rfl
theorem sink_right (n : Int) (h : 0 ≤ n ∧ n ≤ 255) : CallsA Tryz.prog 96 [it n] ct0 (bo true) ct0 := by
  refine fn_ok hm Tryz.func96 (fun _ => false) [] (fun _ => []) (by kernel_rfl) ?_
  refine run ?_; repeat ((apply call_ok; first | exact (in_yes _ _ _ (by omega) (by omega))); refine run ?_)
  exact Done.mk rfl rfl
structure DcOk (x : Dc) : Prop where
  globals : (∀ r ∈ x.globals, RngOk r) ∧ x.globals.length ≤ 8
  classes : (∀ r ∈ x.classes, RngOk r) ∧ x.classes.length ≤ 8
  queues : (∀ q ∈ x.queues, QuOk q) ∧ x.queues.length ≤ 4
  sinks : (∀ n ∈ x.sinks, 0 ≤ n ∧ n ≤ 255) ∧ x.sinks.length ≤ 8
  locks : 0 ≤ x.locks ∧ x.locks ≤ 8
  parts : 1 ≤ x.parts ∧ x.parts ≤ 16
  firms : 1 ≤ x.firms ∧ x.firms ≤ 8
theorem shDecl_ok (x : Dc) (h : DcOk x) : CallsA Tryz.prog 56 [.agg (cDc x)] ct0 (it 0) ct0 := by
  have c1 := evR_ok x.globals 8 (fun r hr => rightRange_ok r (h.globals.1 r hr)) (by have := h.globals.2; omega) (by omega)
  have c2 := evR_ok x.classes 8 (fun r hr => rightRange_ok r (h.classes.1 r hr)) (by have := h.classes.2; omega) (by omega)
  have c3 := evQ_ok x.queues 4 (fun q hq => queue_right q (h.queues.1 q hq)) (by have := h.queues.2; omega) (by omega)
  have c4 := evS_ok x.sinks 8 (fun n hn => sink_right n (h.sinks.1 n hn)) (by have := h.sinks.2; omega) (by omega)
  have h1 := h.locks
  have h2 := h.parts
  have h3 := h.firms
  refine fn_ok hm Tryz.func56 (fun _ => false) [] (fun _ => []) (by kernel_rfl) ?_
  refine run ?_; repeat ((apply call_ok; first | exact (c1) | exact (c2) | exact (c3) | exact (c4) | exact (in_yes _ _ _ (by omega) (by omega))); refine run ?_)
  exact Done.mk rfl rfl
def hdClo (p : Pg) : Dat := .clo (.func 101) [] [.ptr 1000 0, .imm (encP p) 0]
theorem evH1_ok (p : Pg) (h : Hd) (v : Int) (ok : HdOk p h) (sm : DcSm p.d) (hv : 0 ≤ v ∧ v + 1 ≤ h.id) : CallsA Tryz.prog 143 [encH h, .pin (hdClo p)] ⟨[it v], []⟩ (bo false) ⟨[it h.id], []⟩ := by
  have c := rightHead_ok p h v ok sm hv
  refine fn_ok hm Tryz.func143 (fun _ => false) [] (fun _ => []) (by kernel_rfl) ?_
  refine run ?_; repeat ((apply call_ok; first | exact (c)); refine run ?_)
  exact Done.mk rfl rfl
def lastId (l : List Hd) : Int := l.foldl (fun _ h => h.id) 0
structure HdsOk (p : Pg) : Prop where
  ok : ∀ h ∈ p.heads, HdOk p h
  len : p.heads.length ≤ 40
  inc : ∀ k (hk : k < p.heads.length), 0 ≤ lastId (p.heads.take k) ∧ lastId (p.heads.take k) + 1 ≤ p.heads[k].id
structure CL where
  k : Nat
  v : Int
theorem evHX_ok (p : Pg) (h : HdsOk p) (sm : DcSm p.d) : CallsA Tryz.prog 176 [lst 5 encH p.heads, .clo (.func 143) [] [.pin (hdClo p)]] ⟨[it 0], []⟩ (it (-1)) ⟨[it (lastId p.heads)], []⟩ := by
  have hl := h.len
  refine fn_ok hm Tryz.func176 (fun _ => false) [] (fun _ => []) (by kernel_rfl) ?_
  refine run ?_
  refine LoopS.mk ⟨[], HeadS.lp (fun r : CL => r.k ≤ p.heads.length ∧ r.v = lastId (p.heads.take r.k)) (fun r => ⟨[(8, it r.k)], [(1000, it r.v)], []⟩) (fun r => p.heads.length - r.k) ⟨0, 0⟩ ⟨Nat.zero_le _, rfl⟩ ?_⟩
  rintro ⟨k, v⟩ ⟨hJ, hv⟩
  dsimp only at hJ hv ⊢
  by_cases hk : k < p.heads.length
  · have b1 : decide ((k : Int) < ((p.heads.map encH).length : Nat)) = true := decide_eq_true (by rw [List.length_map]; omega)
    have hi := h.inc k hk
    rw [← hv] at hi
    have c := evH1_ok p p.heads[k] v (h.ok _ (List.getElem_mem hk)) sm hi
    have e : p.heads[k].id = lastId (p.heads.take (k+1)) := by unfold lastId; rw [List.take_succ_eq_append_getElem hk, List.foldl_append]; rfl
    refine run ?_
    refine Idx.map hk rfl ?_
    refine run ?_; repeat ((apply call_ok; first | exact (c)); refine run ?_)
    refine ⟨⟨⟨k + 1, _⟩, ⟨hk, e⟩⟩, Nat.sub_lt_sub_left hk (Nat.lt_succ_self _), ?_⟩
    repeat' (first | exact trivial | exact rfl | refine ⟨?_, ?_⟩ | refine ⟨?_, ?_, ?_⟩)
  · have b1 : decide ((k : Int) < ((p.heads.map encH).length : Nat)) = false := decide_eq_false (by rw [List.length_map]; omega)
    rw [List.take_of_length_le (by omega)] at hv
    refine run ?_
    exact Done.mk rfl (congrArg (fun x => (⟨[it x], []⟩ : Ct)) hv)
theorem evHC_ok (p : Pg) (h : HdsOk p) (sm : DcSm p.d) : CallsA Tryz.prog 142 [lst 5 encH p.heads, .clo (.func 143) [] [.pin (hdClo p)]] ⟨[it 0], []⟩ (bo false) ⟨[it (lastId p.heads)], []⟩ := by
  have c := evHX_ok p h sm
  refine fn_ok hm Tryz.func142 (fun _ => false) [] (fun _ => []) (by kernel_rfl) ?_
  refine run ?_; repeat ((apply call_ok; first | exact (c)); refine run ?_)
  exact Done.mk rfl rfl
theorem evH_ok (p : Pg) (h : HdsOk p) (sm : DcSm p.d) : CallsA Tryz.prog 100 [lst 5 encH p.heads, it 40, hdClo p] ⟨[it 0], []⟩ (bo true) ⟨[it (lastId p.heads)], []⟩ := by
  have c := evHC_ok p h sm
  have b1 : decide ((((p.heads.map encH).length : Nat) : Int) ≤ 40) = true := decide_eq_true (by rw [List.length_map]; have := h.len; omega)
  refine fn_ok hm Tryz.func100 (fun _ => false) [] (himm 5) (by kernel_rfl) ?_
  refine run ?_; repeat ((apply call_ok; first | exact (c)); refine run ?_)
  exact Done.mk rfl rfl
theorem rightHeads_ok (p : Pg) (h : HdsOk p) (sm : DcSm p.d) : CallsA Tryz.prog 57 [encP p] ct0 (bo true) ct0 := by
  have c := evH_ok p h sm
  refine fn_ok hm Tryz.func57 (fun _ => false) [] (himm 1) (by kernel_rfl) ?_
  refine run ?_; repeat ((apply call_ok; first | exact (c)); refine run ?_)
  exact Done.mk rfl rfl
theorem eqRngs_ok (l : List Rng) (hl : l.length < 2^40) : CallsA Tryz.prog 104 [lst 3 encR l, lst 3 encR l] ct0 (bo true) ct0 := by
  have b0 : ((((l.map encR).length : Nat) : Int) != ((l.map encR).length : Nat)) = false := by simp
  refine fn_ok hm Tryz.func104 (fun _ => false) [] (fun _ => []) (by kernel_rfl) ?_
  refine run ?_
  refine LoopS.mk ⟨[], HeadS.lp (fun k : Nat => k ≤ l.length) (fun k => ⟨[(13, it k)], [], []⟩) (fun k => l.length - k) 0 (Nat.zero_le _) ?_⟩
  intro k hJ
  by_cases hk : k < l.length
  · have b1 : decide ((k : Int) < ((l.map encR).length : Nat)) = true := decide_eq_true (by rw [List.length_map]; omega)
    have b2 : (!(l[k].lo == l[k].lo && (l[k].hi == l[k].hi && (l[k].mask == l[k].mask && true)))) = false := by simp
    refine run ?_
    refine Idx.map hk rfl ?_
    refine run ?_
    refine Idx.map hk rfl ?_
    refine run ?_
    refine ⟨⟨k + 1, hk⟩, Nat.sub_lt_sub_left hk (Nat.lt_succ_self _), ?_⟩
    repeat' (first | exact trivial | exact rfl | refine ⟨?_, ?_⟩ | refine ⟨?_, ?_, ?_⟩)
  · have b1 : decide ((k : Int) < ((l.map encR).length : Nat)) = false := decide_eq_false (by rw [List.length_map]; omega)
    refine run ?_
    exact Done.mk rfl rfl
def findH (p : Pg) (n : Int) : Hd × Bool := fnd (fun x : Hd => x.id == n) zHd p.heads
def CallIn (p : Pg) (s : Sm) : Prop := s.op = 13 → ∃ h, findH p s.m = (h, true) ∧ h.params.length = s.args.length ∧ h.given.length = s.ptrs.length
structure DefIn (p : Pg) (d : Df) : Prop where
  right : DfRight d p.d
  head : findH p d.id = (headOf d, true)
  calls : ∀ z ∈ flL d.body 1, CallIn p z.1
theorem encEs_len (l : List Ex) : (encEs l).length = l.length := by rw [encEs_map, List.length_map]
theorem rightDef_ok (p : Pg) (d : Df) (hl : p.heads.length < 2^40) (h : DefIn p d) : CallsA Tryz.prog 58 [encP p, encD d] ct0 (bo true) ct0 := by
  have cd := shDef_ok d p.d h.right
  have ch := shapeHeadOf_ok p d.id hl
  have e1 : fnd (fun x : Hd => x.id == d.id) zHd p.heads = (headOf d, true) := h.head
  rw [e1] at ch
  have l1 := h.right.vars
  have l2 := h.right.refs
  have c1 := eqRngs_ok d.params (by omega)
  have c2 := eqRngs_ok d.given (by omega)
  have b1 : (d.firm != d.firm) = false := by simp
  have b2 : (d.part != d.part) = false := by simp
  have hsz := h.right.size
  have hI := all_iter d.body (by omega)
  have hlen := flL_len d.body 1
  refine fn_ok hm Tryz.func58 (fun _ => false) [] (fun _ => []) (by kernel_rfl) ?_
  refine run ?_; repeat ((apply call_ok; first | exact (cd) | exact (ch) | exact (c1) | exact (c2) | exact (all_ok d.body)); refine run ?_)
  refine RangeS.mk ⟨[], ?_⟩
  (conv => whnf)
  refine ⟨_, rfl, RoundS.map (flL d.body 1) encPl (fun k : Nat => k ≤ (flL d.body 1).length) (fun k => ⟨[], [], []⟩) (fun k => k) 0 hI (fun x => rfl) rfl (Nat.zero_le _) ?_ ?_ ?_ ?_ ?_ ?_⟩
  · repeat' (first | exact trivial | exact rfl | refine ⟨?_, ?_⟩ | refine ⟨?_, ?_, ?_⟩)
  · kernel_rfl
  · kernel_rfl
  · intro k; exact ⟨rfl, rfl, rfl, rfl⟩
  · intro k hJ hk
    have hci := h.calls _ (List.getElem_mem hk)
    refine (Bool.eq_false_or_eq_true ((flL d.body 1)[k].1.op != 13)).elim (fun b3 => ?_) (fun b3 => ?_)
    rotate_left
    · have h3 : (flL d.body 1)[k].1.op = 13 := by simpa using b3
      refine (hci h3).elim fun H hH => ?_
      have cH := shapeHeadOf_ok p (flL d.body 1)[k].1.m hl
      have e2 : fnd (fun x : Hd => x.id == (flL d.body 1)[k].1.m) zHd p.heads = (H, true) := hH.1
      rw [e2] at cH
      have b4 : ((((H.params.map encR).length : Nat) : Int) != ((encEs (flL d.body 1)[k].1.args).length : Nat)) = false := by rw [encEs_len, List.length_map, hH.2.1]; simp
      have b5 : ((((H.given.map encR).length : Nat) : Int) != (((flL d.body 1)[k].1.ptrs.map it).length : Nat)) = false := by rw [List.length_map, List.length_map, hH.2.2]; simp
      refine run ?_; repeat ((apply call_ok; first | exact (cH)); refine run ?_)
      refine ⟨⟨k + 1, hk⟩, rfl, ?_⟩
      repeat' (first | exact trivial | exact rfl | refine ⟨?_, ?_⟩ | refine ⟨?_, ?_, ?_⟩)
    · refine run ?_
      refine ⟨⟨k + 1, hk⟩, rfl, ?_⟩
      repeat' (first | exact trivial | exact rfl | refine ⟨?_, ?_⟩ | refine ⟨?_, ?_, ?_⟩)
  · intro k hJ hk
    refine run ?_
    exact Done.mk rfl rfl
def sitesOf (d : Df) : List Int := sitesL (flL d.body 1) ++ [d.site]
theorem shSites_ok (d : Df) (h : szL d.body < 2^30) : CallsA Tryz.prog 59 [encD d] ct0 (ints (sitesOf d)) ct0 := by
  have hI := all_iter d.body (by omega)
  have hlen := flL_len d.body 1
  refine fn_ok hm Tryz.func59 (fun _ => false) [] (fun _ => []) (by kernel_rfl) ?_
  refine run ?_; repeat ((apply call_ok; first | exact (all_ok d.body)); refine run ?_)
  refine RangeS.mk ⟨[.cell 3 0 20004], ?_⟩
  (conv => whnf)
  refine ⟨_, rfl, RoundS.map (flL d.body 1) encPl (fun r : CR => r.k ≤ (flL d.body 1).length ∧ r.acc = (sitesL ((flL d.body 1).take r.k)).map it) (fun r => ⟨[], [(3, .ref 20004 r.acc.length)], [(20004, ⟨1, true, r.acc⟩)]⟩) (·.k) ⟨0, []⟩ hI (fun x => rfl) rfl ⟨Nat.zero_le _, rfl⟩ ?_ ?_ ?_ ?_ ?_ ?_⟩
  · repeat' (first | exact trivial | exact rfl | refine ⟨?_, ?_⟩ | refine ⟨?_, ?_, ?_⟩)
  · kernel_rfl
  · kernel_rfl
  · intro k; exact ⟨rfl, rfl, rfl, rfl⟩
  · intro r hJ hk
    have hl : r.acc.length < 2^30 := by rw [hJ.2, List.length_map, sitesL, List.length_map, List.length_take]; omega
    have hJ2 : r.acc ++ [it (flL d.body 1)[r.k].1.site] = (sitesL ((flL d.body 1).take (r.k + 1))).map it := by rw [sitesL_take hk, hJ.2, List.map_append]; rfl
    refine run ?_
    refine ⟨⟨⟨r.k + 1, _⟩, ⟨hk, hJ2⟩⟩, rfl, ?_⟩
    repeat' (first | exact trivial | exact rfl | refine ⟨?_, ?_⟩ | refine ⟨?_, ?_, ?_⟩)
  · intro r hJ hk
    have hl : r.acc.length < 2^30 := by rw [hJ.2, List.length_map, sitesL, List.length_map, List.length_take]; omega
    have hk : r.k = (flL d.body 1).length := hk
    have e := hJ.2
    rw [hk, List.take_of_length_le (Nat.le_refl _)] at e
    have e2 : r.acc ++ [it d.site] = (sitesOf d).map it := by rw [e, sitesOf, List.map_append]; rfl
    refine run ?_
    exact Done.mk (congrArg (fun x => Dat.sl 1 x false) e2) rfl
end Abs
namespace Abs
open Go Go.Proofs
set_option maxRecDepth 100000
set_option maxHeartbeats 4000000
def lastDf (l : List Df) : Int := l.foldl (fun _ d => d.id) 0
structure PgRight (p : Pg) : Prop where
  d : DcOk p.d
  heads : HdsOk p
  ndefs : p.defs.length ≤ 40
  nth : p.threads.length ≤ 4
  defs : ∀ d ∈ p.defs, DefIn p d
  inc : ∀ k (hk : k < p.defs.length), lastDf (p.defs.take k) < p.defs[k].id
  sites : (p.defs.flatMap sitesOf).Nodup
  th : ∀ t ∈ p.threads, ∃ D, fnd (fun x : Df => x.id == t) zDf p.defs = (D, true) ∧ D.params = [] ∧ D.given = []
  order : (orderP p).length = p.defs.length
  calls : ∀ d ∈ p.defs, (callsOf d.body).length < 2^40
structure CP where
  k : Nat
  v : Int
  l : List Int
theorem new_site {l : List Df} (h : (l.flatMap sitesOf).Nodup) {k : Nat} (hk : k < l.length) {j : Nat} (hj : j < (sitesOf l[k]).length) :
    (sitesOf l[k])[j] ∉ (l.take k).flatMap sitesOf ++ (sitesOf l[k]).take j := by
  have e : l = l.take k ++ (l[k] :: l.drop (k+1)) := by rw [List.getElem_cons_drop, List.take_append_drop]
  have e2 : sitesOf l[k] = (sitesOf l[k]).take j ++ ((sitesOf l[k])[j] :: (sitesOf l[k]).drop (j+1)) := by rw [List.getElem_cons_drop, List.take_append_drop]
  have e3 : l.flatMap sitesOf = ((l.take k).flatMap sitesOf ++ (sitesOf l[k]).take j) ++ ((sitesOf l[k])[j] :: ((sitesOf l[k]).drop (j+1) ++ (l.drop (k+1)).flatMap sitesOf)) := by
    conv => lhs; rw [e]
    rw [List.flatMap_append, List.flatMap_cons, List.append_assoc]
    congr 1
    conv => lhs; rw [e2]
    rw [List.append_assoc]; rfl
  rw [e3, List.nodup_append] at h
  intro hm
  exact h.2.2 _ hm _ List.mem_cons_self rfl
theorem sitesOf_len (d : Df) : (sitesOf d).length = szL d.body + 1 := by rw [sitesOf, List.length_append, sitesL, List.length_map, flL_len]; rfl
theorem shProgram_ok (p : Pg) (h : PgRight p) : CallsA Tryz.prog 24 [encP p] ct0 (it 0) ct0 := by
  have c1 := shDecl_ok p.d h.d
  have c2 := rightHeads_ok p h.heads ⟨h.d.parts.2, h.d.firms.2⟩
  have hl := h.heads.len
  have hnd := h.ndefs
  have hnt := h.nth
  have hle : p.defs.length < 2^40 := by omega
  have b1 : decide ((((p.defs.map encD).length : Nat) : Int) > 40) = false := decide_eq_false (by rw [List.length_map]; omega)
  have b2 : decide ((((p.threads.map it).length : Nat) : Int) > 4) = false := decide_eq_false (by rw [List.length_map]; omega)
  have hsm : ∀ d ∈ p.defs, szL d.body < 2^30 := fun d hd => by have := (h.defs d hd).right.size; omega
  have cD := fun d (hd : d ∈ p.defs) => rightDef_ok p d (by omega) (h.defs d hd)
  have cS := fun d (hd : d ∈ p.defs) => shSites_ok d (hsm d hd)
  have cF := fun t => shapeFind_ok p t hle
  have cO := order_ok p (by omega) (fun d hd => ⟨hsm d hd, h.calls d hd⟩)
  have eO : ((((orderP p).map it).length : Int) != ((p.defs.map encD).length : Nat)) = false := by rw [List.length_map, List.length_map, h.order]; simp
  refine fn_ok hm Tryz.func24 (fun _ => false) [] (fun _ => []) (by kernel_rfl) ?_
  refine run ?_; repeat ((apply call_ok; first | exact (c1) | exact (c2)); refine run ?_)
  refine LoopS.mk ⟨[], HeadS.lp (fun r : CP => r.k ≤ p.defs.length ∧ r.v = lastDf (p.defs.take r.k) ∧ r.l = (p.defs.take r.k).flatMap sitesOf) (fun r => ⟨[(38, it r.k), (4, it r.v)], [], [(34, mapR (setOf r.l))]⟩) (fun r => p.defs.length - r.k) ⟨0, 0, []⟩ ⟨Nat.zero_le _, rfl, rfl⟩ ?_⟩
  rintro ⟨k, v, l⟩ ⟨hJ, hv, hl⟩
  dsimp only at hJ hv hl ⊢
  by_cases hk : k < p.defs.length
  · have b3 : decide ((k : Int) < ((p.defs.map encD).length : Nat)) = true := decide_eq_true (by rw [List.length_map]; omega)
    have hi := h.inc k hk
    rw [← hv] at hi
    have b4 : decide (p.defs[k].id ≤ v) = false := decide_eq_false (by omega)
    have cd := cD _ (List.getElem_mem hk)
    have cs := cS _ (List.getElem_mem hk)
    have hsz := hsm _ (List.getElem_mem hk)
    have hsl := sitesOf_len p.defs[k]
    have hnew := fun j hj => new_site h.sites hk (j := j) hj
    rw [← hl] at hnew
    have ev : p.defs[k].id = lastDf (p.defs.take (k+1)) := by unfold lastDf; rw [List.take_succ_eq_append_getElem hk, List.foldl_append]; rfl
    have el : l ++ sitesOf p.defs[k] = (p.defs.take (k+1)).flatMap sitesOf := by rw [hl, List.take_succ_eq_append_getElem hk, List.flatMap_append]; simp
    generalize hS : sitesOf p.defs[k] = S at *
    refine run ?_; repeat ((apply call_ok; first | exact (cd)); refine run ?_)
    refine Idx.map hk rfl ?_
    refine run ?_; repeat ((apply call_ok; first | exact (cd) | exact (cs)); refine run ?_)
    refine LoopS.mk ⟨[], HeadS.lp (fun r : CM => r.k ≤ S.length ∧ r.l = l ++ S.take r.k) (fun r => ⟨[(57, it r.k)], [], [(34, mapR (setOf r.l))]⟩) (fun r => S.length - r.k) ⟨0, l⟩ ⟨Nat.zero_le _, by simp⟩ ?_⟩
    rintro ⟨j, l2⟩ ⟨hj, hl2⟩
    dsimp only at hj hl2 ⊢
    by_cases hj2 : j < S.length
    · have b5 : decide ((j : Int) < ((S.map it).length : Nat)) = true := decide_eq_true (by rw [List.length_map]; omega)
      have hn := hnew j hj2
      rw [← hl2] at hn
      have em := setOf_snoc l2 S[j]
      have hf := mAt_no hn
      have e2 : l2 ++ [S[j]] = l ++ S.take (j+1) := by rw [hl2, List.take_succ_eq_append_getElem hj2, List.append_assoc]
      refine run ?_
      refine Idx.map hj2 rfl ?_
      refine run ?_
      refine MFind.no (setOf_no hn) ?_
      refine run ?_
      refine MFind.mk ⟨none, (mfind_mAt bo _ _ 0).trans (congrArg some hf), ?_⟩
      refine run ?_
      refine ⟨⟨⟨j + 1, _⟩, ⟨hj2, e2⟩⟩, Nat.sub_lt_sub_left hj2 (Nat.lt_succ_self _), ?_⟩
      repeat' (first | exact trivial | exact rfl | exact congrArg (fun x => some (Row.mk 0 true x)) em | refine And.intro ?_ ?_ | refine Holds.mk ?_ ?_ ?_)
    · have b5 : decide ((j : Int) < ((S.map it).length : Nat)) = false := decide_eq_false (by rw [List.length_map]; omega)
      rw [List.take_of_length_le (by omega)] at hl2
      rw [← hl2] at el
      refine run ?_
      refine ⟨⟨⟨k + 1, _, l2⟩, ⟨hk, ev, el⟩⟩, Nat.sub_lt_sub_left hk (Nat.lt_succ_self _), ?_⟩
      repeat' (first | exact trivial | exact rfl | refine ⟨?_, ?_⟩ | refine ⟨?_, ?_, ?_⟩)
  · have b3 : decide ((k : Int) < ((p.defs.map encD).length : Nat)) = false := decide_eq_false (by rw [List.length_map]; omega)
    refine run ?_
    refine LoopS.mk ⟨[], HeadS.lp (fun k : Nat => k ≤ p.threads.length) (fun k => ⟨[(71, it k)], [], []⟩) (fun k => p.threads.length - k) 0 (Nat.zero_le _) ?_⟩
    intro j hj
    by_cases hj2 : j < p.threads.length
    · have b5 : decide ((j : Int) < ((p.threads.map it).length : Nat)) = true := decide_eq_true (by rw [List.length_map]; omega)
      refine (h.th _ (List.getElem_mem hj2)).elim fun D hD => ?_
      have cf : CallsA Tryz.prog 60 [encP p, it p.threads[j]] ct0 (.tup [encD D, bo true]) ct0 := by have := cF p.threads[j]; rw [hD.1] at this; exact this
      have b6 : decide ((((D.params.map encR).length : Nat) : Int) + ((D.given.map encR).length : Nat) > 0) = false := by rw [hD.2.1, hD.2.2]; rfl
      have g1 : (D.params.map encR).length = 0 := by rw [hD.2.1]; rfl
      have g2 : (D.given.map encR).length = 0 := by rw [hD.2.2]; rfl
      refine run ?_
      refine Idx.map hj2 rfl ?_
      refine run ?_; repeat ((apply call_ok; first | exact (cf)); refine run ?_)
      refine ⟨⟨j + 1, hj2⟩, Nat.sub_lt_sub_left hj2 (Nat.lt_succ_self _), ?_⟩
      repeat' (first | exact trivial | exact rfl | refine ⟨?_, ?_⟩ | refine ⟨?_, ?_, ?_⟩)
    · have b5 : decide ((j : Int) < ((p.threads.map it).length : Nat)) = false := decide_eq_false (by rw [List.length_map]; omega)
      refine run ?_; repeat ((apply call_ok; first | exact (cO)); refine run ?_)
      exact Done.mk rfl rfl
end Abs
