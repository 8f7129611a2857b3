/- A part of a proof: an abstract machine, proved sound, or contracts of functions. No condition. -/
import Derived.Shelf.Sort.Plain
import Derived.Shelf.Slices.CompactI
import Derived.Test.YtcbpfnplkdijpaaGreatT4
set_option linter.unusedVariables false
set_option linter.unusedSimpArgs false
namespace Abs
open Go Go.Proofs
set_option maxRecDepth 100000
set_option maxHeartbeats 4000000
def declD : Dc := ⟨[⟨0, 20, 1⟩, ⟨-5, 5, 0⟩], [⟨0, 9, 1⟩, ⟨0, 100, 2⟩], [⟨2, ⟨0, 15, 1⟩⟩], [0, 1, 3], 3, 3, 2⟩
theorem declared_ok : CallsA Tryz.prog 65 [] ct0 (.agg (cDc declD)) ct0 := by
  refine fn_ok hm Tryz.func65 (fun _ => false) [] (fun _ => []) (by kernel_rfl) ?_
  refine run ?_
  exact Done.mk rfl rfl
def headOf (d : Df) : Hd := ⟨d.id, d.firm, d.part, d.params, d.given⟩
theorem head_ok (d : Df) : CallsA Tryz.prog 55 [encD d] ct0 (encH (headOf d)) ct0 := by
  refine fn_ok hm Tryz.func55 (fun _ => false) [] (fun _ => []) (by kernel_rfl) ?_
  refine run ?_
  exact Done.mk rfl rfl
def encMkR (m : Mk) (nm : Nat) (a s l p d : Nat) (n : Nat) : Dat := .agg ([byt m.L, it a] ++ (cDc m.d ++ ([.ref 1000 (m.heads.map encH).length, .ref 1001 (m.defs.map encD).length, .ref 1002 (m.th.map it).length] ++
  ([it m.D.id, it m.D.site, .str m.D.name, it m.D.firm, it m.D.part, .ref nm n, lst 3 encR m.D.given, it m.D.vars, it m.D.refs, lst 2 encA m.D.arrays, it m.D.budget, lst 20 encS m.D.body] ++ [it s, it l, it p, it d, bo m.calm]))))
def ctR (m : Mk) (a s l p d : Nat) (ps : List Dat) : Ct := ⟨[encMkR m 1003 a s l p d ps.length], [⟨5, true, m.heads.map encH⟩, ⟨12, true, m.defs.map encD⟩, ⟨1, true, m.th.map it⟩, ⟨3, true, ps⟩]⟩
theorem nextR_ok (m : Mk) (ps : List Dat) (a s l p d : Nat) (n : Int) (h : a < 2^60) (hn : 0 < n) : CallsA Tryz.prog 109 [mp, it n] (ctR m a s l p d ps) (it (m.nx a n)) (ctR m (a + 1) s l p d ps) := by
  by_cases hl : a < m.L.length
  · have hb : decide ((a : Int) + 1 > ((m.L.map fun b => Dat.int .u8 b.toNat).length : Nat)) = false := by simp; omega
    have hu := UInt8.toNat_lt (m.L[a])
    refine fn_ok hm Tryz.func109 (fun _ => false) [] (fun _ => []) (by kernel_rfl) ?_
    refine run ?_
    refine Idx.mapE a (by omega) (by omega) rfl ?_
    refine run ?_
    refine Done.mk (congrArg it ?_) rfl
    simp [Mk.nx, List.getD, hl]
  · have hb : decide ((a : Int) + 1 > ((m.L.map fun b => Dat.int .u8 b.toNat).length : Nat)) = true := by simp; omega
    refine fn_ok hm Tryz.func109 (fun _ => false) [] (fun _ => []) (by kernel_rfl) ?_
    refine run ?_
    refine Done.mk (congrArg it ?_) rfl
    simp [Mk.nx, List.getD, hl]
def encMkA (m : Mk) (nm : Nat) (a s l p d : Nat) (n : Nat) : Dat := .agg ([byt m.L, it a] ++ (cDc m.d ++ ([.ref 1000 (m.heads.map encH).length, .ref 1001 (m.defs.map encD).length, .ref 1002 (m.th.map it).length] ++
  ([it m.D.id, it m.D.site, .str m.D.name, it m.D.firm, it m.D.part, lst 3 encR m.D.params, lst 3 encR m.D.given, it m.D.vars, it m.D.refs, .ref nm n, it m.D.budget, lst 20 encS m.D.body] ++ [it s, it l, it p, it d, bo m.calm]))))
def ctA (m : Mk) (a s l p d : Nat) (ps : List Dat) : Ct := ⟨[encMkA m 1003 a s l p d ps.length], [⟨5, true, m.heads.map encH⟩, ⟨12, true, m.defs.map encD⟩, ⟨1, true, m.th.map it⟩, ⟨2, true, ps⟩]⟩
theorem nextA_ok (m : Mk) (ps : List Dat) (a s l p d : Nat) (n : Int) (h : a < 2^60) (hn : 0 < n) : CallsA Tryz.prog 109 [mp, it n] (ctA m a s l p d ps) (it (m.nx a n)) (ctA m (a + 1) s l p d ps) := by
  by_cases hl : a < m.L.length
  · have hb : decide ((a : Int) + 1 > ((m.L.map fun b => Dat.int .u8 b.toNat).length : Nat)) = false := by simp; omega
    have hu := UInt8.toNat_lt (m.L[a])
    refine fn_ok hm Tryz.func109 (fun _ => false) [] (fun _ => []) (by kernel_rfl) ?_
    refine run ?_
    refine Idx.mapE a (by omega) (by omega) rfl ?_
    refine run ?_
    refine Done.mk (congrArg it ?_) rfl
    simp [Mk.nx, List.getD, hl]
  · have hb : decide ((a : Int) + 1 > ((m.L.map fun b => Dat.int .u8 b.toNat).length : Nat)) = true := by simp; omega
    refine fn_ok hm Tryz.func109 (fun _ => false) [] (fun _ => []) (by kernel_rfl) ?_
    refine run ?_
    refine Done.mk (congrArg it ?_) rfl
    simp [Mk.nx, List.getD, hl]
def rngs : List Rng := [⟨0, 3, 0⟩, ⟨-2, 5, 1⟩, ⟨0, 9, 3⟩, ⟨2, 2, 0⟩]
def Mk.rng (m : Mk) (a : Nat) : Rng := rngs.getD (m.nx a 4).toNat ⟨0, 0, 0⟩
theorem Mk.rng_at (m : Mk) (a : Nat) : rngs[(m.nx a 4).toNat]? = some (m.rng a) := by
  have h := m.nx_bd a (n := 4) (by omega)
  have h2 : (m.nx a 4).toNat < rngs.length := by simp [rngs]; omega
  simp [Mk.rng, List.getD, h2]
def Mk.params (m : Mk) (a : Nat) : Nat → List Rng
  | 0 => []
  | i + 1 => m.params a i ++ [m.rng (a + i)]
def Mk.paramsD (m : Mk) (a : Nat) : Nat → List Dat
  | 0 => []
  | i + 1 => m.paramsD a i ++ [encR (m.rng (a + i))]
theorem Mk.paramsD_eq (m : Mk) (a : Nat) : ∀ i, m.paramsD a i = (m.params a i).map encR
  | 0 => rfl
  | i + 1 => by simp only [Mk.paramsD, Mk.params, m.paramsD_eq a i]; simp
theorem Mk.params_len (m : Mk) (a : Nat) : ∀ i, (m.params a i).length = i
  | 0 => rfl
  | i + 1 => by simp only [Mk.params, List.length_append, m.params_len a i]; rfl
def budgets : List Int := [400, 60, 20, 2000]
def Mk.budget (m : Mk) (a : Nat) : Int := budgets.getD (m.nx a 4).toNat 0
theorem Mk.budget_at (m : Mk) (a : Nat) : budgets[(m.nx a 4).toNat]? = some (m.budget a) := by
  have h := m.nx_bd a (n := 4) (by omega)
  have h2 : (m.nx a 4).toNat < budgets.length := by simp [budgets]; omega
  simp [Mk.budget, List.getD, h2]
def letters : List UInt8 := [97, 98, 99, 100, 101, 102, 103, 104]
def nameOf (id : Int) : List UInt8 := cut letters (some (id.tmod 8)) (some (id.tmod 8 + 1))
def Mk.with' (m : Mk) (D : Df) : Mk := ⟨m.L, m.d, m.heads, m.defs, m.th, D, m.calm⟩
def Mk.d0 (m : Mk) (id : Int) (a : Nat) (part : Int) : Df := ⟨id, 0, nameOf id, m.nx a 2, part, [], [], 0, 0, [], m.budget (a+1+1), []⟩
theorem nextR (m : Mk) (D : Df) (ps : List Dat) (a s l p d : Nat) (n : Int) (h : a < 2^60) (hn : 0 < n) : CallsA Tryz.prog 109 [mp, it n] (ctR (m.with' D) a s l p d ps) (it (m.nx a n)) (ctR (m.with' D) (a + 1) s l p d ps) := nextR_ok (m.with' D) ps a s l p d n h hn
theorem nextA (m : Mk) (D : Df) (ps : List Dat) (a s l p d : Nat) (n : Int) (h : a < 2^60) (hn : 0 < n) : CallsA Tryz.prog 109 [mp, it n] (ctA (m.with' D) a s l p d ps) (it (m.nx a n)) (ctA (m.with' D) (a + 1) s l p d ps) := nextA_ok (m.with' D) ps a s l p d n h hn
theorem nextD (m : Mk) (D : Df) (a s l p d : Nat) (n : Int) (h : a < 2^60) (hn : 0 < n) : CallsA Tryz.prog 109 [mp, it n] (ctM (m.with' D) a s l p d) (it (m.nx a n)) (ctM (m.with' D) (a + 1) s l p d) := next_ok (m.with' D) a s l p d n h hn
def hintDef : Nat → List Ad
  | 1 => [.cell 1000 17 32, .layCell 1000 18, .layCell 1000 21, .layCell 1000 23]
  | 10 => [.layCell 1000 17]
  | 12 => [.layCell 1000 18]
  | 17 => [.layCell 1000 21]
  | _ => []
structure PR where
  v : Int
  k : Nat
  acc : List Dat
def Mk.dG (m : Mk) (id : Int) (a : Nat) (part : Int) (ps gs : List Rng) (vars refs : Int) (ar : List Ar) (body : List Sm) (site : Int) : Df := ⟨id, site, nameOf id, m.nx a 2, part, ps, gs, vars, refs, ar, m.budget (a+1+1), body⟩
def Mk.partX (m : Mk) (a : Nat) : Int := (IntKind.i64.wrap ((m.nx (a+1) 6).tdiv 2)).tmod 3
def givenR : Rng := ⟨-10, 10, 1⟩
structure Mk.Core (m : Mk) : Prop where
  calm : m.calm = false
  heads : ∀ h ∈ m.heads, h.params.length ≤ 12 ∧ h.given.length ≤ 12
  nh : m.heads.length < 2^30
theorem Mk.with_fine {m : Mk} (h : m.Core) {D : Df} (h1 : (D.params.length : Int) < D.vars) (h2 : D.vars < 2^40) (h3 : 0 < D.arrays.length) (h4 : D.arrays.length < 2^40) : (m.with' D).Fine :=
  ⟨⟨by rw [Mk.nP_eq]; exact ⟨h1, h2, by show (D.params.length : Int) < _; omega⟩, by rw [Mk.nA_eq]; exact ⟨by show (0:Int) < (D.arrays.length : Int); omega, by show (D.arrays.length : Int) < _; omega⟩⟩, h.calm, h.heads, h.nh⟩
def ctEnd (m : Mk) (D : Df) (a s l p d : Nat) : Ct := ctM ⟨m.L, m.d, m.heads ++ [headOf D], m.defs ++ [D], m.th, D, m.calm⟩ a s l p d
theorem ctEnd_eq (m : Mk) (D : Df) (a s l p d : Nat) : ctEnd m D a s l p d = ⟨[.agg ([byt m.L, it a] ++ (cDc m.d ++ ([.ref 1000 (m.heads.map encH ++ [encH (headOf D)]).length, .ref 1001 (m.defs.map encD ++ [encD D]).length, .ref 1002 (m.th.map it).length] ++ (cD D ++ [it s, it l, it p, it d, bo m.calm]))))],
    [⟨5, true, m.heads.map encH ++ [encH (headOf D)]⟩, ⟨12, true, m.defs.map encD ++ [encD D]⟩, ⟨1, true, m.th.map it⟩]⟩ := by
  simp [ctEnd, ctM, encMk]
theorem def_t11 (m : Mk) (id : Int) (a s l p d : Nat) (fine : m.Core) (hid : 0 ≤ id ∧ id < 100) (h : a + 5000 < 2^58) (h' : s + 300 < 2^58) (hp : p < 2^40) (hlen : m.heads.length < 2^20 ∧ m.defs.length < 2^20)
    (t0 : (m.nx (a+1+1+1) 2 == 0) = true) (t1 : (m.nx (a+1+1+1+1+1 + 0) 4 == 0) = true) : CallsA Tryz.prog 110 [mp, it id, bo true] (ctM m a s l p d) (.tup [])
    (ctEnd m (m.dG id a 0 (m.params (a+1+1+1+1+1) 0) [] (((((m.params (a+1+1+1+1+1) 0).map encR).length : Nat) : Int) + 2 + m.nx ((a+1+1+1+1+1 + 0)+1) 2) 2 [⟨4, 0⟩] ((m.with' (m.dG id a 0 (m.params (a+1+1+1+1+1) 0) [] (((((m.params (a+1+1+1+1+1) 0).map encR).length : Nat) : Int) + 2 + m.nx ((a+1+1+1+1+1 + 0)+1) 2) 2 [⟨4, 0⟩] [] 0)).stmts 2 (1 + m.nx ((a+1+1+1+1+1 + 0)+1+1) 5).toNat ⟨((a+1+1+1+1+1 + 0)+1+1)+1, s, 9, 0⟩).1 (((m.with' (m.dG id a 0 (m.params (a+1+1+1+1+1) 0) [] (((((m.params (a+1+1+1+1+1) 0).map encR).length : Nat) : Int) + 2 + m.nx ((a+1+1+1+1+1 + 0)+1) 2) 2 [⟨4, 0⟩] [] 0)).stmts 2 (1 + m.nx ((a+1+1+1+1+1 + 0)+1+1) 5).toNat ⟨((a+1+1+1+1+1 + 0)+1+1)+1, s, 9, 0⟩).2.s+1 : Nat)) ((m.with' (m.dG id a 0 (m.params (a+1+1+1+1+1) 0) [] (((((m.params (a+1+1+1+1+1) 0).map encR).length : Nat) : Int) + 2 + m.nx ((a+1+1+1+1+1 + 0)+1) 2) 2 [⟨4, 0⟩] [] 0)).stmts 2 (1 + m.nx ((a+1+1+1+1+1 + 0)+1+1) 5).toNat ⟨((a+1+1+1+1+1 + 0)+1+1)+1, s, 9, 0⟩).2.a (((m.with' (m.dG id a 0 (m.params (a+1+1+1+1+1) 0) [] (((((m.params (a+1+1+1+1+1) 0).map encR).length : Nat) : Int) + 2 + m.nx ((a+1+1+1+1+1 + 0)+1) 2) 2 [⟨4, 0⟩] [] 0)).stmts 2 (1 + m.nx ((a+1+1+1+1+1 + 0)+1+1) 5).toNat ⟨((a+1+1+1+1+1 + 0)+1+1)+1, s, 9, 0⟩).2.s+1) ((m.with' (m.dG id a 0 (m.params (a+1+1+1+1+1) 0) [] (((((m.params (a+1+1+1+1+1) 0).map encR).length : Nat) : Int) + 2 + m.nx ((a+1+1+1+1+1 + 0)+1) 2) 2 [⟨4, 0⟩] [] 0)).stmts 2 (1 + m.nx ((a+1+1+1+1+1 + 0)+1+1) 5).toNat ⟨((a+1+1+1+1+1 + 0)+1+1)+1, s, 9, 0⟩).2.l p ((m.with' (m.dG id a 0 (m.params (a+1+1+1+1+1) 0) [] (((((m.params (a+1+1+1+1+1) 0).map encR).length : Nat) : Int) + 2 + m.nx ((a+1+1+1+1+1 + 0)+1) 2) 2 [⟨4, 0⟩] [] 0)).stmts 2 (1 + m.nx ((a+1+1+1+1+1 + 0)+1+1) 5).toNat ⟨((a+1+1+1+1+1 + 0)+1+1)+1, s, 9, 0⟩).2.d) := by
  have bi : 0 ≤ id.tmod 8 ∧ id.tmod 8 < 8 := ⟨Int.tmod_nonneg _ hid.1, Int.tmod_lt_of_pos _ (by omega)⟩
  have n0 := m.nx_bd a (n := 2) (by omega)
  have n1 := m.nx_bd (a+1) (n := 6) (by omega)
  have n2 := m.nx_bd (a+1+1) (n := 4) (by omega)
  have hcalm := fine.calm
  have bX := m.nx_bd (a+1+1+1+1) (n := 3) (by omega)
  have bv := m.nx_bd ((a+1+1+1+1+1 + 0)+1) (n := 2) (by omega)
  have b5 := m.nx_bd ((a+1+1+1+1+1 + 0)+1+1) (n := 5) (by omega)
  have pl : (m.params (a+1+1+1+1+1) 0).length = 0 := m.params_len _ _
  have pl2 : ((m.params (a+1+1+1+1+1) 0).map encR).length = 0 := by rw [List.length_map]; exact pl
  have pl2a : ((m.with' (m.dG id a 0 (m.params (a+1+1+1+1+1) 0) [] 0 0 [] [] 0)).D.params.map encR).length = 0 := pl2
  have pl2b : ((m.with' (m.dG id a 0 (m.params (a+1+1+1+1+1) 0) [] 0 0 [] [] 0)).D.params.map encR).length = 0 := pl2
  have pl3 : decide (((((m.params (a+1+1+1+1+1) 0).map encR).length : Nat) : Int) > 0) = false := by rw [pl2]; rfl
  have k1 : ((1 + m.nx ((a+1+1+1+1+1 + 0)+1+1) 5).toNat : Int) = 1 + m.nx ((a+1+1+1+1+1 + 0)+1+1) 5 := by omega
  have fineD : (m.with' (m.dG id a 0 (m.params (a+1+1+1+1+1) 0) [] (((((m.params (a+1+1+1+1+1) 0).map encR).length : Nat) : Int) + 2 + m.nx ((a+1+1+1+1+1 + 0)+1) 2) 2 [⟨4, 0⟩] [] 0)).Fine := Mk.with_fine fine (by simp only [Mk.dG]; omega) (by simp only [Mk.dG]; omega) (by simp [Mk.dG]) (by simp [Mk.dG])
  have r1 := stmts_ok _ fineD (1 + m.nx ((a+1+1+1+1+1 + 0)+1+1) 5).toNat (by omega) 2 (((a+1+1+1+1+1 + 0)+1+1)+1) s 9 p 0 (by omega) (by omega) (by omega) (by omega) (by omega) (by omega)
  rw [k1] at r1
  have us := (m.with' (m.dG id a 0 (m.params (a+1+1+1+1+1) 0) [] (((((m.params (a+1+1+1+1+1) 0).map encR).length : Nat) : Int) + 2 + m.nx ((a+1+1+1+1+1 + 0)+1) 2) 2 [⟨4, 0⟩] [] 0)).stmts_use fineD.heads 2 (1 + m.nx ((a+1+1+1+1+1 + 0)+1+1) 5).toNat ⟨((a+1+1+1+1+1 + 0)+1+1)+1, s, 9, 0⟩
  simp only [Less] at us
  rw [ctEnd_eq]
  generalize hR : (m.with' (m.dG id a 0 (m.params (a+1+1+1+1+1) 0) [] (((((m.params (a+1+1+1+1+1) 0).map encR).length : Nat) : Int) + 2 + m.nx ((a+1+1+1+1+1 + 0)+1) 2) 2 [⟨4, 0⟩] [] 0)).stmts 2 (1 + m.nx ((a+1+1+1+1+1 + 0)+1+1) 5).toNat ⟨((a+1+1+1+1+1 + 0)+1+1)+1, s, 9, 0⟩ = rr at *
  have hl1 : (m.with' (m.dG id a 0 (m.params (a+1+1+1+1+1) 0) [] (((((m.params (a+1+1+1+1+1) 0).map encR).length : Nat) : Int) + 2 + m.nx ((a+1+1+1+1+1 + 0)+1) 2) 2 [⟨4, 0⟩] rr.1 0)).defs.length < 2^20 := hlen.2
  have hl2 : (m.with' (m.dG id a 0 (m.params (a+1+1+1+1+1) 0) [] (((((m.params (a+1+1+1+1+1) 0).map encR).length : Nat) : Int) + 2 + m.nx ((a+1+1+1+1+1 + 0)+1) 2) 2 [⟨4, 0⟩] rr.1 0)).heads.length < 2^20 := hlen.1
  have hl3 : (m.with' (m.dG id a 0 (m.params (a+1+1+1+1+1) 0) [] ((((m.params (a+1+1+1+1+1) 0).length : Nat) : Int) + 2 + m.nx ((a+1+1+1+1+1 + 0)+1) 2) 2 [⟨4, 0⟩] rr.1 0)).defs.length < 2^20 := hlen.2
  have hl4 : (m.with' (m.dG id a 0 (m.params (a+1+1+1+1+1) 0) [] ((((m.params (a+1+1+1+1+1) 0).length : Nat) : Int) + 2 + m.nx ((a+1+1+1+1+1 + 0)+1) 2) 2 [⟨4, 0⟩] rr.1 0)).heads.length < 2^20 := hlen.1
  have hl5 : (m.with' (m.dG id a 0 (m.params (a+1+1+1+1+1) 0) [] ((((m.params (a+1+1+1+1+1) 0).length : Nat) : Int) + 2 + m.nx (a + 5 + 1) 2) 2 [⟨4, 0⟩] rr.1 0)).defs.length < 2^20 := hlen.2
  have hl6 : (m.with' (m.dG id a 0 (m.params (a+1+1+1+1+1) 0) [] ((((m.params (a+1+1+1+1+1) 0).length : Nat) : Int) + 2 + m.nx (a + 5 + 1) 2) 2 [⟨4, 0⟩] rr.1 0)).heads.length < 2^20 := hlen.1
  refine fn_ok hm Tryz.func110 (fun _ => false) [] hintDef (by kernel_rfl) ?_
  refine run ?_; repeat ((apply call_ok; first | exact (next_ok m _ _ _ _ _ _ (by omega) (by omega))); refine run ?_)
  iterate 2
    refine Idx.mapG (f := it) (m.nx (a+1+1) 4).toNat (m.budget (a+1+1)) (by omega) (m.budget_at (a+1+1)) rfl ?_
    refine run ?_
  refine run ?_; repeat ((apply call_ok; first | exact (nextR m (m.dG id a (m.partX a) [] [] 0 0 [] [] 0) [] _ _ _ _ _ _ (by omega) (by omega)) | exact (nextR m (m.dG id a 0 [] [] 0 0 [] [] 0) [] _ _ _ _ _ _ (by omega) (by omega))); refine run ?_)
  refine LoopS.mk ⟨[], HeadS.inv (fun r : PR => r.v = m.nx (a+1+1+1+1) 3 - r.k ∧ r.k ≤ 0 ∧ r.acc = (m.params (a+1+1+1+1+1) r.k).map encR)
    (fun r => ⟨[(7, it r.v)], [(1000, encMkR (m.with' (m.dG id a 0 [] [] 0 0 [] [] 0)) 32 (a+1+1+1+1+1 + r.k) s l p d r.acc.length)], [(32, ⟨3, true, r.acc⟩)]⟩)
    (fun r => 0 - r.k) ⟨m.nx (a+1+1+1+1) 3, 0, []⟩ ⟨by simp, Nat.zero_le _, rfl⟩ ?_ ?_ ?_ ?_ ?_⟩
  · repeat' (first | exact trivial | exact rfl | refine ⟨?_, ?_⟩ | refine ⟨?_, ?_, ?_⟩)
  · kernel_rfl
  · kernel_rfl
  · intro r; exact ⟨rfl, rfl, rfl⟩
  rintro ⟨v, k, acc⟩ ⟨w1, w2, w3⟩
  dsimp only at w1 w2 w3 ⊢
  have hb1 : k = 0 := by omega
  subst hb1
  subst w3
  refine Br.mk (fun hb => ?_) (fun hb => ?_)
  all_goals
    refine run ?_; repeat ((apply call_ok; first | exact (nextD m (m.dG id a 0 (m.params (a+1+1+1+1+1) 0) [] 0 0 [] [] 0) _ _ _ _ _ _ (by omega) (by omega)) | exact (nextD m (m.dG id a 0 (m.params (a+1+1+1+1+1) 0) [] 0 0 [] [] 0) _ _ _ _ _ _ (by omega) (by omega)) | exact (nextA m (m.dG id a 0 (m.params (a+1+1+1+1+1) 0) [] (((((m.params (a+1+1+1+1+1) 0).map encR).length : Nat) : Int) + 2 + m.nx ((a+1+1+1+1+1 + 0)+1) 2) 2 [] [] 0) [encA ⟨4, 0⟩] _ _ _ _ _ _ (by omega) (by omega)) | exact (nextD m (m.dG id a 0 (m.params (a+1+1+1+1+1) 0) [] (((((m.params (a+1+1+1+1+1) 0).map encR).length : Nat) : Int) + 2 + m.nx ((a+1+1+1+1+1 + 0)+1) 2) 2 [⟨4, 0⟩] [] 0) _ _ _ _ _ _ (by omega) (by omega)) | exact (r1) | exact (site_ok (m.with' (m.dG id a 0 (m.params (a+1+1+1+1+1) 0) [] (((((m.params (a+1+1+1+1+1) 0).map encR).length : Nat) : Int) + 2 + m.nx ((a+1+1+1+1+1 + 0)+1) 2) 2 [⟨4, 0⟩] rr.1 0)) _ _ _ _ _ (by omega)) | exact (head_ok (m.dG id a 0 (m.params (a+1+1+1+1+1) 0) [] (((((m.params (a+1+1+1+1+1) 0).map encR).length : Nat) : Int) + 2 + m.nx ((a+1+1+1+1+1 + 0)+1) 2) 2 [⟨4, 0⟩] rr.1 (rr.2.s+1 : Nat)))); refine run ?_)
    exact Done.mk rfl rfl
theorem def_f110 (m : Mk) (id : Int) (a s l p d : Nat) (fine : m.Core) (hid : 0 ≤ id ∧ id < 100) (h : a + 5000 < 2^58) (h' : s + 300 < 2^58) (hp : p < 2^40) (hlen : m.heads.length < 2^20 ∧ m.defs.length < 2^20)
    (t0 : (m.nx (a+1+1+1) 2 == 0) = true) (t1 : (m.nx (a+1+1+1+1+1 + (m.nx (a+1+1+1+1) 3).toNat) 4 == 0) = true) (hX : m.nx (a+1+1+1+1) 3 = 0) : CallsA Tryz.prog 110 [mp, it id, bo false] (ctM m a s l p d) (.tup [])
    (ctEnd m (m.dG id a 0 (m.params (a+1+1+1+1+1) (m.nx (a+1+1+1+1) 3).toNat) [givenR] (((((m.params (a+1+1+1+1+1) (m.nx (a+1+1+1+1) 3).toNat).map encR).length : Nat) : Int) + 2 + m.nx ((a+1+1+1+1+1 + (m.nx (a+1+1+1+1) 3).toNat)+1) 2) 2 [⟨4, 0⟩] ((m.with' (m.dG id a 0 (m.params (a+1+1+1+1+1) (m.nx (a+1+1+1+1) 3).toNat) [givenR] (((((m.params (a+1+1+1+1+1) (m.nx (a+1+1+1+1) 3).toNat).map encR).length : Nat) : Int) + 2 + m.nx ((a+1+1+1+1+1 + (m.nx (a+1+1+1+1) 3).toNat)+1) 2) 2 [⟨4, 0⟩] [] 0)).stmts 2 (1 + m.nx ((a+1+1+1+1+1 + (m.nx (a+1+1+1+1) 3).toNat)+1+1) 5).toNat ⟨((a+1+1+1+1+1 + (m.nx (a+1+1+1+1) 3).toNat)+1+1)+1, s, 9, 0⟩).1 (((m.with' (m.dG id a 0 (m.params (a+1+1+1+1+1) (m.nx (a+1+1+1+1) 3).toNat) [givenR] (((((m.params (a+1+1+1+1+1) (m.nx (a+1+1+1+1) 3).toNat).map encR).length : Nat) : Int) + 2 + m.nx ((a+1+1+1+1+1 + (m.nx (a+1+1+1+1) 3).toNat)+1) 2) 2 [⟨4, 0⟩] [] 0)).stmts 2 (1 + m.nx ((a+1+1+1+1+1 + (m.nx (a+1+1+1+1) 3).toNat)+1+1) 5).toNat ⟨((a+1+1+1+1+1 + (m.nx (a+1+1+1+1) 3).toNat)+1+1)+1, s, 9, 0⟩).2.s+1 : Nat)) ((m.with' (m.dG id a 0 (m.params (a+1+1+1+1+1) (m.nx (a+1+1+1+1) 3).toNat) [givenR] (((((m.params (a+1+1+1+1+1) (m.nx (a+1+1+1+1) 3).toNat).map encR).length : Nat) : Int) + 2 + m.nx ((a+1+1+1+1+1 + (m.nx (a+1+1+1+1) 3).toNat)+1) 2) 2 [⟨4, 0⟩] [] 0)).stmts 2 (1 + m.nx ((a+1+1+1+1+1 + (m.nx (a+1+1+1+1) 3).toNat)+1+1) 5).toNat ⟨((a+1+1+1+1+1 + (m.nx (a+1+1+1+1) 3).toNat)+1+1)+1, s, 9, 0⟩).2.a (((m.with' (m.dG id a 0 (m.params (a+1+1+1+1+1) (m.nx (a+1+1+1+1) 3).toNat) [givenR] (((((m.params (a+1+1+1+1+1) (m.nx (a+1+1+1+1) 3).toNat).map encR).length : Nat) : Int) + 2 + m.nx ((a+1+1+1+1+1 + (m.nx (a+1+1+1+1) 3).toNat)+1) 2) 2 [⟨4, 0⟩] [] 0)).stmts 2 (1 + m.nx ((a+1+1+1+1+1 + (m.nx (a+1+1+1+1) 3).toNat)+1+1) 5).toNat ⟨((a+1+1+1+1+1 + (m.nx (a+1+1+1+1) 3).toNat)+1+1)+1, s, 9, 0⟩).2.s+1) ((m.with' (m.dG id a 0 (m.params (a+1+1+1+1+1) (m.nx (a+1+1+1+1) 3).toNat) [givenR] (((((m.params (a+1+1+1+1+1) (m.nx (a+1+1+1+1) 3).toNat).map encR).length : Nat) : Int) + 2 + m.nx ((a+1+1+1+1+1 + (m.nx (a+1+1+1+1) 3).toNat)+1) 2) 2 [⟨4, 0⟩] [] 0)).stmts 2 (1 + m.nx ((a+1+1+1+1+1 + (m.nx (a+1+1+1+1) 3).toNat)+1+1) 5).toNat ⟨((a+1+1+1+1+1 + (m.nx (a+1+1+1+1) 3).toNat)+1+1)+1, s, 9, 0⟩).2.l p ((m.with' (m.dG id a 0 (m.params (a+1+1+1+1+1) (m.nx (a+1+1+1+1) 3).toNat) [givenR] (((((m.params (a+1+1+1+1+1) (m.nx (a+1+1+1+1) 3).toNat).map encR).length : Nat) : Int) + 2 + m.nx ((a+1+1+1+1+1 + (m.nx (a+1+1+1+1) 3).toNat)+1) 2) 2 [⟨4, 0⟩] [] 0)).stmts 2 (1 + m.nx ((a+1+1+1+1+1 + (m.nx (a+1+1+1+1) 3).toNat)+1+1) 5).toNat ⟨((a+1+1+1+1+1 + (m.nx (a+1+1+1+1) 3).toNat)+1+1)+1, s, 9, 0⟩).2.d) := by
  have bi : 0 ≤ id.tmod 8 ∧ id.tmod 8 < 8 := ⟨Int.tmod_nonneg _ hid.1, Int.tmod_lt_of_pos _ (by omega)⟩
  have n0 := m.nx_bd a (n := 2) (by omega)
  have n1 := m.nx_bd (a+1) (n := 6) (by omega)
  have n2 := m.nx_bd (a+1+1) (n := 4) (by omega)
  have hcalm := fine.calm
  have bX := m.nx_bd (a+1+1+1+1) (n := 3) (by omega)
  have bv := m.nx_bd ((a+1+1+1+1+1 + (m.nx (a+1+1+1+1) 3).toNat)+1) (n := 2) (by omega)
  have b5 := m.nx_bd ((a+1+1+1+1+1 + (m.nx (a+1+1+1+1) 3).toNat)+1+1) (n := 5) (by omega)
  have pl : (m.params (a+1+1+1+1+1) (m.nx (a+1+1+1+1) 3).toNat).length = (m.nx (a+1+1+1+1) 3).toNat := m.params_len _ _
  have pl2 : ((m.params (a+1+1+1+1+1) (m.nx (a+1+1+1+1) 3).toNat).map encR).length = (m.nx (a+1+1+1+1) 3).toNat := by rw [List.length_map]; exact pl
  have pl2a : ((m.with' (m.dG id a 0 (m.params (a+1+1+1+1+1) (m.nx (a+1+1+1+1) 3).toNat) [] 0 0 [] [] 0)).D.params.map encR).length = (m.nx (a+1+1+1+1) 3).toNat := pl2
  have pl2b : ((m.with' (m.dG id a 0 (m.params (a+1+1+1+1+1) (m.nx (a+1+1+1+1) 3).toNat) [givenR] 0 0 [] [] 0)).D.params.map encR).length = (m.nx (a+1+1+1+1) 3).toNat := pl2
  have pl3 : decide ((((m.params (a+1+1+1+1+1) (m.nx (a+1+1+1+1) 3).toNat).map encR).length : Nat) > (0 : Int)) = false := by rw [pl2, hX]; rfl
  have k1 : ((1 + m.nx ((a+1+1+1+1+1 + (m.nx (a+1+1+1+1) 3).toNat)+1+1) 5).toNat : Int) = 1 + m.nx ((a+1+1+1+1+1 + (m.nx (a+1+1+1+1) 3).toNat)+1+1) 5 := by omega
  have fineD : (m.with' (m.dG id a 0 (m.params (a+1+1+1+1+1) (m.nx (a+1+1+1+1) 3).toNat) [givenR] (((((m.params (a+1+1+1+1+1) (m.nx (a+1+1+1+1) 3).toNat).map encR).length : Nat) : Int) + 2 + m.nx ((a+1+1+1+1+1 + (m.nx (a+1+1+1+1) 3).toNat)+1) 2) 2 [⟨4, 0⟩] [] 0)).Fine := Mk.with_fine fine (by simp only [Mk.dG]; omega) (by simp only [Mk.dG]; omega) (by simp [Mk.dG]) (by simp [Mk.dG])
  have r1 := stmts_ok _ fineD (1 + m.nx ((a+1+1+1+1+1 + (m.nx (a+1+1+1+1) 3).toNat)+1+1) 5).toNat (by omega) 2 (((a+1+1+1+1+1 + (m.nx (a+1+1+1+1) 3).toNat)+1+1)+1) s 9 p 0 (by omega) (by omega) (by omega) (by omega) (by omega) (by omega)
  rw [k1] at r1
  have us := (m.with' (m.dG id a 0 (m.params (a+1+1+1+1+1) (m.nx (a+1+1+1+1) 3).toNat) [givenR] (((((m.params (a+1+1+1+1+1) (m.nx (a+1+1+1+1) 3).toNat).map encR).length : Nat) : Int) + 2 + m.nx ((a+1+1+1+1+1 + (m.nx (a+1+1+1+1) 3).toNat)+1) 2) 2 [⟨4, 0⟩] [] 0)).stmts_use fineD.heads 2 (1 + m.nx ((a+1+1+1+1+1 + (m.nx (a+1+1+1+1) 3).toNat)+1+1) 5).toNat ⟨((a+1+1+1+1+1 + (m.nx (a+1+1+1+1) 3).toNat)+1+1)+1, s, 9, 0⟩
  simp only [Less] at us
  rw [ctEnd_eq]
  generalize hR : (m.with' (m.dG id a 0 (m.params (a+1+1+1+1+1) (m.nx (a+1+1+1+1) 3).toNat) [givenR] (((((m.params (a+1+1+1+1+1) (m.nx (a+1+1+1+1) 3).toNat).map encR).length : Nat) : Int) + 2 + m.nx ((a+1+1+1+1+1 + (m.nx (a+1+1+1+1) 3).toNat)+1) 2) 2 [⟨4, 0⟩] [] 0)).stmts 2 (1 + m.nx ((a+1+1+1+1+1 + (m.nx (a+1+1+1+1) 3).toNat)+1+1) 5).toNat ⟨((a+1+1+1+1+1 + (m.nx (a+1+1+1+1) 3).toNat)+1+1)+1, s, 9, 0⟩ = rr at *
  have hl1 : (m.with' (m.dG id a 0 (m.params (a+1+1+1+1+1) (m.nx (a+1+1+1+1) 3).toNat) [givenR] (((((m.params (a+1+1+1+1+1) (m.nx (a+1+1+1+1) 3).toNat).map encR).length : Nat) : Int) + 2 + m.nx ((a+1+1+1+1+1 + (m.nx (a+1+1+1+1) 3).toNat)+1) 2) 2 [⟨4, 0⟩] rr.1 0)).defs.length < 2^20 := hlen.2
  have hl2 : (m.with' (m.dG id a 0 (m.params (a+1+1+1+1+1) (m.nx (a+1+1+1+1) 3).toNat) [givenR] (((((m.params (a+1+1+1+1+1) (m.nx (a+1+1+1+1) 3).toNat).map encR).length : Nat) : Int) + 2 + m.nx ((a+1+1+1+1+1 + (m.nx (a+1+1+1+1) 3).toNat)+1) 2) 2 [⟨4, 0⟩] rr.1 0)).heads.length < 2^20 := hlen.1
  have hl3 : (m.with' (m.dG id a 0 (m.params (a+1+1+1+1+1) (m.nx (a+1+1+1+1) 3).toNat) [givenR] ((((m.params (a+1+1+1+1+1) (m.nx (a+1+1+1+1) 3).toNat).length : Nat) : Int) + 2 + m.nx ((a+1+1+1+1+1 + (m.nx (a+1+1+1+1) 3).toNat)+1) 2) 2 [⟨4, 0⟩] rr.1 0)).defs.length < 2^20 := hlen.2
  have hl4 : (m.with' (m.dG id a 0 (m.params (a+1+1+1+1+1) (m.nx (a+1+1+1+1) 3).toNat) [givenR] ((((m.params (a+1+1+1+1+1) (m.nx (a+1+1+1+1) 3).toNat).length : Nat) : Int) + 2 + m.nx ((a+1+1+1+1+1 + (m.nx (a+1+1+1+1) 3).toNat)+1) 2) 2 [⟨4, 0⟩] rr.1 0)).heads.length < 2^20 := hlen.1
  refine fn_ok hm Tryz.func110 (fun _ => false) [] hintDef (by kernel_rfl) ?_
  refine run ?_; repeat ((apply call_ok; first | exact (next_ok m _ _ _ _ _ _ (by omega) (by omega))); refine run ?_)
  iterate 2
    refine Idx.mapG (f := it) (m.nx (a+1+1) 4).toNat (m.budget (a+1+1)) (by omega) (m.budget_at (a+1+1)) rfl ?_
    refine run ?_
  refine run ?_; repeat ((apply call_ok; first | exact (nextR m (m.dG id a (m.partX a) [] [] 0 0 [] [] 0) [] _ _ _ _ _ _ (by omega) (by omega)) | exact (nextR m (m.dG id a 0 [] [] 0 0 [] [] 0) [] _ _ _ _ _ _ (by omega) (by omega))); refine run ?_)
  refine LoopS.mk ⟨[], HeadS.inv (fun r : PR => r.v = m.nx (a+1+1+1+1) 3 - r.k ∧ r.k ≤ (m.nx (a+1+1+1+1) 3).toNat ∧ r.acc = (m.params (a+1+1+1+1+1) r.k).map encR)
    (fun r => ⟨[(7, it r.v)], [(1000, encMkR (m.with' (m.dG id a 0 [] [] 0 0 [] [] 0)) 32 (a+1+1+1+1+1 + r.k) s l p d r.acc.length)], [(32, ⟨3, true, r.acc⟩)]⟩)
    (fun r => (m.nx (a+1+1+1+1) 3).toNat - r.k) ⟨m.nx (a+1+1+1+1) 3, 0, []⟩ ⟨by simp, Nat.zero_le _, rfl⟩ ?_ ?_ ?_ ?_ ?_⟩
  · repeat' (first | exact trivial | exact rfl | refine ⟨?_, ?_⟩ | refine ⟨?_, ?_, ?_⟩)
  · kernel_rfl
  · kernel_rfl
  · intro r; exact ⟨rfl, rfl, rfl⟩
  rintro ⟨v, k, acc⟩ ⟨w1, w2, w3⟩
  dsimp only at w1 w2 w3 ⊢
  refine Br.mk (fun hb => ?_) (fun hb => ?_)
  · have hb1 : 0 < v := by simpa using hb
    have hl : acc.length = k := by rw [w3]; simp [m.params_len]
    have bk := m.nx_bd (a+1+1+1+1+1 + k) (n := 4) (by omega)
    refine run ?_; repeat ((apply call_ok; first | exact (nextR m (m.dG id a 0 [] [] 0 0 [] [] 0) _ _ _ _ _ _ _ (by omega) (by omega))); refine run ?_)
    iterate 2
      refine Idx.mapG (f := encR) (m.nx (a+1+1+1+1+1 + k) 4).toNat (m.rng (a+1+1+1+1+1 + k)) (by omega) (m.rng_at _) rfl ?_
      refine run ?_
    refine ⟨⟨⟨v - 1, k + 1, acc ++ [encR (m.rng (a+1+1+1+1+1 + k))]⟩, by dsimp only; omega, by dsimp only; omega, by rw [w3]; simp [Mk.params]⟩, by dsimp only; omega, ?_⟩
    repeat' (first | exact trivial | exact rfl | refine ⟨?_, ?_⟩ | refine ⟨?_, ?_, ?_⟩)
  · have hb1 : k = (m.nx (a+1+1+1+1) 3).toNat := by simp at hb; omega
    subst hb1
    subst w3
    refine run ?_; repeat ((apply call_ok; first | exact (nextD m (m.dG id a 0 (m.params (a+1+1+1+1+1) (m.nx (a+1+1+1+1) 3).toNat) [] 0 0 [] [] 0) _ _ _ _ _ _ (by omega) (by omega)) | exact (nextD m (m.dG id a 0 (m.params (a+1+1+1+1+1) (m.nx (a+1+1+1+1) 3).toNat) [givenR] 0 0 [] [] 0) _ _ _ _ _ _ (by omega) (by omega)) | exact (nextA m (m.dG id a 0 (m.params (a+1+1+1+1+1) (m.nx (a+1+1+1+1) 3).toNat) [givenR] (((((m.params (a+1+1+1+1+1) (m.nx (a+1+1+1+1) 3).toNat).map encR).length : Nat) : Int) + 2 + m.nx ((a+1+1+1+1+1 + (m.nx (a+1+1+1+1) 3).toNat)+1) 2) 2 [] [] 0) [encA ⟨4, 0⟩] _ _ _ _ _ _ (by omega) (by omega)) | exact (nextD m (m.dG id a 0 (m.params (a+1+1+1+1+1) (m.nx (a+1+1+1+1) 3).toNat) [givenR] (((((m.params (a+1+1+1+1+1) (m.nx (a+1+1+1+1) 3).toNat).map encR).length : Nat) : Int) + 2 + m.nx ((a+1+1+1+1+1 + (m.nx (a+1+1+1+1) 3).toNat)+1) 2) 2 [⟨4, 0⟩] [] 0) _ _ _ _ _ _ (by omega) (by omega)) | exact (r1) | exact (site_ok (m.with' (m.dG id a 0 (m.params (a+1+1+1+1+1) (m.nx (a+1+1+1+1) 3).toNat) [givenR] (((((m.params (a+1+1+1+1+1) (m.nx (a+1+1+1+1) 3).toNat).map encR).length : Nat) : Int) + 2 + m.nx ((a+1+1+1+1+1 + (m.nx (a+1+1+1+1) 3).toNat)+1) 2) 2 [⟨4, 0⟩] rr.1 0)) _ _ _ _ _ (by omega)) | exact (head_ok (m.dG id a 0 (m.params (a+1+1+1+1+1) (m.nx (a+1+1+1+1) 3).toNat) [givenR] (((((m.params (a+1+1+1+1+1) (m.nx (a+1+1+1+1) 3).toNat).map encR).length : Nat) : Int) + 2 + m.nx ((a+1+1+1+1+1 + (m.nx (a+1+1+1+1) 3).toNat)+1) 2) 2 [⟨4, 0⟩] rr.1 (rr.2.s+1 : Nat)))); refine run ?_)
    exact Done.mk rfl rfl
theorem def_f111 (m : Mk) (id : Int) (a s l p d : Nat) (fine : m.Core) (hid : 0 ≤ id ∧ id < 100) (h : a + 5000 < 2^58) (h' : s + 300 < 2^58) (hp : p < 2^40) (hlen : m.heads.length < 2^20 ∧ m.defs.length < 2^20)
    (t0 : (m.nx (a+1+1+1) 2 == 0) = true) (t1 : (m.nx (a+1+1+1+1+1 + (m.nx (a+1+1+1+1) 3).toNat) 4 == 0) = true) (hX : 0 < m.nx (a+1+1+1+1) 3) (t2 : (m.nx ((a+1+1+1+1+1 + (m.nx (a+1+1+1+1) 3).toNat)+1+1) 2 == 0) = true) : CallsA Tryz.prog 110 [mp, it id, bo false] (ctM m a s l p d) (.tup [])
    (ctEnd m (m.dG id a 0 (m.params (a+1+1+1+1+1) (m.nx (a+1+1+1+1) 3).toNat) [givenR] (((((m.params (a+1+1+1+1+1) (m.nx (a+1+1+1+1) 3).toNat).map encR).length : Nat) : Int) + 2 + m.nx ((a+1+1+1+1+1 + (m.nx (a+1+1+1+1) 3).toNat)+1) 2) 2 [⟨4, 0⟩, ⟨8, 1⟩] ((m.with' (m.dG id a 0 (m.params (a+1+1+1+1+1) (m.nx (a+1+1+1+1) 3).toNat) [givenR] (((((m.params (a+1+1+1+1+1) (m.nx (a+1+1+1+1) 3).toNat).map encR).length : Nat) : Int) + 2 + m.nx ((a+1+1+1+1+1 + (m.nx (a+1+1+1+1) 3).toNat)+1) 2) 2 [⟨4, 0⟩, ⟨8, 1⟩] [] 0)).stmts 2 (1 + m.nx ((a+1+1+1+1+1 + (m.nx (a+1+1+1+1) 3).toNat)+1+1+1) 5).toNat ⟨((a+1+1+1+1+1 + (m.nx (a+1+1+1+1) 3).toNat)+1+1+1)+1, s, 9, 0⟩).1 (((m.with' (m.dG id a 0 (m.params (a+1+1+1+1+1) (m.nx (a+1+1+1+1) 3).toNat) [givenR] (((((m.params (a+1+1+1+1+1) (m.nx (a+1+1+1+1) 3).toNat).map encR).length : Nat) : Int) + 2 + m.nx ((a+1+1+1+1+1 + (m.nx (a+1+1+1+1) 3).toNat)+1) 2) 2 [⟨4, 0⟩, ⟨8, 1⟩] [] 0)).stmts 2 (1 + m.nx ((a+1+1+1+1+1 + (m.nx (a+1+1+1+1) 3).toNat)+1+1+1) 5).toNat ⟨((a+1+1+1+1+1 + (m.nx (a+1+1+1+1) 3).toNat)+1+1+1)+1, s, 9, 0⟩).2.s+1 : Nat)) ((m.with' (m.dG id a 0 (m.params (a+1+1+1+1+1) (m.nx (a+1+1+1+1) 3).toNat) [givenR] (((((m.params (a+1+1+1+1+1) (m.nx (a+1+1+1+1) 3).toNat).map encR).length : Nat) : Int) + 2 + m.nx ((a+1+1+1+1+1 + (m.nx (a+1+1+1+1) 3).toNat)+1) 2) 2 [⟨4, 0⟩, ⟨8, 1⟩] [] 0)).stmts 2 (1 + m.nx ((a+1+1+1+1+1 + (m.nx (a+1+1+1+1) 3).toNat)+1+1+1) 5).toNat ⟨((a+1+1+1+1+1 + (m.nx (a+1+1+1+1) 3).toNat)+1+1+1)+1, s, 9, 0⟩).2.a (((m.with' (m.dG id a 0 (m.params (a+1+1+1+1+1) (m.nx (a+1+1+1+1) 3).toNat) [givenR] (((((m.params (a+1+1+1+1+1) (m.nx (a+1+1+1+1) 3).toNat).map encR).length : Nat) : Int) + 2 + m.nx ((a+1+1+1+1+1 + (m.nx (a+1+1+1+1) 3).toNat)+1) 2) 2 [⟨4, 0⟩, ⟨8, 1⟩] [] 0)).stmts 2 (1 + m.nx ((a+1+1+1+1+1 + (m.nx (a+1+1+1+1) 3).toNat)+1+1+1) 5).toNat ⟨((a+1+1+1+1+1 + (m.nx (a+1+1+1+1) 3).toNat)+1+1+1)+1, s, 9, 0⟩).2.s+1) ((m.with' (m.dG id a 0 (m.params (a+1+1+1+1+1) (m.nx (a+1+1+1+1) 3).toNat) [givenR] (((((m.params (a+1+1+1+1+1) (m.nx (a+1+1+1+1) 3).toNat).map encR).length : Nat) : Int) + 2 + m.nx ((a+1+1+1+1+1 + (m.nx (a+1+1+1+1) 3).toNat)+1) 2) 2 [⟨4, 0⟩, ⟨8, 1⟩] [] 0)).stmts 2 (1 + m.nx ((a+1+1+1+1+1 + (m.nx (a+1+1+1+1) 3).toNat)+1+1+1) 5).toNat ⟨((a+1+1+1+1+1 + (m.nx (a+1+1+1+1) 3).toNat)+1+1+1)+1, s, 9, 0⟩).2.l p ((m.with' (m.dG id a 0 (m.params (a+1+1+1+1+1) (m.nx (a+1+1+1+1) 3).toNat) [givenR] (((((m.params (a+1+1+1+1+1) (m.nx (a+1+1+1+1) 3).toNat).map encR).length : Nat) : Int) + 2 + m.nx ((a+1+1+1+1+1 + (m.nx (a+1+1+1+1) 3).toNat)+1) 2) 2 [⟨4, 0⟩, ⟨8, 1⟩] [] 0)).stmts 2 (1 + m.nx ((a+1+1+1+1+1 + (m.nx (a+1+1+1+1) 3).toNat)+1+1+1) 5).toNat ⟨((a+1+1+1+1+1 + (m.nx (a+1+1+1+1) 3).toNat)+1+1+1)+1, s, 9, 0⟩).2.d) := by
  have bi : 0 ≤ id.tmod 8 ∧ id.tmod 8 < 8 := ⟨Int.tmod_nonneg _ hid.1, Int.tmod_lt_of_pos _ (by omega)⟩
  have n0 := m.nx_bd a (n := 2) (by omega)
  have n1 := m.nx_bd (a+1) (n := 6) (by omega)
  have n2 := m.nx_bd (a+1+1) (n := 4) (by omega)
  have hcalm := fine.calm
  have bX := m.nx_bd (a+1+1+1+1) (n := 3) (by omega)
  have bv := m.nx_bd ((a+1+1+1+1+1 + (m.nx (a+1+1+1+1) 3).toNat)+1) (n := 2) (by omega)
  have b5 := m.nx_bd ((a+1+1+1+1+1 + (m.nx (a+1+1+1+1) 3).toNat)+1+1+1) (n := 5) (by omega)
  have pl : (m.params (a+1+1+1+1+1) (m.nx (a+1+1+1+1) 3).toNat).length = (m.nx (a+1+1+1+1) 3).toNat := m.params_len _ _
  have pl2 : ((m.params (a+1+1+1+1+1) (m.nx (a+1+1+1+1) 3).toNat).map encR).length = (m.nx (a+1+1+1+1) 3).toNat := by rw [List.length_map]; exact pl
  have pl2a : ((m.with' (m.dG id a 0 (m.params (a+1+1+1+1+1) (m.nx (a+1+1+1+1) 3).toNat) [] 0 0 [] [] 0)).D.params.map encR).length = (m.nx (a+1+1+1+1) 3).toNat := pl2
  have pl2b : ((m.with' (m.dG id a 0 (m.params (a+1+1+1+1+1) (m.nx (a+1+1+1+1) 3).toNat) [givenR] 0 0 [] [] 0)).D.params.map encR).length = (m.nx (a+1+1+1+1) 3).toNat := pl2
  have pl3 : decide (((((m.params (a+1+1+1+1+1) (m.nx (a+1+1+1+1) 3).toNat).map encR).length : Nat) : Int) > 0) = true := by rw [pl2]; simp; omega
  have k1 : ((1 + m.nx ((a+1+1+1+1+1 + (m.nx (a+1+1+1+1) 3).toNat)+1+1+1) 5).toNat : Int) = 1 + m.nx ((a+1+1+1+1+1 + (m.nx (a+1+1+1+1) 3).toNat)+1+1+1) 5 := by omega
  have fineD : (m.with' (m.dG id a 0 (m.params (a+1+1+1+1+1) (m.nx (a+1+1+1+1) 3).toNat) [givenR] (((((m.params (a+1+1+1+1+1) (m.nx (a+1+1+1+1) 3).toNat).map encR).length : Nat) : Int) + 2 + m.nx ((a+1+1+1+1+1 + (m.nx (a+1+1+1+1) 3).toNat)+1) 2) 2 [⟨4, 0⟩, ⟨8, 1⟩] [] 0)).Fine := Mk.with_fine fine (by simp only [Mk.dG]; omega) (by simp only [Mk.dG]; omega) (by simp [Mk.dG]) (by simp [Mk.dG])
  have r1 := stmts_ok _ fineD (1 + m.nx ((a+1+1+1+1+1 + (m.nx (a+1+1+1+1) 3).toNat)+1+1+1) 5).toNat (by omega) 2 (((a+1+1+1+1+1 + (m.nx (a+1+1+1+1) 3).toNat)+1+1+1)+1) s 9 p 0 (by omega) (by omega) (by omega) (by omega) (by omega) (by omega)
  rw [k1] at r1
  have us := (m.with' (m.dG id a 0 (m.params (a+1+1+1+1+1) (m.nx (a+1+1+1+1) 3).toNat) [givenR] (((((m.params (a+1+1+1+1+1) (m.nx (a+1+1+1+1) 3).toNat).map encR).length : Nat) : Int) + 2 + m.nx ((a+1+1+1+1+1 + (m.nx (a+1+1+1+1) 3).toNat)+1) 2) 2 [⟨4, 0⟩, ⟨8, 1⟩] [] 0)).stmts_use fineD.heads 2 (1 + m.nx ((a+1+1+1+1+1 + (m.nx (a+1+1+1+1) 3).toNat)+1+1+1) 5).toNat ⟨((a+1+1+1+1+1 + (m.nx (a+1+1+1+1) 3).toNat)+1+1+1)+1, s, 9, 0⟩
  simp only [Less] at us
  rw [ctEnd_eq]
  generalize hR : (m.with' (m.dG id a 0 (m.params (a+1+1+1+1+1) (m.nx (a+1+1+1+1) 3).toNat) [givenR] (((((m.params (a+1+1+1+1+1) (m.nx (a+1+1+1+1) 3).toNat).map encR).length : Nat) : Int) + 2 + m.nx ((a+1+1+1+1+1 + (m.nx (a+1+1+1+1) 3).toNat)+1) 2) 2 [⟨4, 0⟩, ⟨8, 1⟩] [] 0)).stmts 2 (1 + m.nx ((a+1+1+1+1+1 + (m.nx (a+1+1+1+1) 3).toNat)+1+1+1) 5).toNat ⟨((a+1+1+1+1+1 + (m.nx (a+1+1+1+1) 3).toNat)+1+1+1)+1, s, 9, 0⟩ = rr at *
  have hl1 : (m.with' (m.dG id a 0 (m.params (a+1+1+1+1+1) (m.nx (a+1+1+1+1) 3).toNat) [givenR] (((((m.params (a+1+1+1+1+1) (m.nx (a+1+1+1+1) 3).toNat).map encR).length : Nat) : Int) + 2 + m.nx ((a+1+1+1+1+1 + (m.nx (a+1+1+1+1) 3).toNat)+1) 2) 2 [⟨4, 0⟩, ⟨8, 1⟩] rr.1 0)).defs.length < 2^20 := hlen.2
  have hl2 : (m.with' (m.dG id a 0 (m.params (a+1+1+1+1+1) (m.nx (a+1+1+1+1) 3).toNat) [givenR] (((((m.params (a+1+1+1+1+1) (m.nx (a+1+1+1+1) 3).toNat).map encR).length : Nat) : Int) + 2 + m.nx ((a+1+1+1+1+1 + (m.nx (a+1+1+1+1) 3).toNat)+1) 2) 2 [⟨4, 0⟩, ⟨8, 1⟩] rr.1 0)).heads.length < 2^20 := hlen.1
  have hl3 : (m.with' (m.dG id a 0 (m.params (a+1+1+1+1+1) (m.nx (a+1+1+1+1) 3).toNat) [givenR] ((((m.params (a+1+1+1+1+1) (m.nx (a+1+1+1+1) 3).toNat).length : Nat) : Int) + 2 + m.nx ((a+1+1+1+1+1 + (m.nx (a+1+1+1+1) 3).toNat)+1) 2) 2 [⟨4, 0⟩, ⟨8, 1⟩] rr.1 0)).defs.length < 2^20 := hlen.2
  have hl4 : (m.with' (m.dG id a 0 (m.params (a+1+1+1+1+1) (m.nx (a+1+1+1+1) 3).toNat) [givenR] ((((m.params (a+1+1+1+1+1) (m.nx (a+1+1+1+1) 3).toNat).length : Nat) : Int) + 2 + m.nx ((a+1+1+1+1+1 + (m.nx (a+1+1+1+1) 3).toNat)+1) 2) 2 [⟨4, 0⟩, ⟨8, 1⟩] rr.1 0)).heads.length < 2^20 := hlen.1
  refine fn_ok hm Tryz.func110 (fun _ => false) [] hintDef (by kernel_rfl) ?_
  refine run ?_; repeat ((apply call_ok; first | exact (next_ok m _ _ _ _ _ _ (by omega) (by omega))); refine run ?_)
  iterate 2
    refine Idx.mapG (f := it) (m.nx (a+1+1) 4).toNat (m.budget (a+1+1)) (by omega) (m.budget_at (a+1+1)) rfl ?_
    refine run ?_
  refine run ?_; repeat ((apply call_ok; first | exact (nextR m (m.dG id a (m.partX a) [] [] 0 0 [] [] 0) [] _ _ _ _ _ _ (by omega) (by omega)) | exact (nextR m (m.dG id a 0 [] [] 0 0 [] [] 0) [] _ _ _ _ _ _ (by omega) (by omega))); refine run ?_)
  refine LoopS.mk ⟨[], HeadS.inv (fun r : PR => r.v = m.nx (a+1+1+1+1) 3 - r.k ∧ r.k ≤ (m.nx (a+1+1+1+1) 3).toNat ∧ r.acc = (m.params (a+1+1+1+1+1) r.k).map encR)
    (fun r => ⟨[(7, it r.v)], [(1000, encMkR (m.with' (m.dG id a 0 [] [] 0 0 [] [] 0)) 32 (a+1+1+1+1+1 + r.k) s l p d r.acc.length)], [(32, ⟨3, true, r.acc⟩)]⟩)
    (fun r => (m.nx (a+1+1+1+1) 3).toNat - r.k) ⟨m.nx (a+1+1+1+1) 3, 0, []⟩ ⟨by simp, Nat.zero_le _, rfl⟩ ?_ ?_ ?_ ?_ ?_⟩
  · repeat' (first | exact trivial | exact rfl | refine ⟨?_, ?_⟩ | refine ⟨?_, ?_, ?_⟩)
  · kernel_rfl
  · kernel_rfl
  · intro r; exact ⟨rfl, rfl, rfl⟩
  rintro ⟨v, k, acc⟩ ⟨w1, w2, w3⟩
  dsimp only at w1 w2 w3 ⊢
  refine Br.mk (fun hb => ?_) (fun hb => ?_)
  · have hb1 : 0 < v := by simpa using hb
    have hl : acc.length = k := by rw [w3]; simp [m.params_len]
    have bk := m.nx_bd (a+1+1+1+1+1 + k) (n := 4) (by omega)
    refine run ?_; repeat ((apply call_ok; first | exact (nextR m (m.dG id a 0 [] [] 0 0 [] [] 0) _ _ _ _ _ _ _ (by omega) (by omega))); refine run ?_)
    iterate 2
      refine Idx.mapG (f := encR) (m.nx (a+1+1+1+1+1 + k) 4).toNat (m.rng (a+1+1+1+1+1 + k)) (by omega) (m.rng_at _) rfl ?_
      refine run ?_
    refine ⟨⟨⟨v - 1, k + 1, acc ++ [encR (m.rng (a+1+1+1+1+1 + k))]⟩, by dsimp only; omega, by dsimp only; omega, by rw [w3]; simp [Mk.params]⟩, by dsimp only; omega, ?_⟩
    repeat' (first | exact trivial | exact rfl | refine ⟨?_, ?_⟩ | refine ⟨?_, ?_, ?_⟩)
  · have hb1 : k = (m.nx (a+1+1+1+1) 3).toNat := by simp at hb; omega
    subst hb1
    subst w3
    refine run ?_; repeat ((apply call_ok; first | exact (nextD m (m.dG id a 0 (m.params (a+1+1+1+1+1) (m.nx (a+1+1+1+1) 3).toNat) [] 0 0 [] [] 0) _ _ _ _ _ _ (by omega) (by omega)) | exact (nextD m (m.dG id a 0 (m.params (a+1+1+1+1+1) (m.nx (a+1+1+1+1) 3).toNat) [givenR] 0 0 [] [] 0) _ _ _ _ _ _ (by omega) (by omega)) | exact (nextA m (m.dG id a 0 (m.params (a+1+1+1+1+1) (m.nx (a+1+1+1+1) 3).toNat) [givenR] (((((m.params (a+1+1+1+1+1) (m.nx (a+1+1+1+1) 3).toNat).map encR).length : Nat) : Int) + 2 + m.nx ((a+1+1+1+1+1 + (m.nx (a+1+1+1+1) 3).toNat)+1) 2) 2 [] [] 0) [encA ⟨4, 0⟩] _ _ _ _ _ _ (by omega) (by omega)) | exact (nextD m (m.dG id a 0 (m.params (a+1+1+1+1+1) (m.nx (a+1+1+1+1) 3).toNat) [givenR] (((((m.params (a+1+1+1+1+1) (m.nx (a+1+1+1+1) 3).toNat).map encR).length : Nat) : Int) + 2 + m.nx ((a+1+1+1+1+1 + (m.nx (a+1+1+1+1) 3).toNat)+1) 2) 2 [⟨4, 0⟩, ⟨8, 1⟩] [] 0) _ _ _ _ _ _ (by omega) (by omega)) | exact (r1) | exact (site_ok (m.with' (m.dG id a 0 (m.params (a+1+1+1+1+1) (m.nx (a+1+1+1+1) 3).toNat) [givenR] (((((m.params (a+1+1+1+1+1) (m.nx (a+1+1+1+1) 3).toNat).map encR).length : Nat) : Int) + 2 + m.nx ((a+1+1+1+1+1 + (m.nx (a+1+1+1+1) 3).toNat)+1) 2) 2 [⟨4, 0⟩, ⟨8, 1⟩] rr.1 0)) _ _ _ _ _ (by omega)) | exact (head_ok (m.dG id a 0 (m.params (a+1+1+1+1+1) (m.nx (a+1+1+1+1) 3).toNat) [givenR] (((((m.params (a+1+1+1+1+1) (m.nx (a+1+1+1+1) 3).toNat).map encR).length : Nat) : Int) + 2 + m.nx ((a+1+1+1+1+1 + (m.nx (a+1+1+1+1) 3).toNat)+1) 2) 2 [⟨4, 0⟩, ⟨8, 1⟩] rr.1 (rr.2.s+1 : Nat)))); refine run ?_)
    exact Done.mk rfl rfl
theorem def_f112 (m : Mk) (id : Int) (a s l p d : Nat) (fine : m.Core) (hid : 0 ≤ id ∧ id < 100) (h : a + 5000 < 2^58) (h' : s + 300 < 2^58) (hp : p < 2^40) (hlen : m.heads.length < 2^20 ∧ m.defs.length < 2^20)
    (t0 : (m.nx (a+1+1+1) 2 == 0) = true) (t1 : (m.nx (a+1+1+1+1+1 + (m.nx (a+1+1+1+1) 3).toNat) 4 == 0) = true) (hX : 0 < m.nx (a+1+1+1+1) 3) (t2 : (m.nx ((a+1+1+1+1+1 + (m.nx (a+1+1+1+1) 3).toNat)+1+1) 2 == 0) = false) : CallsA Tryz.prog 110 [mp, it id, bo false] (ctM m a s l p d) (.tup [])
    (ctEnd m (m.dG id a 0 (m.params (a+1+1+1+1+1) (m.nx (a+1+1+1+1) 3).toNat) [givenR] (((((m.params (a+1+1+1+1+1) (m.nx (a+1+1+1+1) 3).toNat).map encR).length : Nat) : Int) + 2 + m.nx ((a+1+1+1+1+1 + (m.nx (a+1+1+1+1) 3).toNat)+1) 2) 2 [⟨4, 0⟩] ((m.with' (m.dG id a 0 (m.params (a+1+1+1+1+1) (m.nx (a+1+1+1+1) 3).toNat) [givenR] (((((m.params (a+1+1+1+1+1) (m.nx (a+1+1+1+1) 3).toNat).map encR).length : Nat) : Int) + 2 + m.nx ((a+1+1+1+1+1 + (m.nx (a+1+1+1+1) 3).toNat)+1) 2) 2 [⟨4, 0⟩] [] 0)).stmts 2 (1 + m.nx ((a+1+1+1+1+1 + (m.nx (a+1+1+1+1) 3).toNat)+1+1+1) 5).toNat ⟨((a+1+1+1+1+1 + (m.nx (a+1+1+1+1) 3).toNat)+1+1+1)+1, s, 9, 0⟩).1 (((m.with' (m.dG id a 0 (m.params (a+1+1+1+1+1) (m.nx (a+1+1+1+1) 3).toNat) [givenR] (((((m.params (a+1+1+1+1+1) (m.nx (a+1+1+1+1) 3).toNat).map encR).length : Nat) : Int) + 2 + m.nx ((a+1+1+1+1+1 + (m.nx (a+1+1+1+1) 3).toNat)+1) 2) 2 [⟨4, 0⟩] [] 0)).stmts 2 (1 + m.nx ((a+1+1+1+1+1 + (m.nx (a+1+1+1+1) 3).toNat)+1+1+1) 5).toNat ⟨((a+1+1+1+1+1 + (m.nx (a+1+1+1+1) 3).toNat)+1+1+1)+1, s, 9, 0⟩).2.s+1 : Nat)) ((m.with' (m.dG id a 0 (m.params (a+1+1+1+1+1) (m.nx (a+1+1+1+1) 3).toNat) [givenR] (((((m.params (a+1+1+1+1+1) (m.nx (a+1+1+1+1) 3).toNat).map encR).length : Nat) : Int) + 2 + m.nx ((a+1+1+1+1+1 + (m.nx (a+1+1+1+1) 3).toNat)+1) 2) 2 [⟨4, 0⟩] [] 0)).stmts 2 (1 + m.nx ((a+1+1+1+1+1 + (m.nx (a+1+1+1+1) 3).toNat)+1+1+1) 5).toNat ⟨((a+1+1+1+1+1 + (m.nx (a+1+1+1+1) 3).toNat)+1+1+1)+1, s, 9, 0⟩).2.a (((m.with' (m.dG id a 0 (m.params (a+1+1+1+1+1) (m.nx (a+1+1+1+1) 3).toNat) [givenR] (((((m.params (a+1+1+1+1+1) (m.nx (a+1+1+1+1) 3).toNat).map encR).length : Nat) : Int) + 2 + m.nx ((a+1+1+1+1+1 + (m.nx (a+1+1+1+1) 3).toNat)+1) 2) 2 [⟨4, 0⟩] [] 0)).stmts 2 (1 + m.nx ((a+1+1+1+1+1 + (m.nx (a+1+1+1+1) 3).toNat)+1+1+1) 5).toNat ⟨((a+1+1+1+1+1 + (m.nx (a+1+1+1+1) 3).toNat)+1+1+1)+1, s, 9, 0⟩).2.s+1) ((m.with' (m.dG id a 0 (m.params (a+1+1+1+1+1) (m.nx (a+1+1+1+1) 3).toNat) [givenR] (((((m.params (a+1+1+1+1+1) (m.nx (a+1+1+1+1) 3).toNat).map encR).length : Nat) : Int) + 2 + m.nx ((a+1+1+1+1+1 + (m.nx (a+1+1+1+1) 3).toNat)+1) 2) 2 [⟨4, 0⟩] [] 0)).stmts 2 (1 + m.nx ((a+1+1+1+1+1 + (m.nx (a+1+1+1+1) 3).toNat)+1+1+1) 5).toNat ⟨((a+1+1+1+1+1 + (m.nx (a+1+1+1+1) 3).toNat)+1+1+1)+1, s, 9, 0⟩).2.l p ((m.with' (m.dG id a 0 (m.params (a+1+1+1+1+1) (m.nx (a+1+1+1+1) 3).toNat) [givenR] (((((m.params (a+1+1+1+1+1) (m.nx (a+1+1+1+1) 3).toNat).map encR).length : Nat) : Int) + 2 + m.nx ((a+1+1+1+1+1 + (m.nx (a+1+1+1+1) 3).toNat)+1) 2) 2 [⟨4, 0⟩] [] 0)).stmts 2 (1 + m.nx ((a+1+1+1+1+1 + (m.nx (a+1+1+1+1) 3).toNat)+1+1+1) 5).toNat ⟨((a+1+1+1+1+1 + (m.nx (a+1+1+1+1) 3).toNat)+1+1+1)+1, s, 9, 0⟩).2.d) := by
  have bi : 0 ≤ id.tmod 8 ∧ id.tmod 8 < 8 := ⟨Int.tmod_nonneg _ hid.1, Int.tmod_lt_of_pos _ (by omega)⟩
  have n0 := m.nx_bd a (n := 2) (by omega)
  have n1 := m.nx_bd (a+1) (n := 6) (by omega)
  have n2 := m.nx_bd (a+1+1) (n := 4) (by omega)
  have hcalm := fine.calm
  have bX := m.nx_bd (a+1+1+1+1) (n := 3) (by omega)
  have bv := m.nx_bd ((a+1+1+1+1+1 + (m.nx (a+1+1+1+1) 3).toNat)+1) (n := 2) (by omega)
  have b5 := m.nx_bd ((a+1+1+1+1+1 + (m.nx (a+1+1+1+1) 3).toNat)+1+1+1) (n := 5) (by omega)
  have pl : (m.params (a+1+1+1+1+1) (m.nx (a+1+1+1+1) 3).toNat).length = (m.nx (a+1+1+1+1) 3).toNat := m.params_len _ _
  have pl2 : ((m.params (a+1+1+1+1+1) (m.nx (a+1+1+1+1) 3).toNat).map encR).length = (m.nx (a+1+1+1+1) 3).toNat := by rw [List.length_map]; exact pl
  have pl2a : ((m.with' (m.dG id a 0 (m.params (a+1+1+1+1+1) (m.nx (a+1+1+1+1) 3).toNat) [] 0 0 [] [] 0)).D.params.map encR).length = (m.nx (a+1+1+1+1) 3).toNat := pl2
  have pl2b : ((m.with' (m.dG id a 0 (m.params (a+1+1+1+1+1) (m.nx (a+1+1+1+1) 3).toNat) [givenR] 0 0 [] [] 0)).D.params.map encR).length = (m.nx (a+1+1+1+1) 3).toNat := pl2
  have pl3 : decide (((((m.params (a+1+1+1+1+1) (m.nx (a+1+1+1+1) 3).toNat).map encR).length : Nat) : Int) > 0) = true := by rw [pl2]; simp; omega
  have k1 : ((1 + m.nx ((a+1+1+1+1+1 + (m.nx (a+1+1+1+1) 3).toNat)+1+1+1) 5).toNat : Int) = 1 + m.nx ((a+1+1+1+1+1 + (m.nx (a+1+1+1+1) 3).toNat)+1+1+1) 5 := by omega
  have fineD : (m.with' (m.dG id a 0 (m.params (a+1+1+1+1+1) (m.nx (a+1+1+1+1) 3).toNat) [givenR] (((((m.params (a+1+1+1+1+1) (m.nx (a+1+1+1+1) 3).toNat).map encR).length : Nat) : Int) + 2 + m.nx ((a+1+1+1+1+1 + (m.nx (a+1+1+1+1) 3).toNat)+1) 2) 2 [⟨4, 0⟩] [] 0)).Fine := Mk.with_fine fine (by simp only [Mk.dG]; omega) (by simp only [Mk.dG]; omega) (by simp [Mk.dG]) (by simp [Mk.dG])
  have r1 := stmts_ok _ fineD (1 + m.nx ((a+1+1+1+1+1 + (m.nx (a+1+1+1+1) 3).toNat)+1+1+1) 5).toNat (by omega) 2 (((a+1+1+1+1+1 + (m.nx (a+1+1+1+1) 3).toNat)+1+1+1)+1) s 9 p 0 (by omega) (by omega) (by omega) (by omega) (by omega) (by omega)
  rw [k1] at r1
  have us := (m.with' (m.dG id a 0 (m.params (a+1+1+1+1+1) (m.nx (a+1+1+1+1) 3).toNat) [givenR] (((((m.params (a+1+1+1+1+1) (m.nx (a+1+1+1+1) 3).toNat).map encR).length : Nat) : Int) + 2 + m.nx ((a+1+1+1+1+1 + (m.nx (a+1+1+1+1) 3).toNat)+1) 2) 2 [⟨4, 0⟩] [] 0)).stmts_use fineD.heads 2 (1 + m.nx ((a+1+1+1+1+1 + (m.nx (a+1+1+1+1) 3).toNat)+1+1+1) 5).toNat ⟨((a+1+1+1+1+1 + (m.nx (a+1+1+1+1) 3).toNat)+1+1+1)+1, s, 9, 0⟩
  simp only [Less] at us
  rw [ctEnd_eq]
  generalize hR : (m.with' (m.dG id a 0 (m.params (a+1+1+1+1+1) (m.nx (a+1+1+1+1) 3).toNat) [givenR] (((((m.params (a+1+1+1+1+1) (m.nx (a+1+1+1+1) 3).toNat).map encR).length : Nat) : Int) + 2 + m.nx ((a+1+1+1+1+1 + (m.nx (a+1+1+1+1) 3).toNat)+1) 2) 2 [⟨4, 0⟩] [] 0)).stmts 2 (1 + m.nx ((a+1+1+1+1+1 + (m.nx (a+1+1+1+1) 3).toNat)+1+1+1) 5).toNat ⟨((a+1+1+1+1+1 + (m.nx (a+1+1+1+1) 3).toNat)+1+1+1)+1, s, 9, 0⟩ = rr at *
  have hl1 : (m.with' (m.dG id a 0 (m.params (a+1+1+1+1+1) (m.nx (a+1+1+1+1) 3).toNat) [givenR] (((((m.params (a+1+1+1+1+1) (m.nx (a+1+1+1+1) 3).toNat).map encR).length : Nat) : Int) + 2 + m.nx ((a+1+1+1+1+1 + (m.nx (a+1+1+1+1) 3).toNat)+1) 2) 2 [⟨4, 0⟩] rr.1 0)).defs.length < 2^20 := hlen.2
  have hl2 : (m.with' (m.dG id a 0 (m.params (a+1+1+1+1+1) (m.nx (a+1+1+1+1) 3).toNat) [givenR] (((((m.params (a+1+1+1+1+1) (m.nx (a+1+1+1+1) 3).toNat).map encR).length : Nat) : Int) + 2 + m.nx ((a+1+1+1+1+1 + (m.nx (a+1+1+1+1) 3).toNat)+1) 2) 2 [⟨4, 0⟩] rr.1 0)).heads.length < 2^20 := hlen.1
  have hl3 : (m.with' (m.dG id a 0 (m.params (a+1+1+1+1+1) (m.nx (a+1+1+1+1) 3).toNat) [givenR] ((((m.params (a+1+1+1+1+1) (m.nx (a+1+1+1+1) 3).toNat).length : Nat) : Int) + 2 + m.nx ((a+1+1+1+1+1 + (m.nx (a+1+1+1+1) 3).toNat)+1) 2) 2 [⟨4, 0⟩] rr.1 0)).defs.length < 2^20 := hlen.2
  have hl4 : (m.with' (m.dG id a 0 (m.params (a+1+1+1+1+1) (m.nx (a+1+1+1+1) 3).toNat) [givenR] ((((m.params (a+1+1+1+1+1) (m.nx (a+1+1+1+1) 3).toNat).length : Nat) : Int) + 2 + m.nx ((a+1+1+1+1+1 + (m.nx (a+1+1+1+1) 3).toNat)+1) 2) 2 [⟨4, 0⟩] rr.1 0)).heads.length < 2^20 := hlen.1
  refine fn_ok hm Tryz.func110 (fun _ => false) [] hintDef (by kernel_rfl) ?_
  refine run ?_; repeat ((apply call_ok; first | exact (next_ok m _ _ _ _ _ _ (by omega) (by omega))); refine run ?_)
  iterate 2
    refine Idx.mapG (f := it) (m.nx (a+1+1) 4).toNat (m.budget (a+1+1)) (by omega) (m.budget_at (a+1+1)) rfl ?_
    refine run ?_
  refine run ?_; repeat ((apply call_ok; first | exact (nextR m (m.dG id a (m.partX a) [] [] 0 0 [] [] 0) [] _ _ _ _ _ _ (by omega) (by omega)) | exact (nextR m (m.dG id a 0 [] [] 0 0 [] [] 0) [] _ _ _ _ _ _ (by omega) (by omega))); refine run ?_)
  refine LoopS.mk ⟨[], HeadS.inv (fun r : PR => r.v = m.nx (a+1+1+1+1) 3 - r.k ∧ r.k ≤ (m.nx (a+1+1+1+1) 3).toNat ∧ r.acc = (m.params (a+1+1+1+1+1) r.k).map encR)
    (fun r => ⟨[(7, it r.v)], [(1000, encMkR (m.with' (m.dG id a 0 [] [] 0 0 [] [] 0)) 32 (a+1+1+1+1+1 + r.k) s l p d r.acc.length)], [(32, ⟨3, true, r.acc⟩)]⟩)
    (fun r => (m.nx (a+1+1+1+1) 3).toNat - r.k) ⟨m.nx (a+1+1+1+1) 3, 0, []⟩ ⟨by simp, Nat.zero_le _, rfl⟩ ?_ ?_ ?_ ?_ ?_⟩
  · repeat' (first | exact trivial | exact rfl | refine ⟨?_, ?_⟩ | refine ⟨?_, ?_, ?_⟩)
  · kernel_rfl
  · kernel_rfl
  · intro r; exact ⟨rfl, rfl, rfl⟩
  rintro ⟨v, k, acc⟩ ⟨w1, w2, w3⟩
  dsimp only at w1 w2 w3 ⊢
  refine Br.mk (fun hb => ?_) (fun hb => ?_)
  · have hb1 : 0 < v := by simpa using hb
    have hl : acc.length = k := by rw [w3]; simp [m.params_len]
    have bk := m.nx_bd (a+1+1+1+1+1 + k) (n := 4) (by omega)
    refine run ?_; repeat ((apply call_ok; first | exact (nextR m (m.dG id a 0 [] [] 0 0 [] [] 0) _ _ _ _ _ _ _ (by omega) (by omega))); refine run ?_)
    iterate 2
      refine Idx.mapG (f := encR) (m.nx (a+1+1+1+1+1 + k) 4).toNat (m.rng (a+1+1+1+1+1 + k)) (by omega) (m.rng_at _) rfl ?_
      refine run ?_
    refine ⟨⟨⟨v - 1, k + 1, acc ++ [encR (m.rng (a+1+1+1+1+1 + k))]⟩, by dsimp only; omega, by dsimp only; omega, by rw [w3]; simp [Mk.params]⟩, by dsimp only; omega, ?_⟩
    repeat' (first | exact trivial | exact rfl | refine ⟨?_, ?_⟩ | refine ⟨?_, ?_, ?_⟩)
  · have hb1 : k = (m.nx (a+1+1+1+1) 3).toNat := by simp at hb; omega
    subst hb1
    subst w3
    refine run ?_; repeat ((apply call_ok; first | exact (nextD m (m.dG id a 0 (m.params (a+1+1+1+1+1) (m.nx (a+1+1+1+1) 3).toNat) [] 0 0 [] [] 0) _ _ _ _ _ _ (by omega) (by omega)) | exact (nextD m (m.dG id a 0 (m.params (a+1+1+1+1+1) (m.nx (a+1+1+1+1) 3).toNat) [givenR] 0 0 [] [] 0) _ _ _ _ _ _ (by omega) (by omega)) | exact (nextA m (m.dG id a 0 (m.params (a+1+1+1+1+1) (m.nx (a+1+1+1+1) 3).toNat) [givenR] (((((m.params (a+1+1+1+1+1) (m.nx (a+1+1+1+1) 3).toNat).map encR).length : Nat) : Int) + 2 + m.nx ((a+1+1+1+1+1 + (m.nx (a+1+1+1+1) 3).toNat)+1) 2) 2 [] [] 0) [encA ⟨4, 0⟩] _ _ _ _ _ _ (by omega) (by omega)) | exact (nextD m (m.dG id a 0 (m.params (a+1+1+1+1+1) (m.nx (a+1+1+1+1) 3).toNat) [givenR] (((((m.params (a+1+1+1+1+1) (m.nx (a+1+1+1+1) 3).toNat).map encR).length : Nat) : Int) + 2 + m.nx ((a+1+1+1+1+1 + (m.nx (a+1+1+1+1) 3).toNat)+1) 2) 2 [⟨4, 0⟩] [] 0) _ _ _ _ _ _ (by omega) (by omega)) | exact (r1) | exact (site_ok (m.with' (m.dG id a 0 (m.params (a+1+1+1+1+1) (m.nx (a+1+1+1+1) 3).toNat) [givenR] (((((m.params (a+1+1+1+1+1) (m.nx (a+1+1+1+1) 3).toNat).map encR).length : Nat) : Int) + 2 + m.nx ((a+1+1+1+1+1 + (m.nx (a+1+1+1+1) 3).toNat)+1) 2) 2 [⟨4, 0⟩] rr.1 0)) _ _ _ _ _ (by omega)) | exact (head_ok (m.dG id a 0 (m.params (a+1+1+1+1+1) (m.nx (a+1+1+1+1) 3).toNat) [givenR] (((((m.params (a+1+1+1+1+1) (m.nx (a+1+1+1+1) 3).toNat).map encR).length : Nat) : Int) + 2 + m.nx ((a+1+1+1+1+1 + (m.nx (a+1+1+1+1) 3).toNat)+1) 2) 2 [⟨4, 0⟩] rr.1 (rr.2.s+1 : Nat)))); refine run ?_)
    exact Done.mk rfl rfl
theorem def_t10 (m : Mk) (id : Int) (a s l p d : Nat) (fine : m.Core) (hid : 0 ≤ id ∧ id < 100) (h : a + 5000 < 2^58) (h' : s + 300 < 2^58) (hp : p < 2^40) (hlen : m.heads.length < 2^20 ∧ m.defs.length < 2^20)
    (t0 : (m.nx (a+1+1+1) 2 == 0) = true) (t1 : (m.nx (a+1+1+1+1+1 + 0) 4 == 0) = false) : CallsA Tryz.prog 110 [mp, it id, bo true] (ctM m a s l p d) (.tup [])
    (ctEnd m (m.dG id a 0 (m.params (a+1+1+1+1+1) 0) [] (((((m.params (a+1+1+1+1+1) 0).map encR).length : Nat) : Int) + 2 + m.nx ((a+1+1+1+1+1 + 0)+1) 2) 2 [⟨4, 0⟩] ((m.with' (m.dG id a 0 (m.params (a+1+1+1+1+1) 0) [] (((((m.params (a+1+1+1+1+1) 0).map encR).length : Nat) : Int) + 2 + m.nx ((a+1+1+1+1+1 + 0)+1) 2) 2 [⟨4, 0⟩] [] 0)).stmts 2 (1 + m.nx ((a+1+1+1+1+1 + 0)+1+1) 5).toNat ⟨((a+1+1+1+1+1 + 0)+1+1)+1, s, 9, 0⟩).1 (((m.with' (m.dG id a 0 (m.params (a+1+1+1+1+1) 0) [] (((((m.params (a+1+1+1+1+1) 0).map encR).length : Nat) : Int) + 2 + m.nx ((a+1+1+1+1+1 + 0)+1) 2) 2 [⟨4, 0⟩] [] 0)).stmts 2 (1 + m.nx ((a+1+1+1+1+1 + 0)+1+1) 5).toNat ⟨((a+1+1+1+1+1 + 0)+1+1)+1, s, 9, 0⟩).2.s+1 : Nat)) ((m.with' (m.dG id a 0 (m.params (a+1+1+1+1+1) 0) [] (((((m.params (a+1+1+1+1+1) 0).map encR).length : Nat) : Int) + 2 + m.nx ((a+1+1+1+1+1 + 0)+1) 2) 2 [⟨4, 0⟩] [] 0)).stmts 2 (1 + m.nx ((a+1+1+1+1+1 + 0)+1+1) 5).toNat ⟨((a+1+1+1+1+1 + 0)+1+1)+1, s, 9, 0⟩).2.a (((m.with' (m.dG id a 0 (m.params (a+1+1+1+1+1) 0) [] (((((m.params (a+1+1+1+1+1) 0).map encR).length : Nat) : Int) + 2 + m.nx ((a+1+1+1+1+1 + 0)+1) 2) 2 [⟨4, 0⟩] [] 0)).stmts 2 (1 + m.nx ((a+1+1+1+1+1 + 0)+1+1) 5).toNat ⟨((a+1+1+1+1+1 + 0)+1+1)+1, s, 9, 0⟩).2.s+1) ((m.with' (m.dG id a 0 (m.params (a+1+1+1+1+1) 0) [] (((((m.params (a+1+1+1+1+1) 0).map encR).length : Nat) : Int) + 2 + m.nx ((a+1+1+1+1+1 + 0)+1) 2) 2 [⟨4, 0⟩] [] 0)).stmts 2 (1 + m.nx ((a+1+1+1+1+1 + 0)+1+1) 5).toNat ⟨((a+1+1+1+1+1 + 0)+1+1)+1, s, 9, 0⟩).2.l p ((m.with' (m.dG id a 0 (m.params (a+1+1+1+1+1) 0) [] (((((m.params (a+1+1+1+1+1) 0).map encR).length : Nat) : Int) + 2 + m.nx ((a+1+1+1+1+1 + 0)+1) 2) 2 [⟨4, 0⟩] [] 0)).stmts 2 (1 + m.nx ((a+1+1+1+1+1 + 0)+1+1) 5).toNat ⟨((a+1+1+1+1+1 + 0)+1+1)+1, s, 9, 0⟩).2.d) := by
  have bi : 0 ≤ id.tmod 8 ∧ id.tmod 8 < 8 := ⟨Int.tmod_nonneg _ hid.1, Int.tmod_lt_of_pos _ (by omega)⟩
  have n0 := m.nx_bd a (n := 2) (by omega)
  have n1 := m.nx_bd (a+1) (n := 6) (by omega)
  have n2 := m.nx_bd (a+1+1) (n := 4) (by omega)
  have hcalm := fine.calm
  have bX := m.nx_bd (a+1+1+1+1) (n := 3) (by omega)
  have bv := m.nx_bd ((a+1+1+1+1+1 + 0)+1) (n := 2) (by omega)
  have b5 := m.nx_bd ((a+1+1+1+1+1 + 0)+1+1) (n := 5) (by omega)
  have pl : (m.params (a+1+1+1+1+1) 0).length = 0 := m.params_len _ _
  have pl2 : ((m.params (a+1+1+1+1+1) 0).map encR).length = 0 := by rw [List.length_map]; exact pl
  have pl2a : ((m.with' (m.dG id a 0 (m.params (a+1+1+1+1+1) 0) [] 0 0 [] [] 0)).D.params.map encR).length = 0 := pl2
  have pl2b : ((m.with' (m.dG id a 0 (m.params (a+1+1+1+1+1) 0) [] 0 0 [] [] 0)).D.params.map encR).length = 0 := pl2
  have pl3 : decide (((((m.params (a+1+1+1+1+1) 0).map encR).length : Nat) : Int) > 0) = false := by rw [pl2]; rfl
  have k1 : ((1 + m.nx ((a+1+1+1+1+1 + 0)+1+1) 5).toNat : Int) = 1 + m.nx ((a+1+1+1+1+1 + 0)+1+1) 5 := by omega
  have fineD : (m.with' (m.dG id a 0 (m.params (a+1+1+1+1+1) 0) [] (((((m.params (a+1+1+1+1+1) 0).map encR).length : Nat) : Int) + 2 + m.nx ((a+1+1+1+1+1 + 0)+1) 2) 2 [⟨4, 0⟩] [] 0)).Fine := Mk.with_fine fine (by simp only [Mk.dG]; omega) (by simp only [Mk.dG]; omega) (by simp [Mk.dG]) (by simp [Mk.dG])
  have r1 := stmts_ok _ fineD (1 + m.nx ((a+1+1+1+1+1 + 0)+1+1) 5).toNat (by omega) 2 (((a+1+1+1+1+1 + 0)+1+1)+1) s 9 p 0 (by omega) (by omega) (by omega) (by omega) (by omega) (by omega)
  rw [k1] at r1
  have us := (m.with' (m.dG id a 0 (m.params (a+1+1+1+1+1) 0) [] (((((m.params (a+1+1+1+1+1) 0).map encR).length : Nat) : Int) + 2 + m.nx ((a+1+1+1+1+1 + 0)+1) 2) 2 [⟨4, 0⟩] [] 0)).stmts_use fineD.heads 2 (1 + m.nx ((a+1+1+1+1+1 + 0)+1+1) 5).toNat ⟨((a+1+1+1+1+1 + 0)+1+1)+1, s, 9, 0⟩
  simp only [Less] at us
  rw [ctEnd_eq]
  generalize hR : (m.with' (m.dG id a 0 (m.params (a+1+1+1+1+1) 0) [] (((((m.params (a+1+1+1+1+1) 0).map encR).length : Nat) : Int) + 2 + m.nx ((a+1+1+1+1+1 + 0)+1) 2) 2 [⟨4, 0⟩] [] 0)).stmts 2 (1 + m.nx ((a+1+1+1+1+1 + 0)+1+1) 5).toNat ⟨((a+1+1+1+1+1 + 0)+1+1)+1, s, 9, 0⟩ = rr at *
  have hl1 : (m.with' (m.dG id a 0 (m.params (a+1+1+1+1+1) 0) [] (((((m.params (a+1+1+1+1+1) 0).map encR).length : Nat) : Int) + 2 + m.nx ((a+1+1+1+1+1 + 0)+1) 2) 2 [⟨4, 0⟩] rr.1 0)).defs.length < 2^20 := hlen.2
  have hl2 : (m.with' (m.dG id a 0 (m.params (a+1+1+1+1+1) 0) [] (((((m.params (a+1+1+1+1+1) 0).map encR).length : Nat) : Int) + 2 + m.nx ((a+1+1+1+1+1 + 0)+1) 2) 2 [⟨4, 0⟩] rr.1 0)).heads.length < 2^20 := hlen.1
  have hl3 : (m.with' (m.dG id a 0 (m.params (a+1+1+1+1+1) 0) [] ((((m.params (a+1+1+1+1+1) 0).length : Nat) : Int) + 2 + m.nx ((a+1+1+1+1+1 + 0)+1) 2) 2 [⟨4, 0⟩] rr.1 0)).defs.length < 2^20 := hlen.2
  have hl4 : (m.with' (m.dG id a 0 (m.params (a+1+1+1+1+1) 0) [] ((((m.params (a+1+1+1+1+1) 0).length : Nat) : Int) + 2 + m.nx ((a+1+1+1+1+1 + 0)+1) 2) 2 [⟨4, 0⟩] rr.1 0)).heads.length < 2^20 := hlen.1
  have hl5 : (m.with' (m.dG id a 0 (m.params (a+1+1+1+1+1) 0) [] ((((m.params (a+1+1+1+1+1) 0).length : Nat) : Int) + 2 + m.nx (a + 5 + 1) 2) 2 [⟨4, 0⟩] rr.1 0)).defs.length < 2^20 := hlen.2
  have hl6 : (m.with' (m.dG id a 0 (m.params (a+1+1+1+1+1) 0) [] ((((m.params (a+1+1+1+1+1) 0).length : Nat) : Int) + 2 + m.nx (a + 5 + 1) 2) 2 [⟨4, 0⟩] rr.1 0)).heads.length < 2^20 := hlen.1
  refine fn_ok hm Tryz.func110 (fun _ => false) [] hintDef (by kernel_rfl) ?_
  refine run ?_; repeat ((apply call_ok; first | exact (next_ok m _ _ _ _ _ _ (by omega) (by omega))); refine run ?_)
  iterate 2
    refine Idx.mapG (f := it) (m.nx (a+1+1) 4).toNat (m.budget (a+1+1)) (by omega) (m.budget_at (a+1+1)) rfl ?_
    refine run ?_
  refine run ?_; repeat ((apply call_ok; first | exact (nextR m (m.dG id a (m.partX a) [] [] 0 0 [] [] 0) [] _ _ _ _ _ _ (by omega) (by omega)) | exact (nextR m (m.dG id a 0 [] [] 0 0 [] [] 0) [] _ _ _ _ _ _ (by omega) (by omega))); refine run ?_)
  refine LoopS.mk ⟨[], HeadS.inv (fun r : PR => r.v = m.nx (a+1+1+1+1) 3 - r.k ∧ r.k ≤ 0 ∧ r.acc = (m.params (a+1+1+1+1+1) r.k).map encR)
    (fun r => ⟨[(7, it r.v)], [(1000, encMkR (m.with' (m.dG id a 0 [] [] 0 0 [] [] 0)) 32 (a+1+1+1+1+1 + r.k) s l p d r.acc.length)], [(32, ⟨3, true, r.acc⟩)]⟩)
    (fun r => 0 - r.k) ⟨m.nx (a+1+1+1+1) 3, 0, []⟩ ⟨by simp, Nat.zero_le _, rfl⟩ ?_ ?_ ?_ ?_ ?_⟩
  · repeat' (first | exact trivial | exact rfl | refine ⟨?_, ?_⟩ | refine ⟨?_, ?_, ?_⟩)
  · kernel_rfl
  · kernel_rfl
  · intro r; exact ⟨rfl, rfl, rfl⟩
  rintro ⟨v, k, acc⟩ ⟨w1, w2, w3⟩
  dsimp only at w1 w2 w3 ⊢
  have hb1 : k = 0 := by omega
  subst hb1
  subst w3
  refine Br.mk (fun hb => ?_) (fun hb => ?_)
  all_goals
    refine run ?_; repeat ((apply call_ok; first | exact (nextD m (m.dG id a 0 (m.params (a+1+1+1+1+1) 0) [] 0 0 [] [] 0) _ _ _ _ _ _ (by omega) (by omega)) | exact (nextD m (m.dG id a 0 (m.params (a+1+1+1+1+1) 0) [] 0 0 [] [] 0) _ _ _ _ _ _ (by omega) (by omega)) | exact (nextA m (m.dG id a 0 (m.params (a+1+1+1+1+1) 0) [] (((((m.params (a+1+1+1+1+1) 0).map encR).length : Nat) : Int) + 2 + m.nx ((a+1+1+1+1+1 + 0)+1) 2) 2 [] [] 0) [encA ⟨4, 0⟩] _ _ _ _ _ _ (by omega) (by omega)) | exact (nextD m (m.dG id a 0 (m.params (a+1+1+1+1+1) 0) [] (((((m.params (a+1+1+1+1+1) 0).map encR).length : Nat) : Int) + 2 + m.nx ((a+1+1+1+1+1 + 0)+1) 2) 2 [⟨4, 0⟩] [] 0) _ _ _ _ _ _ (by omega) (by omega)) | exact (r1) | exact (site_ok (m.with' (m.dG id a 0 (m.params (a+1+1+1+1+1) 0) [] (((((m.params (a+1+1+1+1+1) 0).map encR).length : Nat) : Int) + 2 + m.nx ((a+1+1+1+1+1 + 0)+1) 2) 2 [⟨4, 0⟩] rr.1 0)) _ _ _ _ _ (by omega)) | exact (head_ok (m.dG id a 0 (m.params (a+1+1+1+1+1) 0) [] (((((m.params (a+1+1+1+1+1) 0).map encR).length : Nat) : Int) + 2 + m.nx ((a+1+1+1+1+1 + 0)+1) 2) 2 [⟨4, 0⟩] rr.1 (rr.2.s+1 : Nat)))); refine run ?_)
    exact Done.mk rfl rfl
theorem def_f100 (m : Mk) (id : Int) (a s l p d : Nat) (fine : m.Core) (hid : 0 ≤ id ∧ id < 100) (h : a + 5000 < 2^58) (h' : s + 300 < 2^58) (hp : p < 2^40) (hlen : m.heads.length < 2^20 ∧ m.defs.length < 2^20)
    (t0 : (m.nx (a+1+1+1) 2 == 0) = true) (t1 : (m.nx (a+1+1+1+1+1 + (m.nx (a+1+1+1+1) 3).toNat) 4 == 0) = false) (hX : m.nx (a+1+1+1+1) 3 = 0) : CallsA Tryz.prog 110 [mp, it id, bo false] (ctM m a s l p d) (.tup [])
    (ctEnd m (m.dG id a 0 (m.params (a+1+1+1+1+1) (m.nx (a+1+1+1+1) 3).toNat) [] (((((m.params (a+1+1+1+1+1) (m.nx (a+1+1+1+1) 3).toNat).map encR).length : Nat) : Int) + 2 + m.nx ((a+1+1+1+1+1 + (m.nx (a+1+1+1+1) 3).toNat)+1) 2) 2 [⟨4, 0⟩] ((m.with' (m.dG id a 0 (m.params (a+1+1+1+1+1) (m.nx (a+1+1+1+1) 3).toNat) [] (((((m.params (a+1+1+1+1+1) (m.nx (a+1+1+1+1) 3).toNat).map encR).length : Nat) : Int) + 2 + m.nx ((a+1+1+1+1+1 + (m.nx (a+1+1+1+1) 3).toNat)+1) 2) 2 [⟨4, 0⟩] [] 0)).stmts 2 (1 + m.nx ((a+1+1+1+1+1 + (m.nx (a+1+1+1+1) 3).toNat)+1+1) 5).toNat ⟨((a+1+1+1+1+1 + (m.nx (a+1+1+1+1) 3).toNat)+1+1)+1, s, 9, 0⟩).1 (((m.with' (m.dG id a 0 (m.params (a+1+1+1+1+1) (m.nx (a+1+1+1+1) 3).toNat) [] (((((m.params (a+1+1+1+1+1) (m.nx (a+1+1+1+1) 3).toNat).map encR).length : Nat) : Int) + 2 + m.nx ((a+1+1+1+1+1 + (m.nx (a+1+1+1+1) 3).toNat)+1) 2) 2 [⟨4, 0⟩] [] 0)).stmts 2 (1 + m.nx ((a+1+1+1+1+1 + (m.nx (a+1+1+1+1) 3).toNat)+1+1) 5).toNat ⟨((a+1+1+1+1+1 + (m.nx (a+1+1+1+1) 3).toNat)+1+1)+1, s, 9, 0⟩).2.s+1 : Nat)) ((m.with' (m.dG id a 0 (m.params (a+1+1+1+1+1) (m.nx (a+1+1+1+1) 3).toNat) [] (((((m.params (a+1+1+1+1+1) (m.nx (a+1+1+1+1) 3).toNat).map encR).length : Nat) : Int) + 2 + m.nx ((a+1+1+1+1+1 + (m.nx (a+1+1+1+1) 3).toNat)+1) 2) 2 [⟨4, 0⟩] [] 0)).stmts 2 (1 + m.nx ((a+1+1+1+1+1 + (m.nx (a+1+1+1+1) 3).toNat)+1+1) 5).toNat ⟨((a+1+1+1+1+1 + (m.nx (a+1+1+1+1) 3).toNat)+1+1)+1, s, 9, 0⟩).2.a (((m.with' (m.dG id a 0 (m.params (a+1+1+1+1+1) (m.nx (a+1+1+1+1) 3).toNat) [] (((((m.params (a+1+1+1+1+1) (m.nx (a+1+1+1+1) 3).toNat).map encR).length : Nat) : Int) + 2 + m.nx ((a+1+1+1+1+1 + (m.nx (a+1+1+1+1) 3).toNat)+1) 2) 2 [⟨4, 0⟩] [] 0)).stmts 2 (1 + m.nx ((a+1+1+1+1+1 + (m.nx (a+1+1+1+1) 3).toNat)+1+1) 5).toNat ⟨((a+1+1+1+1+1 + (m.nx (a+1+1+1+1) 3).toNat)+1+1)+1, s, 9, 0⟩).2.s+1) ((m.with' (m.dG id a 0 (m.params (a+1+1+1+1+1) (m.nx (a+1+1+1+1) 3).toNat) [] (((((m.params (a+1+1+1+1+1) (m.nx (a+1+1+1+1) 3).toNat).map encR).length : Nat) : Int) + 2 + m.nx ((a+1+1+1+1+1 + (m.nx (a+1+1+1+1) 3).toNat)+1) 2) 2 [⟨4, 0⟩] [] 0)).stmts 2 (1 + m.nx ((a+1+1+1+1+1 + (m.nx (a+1+1+1+1) 3).toNat)+1+1) 5).toNat ⟨((a+1+1+1+1+1 + (m.nx (a+1+1+1+1) 3).toNat)+1+1)+1, s, 9, 0⟩).2.l p ((m.with' (m.dG id a 0 (m.params (a+1+1+1+1+1) (m.nx (a+1+1+1+1) 3).toNat) [] (((((m.params (a+1+1+1+1+1) (m.nx (a+1+1+1+1) 3).toNat).map encR).length : Nat) : Int) + 2 + m.nx ((a+1+1+1+1+1 + (m.nx (a+1+1+1+1) 3).toNat)+1) 2) 2 [⟨4, 0⟩] [] 0)).stmts 2 (1 + m.nx ((a+1+1+1+1+1 + (m.nx (a+1+1+1+1) 3).toNat)+1+1) 5).toNat ⟨((a+1+1+1+1+1 + (m.nx (a+1+1+1+1) 3).toNat)+1+1)+1, s, 9, 0⟩).2.d) := by
  have bi : 0 ≤ id.tmod 8 ∧ id.tmod 8 < 8 := ⟨Int.tmod_nonneg _ hid.1, Int.tmod_lt_of_pos _ (by omega)⟩
  have n0 := m.nx_bd a (n := 2) (by omega)
  have n1 := m.nx_bd (a+1) (n := 6) (by omega)
  have n2 := m.nx_bd (a+1+1) (n := 4) (by omega)
  have hcalm := fine.calm
  have bX := m.nx_bd (a+1+1+1+1) (n := 3) (by omega)
  have bv := m.nx_bd ((a+1+1+1+1+1 + (m.nx (a+1+1+1+1) 3).toNat)+1) (n := 2) (by omega)
  have b5 := m.nx_bd ((a+1+1+1+1+1 + (m.nx (a+1+1+1+1) 3).toNat)+1+1) (n := 5) (by omega)
  have pl : (m.params (a+1+1+1+1+1) (m.nx (a+1+1+1+1) 3).toNat).length = (m.nx (a+1+1+1+1) 3).toNat := m.params_len _ _
  have pl2 : ((m.params (a+1+1+1+1+1) (m.nx (a+1+1+1+1) 3).toNat).map encR).length = (m.nx (a+1+1+1+1) 3).toNat := by rw [List.length_map]; exact pl
  have pl2a : ((m.with' (m.dG id a 0 (m.params (a+1+1+1+1+1) (m.nx (a+1+1+1+1) 3).toNat) [] 0 0 [] [] 0)).D.params.map encR).length = (m.nx (a+1+1+1+1) 3).toNat := pl2
  have pl2b : ((m.with' (m.dG id a 0 (m.params (a+1+1+1+1+1) (m.nx (a+1+1+1+1) 3).toNat) [] 0 0 [] [] 0)).D.params.map encR).length = (m.nx (a+1+1+1+1) 3).toNat := pl2
  have pl3 : decide ((((m.params (a+1+1+1+1+1) (m.nx (a+1+1+1+1) 3).toNat).map encR).length : Nat) > (0 : Int)) = false := by rw [pl2, hX]; rfl
  have k1 : ((1 + m.nx ((a+1+1+1+1+1 + (m.nx (a+1+1+1+1) 3).toNat)+1+1) 5).toNat : Int) = 1 + m.nx ((a+1+1+1+1+1 + (m.nx (a+1+1+1+1) 3).toNat)+1+1) 5 := by omega
  have fineD : (m.with' (m.dG id a 0 (m.params (a+1+1+1+1+1) (m.nx (a+1+1+1+1) 3).toNat) [] (((((m.params (a+1+1+1+1+1) (m.nx (a+1+1+1+1) 3).toNat).map encR).length : Nat) : Int) + 2 + m.nx ((a+1+1+1+1+1 + (m.nx (a+1+1+1+1) 3).toNat)+1) 2) 2 [⟨4, 0⟩] [] 0)).Fine := Mk.with_fine fine (by simp only [Mk.dG]; omega) (by simp only [Mk.dG]; omega) (by simp [Mk.dG]) (by simp [Mk.dG])
  have r1 := stmts_ok _ fineD (1 + m.nx ((a+1+1+1+1+1 + (m.nx (a+1+1+1+1) 3).toNat)+1+1) 5).toNat (by omega) 2 (((a+1+1+1+1+1 + (m.nx (a+1+1+1+1) 3).toNat)+1+1)+1) s 9 p 0 (by omega) (by omega) (by omega) (by omega) (by omega) (by omega)
  rw [k1] at r1
  have us := (m.with' (m.dG id a 0 (m.params (a+1+1+1+1+1) (m.nx (a+1+1+1+1) 3).toNat) [] (((((m.params (a+1+1+1+1+1) (m.nx (a+1+1+1+1) 3).toNat).map encR).length : Nat) : Int) + 2 + m.nx ((a+1+1+1+1+1 + (m.nx (a+1+1+1+1) 3).toNat)+1) 2) 2 [⟨4, 0⟩] [] 0)).stmts_use fineD.heads 2 (1 + m.nx ((a+1+1+1+1+1 + (m.nx (a+1+1+1+1) 3).toNat)+1+1) 5).toNat ⟨((a+1+1+1+1+1 + (m.nx (a+1+1+1+1) 3).toNat)+1+1)+1, s, 9, 0⟩
  simp only [Less] at us
  rw [ctEnd_eq]
  generalize hR : (m.with' (m.dG id a 0 (m.params (a+1+1+1+1+1) (m.nx (a+1+1+1+1) 3).toNat) [] (((((m.params (a+1+1+1+1+1) (m.nx (a+1+1+1+1) 3).toNat).map encR).length : Nat) : Int) + 2 + m.nx ((a+1+1+1+1+1 + (m.nx (a+1+1+1+1) 3).toNat)+1) 2) 2 [⟨4, 0⟩] [] 0)).stmts 2 (1 + m.nx ((a+1+1+1+1+1 + (m.nx (a+1+1+1+1) 3).toNat)+1+1) 5).toNat ⟨((a+1+1+1+1+1 + (m.nx (a+1+1+1+1) 3).toNat)+1+1)+1, s, 9, 0⟩ = rr at *
  have hl1 : (m.with' (m.dG id a 0 (m.params (a+1+1+1+1+1) (m.nx (a+1+1+1+1) 3).toNat) [] (((((m.params (a+1+1+1+1+1) (m.nx (a+1+1+1+1) 3).toNat).map encR).length : Nat) : Int) + 2 + m.nx ((a+1+1+1+1+1 + (m.nx (a+1+1+1+1) 3).toNat)+1) 2) 2 [⟨4, 0⟩] rr.1 0)).defs.length < 2^20 := hlen.2
  have hl2 : (m.with' (m.dG id a 0 (m.params (a+1+1+1+1+1) (m.nx (a+1+1+1+1) 3).toNat) [] (((((m.params (a+1+1+1+1+1) (m.nx (a+1+1+1+1) 3).toNat).map encR).length : Nat) : Int) + 2 + m.nx ((a+1+1+1+1+1 + (m.nx (a+1+1+1+1) 3).toNat)+1) 2) 2 [⟨4, 0⟩] rr.1 0)).heads.length < 2^20 := hlen.1
  have hl3 : (m.with' (m.dG id a 0 (m.params (a+1+1+1+1+1) (m.nx (a+1+1+1+1) 3).toNat) [] ((((m.params (a+1+1+1+1+1) (m.nx (a+1+1+1+1) 3).toNat).length : Nat) : Int) + 2 + m.nx ((a+1+1+1+1+1 + (m.nx (a+1+1+1+1) 3).toNat)+1) 2) 2 [⟨4, 0⟩] rr.1 0)).defs.length < 2^20 := hlen.2
  have hl4 : (m.with' (m.dG id a 0 (m.params (a+1+1+1+1+1) (m.nx (a+1+1+1+1) 3).toNat) [] ((((m.params (a+1+1+1+1+1) (m.nx (a+1+1+1+1) 3).toNat).length : Nat) : Int) + 2 + m.nx ((a+1+1+1+1+1 + (m.nx (a+1+1+1+1) 3).toNat)+1) 2) 2 [⟨4, 0⟩] rr.1 0)).heads.length < 2^20 := hlen.1
  refine fn_ok hm Tryz.func110 (fun _ => false) [] hintDef (by kernel_rfl) ?_
  refine run ?_; repeat ((apply call_ok; first | exact (next_ok m _ _ _ _ _ _ (by omega) (by omega))); refine run ?_)
  iterate 2
    refine Idx.mapG (f := it) (m.nx (a+1+1) 4).toNat (m.budget (a+1+1)) (by omega) (m.budget_at (a+1+1)) rfl ?_
    refine run ?_
  refine run ?_; repeat ((apply call_ok; first | exact (nextR m (m.dG id a (m.partX a) [] [] 0 0 [] [] 0) [] _ _ _ _ _ _ (by omega) (by omega)) | exact (nextR m (m.dG id a 0 [] [] 0 0 [] [] 0) [] _ _ _ _ _ _ (by omega) (by omega))); refine run ?_)
  refine LoopS.mk ⟨[], HeadS.inv (fun r : PR => r.v = m.nx (a+1+1+1+1) 3 - r.k ∧ r.k ≤ (m.nx (a+1+1+1+1) 3).toNat ∧ r.acc = (m.params (a+1+1+1+1+1) r.k).map encR)
    (fun r => ⟨[(7, it r.v)], [(1000, encMkR (m.with' (m.dG id a 0 [] [] 0 0 [] [] 0)) 32 (a+1+1+1+1+1 + r.k) s l p d r.acc.length)], [(32, ⟨3, true, r.acc⟩)]⟩)
    (fun r => (m.nx (a+1+1+1+1) 3).toNat - r.k) ⟨m.nx (a+1+1+1+1) 3, 0, []⟩ ⟨by simp, Nat.zero_le _, rfl⟩ ?_ ?_ ?_ ?_ ?_⟩
  · repeat' (first | exact trivial | exact rfl | refine ⟨?_, ?_⟩ | refine ⟨?_, ?_, ?_⟩)
  · kernel_rfl
  · kernel_rfl
  · intro r; exact ⟨rfl, rfl, rfl⟩
  rintro ⟨v, k, acc⟩ ⟨w1, w2, w3⟩
  dsimp only at w1 w2 w3 ⊢
  refine Br.mk (fun hb => ?_) (fun hb => ?_)
  · have hb1 : 0 < v := by simpa using hb
    have hl : acc.length = k := by rw [w3]; simp [m.params_len]
    have bk := m.nx_bd (a+1+1+1+1+1 + k) (n := 4) (by omega)
    refine run ?_; repeat ((apply call_ok; first | exact (nextR m (m.dG id a 0 [] [] 0 0 [] [] 0) _ _ _ _ _ _ _ (by omega) (by omega))); refine run ?_)
    iterate 2
      refine Idx.mapG (f := encR) (m.nx (a+1+1+1+1+1 + k) 4).toNat (m.rng (a+1+1+1+1+1 + k)) (by omega) (m.rng_at _) rfl ?_
      refine run ?_
    refine ⟨⟨⟨v - 1, k + 1, acc ++ [encR (m.rng (a+1+1+1+1+1 + k))]⟩, by dsimp only; omega, by dsimp only; omega, by rw [w3]; simp [Mk.params]⟩, by dsimp only; omega, ?_⟩
    repeat' (first | exact trivial | exact rfl | refine ⟨?_, ?_⟩ | refine ⟨?_, ?_, ?_⟩)
  · have hb1 : k = (m.nx (a+1+1+1+1) 3).toNat := by simp at hb; omega
    subst hb1
    subst w3
    refine run ?_; repeat ((apply call_ok; first | exact (nextD m (m.dG id a 0 (m.params (a+1+1+1+1+1) (m.nx (a+1+1+1+1) 3).toNat) [] 0 0 [] [] 0) _ _ _ _ _ _ (by omega) (by omega)) | exact (nextD m (m.dG id a 0 (m.params (a+1+1+1+1+1) (m.nx (a+1+1+1+1) 3).toNat) [] 0 0 [] [] 0) _ _ _ _ _ _ (by omega) (by omega)) | exact (nextA m (m.dG id a 0 (m.params (a+1+1+1+1+1) (m.nx (a+1+1+1+1) 3).toNat) [] (((((m.params (a+1+1+1+1+1) (m.nx (a+1+1+1+1) 3).toNat).map encR).length : Nat) : Int) + 2 + m.nx ((a+1+1+1+1+1 + (m.nx (a+1+1+1+1) 3).toNat)+1) 2) 2 [] [] 0) [encA ⟨4, 0⟩] _ _ _ _ _ _ (by omega) (by omega)) | exact (nextD m (m.dG id a 0 (m.params (a+1+1+1+1+1) (m.nx (a+1+1+1+1) 3).toNat) [] (((((m.params (a+1+1+1+1+1) (m.nx (a+1+1+1+1) 3).toNat).map encR).length : Nat) : Int) + 2 + m.nx ((a+1+1+1+1+1 + (m.nx (a+1+1+1+1) 3).toNat)+1) 2) 2 [⟨4, 0⟩] [] 0) _ _ _ _ _ _ (by omega) (by omega)) | exact (r1) | exact (site_ok (m.with' (m.dG id a 0 (m.params (a+1+1+1+1+1) (m.nx (a+1+1+1+1) 3).toNat) [] (((((m.params (a+1+1+1+1+1) (m.nx (a+1+1+1+1) 3).toNat).map encR).length : Nat) : Int) + 2 + m.nx ((a+1+1+1+1+1 + (m.nx (a+1+1+1+1) 3).toNat)+1) 2) 2 [⟨4, 0⟩] rr.1 0)) _ _ _ _ _ (by omega)) | exact (head_ok (m.dG id a 0 (m.params (a+1+1+1+1+1) (m.nx (a+1+1+1+1) 3).toNat) [] (((((m.params (a+1+1+1+1+1) (m.nx (a+1+1+1+1) 3).toNat).map encR).length : Nat) : Int) + 2 + m.nx ((a+1+1+1+1+1 + (m.nx (a+1+1+1+1) 3).toNat)+1) 2) 2 [⟨4, 0⟩] rr.1 (rr.2.s+1 : Nat)))); refine run ?_)
    exact Done.mk rfl rfl
theorem def_f101 (m : Mk) (id : Int) (a s l p d : Nat) (fine : m.Core) (hid : 0 ≤ id ∧ id < 100) (h : a + 5000 < 2^58) (h' : s + 300 < 2^58) (hp : p < 2^40) (hlen : m.heads.length < 2^20 ∧ m.defs.length < 2^20)
    (t0 : (m.nx (a+1+1+1) 2 == 0) = true) (t1 : (m.nx (a+1+1+1+1+1 + (m.nx (a+1+1+1+1) 3).toNat) 4 == 0) = false) (hX : 0 < m.nx (a+1+1+1+1) 3) (t2 : (m.nx ((a+1+1+1+1+1 + (m.nx (a+1+1+1+1) 3).toNat)+1+1) 2 == 0) = true) : CallsA Tryz.prog 110 [mp, it id, bo false] (ctM m a s l p d) (.tup [])
    (ctEnd m (m.dG id a 0 (m.params (a+1+1+1+1+1) (m.nx (a+1+1+1+1) 3).toNat) [] (((((m.params (a+1+1+1+1+1) (m.nx (a+1+1+1+1) 3).toNat).map encR).length : Nat) : Int) + 2 + m.nx ((a+1+1+1+1+1 + (m.nx (a+1+1+1+1) 3).toNat)+1) 2) 2 [⟨4, 0⟩, ⟨8, 1⟩] ((m.with' (m.dG id a 0 (m.params (a+1+1+1+1+1) (m.nx (a+1+1+1+1) 3).toNat) [] (((((m.params (a+1+1+1+1+1) (m.nx (a+1+1+1+1) 3).toNat).map encR).length : Nat) : Int) + 2 + m.nx ((a+1+1+1+1+1 + (m.nx (a+1+1+1+1) 3).toNat)+1) 2) 2 [⟨4, 0⟩, ⟨8, 1⟩] [] 0)).stmts 2 (1 + m.nx ((a+1+1+1+1+1 + (m.nx (a+1+1+1+1) 3).toNat)+1+1+1) 5).toNat ⟨((a+1+1+1+1+1 + (m.nx (a+1+1+1+1) 3).toNat)+1+1+1)+1, s, 9, 0⟩).1 (((m.with' (m.dG id a 0 (m.params (a+1+1+1+1+1) (m.nx (a+1+1+1+1) 3).toNat) [] (((((m.params (a+1+1+1+1+1) (m.nx (a+1+1+1+1) 3).toNat).map encR).length : Nat) : Int) + 2 + m.nx ((a+1+1+1+1+1 + (m.nx (a+1+1+1+1) 3).toNat)+1) 2) 2 [⟨4, 0⟩, ⟨8, 1⟩] [] 0)).stmts 2 (1 + m.nx ((a+1+1+1+1+1 + (m.nx (a+1+1+1+1) 3).toNat)+1+1+1) 5).toNat ⟨((a+1+1+1+1+1 + (m.nx (a+1+1+1+1) 3).toNat)+1+1+1)+1, s, 9, 0⟩).2.s+1 : Nat)) ((m.with' (m.dG id a 0 (m.params (a+1+1+1+1+1) (m.nx (a+1+1+1+1) 3).toNat) [] (((((m.params (a+1+1+1+1+1) (m.nx (a+1+1+1+1) 3).toNat).map encR).length : Nat) : Int) + 2 + m.nx ((a+1+1+1+1+1 + (m.nx (a+1+1+1+1) 3).toNat)+1) 2) 2 [⟨4, 0⟩, ⟨8, 1⟩] [] 0)).stmts 2 (1 + m.nx ((a+1+1+1+1+1 + (m.nx (a+1+1+1+1) 3).toNat)+1+1+1) 5).toNat ⟨((a+1+1+1+1+1 + (m.nx (a+1+1+1+1) 3).toNat)+1+1+1)+1, s, 9, 0⟩).2.a (((m.with' (m.dG id a 0 (m.params (a+1+1+1+1+1) (m.nx (a+1+1+1+1) 3).toNat) [] (((((m.params (a+1+1+1+1+1) (m.nx (a+1+1+1+1) 3).toNat).map encR).length : Nat) : Int) + 2 + m.nx ((a+1+1+1+1+1 + (m.nx (a+1+1+1+1) 3).toNat)+1) 2) 2 [⟨4, 0⟩, ⟨8, 1⟩] [] 0)).stmts 2 (1 + m.nx ((a+1+1+1+1+1 + (m.nx (a+1+1+1+1) 3).toNat)+1+1+1) 5).toNat ⟨((a+1+1+1+1+1 + (m.nx (a+1+1+1+1) 3).toNat)+1+1+1)+1, s, 9, 0⟩).2.s+1) ((m.with' (m.dG id a 0 (m.params (a+1+1+1+1+1) (m.nx (a+1+1+1+1) 3).toNat) [] (((((m.params (a+1+1+1+1+1) (m.nx (a+1+1+1+1) 3).toNat).map encR).length : Nat) : Int) + 2 + m.nx ((a+1+1+1+1+1 + (m.nx (a+1+1+1+1) 3).toNat)+1) 2) 2 [⟨4, 0⟩, ⟨8, 1⟩] [] 0)).stmts 2 (1 + m.nx ((a+1+1+1+1+1 + (m.nx (a+1+1+1+1) 3).toNat)+1+1+1) 5).toNat ⟨((a+1+1+1+1+1 + (m.nx (a+1+1+1+1) 3).toNat)+1+1+1)+1, s, 9, 0⟩).2.l p ((m.with' (m.dG id a 0 (m.params (a+1+1+1+1+1) (m.nx (a+1+1+1+1) 3).toNat) [] (((((m.params (a+1+1+1+1+1) (m.nx (a+1+1+1+1) 3).toNat).map encR).length : Nat) : Int) + 2 + m.nx ((a+1+1+1+1+1 + (m.nx (a+1+1+1+1) 3).toNat)+1) 2) 2 [⟨4, 0⟩, ⟨8, 1⟩] [] 0)).stmts 2 (1 + m.nx ((a+1+1+1+1+1 + (m.nx (a+1+1+1+1) 3).toNat)+1+1+1) 5).toNat ⟨((a+1+1+1+1+1 + (m.nx (a+1+1+1+1) 3).toNat)+1+1+1)+1, s, 9, 0⟩).2.d) := by
  have bi : 0 ≤ id.tmod 8 ∧ id.tmod 8 < 8 := ⟨Int.tmod_nonneg _ hid.1, Int.tmod_lt_of_pos _ (by omega)⟩
  have n0 := m.nx_bd a (n := 2) (by omega)
  have n1 := m.nx_bd (a+1) (n := 6) (by omega)
  have n2 := m.nx_bd (a+1+1) (n := 4) (by omega)
  have hcalm := fine.calm
  have bX := m.nx_bd (a+1+1+1+1) (n := 3) (by omega)
  have bv := m.nx_bd ((a+1+1+1+1+1 + (m.nx (a+1+1+1+1) 3).toNat)+1) (n := 2) (by omega)
  have b5 := m.nx_bd ((a+1+1+1+1+1 + (m.nx (a+1+1+1+1) 3).toNat)+1+1+1) (n := 5) (by omega)
  have pl : (m.params (a+1+1+1+1+1) (m.nx (a+1+1+1+1) 3).toNat).length = (m.nx (a+1+1+1+1) 3).toNat := m.params_len _ _
  have pl2 : ((m.params (a+1+1+1+1+1) (m.nx (a+1+1+1+1) 3).toNat).map encR).length = (m.nx (a+1+1+1+1) 3).toNat := by rw [List.length_map]; exact pl
  have pl2a : ((m.with' (m.dG id a 0 (m.params (a+1+1+1+1+1) (m.nx (a+1+1+1+1) 3).toNat) [] 0 0 [] [] 0)).D.params.map encR).length = (m.nx (a+1+1+1+1) 3).toNat := pl2
  have pl2b : ((m.with' (m.dG id a 0 (m.params (a+1+1+1+1+1) (m.nx (a+1+1+1+1) 3).toNat) [] 0 0 [] [] 0)).D.params.map encR).length = (m.nx (a+1+1+1+1) 3).toNat := pl2
  have pl3 : decide (((((m.params (a+1+1+1+1+1) (m.nx (a+1+1+1+1) 3).toNat).map encR).length : Nat) : Int) > 0) = true := by rw [pl2]; simp; omega
  have k1 : ((1 + m.nx ((a+1+1+1+1+1 + (m.nx (a+1+1+1+1) 3).toNat)+1+1+1) 5).toNat : Int) = 1 + m.nx ((a+1+1+1+1+1 + (m.nx (a+1+1+1+1) 3).toNat)+1+1+1) 5 := by omega
  have fineD : (m.with' (m.dG id a 0 (m.params (a+1+1+1+1+1) (m.nx (a+1+1+1+1) 3).toNat) [] (((((m.params (a+1+1+1+1+1) (m.nx (a+1+1+1+1) 3).toNat).map encR).length : Nat) : Int) + 2 + m.nx ((a+1+1+1+1+1 + (m.nx (a+1+1+1+1) 3).toNat)+1) 2) 2 [⟨4, 0⟩, ⟨8, 1⟩] [] 0)).Fine := Mk.with_fine fine (by simp only [Mk.dG]; omega) (by simp only [Mk.dG]; omega) (by simp [Mk.dG]) (by simp [Mk.dG])
  have r1 := stmts_ok _ fineD (1 + m.nx ((a+1+1+1+1+1 + (m.nx (a+1+1+1+1) 3).toNat)+1+1+1) 5).toNat (by omega) 2 (((a+1+1+1+1+1 + (m.nx (a+1+1+1+1) 3).toNat)+1+1+1)+1) s 9 p 0 (by omega) (by omega) (by omega) (by omega) (by omega) (by omega)
  rw [k1] at r1
  have us := (m.with' (m.dG id a 0 (m.params (a+1+1+1+1+1) (m.nx (a+1+1+1+1) 3).toNat) [] (((((m.params (a+1+1+1+1+1) (m.nx (a+1+1+1+1) 3).toNat).map encR).length : Nat) : Int) + 2 + m.nx ((a+1+1+1+1+1 + (m.nx (a+1+1+1+1) 3).toNat)+1) 2) 2 [⟨4, 0⟩, ⟨8, 1⟩] [] 0)).stmts_use fineD.heads 2 (1 + m.nx ((a+1+1+1+1+1 + (m.nx (a+1+1+1+1) 3).toNat)+1+1+1) 5).toNat ⟨((a+1+1+1+1+1 + (m.nx (a+1+1+1+1) 3).toNat)+1+1+1)+1, s, 9, 0⟩
  simp only [Less] at us
  rw [ctEnd_eq]
  generalize hR : (m.with' (m.dG id a 0 (m.params (a+1+1+1+1+1) (m.nx (a+1+1+1+1) 3).toNat) [] (((((m.params (a+1+1+1+1+1) (m.nx (a+1+1+1+1) 3).toNat).map encR).length : Nat) : Int) + 2 + m.nx ((a+1+1+1+1+1 + (m.nx (a+1+1+1+1) 3).toNat)+1) 2) 2 [⟨4, 0⟩, ⟨8, 1⟩] [] 0)).stmts 2 (1 + m.nx ((a+1+1+1+1+1 + (m.nx (a+1+1+1+1) 3).toNat)+1+1+1) 5).toNat ⟨((a+1+1+1+1+1 + (m.nx (a+1+1+1+1) 3).toNat)+1+1+1)+1, s, 9, 0⟩ = rr at *
  have hl1 : (m.with' (m.dG id a 0 (m.params (a+1+1+1+1+1) (m.nx (a+1+1+1+1) 3).toNat) [] (((((m.params (a+1+1+1+1+1) (m.nx (a+1+1+1+1) 3).toNat).map encR).length : Nat) : Int) + 2 + m.nx ((a+1+1+1+1+1 + (m.nx (a+1+1+1+1) 3).toNat)+1) 2) 2 [⟨4, 0⟩, ⟨8, 1⟩] rr.1 0)).defs.length < 2^20 := hlen.2
  have hl2 : (m.with' (m.dG id a 0 (m.params (a+1+1+1+1+1) (m.nx (a+1+1+1+1) 3).toNat) [] (((((m.params (a+1+1+1+1+1) (m.nx (a+1+1+1+1) 3).toNat).map encR).length : Nat) : Int) + 2 + m.nx ((a+1+1+1+1+1 + (m.nx (a+1+1+1+1) 3).toNat)+1) 2) 2 [⟨4, 0⟩, ⟨8, 1⟩] rr.1 0)).heads.length < 2^20 := hlen.1
  have hl3 : (m.with' (m.dG id a 0 (m.params (a+1+1+1+1+1) (m.nx (a+1+1+1+1) 3).toNat) [] ((((m.params (a+1+1+1+1+1) (m.nx (a+1+1+1+1) 3).toNat).length : Nat) : Int) + 2 + m.nx ((a+1+1+1+1+1 + (m.nx (a+1+1+1+1) 3).toNat)+1) 2) 2 [⟨4, 0⟩, ⟨8, 1⟩] rr.1 0)).defs.length < 2^20 := hlen.2
  have hl4 : (m.with' (m.dG id a 0 (m.params (a+1+1+1+1+1) (m.nx (a+1+1+1+1) 3).toNat) [] ((((m.params (a+1+1+1+1+1) (m.nx (a+1+1+1+1) 3).toNat).length : Nat) : Int) + 2 + m.nx ((a+1+1+1+1+1 + (m.nx (a+1+1+1+1) 3).toNat)+1) 2) 2 [⟨4, 0⟩, ⟨8, 1⟩] rr.1 0)).heads.length < 2^20 := hlen.1
  refine fn_ok hm Tryz.func110 (fun _ => false) [] hintDef (by kernel_rfl) ?_
  refine run ?_; repeat ((apply call_ok; first | exact (next_ok m _ _ _ _ _ _ (by omega) (by omega))); refine run ?_)
  iterate 2
    refine Idx.mapG (f := it) (m.nx (a+1+1) 4).toNat (m.budget (a+1+1)) (by omega) (m.budget_at (a+1+1)) rfl ?_
    refine run ?_
  refine run ?_; repeat ((apply call_ok; first | exact (nextR m (m.dG id a (m.partX a) [] [] 0 0 [] [] 0) [] _ _ _ _ _ _ (by omega) (by omega)) | exact (nextR m (m.dG id a 0 [] [] 0 0 [] [] 0) [] _ _ _ _ _ _ (by omega) (by omega))); refine run ?_)
  refine LoopS.mk ⟨[], HeadS.inv (fun r : PR => r.v = m.nx (a+1+1+1+1) 3 - r.k ∧ r.k ≤ (m.nx (a+1+1+1+1) 3).toNat ∧ r.acc = (m.params (a+1+1+1+1+1) r.k).map encR)
    (fun r => ⟨[(7, it r.v)], [(1000, encMkR (m.with' (m.dG id a 0 [] [] 0 0 [] [] 0)) 32 (a+1+1+1+1+1 + r.k) s l p d r.acc.length)], [(32, ⟨3, true, r.acc⟩)]⟩)
    (fun r => (m.nx (a+1+1+1+1) 3).toNat - r.k) ⟨m.nx (a+1+1+1+1) 3, 0, []⟩ ⟨by simp, Nat.zero_le _, rfl⟩ ?_ ?_ ?_ ?_ ?_⟩
  · repeat' (first | exact trivial | exact rfl | refine ⟨?_, ?_⟩ | refine ⟨?_, ?_, ?_⟩)
  · kernel_rfl
  · kernel_rfl
  · intro r; exact ⟨rfl, rfl, rfl⟩
  rintro ⟨v, k, acc⟩ ⟨w1, w2, w3⟩
  dsimp only at w1 w2 w3 ⊢
  refine Br.mk (fun hb => ?_) (fun hb => ?_)
  · have hb1 : 0 < v := by simpa using hb
    have hl : acc.length = k := by rw [w3]; simp [m.params_len]
    have bk := m.nx_bd (a+1+1+1+1+1 + k) (n := 4) (by omega)
    refine run ?_; repeat ((apply call_ok; first | exact (nextR m (m.dG id a 0 [] [] 0 0 [] [] 0) _ _ _ _ _ _ _ (by omega) (by omega))); refine run ?_)
    iterate 2
      refine Idx.mapG (f := encR) (m.nx (a+1+1+1+1+1 + k) 4).toNat (m.rng (a+1+1+1+1+1 + k)) (by omega) (m.rng_at _) rfl ?_
      refine run ?_
    refine ⟨⟨⟨v - 1, k + 1, acc ++ [encR (m.rng (a+1+1+1+1+1 + k))]⟩, by dsimp only; omega, by dsimp only; omega, by rw [w3]; simp [Mk.params]⟩, by dsimp only; omega, ?_⟩
    repeat' (first | exact trivial | exact rfl | refine ⟨?_, ?_⟩ | refine ⟨?_, ?_, ?_⟩)
  · have hb1 : k = (m.nx (a+1+1+1+1) 3).toNat := by simp at hb; omega
    subst hb1
    subst w3
    refine run ?_; repeat ((apply call_ok; first | exact (nextD m (m.dG id a 0 (m.params (a+1+1+1+1+1) (m.nx (a+1+1+1+1) 3).toNat) [] 0 0 [] [] 0) _ _ _ _ _ _ (by omega) (by omega)) | exact (nextD m (m.dG id a 0 (m.params (a+1+1+1+1+1) (m.nx (a+1+1+1+1) 3).toNat) [] 0 0 [] [] 0) _ _ _ _ _ _ (by omega) (by omega)) | exact (nextA m (m.dG id a 0 (m.params (a+1+1+1+1+1) (m.nx (a+1+1+1+1) 3).toNat) [] (((((m.params (a+1+1+1+1+1) (m.nx (a+1+1+1+1) 3).toNat).map encR).length : Nat) : Int) + 2 + m.nx ((a+1+1+1+1+1 + (m.nx (a+1+1+1+1) 3).toNat)+1) 2) 2 [] [] 0) [encA ⟨4, 0⟩] _ _ _ _ _ _ (by omega) (by omega)) | exact (nextD m (m.dG id a 0 (m.params (a+1+1+1+1+1) (m.nx (a+1+1+1+1) 3).toNat) [] (((((m.params (a+1+1+1+1+1) (m.nx (a+1+1+1+1) 3).toNat).map encR).length : Nat) : Int) + 2 + m.nx ((a+1+1+1+1+1 + (m.nx (a+1+1+1+1) 3).toNat)+1) 2) 2 [⟨4, 0⟩, ⟨8, 1⟩] [] 0) _ _ _ _ _ _ (by omega) (by omega)) | exact (r1) | exact (site_ok (m.with' (m.dG id a 0 (m.params (a+1+1+1+1+1) (m.nx (a+1+1+1+1) 3).toNat) [] (((((m.params (a+1+1+1+1+1) (m.nx (a+1+1+1+1) 3).toNat).map encR).length : Nat) : Int) + 2 + m.nx ((a+1+1+1+1+1 + (m.nx (a+1+1+1+1) 3).toNat)+1) 2) 2 [⟨4, 0⟩, ⟨8, 1⟩] rr.1 0)) _ _ _ _ _ (by omega)) | exact (head_ok (m.dG id a 0 (m.params (a+1+1+1+1+1) (m.nx (a+1+1+1+1) 3).toNat) [] (((((m.params (a+1+1+1+1+1) (m.nx (a+1+1+1+1) 3).toNat).map encR).length : Nat) : Int) + 2 + m.nx ((a+1+1+1+1+1 + (m.nx (a+1+1+1+1) 3).toNat)+1) 2) 2 [⟨4, 0⟩, ⟨8, 1⟩] rr.1 (rr.2.s+1 : Nat)))); refine run ?_)
    exact Done.mk rfl rfl
theorem def_f102 (m : Mk) (id : Int) (a s l p d : Nat) (fine : m.Core) (hid : 0 ≤ id ∧ id < 100) (h : a + 5000 < 2^58) (h' : s + 300 < 2^58) (hp : p < 2^40) (hlen : m.heads.length < 2^20 ∧ m.defs.length < 2^20)
    (t0 : (m.nx (a+1+1+1) 2 == 0) = true) (t1 : (m.nx (a+1+1+1+1+1 + (m.nx (a+1+1+1+1) 3).toNat) 4 == 0) = false) (hX : 0 < m.nx (a+1+1+1+1) 3) (t2 : (m.nx ((a+1+1+1+1+1 + (m.nx (a+1+1+1+1) 3).toNat)+1+1) 2 == 0) = false) : CallsA Tryz.prog 110 [mp, it id, bo false] (ctM m a s l p d) (.tup [])
    (ctEnd m (m.dG id a 0 (m.params (a+1+1+1+1+1) (m.nx (a+1+1+1+1) 3).toNat) [] (((((m.params (a+1+1+1+1+1) (m.nx (a+1+1+1+1) 3).toNat).map encR).length : Nat) : Int) + 2 + m.nx ((a+1+1+1+1+1 + (m.nx (a+1+1+1+1) 3).toNat)+1) 2) 2 [⟨4, 0⟩] ((m.with' (m.dG id a 0 (m.params (a+1+1+1+1+1) (m.nx (a+1+1+1+1) 3).toNat) [] (((((m.params (a+1+1+1+1+1) (m.nx (a+1+1+1+1) 3).toNat).map encR).length : Nat) : Int) + 2 + m.nx ((a+1+1+1+1+1 + (m.nx (a+1+1+1+1) 3).toNat)+1) 2) 2 [⟨4, 0⟩] [] 0)).stmts 2 (1 + m.nx ((a+1+1+1+1+1 + (m.nx (a+1+1+1+1) 3).toNat)+1+1+1) 5).toNat ⟨((a+1+1+1+1+1 + (m.nx (a+1+1+1+1) 3).toNat)+1+1+1)+1, s, 9, 0⟩).1 (((m.with' (m.dG id a 0 (m.params (a+1+1+1+1+1) (m.nx (a+1+1+1+1) 3).toNat) [] (((((m.params (a+1+1+1+1+1) (m.nx (a+1+1+1+1) 3).toNat).map encR).length : Nat) : Int) + 2 + m.nx ((a+1+1+1+1+1 + (m.nx (a+1+1+1+1) 3).toNat)+1) 2) 2 [⟨4, 0⟩] [] 0)).stmts 2 (1 + m.nx ((a+1+1+1+1+1 + (m.nx (a+1+1+1+1) 3).toNat)+1+1+1) 5).toNat ⟨((a+1+1+1+1+1 + (m.nx (a+1+1+1+1) 3).toNat)+1+1+1)+1, s, 9, 0⟩).2.s+1 : Nat)) ((m.with' (m.dG id a 0 (m.params (a+1+1+1+1+1) (m.nx (a+1+1+1+1) 3).toNat) [] (((((m.params (a+1+1+1+1+1) (m.nx (a+1+1+1+1) 3).toNat).map encR).length : Nat) : Int) + 2 + m.nx ((a+1+1+1+1+1 + (m.nx (a+1+1+1+1) 3).toNat)+1) 2) 2 [⟨4, 0⟩] [] 0)).stmts 2 (1 + m.nx ((a+1+1+1+1+1 + (m.nx (a+1+1+1+1) 3).toNat)+1+1+1) 5).toNat ⟨((a+1+1+1+1+1 + (m.nx (a+1+1+1+1) 3).toNat)+1+1+1)+1, s, 9, 0⟩).2.a (((m.with' (m.dG id a 0 (m.params (a+1+1+1+1+1) (m.nx (a+1+1+1+1) 3).toNat) [] (((((m.params (a+1+1+1+1+1) (m.nx (a+1+1+1+1) 3).toNat).map encR).length : Nat) : Int) + 2 + m.nx ((a+1+1+1+1+1 + (m.nx (a+1+1+1+1) 3).toNat)+1) 2) 2 [⟨4, 0⟩] [] 0)).stmts 2 (1 + m.nx ((a+1+1+1+1+1 + (m.nx (a+1+1+1+1) 3).toNat)+1+1+1) 5).toNat ⟨((a+1+1+1+1+1 + (m.nx (a+1+1+1+1) 3).toNat)+1+1+1)+1, s, 9, 0⟩).2.s+1) ((m.with' (m.dG id a 0 (m.params (a+1+1+1+1+1) (m.nx (a+1+1+1+1) 3).toNat) [] (((((m.params (a+1+1+1+1+1) (m.nx (a+1+1+1+1) 3).toNat).map encR).length : Nat) : Int) + 2 + m.nx ((a+1+1+1+1+1 + (m.nx (a+1+1+1+1) 3).toNat)+1) 2) 2 [⟨4, 0⟩] [] 0)).stmts 2 (1 + m.nx ((a+1+1+1+1+1 + (m.nx (a+1+1+1+1) 3).toNat)+1+1+1) 5).toNat ⟨((a+1+1+1+1+1 + (m.nx (a+1+1+1+1) 3).toNat)+1+1+1)+1, s, 9, 0⟩).2.l p ((m.with' (m.dG id a 0 (m.params (a+1+1+1+1+1) (m.nx (a+1+1+1+1) 3).toNat) [] (((((m.params (a+1+1+1+1+1) (m.nx (a+1+1+1+1) 3).toNat).map encR).length : Nat) : Int) + 2 + m.nx ((a+1+1+1+1+1 + (m.nx (a+1+1+1+1) 3).toNat)+1) 2) 2 [⟨4, 0⟩] [] 0)).stmts 2 (1 + m.nx ((a+1+1+1+1+1 + (m.nx (a+1+1+1+1) 3).toNat)+1+1+1) 5).toNat ⟨((a+1+1+1+1+1 + (m.nx (a+1+1+1+1) 3).toNat)+1+1+1)+1, s, 9, 0⟩).2.d) := by
  have bi : 0 ≤ id.tmod 8 ∧ id.tmod 8 < 8 := ⟨Int.tmod_nonneg _ hid.1, Int.tmod_lt_of_pos _ (by omega)⟩
  have n0 := m.nx_bd a (n := 2) (by omega)
  have n1 := m.nx_bd (a+1) (n := 6) (by omega)
  have n2 := m.nx_bd (a+1+1) (n := 4) (by omega)
  have hcalm := fine.calm
  have bX := m.nx_bd (a+1+1+1+1) (n := 3) (by omega)
  have bv := m.nx_bd ((a+1+1+1+1+1 + (m.nx (a+1+1+1+1) 3).toNat)+1) (n := 2) (by omega)
  have b5 := m.nx_bd ((a+1+1+1+1+1 + (m.nx (a+1+1+1+1) 3).toNat)+1+1+1) (n := 5) (by omega)
  have pl : (m.params (a+1+1+1+1+1) (m.nx (a+1+1+1+1) 3).toNat).length = (m.nx (a+1+1+1+1) 3).toNat := m.params_len _ _
  have pl2 : ((m.params (a+1+1+1+1+1) (m.nx (a+1+1+1+1) 3).toNat).map encR).length = (m.nx (a+1+1+1+1) 3).toNat := by rw [List.length_map]; exact pl
  have pl2a : ((m.with' (m.dG id a 0 (m.params (a+1+1+1+1+1) (m.nx (a+1+1+1+1) 3).toNat) [] 0 0 [] [] 0)).D.params.map encR).length = (m.nx (a+1+1+1+1) 3).toNat := pl2
  have pl2b : ((m.with' (m.dG id a 0 (m.params (a+1+1+1+1+1) (m.nx (a+1+1+1+1) 3).toNat) [] 0 0 [] [] 0)).D.params.map encR).length = (m.nx (a+1+1+1+1) 3).toNat := pl2
  have pl3 : decide (((((m.params (a+1+1+1+1+1) (m.nx (a+1+1+1+1) 3).toNat).map encR).length : Nat) : Int) > 0) = true := by rw [pl2]; simp; omega
  have k1 : ((1 + m.nx ((a+1+1+1+1+1 + (m.nx (a+1+1+1+1) 3).toNat)+1+1+1) 5).toNat : Int) = 1 + m.nx ((a+1+1+1+1+1 + (m.nx (a+1+1+1+1) 3).toNat)+1+1+1) 5 := by omega
  have fineD : (m.with' (m.dG id a 0 (m.params (a+1+1+1+1+1) (m.nx (a+1+1+1+1) 3).toNat) [] (((((m.params (a+1+1+1+1+1) (m.nx (a+1+1+1+1) 3).toNat).map encR).length : Nat) : Int) + 2 + m.nx ((a+1+1+1+1+1 + (m.nx (a+1+1+1+1) 3).toNat)+1) 2) 2 [⟨4, 0⟩] [] 0)).Fine := Mk.with_fine fine (by simp only [Mk.dG]; omega) (by simp only [Mk.dG]; omega) (by simp [Mk.dG]) (by simp [Mk.dG])
  have r1 := stmts_ok _ fineD (1 + m.nx ((a+1+1+1+1+1 + (m.nx (a+1+1+1+1) 3).toNat)+1+1+1) 5).toNat (by omega) 2 (((a+1+1+1+1+1 + (m.nx (a+1+1+1+1) 3).toNat)+1+1+1)+1) s 9 p 0 (by omega) (by omega) (by omega) (by omega) (by omega) (by omega)
  rw [k1] at r1
  have us := (m.with' (m.dG id a 0 (m.params (a+1+1+1+1+1) (m.nx (a+1+1+1+1) 3).toNat) [] (((((m.params (a+1+1+1+1+1) (m.nx (a+1+1+1+1) 3).toNat).map encR).length : Nat) : Int) + 2 + m.nx ((a+1+1+1+1+1 + (m.nx (a+1+1+1+1) 3).toNat)+1) 2) 2 [⟨4, 0⟩] [] 0)).stmts_use fineD.heads 2 (1 + m.nx ((a+1+1+1+1+1 + (m.nx (a+1+1+1+1) 3).toNat)+1+1+1) 5).toNat ⟨((a+1+1+1+1+1 + (m.nx (a+1+1+1+1) 3).toNat)+1+1+1)+1, s, 9, 0⟩
  simp only [Less] at us
  rw [ctEnd_eq]
  generalize hR : (m.with' (m.dG id a 0 (m.params (a+1+1+1+1+1) (m.nx (a+1+1+1+1) 3).toNat) [] (((((m.params (a+1+1+1+1+1) (m.nx (a+1+1+1+1) 3).toNat).map encR).length : Nat) : Int) + 2 + m.nx ((a+1+1+1+1+1 + (m.nx (a+1+1+1+1) 3).toNat)+1) 2) 2 [⟨4, 0⟩] [] 0)).stmts 2 (1 + m.nx ((a+1+1+1+1+1 + (m.nx (a+1+1+1+1) 3).toNat)+1+1+1) 5).toNat ⟨((a+1+1+1+1+1 + (m.nx (a+1+1+1+1) 3).toNat)+1+1+1)+1, s, 9, 0⟩ = rr at *
  have hl1 : (m.with' (m.dG id a 0 (m.params (a+1+1+1+1+1) (m.nx (a+1+1+1+1) 3).toNat) [] (((((m.params (a+1+1+1+1+1) (m.nx (a+1+1+1+1) 3).toNat).map encR).length : Nat) : Int) + 2 + m.nx ((a+1+1+1+1+1 + (m.nx (a+1+1+1+1) 3).toNat)+1) 2) 2 [⟨4, 0⟩] rr.1 0)).defs.length < 2^20 := hlen.2
  have hl2 : (m.with' (m.dG id a 0 (m.params (a+1+1+1+1+1) (m.nx (a+1+1+1+1) 3).toNat) [] (((((m.params (a+1+1+1+1+1) (m.nx (a+1+1+1+1) 3).toNat).map encR).length : Nat) : Int) + 2 + m.nx ((a+1+1+1+1+1 + (m.nx (a+1+1+1+1) 3).toNat)+1) 2) 2 [⟨4, 0⟩] rr.1 0)).heads.length < 2^20 := hlen.1
  have hl3 : (m.with' (m.dG id a 0 (m.params (a+1+1+1+1+1) (m.nx (a+1+1+1+1) 3).toNat) [] ((((m.params (a+1+1+1+1+1) (m.nx (a+1+1+1+1) 3).toNat).length : Nat) : Int) + 2 + m.nx ((a+1+1+1+1+1 + (m.nx (a+1+1+1+1) 3).toNat)+1) 2) 2 [⟨4, 0⟩] rr.1 0)).defs.length < 2^20 := hlen.2
  have hl4 : (m.with' (m.dG id a 0 (m.params (a+1+1+1+1+1) (m.nx (a+1+1+1+1) 3).toNat) [] ((((m.params (a+1+1+1+1+1) (m.nx (a+1+1+1+1) 3).toNat).length : Nat) : Int) + 2 + m.nx ((a+1+1+1+1+1 + (m.nx (a+1+1+1+1) 3).toNat)+1) 2) 2 [⟨4, 0⟩] rr.1 0)).heads.length < 2^20 := hlen.1
  refine fn_ok hm Tryz.func110 (fun _ => false) [] hintDef (by kernel_rfl) ?_
  refine run ?_; repeat ((apply call_ok; first | exact (next_ok m _ _ _ _ _ _ (by omega) (by omega))); refine run ?_)
  iterate 2
    refine Idx.mapG (f := it) (m.nx (a+1+1) 4).toNat (m.budget (a+1+1)) (by omega) (m.budget_at (a+1+1)) rfl ?_
    refine run ?_
  refine run ?_; repeat ((apply call_ok; first | exact (nextR m (m.dG id a (m.partX a) [] [] 0 0 [] [] 0) [] _ _ _ _ _ _ (by omega) (by omega)) | exact (nextR m (m.dG id a 0 [] [] 0 0 [] [] 0) [] _ _ _ _ _ _ (by omega) (by omega))); refine run ?_)
  refine LoopS.mk ⟨[], HeadS.inv (fun r : PR => r.v = m.nx (a+1+1+1+1) 3 - r.k ∧ r.k ≤ (m.nx (a+1+1+1+1) 3).toNat ∧ r.acc = (m.params (a+1+1+1+1+1) r.k).map encR)
    (fun r => ⟨[(7, it r.v)], [(1000, encMkR (m.with' (m.dG id a 0 [] [] 0 0 [] [] 0)) 32 (a+1+1+1+1+1 + r.k) s l p d r.acc.length)], [(32, ⟨3, true, r.acc⟩)]⟩)
    (fun r => (m.nx (a+1+1+1+1) 3).toNat - r.k) ⟨m.nx (a+1+1+1+1) 3, 0, []⟩ ⟨by simp, Nat.zero_le _, rfl⟩ ?_ ?_ ?_ ?_ ?_⟩
  · repeat' (first | exact trivial | exact rfl | refine ⟨?_, ?_⟩ | refine ⟨?_, ?_, ?_⟩)
  · kernel_rfl
  · kernel_rfl
  · intro r; exact ⟨rfl, rfl, rfl⟩
  rintro ⟨v, k, acc⟩ ⟨w1, w2, w3⟩
  dsimp only at w1 w2 w3 ⊢
  refine Br.mk (fun hb => ?_) (fun hb => ?_)
  · have hb1 : 0 < v := by simpa using hb
    have hl : acc.length = k := by rw [w3]; simp [m.params_len]
    have bk := m.nx_bd (a+1+1+1+1+1 + k) (n := 4) (by omega)
    refine run ?_; repeat ((apply call_ok; first | exact (nextR m (m.dG id a 0 [] [] 0 0 [] [] 0) _ _ _ _ _ _ _ (by omega) (by omega))); refine run ?_)
    iterate 2
      refine Idx.mapG (f := encR) (m.nx (a+1+1+1+1+1 + k) 4).toNat (m.rng (a+1+1+1+1+1 + k)) (by omega) (m.rng_at _) rfl ?_
      refine run ?_
    refine ⟨⟨⟨v - 1, k + 1, acc ++ [encR (m.rng (a+1+1+1+1+1 + k))]⟩, by dsimp only; omega, by dsimp only; omega, by rw [w3]; simp [Mk.params]⟩, by dsimp only; omega, ?_⟩
    repeat' (first | exact trivial | exact rfl | refine ⟨?_, ?_⟩ | refine ⟨?_, ?_, ?_⟩)
  · have hb1 : k = (m.nx (a+1+1+1+1) 3).toNat := by simp at hb; omega
    subst hb1
    subst w3
    refine run ?_; repeat ((apply call_ok; first | exact (nextD m (m.dG id a 0 (m.params (a+1+1+1+1+1) (m.nx (a+1+1+1+1) 3).toNat) [] 0 0 [] [] 0) _ _ _ _ _ _ (by omega) (by omega)) | exact (nextD m (m.dG id a 0 (m.params (a+1+1+1+1+1) (m.nx (a+1+1+1+1) 3).toNat) [] 0 0 [] [] 0) _ _ _ _ _ _ (by omega) (by omega)) | exact (nextA m (m.dG id a 0 (m.params (a+1+1+1+1+1) (m.nx (a+1+1+1+1) 3).toNat) [] (((((m.params (a+1+1+1+1+1) (m.nx (a+1+1+1+1) 3).toNat).map encR).length : Nat) : Int) + 2 + m.nx ((a+1+1+1+1+1 + (m.nx (a+1+1+1+1) 3).toNat)+1) 2) 2 [] [] 0) [encA ⟨4, 0⟩] _ _ _ _ _ _ (by omega) (by omega)) | exact (nextD m (m.dG id a 0 (m.params (a+1+1+1+1+1) (m.nx (a+1+1+1+1) 3).toNat) [] (((((m.params (a+1+1+1+1+1) (m.nx (a+1+1+1+1) 3).toNat).map encR).length : Nat) : Int) + 2 + m.nx ((a+1+1+1+1+1 + (m.nx (a+1+1+1+1) 3).toNat)+1) 2) 2 [⟨4, 0⟩] [] 0) _ _ _ _ _ _ (by omega) (by omega)) | exact (r1) | exact (site_ok (m.with' (m.dG id a 0 (m.params (a+1+1+1+1+1) (m.nx (a+1+1+1+1) 3).toNat) [] (((((m.params (a+1+1+1+1+1) (m.nx (a+1+1+1+1) 3).toNat).map encR).length : Nat) : Int) + 2 + m.nx ((a+1+1+1+1+1 + (m.nx (a+1+1+1+1) 3).toNat)+1) 2) 2 [⟨4, 0⟩] rr.1 0)) _ _ _ _ _ (by omega)) | exact (head_ok (m.dG id a 0 (m.params (a+1+1+1+1+1) (m.nx (a+1+1+1+1) 3).toNat) [] (((((m.params (a+1+1+1+1+1) (m.nx (a+1+1+1+1) 3).toNat).map encR).length : Nat) : Int) + 2 + m.nx ((a+1+1+1+1+1 + (m.nx (a+1+1+1+1) 3).toNat)+1) 2) 2 [⟨4, 0⟩] rr.1 (rr.2.s+1 : Nat)))); refine run ?_)
    exact Done.mk rfl rfl
theorem def_t01 (m : Mk) (id : Int) (a s l p d : Nat) (fine : m.Core) (hid : 0 ≤ id ∧ id < 100) (h : a + 5000 < 2^58) (h' : s + 300 < 2^58) (hp : p < 2^40) (hlen : m.heads.length < 2^20 ∧ m.defs.length < 2^20)
    (t0 : (m.nx (a+1+1+1) 2 == 0) = false) (t1 : (m.nx (a+1+1+1+1+1 + 0) 4 == 0) = true) : CallsA Tryz.prog 110 [mp, it id, bo true] (ctM m a s l p d) (.tup [])
    (ctEnd m (m.dG id a (m.partX a) (m.params (a+1+1+1+1+1) 0) [] (((((m.params (a+1+1+1+1+1) 0).map encR).length : Nat) : Int) + 2 + m.nx ((a+1+1+1+1+1 + 0)+1) 2) 2 [⟨4, 0⟩] ((m.with' (m.dG id a (m.partX a) (m.params (a+1+1+1+1+1) 0) [] (((((m.params (a+1+1+1+1+1) 0).map encR).length : Nat) : Int) + 2 + m.nx ((a+1+1+1+1+1 + 0)+1) 2) 2 [⟨4, 0⟩] [] 0)).stmts 2 (1 + m.nx ((a+1+1+1+1+1 + 0)+1+1) 5).toNat ⟨((a+1+1+1+1+1 + 0)+1+1)+1, s, 9, 0⟩).1 (((m.with' (m.dG id a (m.partX a) (m.params (a+1+1+1+1+1) 0) [] (((((m.params (a+1+1+1+1+1) 0).map encR).length : Nat) : Int) + 2 + m.nx ((a+1+1+1+1+1 + 0)+1) 2) 2 [⟨4, 0⟩] [] 0)).stmts 2 (1 + m.nx ((a+1+1+1+1+1 + 0)+1+1) 5).toNat ⟨((a+1+1+1+1+1 + 0)+1+1)+1, s, 9, 0⟩).2.s+1 : Nat)) ((m.with' (m.dG id a (m.partX a) (m.params (a+1+1+1+1+1) 0) [] (((((m.params (a+1+1+1+1+1) 0).map encR).length : Nat) : Int) + 2 + m.nx ((a+1+1+1+1+1 + 0)+1) 2) 2 [⟨4, 0⟩] [] 0)).stmts 2 (1 + m.nx ((a+1+1+1+1+1 + 0)+1+1) 5).toNat ⟨((a+1+1+1+1+1 + 0)+1+1)+1, s, 9, 0⟩).2.a (((m.with' (m.dG id a (m.partX a) (m.params (a+1+1+1+1+1) 0) [] (((((m.params (a+1+1+1+1+1) 0).map encR).length : Nat) : Int) + 2 + m.nx ((a+1+1+1+1+1 + 0)+1) 2) 2 [⟨4, 0⟩] [] 0)).stmts 2 (1 + m.nx ((a+1+1+1+1+1 + 0)+1+1) 5).toNat ⟨((a+1+1+1+1+1 + 0)+1+1)+1, s, 9, 0⟩).2.s+1) ((m.with' (m.dG id a (m.partX a) (m.params (a+1+1+1+1+1) 0) [] (((((m.params (a+1+1+1+1+1) 0).map encR).length : Nat) : Int) + 2 + m.nx ((a+1+1+1+1+1 + 0)+1) 2) 2 [⟨4, 0⟩] [] 0)).stmts 2 (1 + m.nx ((a+1+1+1+1+1 + 0)+1+1) 5).toNat ⟨((a+1+1+1+1+1 + 0)+1+1)+1, s, 9, 0⟩).2.l p ((m.with' (m.dG id a (m.partX a) (m.params (a+1+1+1+1+1) 0) [] (((((m.params (a+1+1+1+1+1) 0).map encR).length : Nat) : Int) + 2 + m.nx ((a+1+1+1+1+1 + 0)+1) 2) 2 [⟨4, 0⟩] [] 0)).stmts 2 (1 + m.nx ((a+1+1+1+1+1 + 0)+1+1) 5).toNat ⟨((a+1+1+1+1+1 + 0)+1+1)+1, s, 9, 0⟩).2.d) := by
  have bi : 0 ≤ id.tmod 8 ∧ id.tmod 8 < 8 := ⟨Int.tmod_nonneg _ hid.1, Int.tmod_lt_of_pos _ (by omega)⟩
  have n0 := m.nx_bd a (n := 2) (by omega)
  have n1 := m.nx_bd (a+1) (n := 6) (by omega)
  have n2 := m.nx_bd (a+1+1) (n := 4) (by omega)
  have hcalm := fine.calm
  have bX := m.nx_bd (a+1+1+1+1) (n := 3) (by omega)
  have bv := m.nx_bd ((a+1+1+1+1+1 + 0)+1) (n := 2) (by omega)
  have b5 := m.nx_bd ((a+1+1+1+1+1 + 0)+1+1) (n := 5) (by omega)
  have pl : (m.params (a+1+1+1+1+1) 0).length = 0 := m.params_len _ _
  have pl2 : ((m.params (a+1+1+1+1+1) 0).map encR).length = 0 := by rw [List.length_map]; exact pl
  have pl2a : ((m.with' (m.dG id a (m.partX a) (m.params (a+1+1+1+1+1) 0) [] 0 0 [] [] 0)).D.params.map encR).length = 0 := pl2
  have pl2b : ((m.with' (m.dG id a (m.partX a) (m.params (a+1+1+1+1+1) 0) [] 0 0 [] [] 0)).D.params.map encR).length = 0 := pl2
  have pl3 : decide (((((m.params (a+1+1+1+1+1) 0).map encR).length : Nat) : Int) > 0) = false := by rw [pl2]; rfl
  have k1 : ((1 + m.nx ((a+1+1+1+1+1 + 0)+1+1) 5).toNat : Int) = 1 + m.nx ((a+1+1+1+1+1 + 0)+1+1) 5 := by omega
  have fineD : (m.with' (m.dG id a (m.partX a) (m.params (a+1+1+1+1+1) 0) [] (((((m.params (a+1+1+1+1+1) 0).map encR).length : Nat) : Int) + 2 + m.nx ((a+1+1+1+1+1 + 0)+1) 2) 2 [⟨4, 0⟩] [] 0)).Fine := Mk.with_fine fine (by simp only [Mk.dG]; omega) (by simp only [Mk.dG]; omega) (by simp [Mk.dG]) (by simp [Mk.dG])
  have r1 := stmts_ok _ fineD (1 + m.nx ((a+1+1+1+1+1 + 0)+1+1) 5).toNat (by omega) 2 (((a+1+1+1+1+1 + 0)+1+1)+1) s 9 p 0 (by omega) (by omega) (by omega) (by omega) (by omega) (by omega)
  rw [k1] at r1
  have us := (m.with' (m.dG id a (m.partX a) (m.params (a+1+1+1+1+1) 0) [] (((((m.params (a+1+1+1+1+1) 0).map encR).length : Nat) : Int) + 2 + m.nx ((a+1+1+1+1+1 + 0)+1) 2) 2 [⟨4, 0⟩] [] 0)).stmts_use fineD.heads 2 (1 + m.nx ((a+1+1+1+1+1 + 0)+1+1) 5).toNat ⟨((a+1+1+1+1+1 + 0)+1+1)+1, s, 9, 0⟩
  simp only [Less] at us
  rw [ctEnd_eq]
  generalize hR : (m.with' (m.dG id a (m.partX a) (m.params (a+1+1+1+1+1) 0) [] (((((m.params (a+1+1+1+1+1) 0).map encR).length : Nat) : Int) + 2 + m.nx ((a+1+1+1+1+1 + 0)+1) 2) 2 [⟨4, 0⟩] [] 0)).stmts 2 (1 + m.nx ((a+1+1+1+1+1 + 0)+1+1) 5).toNat ⟨((a+1+1+1+1+1 + 0)+1+1)+1, s, 9, 0⟩ = rr at *
  have hl1 : (m.with' (m.dG id a (m.partX a) (m.params (a+1+1+1+1+1) 0) [] (((((m.params (a+1+1+1+1+1) 0).map encR).length : Nat) : Int) + 2 + m.nx ((a+1+1+1+1+1 + 0)+1) 2) 2 [⟨4, 0⟩] rr.1 0)).defs.length < 2^20 := hlen.2
  have hl2 : (m.with' (m.dG id a (m.partX a) (m.params (a+1+1+1+1+1) 0) [] (((((m.params (a+1+1+1+1+1) 0).map encR).length : Nat) : Int) + 2 + m.nx ((a+1+1+1+1+1 + 0)+1) 2) 2 [⟨4, 0⟩] rr.1 0)).heads.length < 2^20 := hlen.1
  have hl3 : (m.with' (m.dG id a (m.partX a) (m.params (a+1+1+1+1+1) 0) [] ((((m.params (a+1+1+1+1+1) 0).length : Nat) : Int) + 2 + m.nx ((a+1+1+1+1+1 + 0)+1) 2) 2 [⟨4, 0⟩] rr.1 0)).defs.length < 2^20 := hlen.2
  have hl4 : (m.with' (m.dG id a (m.partX a) (m.params (a+1+1+1+1+1) 0) [] ((((m.params (a+1+1+1+1+1) 0).length : Nat) : Int) + 2 + m.nx ((a+1+1+1+1+1 + 0)+1) 2) 2 [⟨4, 0⟩] rr.1 0)).heads.length < 2^20 := hlen.1
  have hl5 : (m.with' (m.dG id a (m.partX a) (m.params (a+1+1+1+1+1) 0) [] ((((m.params (a+1+1+1+1+1) 0).length : Nat) : Int) + 2 + m.nx (a + 5 + 1) 2) 2 [⟨4, 0⟩] rr.1 0)).defs.length < 2^20 := hlen.2
  have hl6 : (m.with' (m.dG id a (m.partX a) (m.params (a+1+1+1+1+1) 0) [] ((((m.params (a+1+1+1+1+1) 0).length : Nat) : Int) + 2 + m.nx (a + 5 + 1) 2) 2 [⟨4, 0⟩] rr.1 0)).heads.length < 2^20 := hlen.1
  refine fn_ok hm Tryz.func110 (fun _ => false) [] hintDef (by kernel_rfl) ?_
  refine run ?_; repeat ((apply call_ok; first | exact (next_ok m _ _ _ _ _ _ (by omega) (by omega))); refine run ?_)
  iterate 2
    refine Idx.mapG (f := it) (m.nx (a+1+1) 4).toNat (m.budget (a+1+1)) (by omega) (m.budget_at (a+1+1)) rfl ?_
    refine run ?_
  refine run ?_; repeat ((apply call_ok; first | exact (nextR m (m.dG id a (m.partX a) [] [] 0 0 [] [] 0) [] _ _ _ _ _ _ (by omega) (by omega)) | exact (nextR m (m.dG id a (m.partX a) [] [] 0 0 [] [] 0) [] _ _ _ _ _ _ (by omega) (by omega))); refine run ?_)
  refine LoopS.mk ⟨[], HeadS.inv (fun r : PR => r.v = m.nx (a+1+1+1+1) 3 - r.k ∧ r.k ≤ 0 ∧ r.acc = (m.params (a+1+1+1+1+1) r.k).map encR)
    (fun r => ⟨[(7, it r.v)], [(1000, encMkR (m.with' (m.dG id a (m.partX a) [] [] 0 0 [] [] 0)) 32 (a+1+1+1+1+1 + r.k) s l p d r.acc.length)], [(32, ⟨3, true, r.acc⟩)]⟩)
    (fun r => 0 - r.k) ⟨m.nx (a+1+1+1+1) 3, 0, []⟩ ⟨by simp, Nat.zero_le _, rfl⟩ ?_ ?_ ?_ ?_ ?_⟩
  · repeat' (first | exact trivial | exact rfl | refine ⟨?_, ?_⟩ | refine ⟨?_, ?_, ?_⟩)
  · kernel_rfl
  · kernel_rfl
  · intro r; exact ⟨rfl, rfl, rfl⟩
  rintro ⟨v, k, acc⟩ ⟨w1, w2, w3⟩
  dsimp only at w1 w2 w3 ⊢
  have hb1 : k = 0 := by omega
  subst hb1
  subst w3
  refine Br.mk (fun hb => ?_) (fun hb => ?_)
  all_goals
    refine run ?_; repeat ((apply call_ok; first | exact (nextD m (m.dG id a (m.partX a) (m.params (a+1+1+1+1+1) 0) [] 0 0 [] [] 0) _ _ _ _ _ _ (by omega) (by omega)) | exact (nextD m (m.dG id a (m.partX a) (m.params (a+1+1+1+1+1) 0) [] 0 0 [] [] 0) _ _ _ _ _ _ (by omega) (by omega)) | exact (nextA m (m.dG id a (m.partX a) (m.params (a+1+1+1+1+1) 0) [] (((((m.params (a+1+1+1+1+1) 0).map encR).length : Nat) : Int) + 2 + m.nx ((a+1+1+1+1+1 + 0)+1) 2) 2 [] [] 0) [encA ⟨4, 0⟩] _ _ _ _ _ _ (by omega) (by omega)) | exact (nextD m (m.dG id a (m.partX a) (m.params (a+1+1+1+1+1) 0) [] (((((m.params (a+1+1+1+1+1) 0).map encR).length : Nat) : Int) + 2 + m.nx ((a+1+1+1+1+1 + 0)+1) 2) 2 [⟨4, 0⟩] [] 0) _ _ _ _ _ _ (by omega) (by omega)) | exact (r1) | exact (site_ok (m.with' (m.dG id a (m.partX a) (m.params (a+1+1+1+1+1) 0) [] (((((m.params (a+1+1+1+1+1) 0).map encR).length : Nat) : Int) + 2 + m.nx ((a+1+1+1+1+1 + 0)+1) 2) 2 [⟨4, 0⟩] rr.1 0)) _ _ _ _ _ (by omega)) | exact (head_ok (m.dG id a (m.partX a) (m.params (a+1+1+1+1+1) 0) [] (((((m.params (a+1+1+1+1+1) 0).map encR).length : Nat) : Int) + 2 + m.nx ((a+1+1+1+1+1 + 0)+1) 2) 2 [⟨4, 0⟩] rr.1 (rr.2.s+1 : Nat)))); refine run ?_)
    exact Done.mk rfl rfl
theorem def_f010 (m : Mk) (id : Int) (a s l p d : Nat) (fine : m.Core) (hid : 0 ≤ id ∧ id < 100) (h : a + 5000 < 2^58) (h' : s + 300 < 2^58) (hp : p < 2^40) (hlen : m.heads.length < 2^20 ∧ m.defs.length < 2^20)
    (t0 : (m.nx (a+1+1+1) 2 == 0) = false) (t1 : (m.nx (a+1+1+1+1+1 + (m.nx (a+1+1+1+1) 3).toNat) 4 == 0) = true) (hX : m.nx (a+1+1+1+1) 3 = 0) : CallsA Tryz.prog 110 [mp, it id, bo false] (ctM m a s l p d) (.tup [])
    (ctEnd m (m.dG id a (m.partX a) (m.params (a+1+1+1+1+1) (m.nx (a+1+1+1+1) 3).toNat) [givenR] (((((m.params (a+1+1+1+1+1) (m.nx (a+1+1+1+1) 3).toNat).map encR).length : Nat) : Int) + 2 + m.nx ((a+1+1+1+1+1 + (m.nx (a+1+1+1+1) 3).toNat)+1) 2) 2 [⟨4, 0⟩] ((m.with' (m.dG id a (m.partX a) (m.params (a+1+1+1+1+1) (m.nx (a+1+1+1+1) 3).toNat) [givenR] (((((m.params (a+1+1+1+1+1) (m.nx (a+1+1+1+1) 3).toNat).map encR).length : Nat) : Int) + 2 + m.nx ((a+1+1+1+1+1 + (m.nx (a+1+1+1+1) 3).toNat)+1) 2) 2 [⟨4, 0⟩] [] 0)).stmts 2 (1 + m.nx ((a+1+1+1+1+1 + (m.nx (a+1+1+1+1) 3).toNat)+1+1) 5).toNat ⟨((a+1+1+1+1+1 + (m.nx (a+1+1+1+1) 3).toNat)+1+1)+1, s, 9, 0⟩).1 (((m.with' (m.dG id a (m.partX a) (m.params (a+1+1+1+1+1) (m.nx (a+1+1+1+1) 3).toNat) [givenR] (((((m.params (a+1+1+1+1+1) (m.nx (a+1+1+1+1) 3).toNat).map encR).length : Nat) : Int) + 2 + m.nx ((a+1+1+1+1+1 + (m.nx (a+1+1+1+1) 3).toNat)+1) 2) 2 [⟨4, 0⟩] [] 0)).stmts 2 (1 + m.nx ((a+1+1+1+1+1 + (m.nx (a+1+1+1+1) 3).toNat)+1+1) 5).toNat ⟨((a+1+1+1+1+1 + (m.nx (a+1+1+1+1) 3).toNat)+1+1)+1, s, 9, 0⟩).2.s+1 : Nat)) ((m.with' (m.dG id a (m.partX a) (m.params (a+1+1+1+1+1) (m.nx (a+1+1+1+1) 3).toNat) [givenR] (((((m.params (a+1+1+1+1+1) (m.nx (a+1+1+1+1) 3).toNat).map encR).length : Nat) : Int) + 2 + m.nx ((a+1+1+1+1+1 + (m.nx (a+1+1+1+1) 3).toNat)+1) 2) 2 [⟨4, 0⟩] [] 0)).stmts 2 (1 + m.nx ((a+1+1+1+1+1 + (m.nx (a+1+1+1+1) 3).toNat)+1+1) 5).toNat ⟨((a+1+1+1+1+1 + (m.nx (a+1+1+1+1) 3).toNat)+1+1)+1, s, 9, 0⟩).2.a (((m.with' (m.dG id a (m.partX a) (m.params (a+1+1+1+1+1) (m.nx (a+1+1+1+1) 3).toNat) [givenR] (((((m.params (a+1+1+1+1+1) (m.nx (a+1+1+1+1) 3).toNat).map encR).length : Nat) : Int) + 2 + m.nx ((a+1+1+1+1+1 + (m.nx (a+1+1+1+1) 3).toNat)+1) 2) 2 [⟨4, 0⟩] [] 0)).stmts 2 (1 + m.nx ((a+1+1+1+1+1 + (m.nx (a+1+1+1+1) 3).toNat)+1+1) 5).toNat ⟨((a+1+1+1+1+1 + (m.nx (a+1+1+1+1) 3).toNat)+1+1)+1, s, 9, 0⟩).2.s+1) ((m.with' (m.dG id a (m.partX a) (m.params (a+1+1+1+1+1) (m.nx (a+1+1+1+1) 3).toNat) [givenR] (((((m.params (a+1+1+1+1+1) (m.nx (a+1+1+1+1) 3).toNat).map encR).length : Nat) : Int) + 2 + m.nx ((a+1+1+1+1+1 + (m.nx (a+1+1+1+1) 3).toNat)+1) 2) 2 [⟨4, 0⟩] [] 0)).stmts 2 (1 + m.nx ((a+1+1+1+1+1 + (m.nx (a+1+1+1+1) 3).toNat)+1+1) 5).toNat ⟨((a+1+1+1+1+1 + (m.nx (a+1+1+1+1) 3).toNat)+1+1)+1, s, 9, 0⟩).2.l p ((m.with' (m.dG id a (m.partX a) (m.params (a+1+1+1+1+1) (m.nx (a+1+1+1+1) 3).toNat) [givenR] (((((m.params (a+1+1+1+1+1) (m.nx (a+1+1+1+1) 3).toNat).map encR).length : Nat) : Int) + 2 + m.nx ((a+1+1+1+1+1 + (m.nx (a+1+1+1+1) 3).toNat)+1) 2) 2 [⟨4, 0⟩] [] 0)).stmts 2 (1 + m.nx ((a+1+1+1+1+1 + (m.nx (a+1+1+1+1) 3).toNat)+1+1) 5).toNat ⟨((a+1+1+1+1+1 + (m.nx (a+1+1+1+1) 3).toNat)+1+1)+1, s, 9, 0⟩).2.d) := by
  have bi : 0 ≤ id.tmod 8 ∧ id.tmod 8 < 8 := ⟨Int.tmod_nonneg _ hid.1, Int.tmod_lt_of_pos _ (by omega)⟩
  have n0 := m.nx_bd a (n := 2) (by omega)
  have n1 := m.nx_bd (a+1) (n := 6) (by omega)
  have n2 := m.nx_bd (a+1+1) (n := 4) (by omega)
  have hcalm := fine.calm
  have bX := m.nx_bd (a+1+1+1+1) (n := 3) (by omega)
  have bv := m.nx_bd ((a+1+1+1+1+1 + (m.nx (a+1+1+1+1) 3).toNat)+1) (n := 2) (by omega)
  have b5 := m.nx_bd ((a+1+1+1+1+1 + (m.nx (a+1+1+1+1) 3).toNat)+1+1) (n := 5) (by omega)
  have pl : (m.params (a+1+1+1+1+1) (m.nx (a+1+1+1+1) 3).toNat).length = (m.nx (a+1+1+1+1) 3).toNat := m.params_len _ _
  have pl2 : ((m.params (a+1+1+1+1+1) (m.nx (a+1+1+1+1) 3).toNat).map encR).length = (m.nx (a+1+1+1+1) 3).toNat := by rw [List.length_map]; exact pl
  have pl2a : ((m.with' (m.dG id a (m.partX a) (m.params (a+1+1+1+1+1) (m.nx (a+1+1+1+1) 3).toNat) [] 0 0 [] [] 0)).D.params.map encR).length = (m.nx (a+1+1+1+1) 3).toNat := pl2
  have pl2b : ((m.with' (m.dG id a (m.partX a) (m.params (a+1+1+1+1+1) (m.nx (a+1+1+1+1) 3).toNat) [givenR] 0 0 [] [] 0)).D.params.map encR).length = (m.nx (a+1+1+1+1) 3).toNat := pl2
  have pl3 : decide ((((m.params (a+1+1+1+1+1) (m.nx (a+1+1+1+1) 3).toNat).map encR).length : Nat) > (0 : Int)) = false := by rw [pl2, hX]; rfl
  have k1 : ((1 + m.nx ((a+1+1+1+1+1 + (m.nx (a+1+1+1+1) 3).toNat)+1+1) 5).toNat : Int) = 1 + m.nx ((a+1+1+1+1+1 + (m.nx (a+1+1+1+1) 3).toNat)+1+1) 5 := by omega
  have fineD : (m.with' (m.dG id a (m.partX a) (m.params (a+1+1+1+1+1) (m.nx (a+1+1+1+1) 3).toNat) [givenR] (((((m.params (a+1+1+1+1+1) (m.nx (a+1+1+1+1) 3).toNat).map encR).length : Nat) : Int) + 2 + m.nx ((a+1+1+1+1+1 + (m.nx (a+1+1+1+1) 3).toNat)+1) 2) 2 [⟨4, 0⟩] [] 0)).Fine := Mk.with_fine fine (by simp only [Mk.dG]; omega) (by simp only [Mk.dG]; omega) (by simp [Mk.dG]) (by simp [Mk.dG])
  have r1 := stmts_ok _ fineD (1 + m.nx ((a+1+1+1+1+1 + (m.nx (a+1+1+1+1) 3).toNat)+1+1) 5).toNat (by omega) 2 (((a+1+1+1+1+1 + (m.nx (a+1+1+1+1) 3).toNat)+1+1)+1) s 9 p 0 (by omega) (by omega) (by omega) (by omega) (by omega) (by omega)
  rw [k1] at r1
  have us := (m.with' (m.dG id a (m.partX a) (m.params (a+1+1+1+1+1) (m.nx (a+1+1+1+1) 3).toNat) [givenR] (((((m.params (a+1+1+1+1+1) (m.nx (a+1+1+1+1) 3).toNat).map encR).length : Nat) : Int) + 2 + m.nx ((a+1+1+1+1+1 + (m.nx (a+1+1+1+1) 3).toNat)+1) 2) 2 [⟨4, 0⟩] [] 0)).stmts_use fineD.heads 2 (1 + m.nx ((a+1+1+1+1+1 + (m.nx (a+1+1+1+1) 3).toNat)+1+1) 5).toNat ⟨((a+1+1+1+1+1 + (m.nx (a+1+1+1+1) 3).toNat)+1+1)+1, s, 9, 0⟩
  simp only [Less] at us
  rw [ctEnd_eq]
  generalize hR : (m.with' (m.dG id a (m.partX a) (m.params (a+1+1+1+1+1) (m.nx (a+1+1+1+1) 3).toNat) [givenR] (((((m.params (a+1+1+1+1+1) (m.nx (a+1+1+1+1) 3).toNat).map encR).length : Nat) : Int) + 2 + m.nx ((a+1+1+1+1+1 + (m.nx (a+1+1+1+1) 3).toNat)+1) 2) 2 [⟨4, 0⟩] [] 0)).stmts 2 (1 + m.nx ((a+1+1+1+1+1 + (m.nx (a+1+1+1+1) 3).toNat)+1+1) 5).toNat ⟨((a+1+1+1+1+1 + (m.nx (a+1+1+1+1) 3).toNat)+1+1)+1, s, 9, 0⟩ = rr at *
  have hl1 : (m.with' (m.dG id a (m.partX a) (m.params (a+1+1+1+1+1) (m.nx (a+1+1+1+1) 3).toNat) [givenR] (((((m.params (a+1+1+1+1+1) (m.nx (a+1+1+1+1) 3).toNat).map encR).length : Nat) : Int) + 2 + m.nx ((a+1+1+1+1+1 + (m.nx (a+1+1+1+1) 3).toNat)+1) 2) 2 [⟨4, 0⟩] rr.1 0)).defs.length < 2^20 := hlen.2
  have hl2 : (m.with' (m.dG id a (m.partX a) (m.params (a+1+1+1+1+1) (m.nx (a+1+1+1+1) 3).toNat) [givenR] (((((m.params (a+1+1+1+1+1) (m.nx (a+1+1+1+1) 3).toNat).map encR).length : Nat) : Int) + 2 + m.nx ((a+1+1+1+1+1 + (m.nx (a+1+1+1+1) 3).toNat)+1) 2) 2 [⟨4, 0⟩] rr.1 0)).heads.length < 2^20 := hlen.1
  have hl3 : (m.with' (m.dG id a (m.partX a) (m.params (a+1+1+1+1+1) (m.nx (a+1+1+1+1) 3).toNat) [givenR] ((((m.params (a+1+1+1+1+1) (m.nx (a+1+1+1+1) 3).toNat).length : Nat) : Int) + 2 + m.nx ((a+1+1+1+1+1 + (m.nx (a+1+1+1+1) 3).toNat)+1) 2) 2 [⟨4, 0⟩] rr.1 0)).defs.length < 2^20 := hlen.2
  have hl4 : (m.with' (m.dG id a (m.partX a) (m.params (a+1+1+1+1+1) (m.nx (a+1+1+1+1) 3).toNat) [givenR] ((((m.params (a+1+1+1+1+1) (m.nx (a+1+1+1+1) 3).toNat).length : Nat) : Int) + 2 + m.nx ((a+1+1+1+1+1 + (m.nx (a+1+1+1+1) 3).toNat)+1) 2) 2 [⟨4, 0⟩] rr.1 0)).heads.length < 2^20 := hlen.1
  refine fn_ok hm Tryz.func110 (fun _ => false) [] hintDef (by kernel_rfl) ?_
  refine run ?_; repeat ((apply call_ok; first | exact (next_ok m _ _ _ _ _ _ (by omega) (by omega))); refine run ?_)
  iterate 2
    refine Idx.mapG (f := it) (m.nx (a+1+1) 4).toNat (m.budget (a+1+1)) (by omega) (m.budget_at (a+1+1)) rfl ?_
    refine run ?_
  refine run ?_; repeat ((apply call_ok; first | exact (nextR m (m.dG id a (m.partX a) [] [] 0 0 [] [] 0) [] _ _ _ _ _ _ (by omega) (by omega)) | exact (nextR m (m.dG id a (m.partX a) [] [] 0 0 [] [] 0) [] _ _ _ _ _ _ (by omega) (by omega))); refine run ?_)
  refine LoopS.mk ⟨[], HeadS.inv (fun r : PR => r.v = m.nx (a+1+1+1+1) 3 - r.k ∧ r.k ≤ (m.nx (a+1+1+1+1) 3).toNat ∧ r.acc = (m.params (a+1+1+1+1+1) r.k).map encR)
    (fun r => ⟨[(7, it r.v)], [(1000, encMkR (m.with' (m.dG id a (m.partX a) [] [] 0 0 [] [] 0)) 32 (a+1+1+1+1+1 + r.k) s l p d r.acc.length)], [(32, ⟨3, true, r.acc⟩)]⟩)
    (fun r => (m.nx (a+1+1+1+1) 3).toNat - r.k) ⟨m.nx (a+1+1+1+1) 3, 0, []⟩ ⟨by simp, Nat.zero_le _, rfl⟩ ?_ ?_ ?_ ?_ ?_⟩
  · repeat' (first | exact trivial | exact rfl | refine ⟨?_, ?_⟩ | refine ⟨?_, ?_, ?_⟩)
  · kernel_rfl
  · kernel_rfl
  · intro r; exact ⟨rfl, rfl, rfl⟩
  rintro ⟨v, k, acc⟩ ⟨w1, w2, w3⟩
  dsimp only at w1 w2 w3 ⊢
  refine Br.mk (fun hb => ?_) (fun hb => ?_)
  · have hb1 : 0 < v := by simpa using hb
    have hl : acc.length = k := by rw [w3]; simp [m.params_len]
    have bk := m.nx_bd (a+1+1+1+1+1 + k) (n := 4) (by omega)
    refine run ?_; repeat ((apply call_ok; first | exact (nextR m (m.dG id a (m.partX a) [] [] 0 0 [] [] 0) _ _ _ _ _ _ _ (by omega) (by omega))); refine run ?_)
    iterate 2
      refine Idx.mapG (f := encR) (m.nx (a+1+1+1+1+1 + k) 4).toNat (m.rng (a+1+1+1+1+1 + k)) (by omega) (m.rng_at _) rfl ?_
      refine run ?_
    refine ⟨⟨⟨v - 1, k + 1, acc ++ [encR (m.rng (a+1+1+1+1+1 + k))]⟩, by dsimp only; omega, by dsimp only; omega, by rw [w3]; simp [Mk.params]⟩, by dsimp only; omega, ?_⟩
    repeat' (first | exact trivial | exact rfl | refine ⟨?_, ?_⟩ | refine ⟨?_, ?_, ?_⟩)
  · have hb1 : k = (m.nx (a+1+1+1+1) 3).toNat := by simp at hb; omega
    subst hb1
    subst w3
    refine run ?_; repeat ((apply call_ok; first | exact (nextD m (m.dG id a (m.partX a) (m.params (a+1+1+1+1+1) (m.nx (a+1+1+1+1) 3).toNat) [] 0 0 [] [] 0) _ _ _ _ _ _ (by omega) (by omega)) | exact (nextD m (m.dG id a (m.partX a) (m.params (a+1+1+1+1+1) (m.nx (a+1+1+1+1) 3).toNat) [givenR] 0 0 [] [] 0) _ _ _ _ _ _ (by omega) (by omega)) | exact (nextA m (m.dG id a (m.partX a) (m.params (a+1+1+1+1+1) (m.nx (a+1+1+1+1) 3).toNat) [givenR] (((((m.params (a+1+1+1+1+1) (m.nx (a+1+1+1+1) 3).toNat).map encR).length : Nat) : Int) + 2 + m.nx ((a+1+1+1+1+1 + (m.nx (a+1+1+1+1) 3).toNat)+1) 2) 2 [] [] 0) [encA ⟨4, 0⟩] _ _ _ _ _ _ (by omega) (by omega)) | exact (nextD m (m.dG id a (m.partX a) (m.params (a+1+1+1+1+1) (m.nx (a+1+1+1+1) 3).toNat) [givenR] (((((m.params (a+1+1+1+1+1) (m.nx (a+1+1+1+1) 3).toNat).map encR).length : Nat) : Int) + 2 + m.nx ((a+1+1+1+1+1 + (m.nx (a+1+1+1+1) 3).toNat)+1) 2) 2 [⟨4, 0⟩] [] 0) _ _ _ _ _ _ (by omega) (by omega)) | exact (r1) | exact (site_ok (m.with' (m.dG id a (m.partX a) (m.params (a+1+1+1+1+1) (m.nx (a+1+1+1+1) 3).toNat) [givenR] (((((m.params (a+1+1+1+1+1) (m.nx (a+1+1+1+1) 3).toNat).map encR).length : Nat) : Int) + 2 + m.nx ((a+1+1+1+1+1 + (m.nx (a+1+1+1+1) 3).toNat)+1) 2) 2 [⟨4, 0⟩] rr.1 0)) _ _ _ _ _ (by omega)) | exact (head_ok (m.dG id a (m.partX a) (m.params (a+1+1+1+1+1) (m.nx (a+1+1+1+1) 3).toNat) [givenR] (((((m.params (a+1+1+1+1+1) (m.nx (a+1+1+1+1) 3).toNat).map encR).length : Nat) : Int) + 2 + m.nx ((a+1+1+1+1+1 + (m.nx (a+1+1+1+1) 3).toNat)+1) 2) 2 [⟨4, 0⟩] rr.1 (rr.2.s+1 : Nat)))); refine run ?_)
    exact Done.mk rfl rfl
theorem def_f011 (m : Mk) (id : Int) (a s l p d : Nat) (fine : m.Core) (hid : 0 ≤ id ∧ id < 100) (h : a + 5000 < 2^58) (h' : s + 300 < 2^58) (hp : p < 2^40) (hlen : m.heads.length < 2^20 ∧ m.defs.length < 2^20)
    (t0 : (m.nx (a+1+1+1) 2 == 0) = false) (t1 : (m.nx (a+1+1+1+1+1 + (m.nx (a+1+1+1+1) 3).toNat) 4 == 0) = true) (hX : 0 < m.nx (a+1+1+1+1) 3) (t2 : (m.nx ((a+1+1+1+1+1 + (m.nx (a+1+1+1+1) 3).toNat)+1+1) 2 == 0) = true) : CallsA Tryz.prog 110 [mp, it id, bo false] (ctM m a s l p d) (.tup [])
    (ctEnd m (m.dG id a (m.partX a) (m.params (a+1+1+1+1+1) (m.nx (a+1+1+1+1) 3).toNat) [givenR] (((((m.params (a+1+1+1+1+1) (m.nx (a+1+1+1+1) 3).toNat).map encR).length : Nat) : Int) + 2 + m.nx ((a+1+1+1+1+1 + (m.nx (a+1+1+1+1) 3).toNat)+1) 2) 2 [⟨4, 0⟩, ⟨8, 1⟩] ((m.with' (m.dG id a (m.partX a) (m.params (a+1+1+1+1+1) (m.nx (a+1+1+1+1) 3).toNat) [givenR] (((((m.params (a+1+1+1+1+1) (m.nx (a+1+1+1+1) 3).toNat).map encR).length : Nat) : Int) + 2 + m.nx ((a+1+1+1+1+1 + (m.nx (a+1+1+1+1) 3).toNat)+1) 2) 2 [⟨4, 0⟩, ⟨8, 1⟩] [] 0)).stmts 2 (1 + m.nx ((a+1+1+1+1+1 + (m.nx (a+1+1+1+1) 3).toNat)+1+1+1) 5).toNat ⟨((a+1+1+1+1+1 + (m.nx (a+1+1+1+1) 3).toNat)+1+1+1)+1, s, 9, 0⟩).1 (((m.with' (m.dG id a (m.partX a) (m.params (a+1+1+1+1+1) (m.nx (a+1+1+1+1) 3).toNat) [givenR] (((((m.params (a+1+1+1+1+1) (m.nx (a+1+1+1+1) 3).toNat).map encR).length : Nat) : Int) + 2 + m.nx ((a+1+1+1+1+1 + (m.nx (a+1+1+1+1) 3).toNat)+1) 2) 2 [⟨4, 0⟩, ⟨8, 1⟩] [] 0)).stmts 2 (1 + m.nx ((a+1+1+1+1+1 + (m.nx (a+1+1+1+1) 3).toNat)+1+1+1) 5).toNat ⟨((a+1+1+1+1+1 + (m.nx (a+1+1+1+1) 3).toNat)+1+1+1)+1, s, 9, 0⟩).2.s+1 : Nat)) ((m.with' (m.dG id a (m.partX a) (m.params (a+1+1+1+1+1) (m.nx (a+1+1+1+1) 3).toNat) [givenR] (((((m.params (a+1+1+1+1+1) (m.nx (a+1+1+1+1) 3).toNat).map encR).length : Nat) : Int) + 2 + m.nx ((a+1+1+1+1+1 + (m.nx (a+1+1+1+1) 3).toNat)+1) 2) 2 [⟨4, 0⟩, ⟨8, 1⟩] [] 0)).stmts 2 (1 + m.nx ((a+1+1+1+1+1 + (m.nx (a+1+1+1+1) 3).toNat)+1+1+1) 5).toNat ⟨((a+1+1+1+1+1 + (m.nx (a+1+1+1+1) 3).toNat)+1+1+1)+1, s, 9, 0⟩).2.a (((m.with' (m.dG id a (m.partX a) (m.params (a+1+1+1+1+1) (m.nx (a+1+1+1+1) 3).toNat) [givenR] (((((m.params (a+1+1+1+1+1) (m.nx (a+1+1+1+1) 3).toNat).map encR).length : Nat) : Int) + 2 + m.nx ((a+1+1+1+1+1 + (m.nx (a+1+1+1+1) 3).toNat)+1) 2) 2 [⟨4, 0⟩, ⟨8, 1⟩] [] 0)).stmts 2 (1 + m.nx ((a+1+1+1+1+1 + (m.nx (a+1+1+1+1) 3).toNat)+1+1+1) 5).toNat ⟨((a+1+1+1+1+1 + (m.nx (a+1+1+1+1) 3).toNat)+1+1+1)+1, s, 9, 0⟩).2.s+1) ((m.with' (m.dG id a (m.partX a) (m.params (a+1+1+1+1+1) (m.nx (a+1+1+1+1) 3).toNat) [givenR] (((((m.params (a+1+1+1+1+1) (m.nx (a+1+1+1+1) 3).toNat).map encR).length : Nat) : Int) + 2 + m.nx ((a+1+1+1+1+1 + (m.nx (a+1+1+1+1) 3).toNat)+1) 2) 2 [⟨4, 0⟩, ⟨8, 1⟩] [] 0)).stmts 2 (1 + m.nx ((a+1+1+1+1+1 + (m.nx (a+1+1+1+1) 3).toNat)+1+1+1) 5).toNat ⟨((a+1+1+1+1+1 + (m.nx (a+1+1+1+1) 3).toNat)+1+1+1)+1, s, 9, 0⟩).2.l p ((m.with' (m.dG id a (m.partX a) (m.params (a+1+1+1+1+1) (m.nx (a+1+1+1+1) 3).toNat) [givenR] (((((m.params (a+1+1+1+1+1) (m.nx (a+1+1+1+1) 3).toNat).map encR).length : Nat) : Int) + 2 + m.nx ((a+1+1+1+1+1 + (m.nx (a+1+1+1+1) 3).toNat)+1) 2) 2 [⟨4, 0⟩, ⟨8, 1⟩] [] 0)).stmts 2 (1 + m.nx ((a+1+1+1+1+1 + (m.nx (a+1+1+1+1) 3).toNat)+1+1+1) 5).toNat ⟨((a+1+1+1+1+1 + (m.nx (a+1+1+1+1) 3).toNat)+1+1+1)+1, s, 9, 0⟩).2.d) := by
  have bi : 0 ≤ id.tmod 8 ∧ id.tmod 8 < 8 := ⟨Int.tmod_nonneg _ hid.1, Int.tmod_lt_of_pos _ (by omega)⟩
  have n0 := m.nx_bd a (n := 2) (by omega)
  have n1 := m.nx_bd (a+1) (n := 6) (by omega)
  have n2 := m.nx_bd (a+1+1) (n := 4) (by omega)
  have hcalm := fine.calm
  have bX := m.nx_bd (a+1+1+1+1) (n := 3) (by omega)
  have bv := m.nx_bd ((a+1+1+1+1+1 + (m.nx (a+1+1+1+1) 3).toNat)+1) (n := 2) (by omega)
  have b5 := m.nx_bd ((a+1+1+1+1+1 + (m.nx (a+1+1+1+1) 3).toNat)+1+1+1) (n := 5) (by omega)
  have pl : (m.params (a+1+1+1+1+1) (m.nx (a+1+1+1+1) 3).toNat).length = (m.nx (a+1+1+1+1) 3).toNat := m.params_len _ _
  have pl2 : ((m.params (a+1+1+1+1+1) (m.nx (a+1+1+1+1) 3).toNat).map encR).length = (m.nx (a+1+1+1+1) 3).toNat := by rw [List.length_map]; exact pl
  have pl2a : ((m.with' (m.dG id a (m.partX a) (m.params (a+1+1+1+1+1) (m.nx (a+1+1+1+1) 3).toNat) [] 0 0 [] [] 0)).D.params.map encR).length = (m.nx (a+1+1+1+1) 3).toNat := pl2
  have pl2b : ((m.with' (m.dG id a (m.partX a) (m.params (a+1+1+1+1+1) (m.nx (a+1+1+1+1) 3).toNat) [givenR] 0 0 [] [] 0)).D.params.map encR).length = (m.nx (a+1+1+1+1) 3).toNat := pl2
  have pl3 : decide (((((m.params (a+1+1+1+1+1) (m.nx (a+1+1+1+1) 3).toNat).map encR).length : Nat) : Int) > 0) = true := by rw [pl2]; simp; omega
  have k1 : ((1 + m.nx ((a+1+1+1+1+1 + (m.nx (a+1+1+1+1) 3).toNat)+1+1+1) 5).toNat : Int) = 1 + m.nx ((a+1+1+1+1+1 + (m.nx (a+1+1+1+1) 3).toNat)+1+1+1) 5 := by omega
  have fineD : (m.with' (m.dG id a (m.partX a) (m.params (a+1+1+1+1+1) (m.nx (a+1+1+1+1) 3).toNat) [givenR] (((((m.params (a+1+1+1+1+1) (m.nx (a+1+1+1+1) 3).toNat).map encR).length : Nat) : Int) + 2 + m.nx ((a+1+1+1+1+1 + (m.nx (a+1+1+1+1) 3).toNat)+1) 2) 2 [⟨4, 0⟩, ⟨8, 1⟩] [] 0)).Fine := Mk.with_fine fine (by simp only [Mk.dG]; omega) (by simp only [Mk.dG]; omega) (by simp [Mk.dG]) (by simp [Mk.dG])
  have r1 := stmts_ok _ fineD (1 + m.nx ((a+1+1+1+1+1 + (m.nx (a+1+1+1+1) 3).toNat)+1+1+1) 5).toNat (by omega) 2 (((a+1+1+1+1+1 + (m.nx (a+1+1+1+1) 3).toNat)+1+1+1)+1) s 9 p 0 (by omega) (by omega) (by omega) (by omega) (by omega) (by omega)
  rw [k1] at r1
  have us := (m.with' (m.dG id a (m.partX a) (m.params (a+1+1+1+1+1) (m.nx (a+1+1+1+1) 3).toNat) [givenR] (((((m.params (a+1+1+1+1+1) (m.nx (a+1+1+1+1) 3).toNat).map encR).length : Nat) : Int) + 2 + m.nx ((a+1+1+1+1+1 + (m.nx (a+1+1+1+1) 3).toNat)+1) 2) 2 [⟨4, 0⟩, ⟨8, 1⟩] [] 0)).stmts_use fineD.heads 2 (1 + m.nx ((a+1+1+1+1+1 + (m.nx (a+1+1+1+1) 3).toNat)+1+1+1) 5).toNat ⟨((a+1+1+1+1+1 + (m.nx (a+1+1+1+1) 3).toNat)+1+1+1)+1, s, 9, 0⟩
  simp only [Less] at us
  rw [ctEnd_eq]
  generalize hR : (m.with' (m.dG id a (m.partX a) (m.params (a+1+1+1+1+1) (m.nx (a+1+1+1+1) 3).toNat) [givenR] (((((m.params (a+1+1+1+1+1) (m.nx (a+1+1+1+1) 3).toNat).map encR).length : Nat) : Int) + 2 + m.nx ((a+1+1+1+1+1 + (m.nx (a+1+1+1+1) 3).toNat)+1) 2) 2 [⟨4, 0⟩, ⟨8, 1⟩] [] 0)).stmts 2 (1 + m.nx ((a+1+1+1+1+1 + (m.nx (a+1+1+1+1) 3).toNat)+1+1+1) 5).toNat ⟨((a+1+1+1+1+1 + (m.nx (a+1+1+1+1) 3).toNat)+1+1+1)+1, s, 9, 0⟩ = rr at *
  have hl1 : (m.with' (m.dG id a (m.partX a) (m.params (a+1+1+1+1+1) (m.nx (a+1+1+1+1) 3).toNat) [givenR] (((((m.params (a+1+1+1+1+1) (m.nx (a+1+1+1+1) 3).toNat).map encR).length : Nat) : Int) + 2 + m.nx ((a+1+1+1+1+1 + (m.nx (a+1+1+1+1) 3).toNat)+1) 2) 2 [⟨4, 0⟩, ⟨8, 1⟩] rr.1 0)).defs.length < 2^20 := hlen.2
  have hl2 : (m.with' (m.dG id a (m.partX a) (m.params (a+1+1+1+1+1) (m.nx (a+1+1+1+1) 3).toNat) [givenR] (((((m.params (a+1+1+1+1+1) (m.nx (a+1+1+1+1) 3).toNat).map encR).length : Nat) : Int) + 2 + m.nx ((a+1+1+1+1+1 + (m.nx (a+1+1+1+1) 3).toNat)+1) 2) 2 [⟨4, 0⟩, ⟨8, 1⟩] rr.1 0)).heads.length < 2^20 := hlen.1
  have hl3 : (m.with' (m.dG id a (m.partX a) (m.params (a+1+1+1+1+1) (m.nx (a+1+1+1+1) 3).toNat) [givenR] ((((m.params (a+1+1+1+1+1) (m.nx (a+1+1+1+1) 3).toNat).length : Nat) : Int) + 2 + m.nx ((a+1+1+1+1+1 + (m.nx (a+1+1+1+1) 3).toNat)+1) 2) 2 [⟨4, 0⟩, ⟨8, 1⟩] rr.1 0)).defs.length < 2^20 := hlen.2
  have hl4 : (m.with' (m.dG id a (m.partX a) (m.params (a+1+1+1+1+1) (m.nx (a+1+1+1+1) 3).toNat) [givenR] ((((m.params (a+1+1+1+1+1) (m.nx (a+1+1+1+1) 3).toNat).length : Nat) : Int) + 2 + m.nx ((a+1+1+1+1+1 + (m.nx (a+1+1+1+1) 3).toNat)+1) 2) 2 [⟨4, 0⟩, ⟨8, 1⟩] rr.1 0)).heads.length < 2^20 := hlen.1
  refine fn_ok hm Tryz.func110 (fun _ => false) [] hintDef (by kernel_rfl) ?_
  refine run ?_; repeat ((apply call_ok; first | exact (next_ok m _ _ _ _ _ _ (by omega) (by omega))); refine run ?_)
  iterate 2
    refine Idx.mapG (f := it) (m.nx (a+1+1) 4).toNat (m.budget (a+1+1)) (by omega) (m.budget_at (a+1+1)) rfl ?_
    refine run ?_
  refine run ?_; repeat ((apply call_ok; first | exact (nextR m (m.dG id a (m.partX a) [] [] 0 0 [] [] 0) [] _ _ _ _ _ _ (by omega) (by omega)) | exact (nextR m (m.dG id a (m.partX a) [] [] 0 0 [] [] 0) [] _ _ _ _ _ _ (by omega) (by omega))); refine run ?_)
  refine LoopS.mk ⟨[], HeadS.inv (fun r : PR => r.v = m.nx (a+1+1+1+1) 3 - r.k ∧ r.k ≤ (m.nx (a+1+1+1+1) 3).toNat ∧ r.acc = (m.params (a+1+1+1+1+1) r.k).map encR)
    (fun r => ⟨[(7, it r.v)], [(1000, encMkR (m.with' (m.dG id a (m.partX a) [] [] 0 0 [] [] 0)) 32 (a+1+1+1+1+1 + r.k) s l p d r.acc.length)], [(32, ⟨3, true, r.acc⟩)]⟩)
    (fun r => (m.nx (a+1+1+1+1) 3).toNat - r.k) ⟨m.nx (a+1+1+1+1) 3, 0, []⟩ ⟨by simp, Nat.zero_le _, rfl⟩ ?_ ?_ ?_ ?_ ?_⟩
  · repeat' (first | exact trivial | exact rfl | refine ⟨?_, ?_⟩ | refine ⟨?_, ?_, ?_⟩)
  · kernel_rfl
  · kernel_rfl
  · intro r; exact ⟨rfl, rfl, rfl⟩
  rintro ⟨v, k, acc⟩ ⟨w1, w2, w3⟩
  dsimp only at w1 w2 w3 ⊢
  refine Br.mk (fun hb => ?_) (fun hb => ?_)
  · have hb1 : 0 < v := by simpa using hb
    have hl : acc.length = k := by rw [w3]; simp [m.params_len]
    have bk := m.nx_bd (a+1+1+1+1+1 + k) (n := 4) (by omega)
    refine run ?_; repeat ((apply call_ok; first | exact (nextR m (m.dG id a (m.partX a) [] [] 0 0 [] [] 0) _ _ _ _ _ _ _ (by omega) (by omega))); refine run ?_)
    iterate 2
      refine Idx.mapG (f := encR) (m.nx (a+1+1+1+1+1 + k) 4).toNat (m.rng (a+1+1+1+1+1 + k)) (by omega) (m.rng_at _) rfl ?_
      refine run ?_
    refine ⟨⟨⟨v - 1, k + 1, acc ++ [encR (m.rng (a+1+1+1+1+1 + k))]⟩, by dsimp only; omega, by dsimp only; omega, by rw [w3]; simp [Mk.params]⟩, by dsimp only; omega, ?_⟩
    repeat' (first | exact trivial | exact rfl | refine ⟨?_, ?_⟩ | refine ⟨?_, ?_, ?_⟩)
  · have hb1 : k = (m.nx (a+1+1+1+1) 3).toNat := by simp at hb; omega
    subst hb1
    subst w3
    refine run ?_; repeat ((apply call_ok; first | exact (nextD m (m.dG id a (m.partX a) (m.params (a+1+1+1+1+1) (m.nx (a+1+1+1+1) 3).toNat) [] 0 0 [] [] 0) _ _ _ _ _ _ (by omega) (by omega)) | exact (nextD m (m.dG id a (m.partX a) (m.params (a+1+1+1+1+1) (m.nx (a+1+1+1+1) 3).toNat) [givenR] 0 0 [] [] 0) _ _ _ _ _ _ (by omega) (by omega)) | exact (nextA m (m.dG id a (m.partX a) (m.params (a+1+1+1+1+1) (m.nx (a+1+1+1+1) 3).toNat) [givenR] (((((m.params (a+1+1+1+1+1) (m.nx (a+1+1+1+1) 3).toNat).map encR).length : Nat) : Int) + 2 + m.nx ((a+1+1+1+1+1 + (m.nx (a+1+1+1+1) 3).toNat)+1) 2) 2 [] [] 0) [encA ⟨4, 0⟩] _ _ _ _ _ _ (by omega) (by omega)) | exact (nextD m (m.dG id a (m.partX a) (m.params (a+1+1+1+1+1) (m.nx (a+1+1+1+1) 3).toNat) [givenR] (((((m.params (a+1+1+1+1+1) (m.nx (a+1+1+1+1) 3).toNat).map encR).length : Nat) : Int) + 2 + m.nx ((a+1+1+1+1+1 + (m.nx (a+1+1+1+1) 3).toNat)+1) 2) 2 [⟨4, 0⟩, ⟨8, 1⟩] [] 0) _ _ _ _ _ _ (by omega) (by omega)) | exact (r1) | exact (site_ok (m.with' (m.dG id a (m.partX a) (m.params (a+1+1+1+1+1) (m.nx (a+1+1+1+1) 3).toNat) [givenR] (((((m.params (a+1+1+1+1+1) (m.nx (a+1+1+1+1) 3).toNat).map encR).length : Nat) : Int) + 2 + m.nx ((a+1+1+1+1+1 + (m.nx (a+1+1+1+1) 3).toNat)+1) 2) 2 [⟨4, 0⟩, ⟨8, 1⟩] rr.1 0)) _ _ _ _ _ (by omega)) | exact (head_ok (m.dG id a (m.partX a) (m.params (a+1+1+1+1+1) (m.nx (a+1+1+1+1) 3).toNat) [givenR] (((((m.params (a+1+1+1+1+1) (m.nx (a+1+1+1+1) 3).toNat).map encR).length : Nat) : Int) + 2 + m.nx ((a+1+1+1+1+1 + (m.nx (a+1+1+1+1) 3).toNat)+1) 2) 2 [⟨4, 0⟩, ⟨8, 1⟩] rr.1 (rr.2.s+1 : Nat)))); refine run ?_)
    exact Done.mk rfl rfl
theorem def_f012 (m : Mk) (id : Int) (a s l p d : Nat) (fine : m.Core) (hid : 0 ≤ id ∧ id < 100) (h : a + 5000 < 2^58) (h' : s + 300 < 2^58) (hp : p < 2^40) (hlen : m.heads.length < 2^20 ∧ m.defs.length < 2^20)
    (t0 : (m.nx (a+1+1+1) 2 == 0) = false) (t1 : (m.nx (a+1+1+1+1+1 + (m.nx (a+1+1+1+1) 3).toNat) 4 == 0) = true) (hX : 0 < m.nx (a+1+1+1+1) 3) (t2 : (m.nx ((a+1+1+1+1+1 + (m.nx (a+1+1+1+1) 3).toNat)+1+1) 2 == 0) = false) : CallsA Tryz.prog 110 [mp, it id, bo false] (ctM m a s l p d) (.tup [])
    (ctEnd m (m.dG id a (m.partX a) (m.params (a+1+1+1+1+1) (m.nx (a+1+1+1+1) 3).toNat) [givenR] (((((m.params (a+1+1+1+1+1) (m.nx (a+1+1+1+1) 3).toNat).map encR).length : Nat) : Int) + 2 + m.nx ((a+1+1+1+1+1 + (m.nx (a+1+1+1+1) 3).toNat)+1) 2) 2 [⟨4, 0⟩] ((m.with' (m.dG id a (m.partX a) (m.params (a+1+1+1+1+1) (m.nx (a+1+1+1+1) 3).toNat) [givenR] (((((m.params (a+1+1+1+1+1) (m.nx (a+1+1+1+1) 3).toNat).map encR).length : Nat) : Int) + 2 + m.nx ((a+1+1+1+1+1 + (m.nx (a+1+1+1+1) 3).toNat)+1) 2) 2 [⟨4, 0⟩] [] 0)).stmts 2 (1 + m.nx ((a+1+1+1+1+1 + (m.nx (a+1+1+1+1) 3).toNat)+1+1+1) 5).toNat ⟨((a+1+1+1+1+1 + (m.nx (a+1+1+1+1) 3).toNat)+1+1+1)+1, s, 9, 0⟩).1 (((m.with' (m.dG id a (m.partX a) (m.params (a+1+1+1+1+1) (m.nx (a+1+1+1+1) 3).toNat) [givenR] (((((m.params (a+1+1+1+1+1) (m.nx (a+1+1+1+1) 3).toNat).map encR).length : Nat) : Int) + 2 + m.nx ((a+1+1+1+1+1 + (m.nx (a+1+1+1+1) 3).toNat)+1) 2) 2 [⟨4, 0⟩] [] 0)).stmts 2 (1 + m.nx ((a+1+1+1+1+1 + (m.nx (a+1+1+1+1) 3).toNat)+1+1+1) 5).toNat ⟨((a+1+1+1+1+1 + (m.nx (a+1+1+1+1) 3).toNat)+1+1+1)+1, s, 9, 0⟩).2.s+1 : Nat)) ((m.with' (m.dG id a (m.partX a) (m.params (a+1+1+1+1+1) (m.nx (a+1+1+1+1) 3).toNat) [givenR] (((((m.params (a+1+1+1+1+1) (m.nx (a+1+1+1+1) 3).toNat).map encR).length : Nat) : Int) + 2 + m.nx ((a+1+1+1+1+1 + (m.nx (a+1+1+1+1) 3).toNat)+1) 2) 2 [⟨4, 0⟩] [] 0)).stmts 2 (1 + m.nx ((a+1+1+1+1+1 + (m.nx (a+1+1+1+1) 3).toNat)+1+1+1) 5).toNat ⟨((a+1+1+1+1+1 + (m.nx (a+1+1+1+1) 3).toNat)+1+1+1)+1, s, 9, 0⟩).2.a (((m.with' (m.dG id a (m.partX a) (m.params (a+1+1+1+1+1) (m.nx (a+1+1+1+1) 3).toNat) [givenR] (((((m.params (a+1+1+1+1+1) (m.nx (a+1+1+1+1) 3).toNat).map encR).length : Nat) : Int) + 2 + m.nx ((a+1+1+1+1+1 + (m.nx (a+1+1+1+1) 3).toNat)+1) 2) 2 [⟨4, 0⟩] [] 0)).stmts 2 (1 + m.nx ((a+1+1+1+1+1 + (m.nx (a+1+1+1+1) 3).toNat)+1+1+1) 5).toNat ⟨((a+1+1+1+1+1 + (m.nx (a+1+1+1+1) 3).toNat)+1+1+1)+1, s, 9, 0⟩).2.s+1) ((m.with' (m.dG id a (m.partX a) (m.params (a+1+1+1+1+1) (m.nx (a+1+1+1+1) 3).toNat) [givenR] (((((m.params (a+1+1+1+1+1) (m.nx (a+1+1+1+1) 3).toNat).map encR).length : Nat) : Int) + 2 + m.nx ((a+1+1+1+1+1 + (m.nx (a+1+1+1+1) 3).toNat)+1) 2) 2 [⟨4, 0⟩] [] 0)).stmts 2 (1 + m.nx ((a+1+1+1+1+1 + (m.nx (a+1+1+1+1) 3).toNat)+1+1+1) 5).toNat ⟨((a+1+1+1+1+1 + (m.nx (a+1+1+1+1) 3).toNat)+1+1+1)+1, s, 9, 0⟩).2.l p ((m.with' (m.dG id a (m.partX a) (m.params (a+1+1+1+1+1) (m.nx (a+1+1+1+1) 3).toNat) [givenR] (((((m.params (a+1+1+1+1+1) (m.nx (a+1+1+1+1) 3).toNat).map encR).length : Nat) : Int) + 2 + m.nx ((a+1+1+1+1+1 + (m.nx (a+1+1+1+1) 3).toNat)+1) 2) 2 [⟨4, 0⟩] [] 0)).stmts 2 (1 + m.nx ((a+1+1+1+1+1 + (m.nx (a+1+1+1+1) 3).toNat)+1+1+1) 5).toNat ⟨((a+1+1+1+1+1 + (m.nx (a+1+1+1+1) 3).toNat)+1+1+1)+1, s, 9, 0⟩).2.d) := by
  have bi : 0 ≤ id.tmod 8 ∧ id.tmod 8 < 8 := ⟨Int.tmod_nonneg _ hid.1, Int.tmod_lt_of_pos _ (by omega)⟩
  have n0 := m.nx_bd a (n := 2) (by omega)
  have n1 := m.nx_bd (a+1) (n := 6) (by omega)
  have n2 := m.nx_bd (a+1+1) (n := 4) (by omega)
  have hcalm := fine.calm
  have bX := m.nx_bd (a+1+1+1+1) (n := 3) (by omega)
  have bv := m.nx_bd ((a+1+1+1+1+1 + (m.nx (a+1+1+1+1) 3).toNat)+1) (n := 2) (by omega)
  have b5 := m.nx_bd ((a+1+1+1+1+1 + (m.nx (a+1+1+1+1) 3).toNat)+1+1+1) (n := 5) (by omega)
  have pl : (m.params (a+1+1+1+1+1) (m.nx (a+1+1+1+1) 3).toNat).length = (m.nx (a+1+1+1+1) 3).toNat := m.params_len _ _
  have pl2 : ((m.params (a+1+1+1+1+1) (m.nx (a+1+1+1+1) 3).toNat).map encR).length = (m.nx (a+1+1+1+1) 3).toNat := by rw [List.length_map]; exact pl
  have pl2a : ((m.with' (m.dG id a (m.partX a) (m.params (a+1+1+1+1+1) (m.nx (a+1+1+1+1) 3).toNat) [] 0 0 [] [] 0)).D.params.map encR).length = (m.nx (a+1+1+1+1) 3).toNat := pl2
  have pl2b : ((m.with' (m.dG id a (m.partX a) (m.params (a+1+1+1+1+1) (m.nx (a+1+1+1+1) 3).toNat) [givenR] 0 0 [] [] 0)).D.params.map encR).length = (m.nx (a+1+1+1+1) 3).toNat := pl2
  have pl3 : decide (((((m.params (a+1+1+1+1+1) (m.nx (a+1+1+1+1) 3).toNat).map encR).length : Nat) : Int) > 0) = true := by rw [pl2]; simp; omega
  have k1 : ((1 + m.nx ((a+1+1+1+1+1 + (m.nx (a+1+1+1+1) 3).toNat)+1+1+1) 5).toNat : Int) = 1 + m.nx ((a+1+1+1+1+1 + (m.nx (a+1+1+1+1) 3).toNat)+1+1+1) 5 := by omega
  have fineD : (m.with' (m.dG id a (m.partX a) (m.params (a+1+1+1+1+1) (m.nx (a+1+1+1+1) 3).toNat) [givenR] (((((m.params (a+1+1+1+1+1) (m.nx (a+1+1+1+1) 3).toNat).map encR).length : Nat) : Int) + 2 + m.nx ((a+1+1+1+1+1 + (m.nx (a+1+1+1+1) 3).toNat)+1) 2) 2 [⟨4, 0⟩] [] 0)).Fine := Mk.with_fine fine (by simp only [Mk.dG]; omega) (by simp only [Mk.dG]; omega) (by simp [Mk.dG]) (by simp [Mk.dG])
  have r1 := stmts_ok _ fineD (1 + m.nx ((a+1+1+1+1+1 + (m.nx (a+1+1+1+1) 3).toNat)+1+1+1) 5).toNat (by omega) 2 (((a+1+1+1+1+1 + (m.nx (a+1+1+1+1) 3).toNat)+1+1+1)+1) s 9 p 0 (by omega) (by omega) (by omega) (by omega) (by omega) (by omega)
  rw [k1] at r1
  have us := (m.with' (m.dG id a (m.partX a) (m.params (a+1+1+1+1+1) (m.nx (a+1+1+1+1) 3).toNat) [givenR] (((((m.params (a+1+1+1+1+1) (m.nx (a+1+1+1+1) 3).toNat).map encR).length : Nat) : Int) + 2 + m.nx ((a+1+1+1+1+1 + (m.nx (a+1+1+1+1) 3).toNat)+1) 2) 2 [⟨4, 0⟩] [] 0)).stmts_use fineD.heads 2 (1 + m.nx ((a+1+1+1+1+1 + (m.nx (a+1+1+1+1) 3).toNat)+1+1+1) 5).toNat ⟨((a+1+1+1+1+1 + (m.nx (a+1+1+1+1) 3).toNat)+1+1+1)+1, s, 9, 0⟩
  simp only [Less] at us
  rw [ctEnd_eq]
  generalize hR : (m.with' (m.dG id a (m.partX a) (m.params (a+1+1+1+1+1) (m.nx (a+1+1+1+1) 3).toNat) [givenR] (((((m.params (a+1+1+1+1+1) (m.nx (a+1+1+1+1) 3).toNat).map encR).length : Nat) : Int) + 2 + m.nx ((a+1+1+1+1+1 + (m.nx (a+1+1+1+1) 3).toNat)+1) 2) 2 [⟨4, 0⟩] [] 0)).stmts 2 (1 + m.nx ((a+1+1+1+1+1 + (m.nx (a+1+1+1+1) 3).toNat)+1+1+1) 5).toNat ⟨((a+1+1+1+1+1 + (m.nx (a+1+1+1+1) 3).toNat)+1+1+1)+1, s, 9, 0⟩ = rr at *
  have hl1 : (m.with' (m.dG id a (m.partX a) (m.params (a+1+1+1+1+1) (m.nx (a+1+1+1+1) 3).toNat) [givenR] (((((m.params (a+1+1+1+1+1) (m.nx (a+1+1+1+1) 3).toNat).map encR).length : Nat) : Int) + 2 + m.nx ((a+1+1+1+1+1 + (m.nx (a+1+1+1+1) 3).toNat)+1) 2) 2 [⟨4, 0⟩] rr.1 0)).defs.length < 2^20 := hlen.2
  have hl2 : (m.with' (m.dG id a (m.partX a) (m.params (a+1+1+1+1+1) (m.nx (a+1+1+1+1) 3).toNat) [givenR] (((((m.params (a+1+1+1+1+1) (m.nx (a+1+1+1+1) 3).toNat).map encR).length : Nat) : Int) + 2 + m.nx ((a+1+1+1+1+1 + (m.nx (a+1+1+1+1) 3).toNat)+1) 2) 2 [⟨4, 0⟩] rr.1 0)).heads.length < 2^20 := hlen.1
  have hl3 : (m.with' (m.dG id a (m.partX a) (m.params (a+1+1+1+1+1) (m.nx (a+1+1+1+1) 3).toNat) [givenR] ((((m.params (a+1+1+1+1+1) (m.nx (a+1+1+1+1) 3).toNat).length : Nat) : Int) + 2 + m.nx ((a+1+1+1+1+1 + (m.nx (a+1+1+1+1) 3).toNat)+1) 2) 2 [⟨4, 0⟩] rr.1 0)).defs.length < 2^20 := hlen.2
  have hl4 : (m.with' (m.dG id a (m.partX a) (m.params (a+1+1+1+1+1) (m.nx (a+1+1+1+1) 3).toNat) [givenR] ((((m.params (a+1+1+1+1+1) (m.nx (a+1+1+1+1) 3).toNat).length : Nat) : Int) + 2 + m.nx ((a+1+1+1+1+1 + (m.nx (a+1+1+1+1) 3).toNat)+1) 2) 2 [⟨4, 0⟩] rr.1 0)).heads.length < 2^20 := hlen.1
  refine fn_ok hm Tryz.func110 (fun _ => false) [] hintDef (by kernel_rfl) ?_
  refine run ?_; repeat ((apply call_ok; first | exact (next_ok m _ _ _ _ _ _ (by omega) (by omega))); refine run ?_)
  iterate 2
    refine Idx.mapG (f := it) (m.nx (a+1+1) 4).toNat (m.budget (a+1+1)) (by omega) (m.budget_at (a+1+1)) rfl ?_
    refine run ?_
  refine run ?_; repeat ((apply call_ok; first | exact (nextR m (m.dG id a (m.partX a) [] [] 0 0 [] [] 0) [] _ _ _ _ _ _ (by omega) (by omega)) | exact (nextR m (m.dG id a (m.partX a) [] [] 0 0 [] [] 0) [] _ _ _ _ _ _ (by omega) (by omega))); refine run ?_)
  refine LoopS.mk ⟨[], HeadS.inv (fun r : PR => r.v = m.nx (a+1+1+1+1) 3 - r.k ∧ r.k ≤ (m.nx (a+1+1+1+1) 3).toNat ∧ r.acc = (m.params (a+1+1+1+1+1) r.k).map encR)
    (fun r => ⟨[(7, it r.v)], [(1000, encMkR (m.with' (m.dG id a (m.partX a) [] [] 0 0 [] [] 0)) 32 (a+1+1+1+1+1 + r.k) s l p d r.acc.length)], [(32, ⟨3, true, r.acc⟩)]⟩)
    (fun r => (m.nx (a+1+1+1+1) 3).toNat - r.k) ⟨m.nx (a+1+1+1+1) 3, 0, []⟩ ⟨by simp, Nat.zero_le _, rfl⟩ ?_ ?_ ?_ ?_ ?_⟩
  · repeat' (first | exact trivial | exact rfl | refine ⟨?_, ?_⟩ | refine ⟨?_, ?_, ?_⟩)
  · kernel_rfl
  · kernel_rfl
  · intro r; exact ⟨rfl, rfl, rfl⟩
  rintro ⟨v, k, acc⟩ ⟨w1, w2, w3⟩
  dsimp only at w1 w2 w3 ⊢
  refine Br.mk (fun hb => ?_) (fun hb => ?_)
  · have hb1 : 0 < v := by simpa using hb
    have hl : acc.length = k := by rw [w3]; simp [m.params_len]
    have bk := m.nx_bd (a+1+1+1+1+1 + k) (n := 4) (by omega)
    refine run ?_; repeat ((apply call_ok; first | exact (nextR m (m.dG id a (m.partX a) [] [] 0 0 [] [] 0) _ _ _ _ _ _ _ (by omega) (by omega))); refine run ?_)
    iterate 2
      refine Idx.mapG (f := encR) (m.nx (a+1+1+1+1+1 + k) 4).toNat (m.rng (a+1+1+1+1+1 + k)) (by omega) (m.rng_at _) rfl ?_
      refine run ?_
    refine ⟨⟨⟨v - 1, k + 1, acc ++ [encR (m.rng (a+1+1+1+1+1 + k))]⟩, by dsimp only; omega, by dsimp only; omega, by rw [w3]; simp [Mk.params]⟩, by dsimp only; omega, ?_⟩
    repeat' (first | exact trivial | exact rfl | refine ⟨?_, ?_⟩ | refine ⟨?_, ?_, ?_⟩)
  · have hb1 : k = (m.nx (a+1+1+1+1) 3).toNat := by simp at hb; omega
    subst hb1
    subst w3
    refine run ?_; repeat ((apply call_ok; first | exact (nextD m (m.dG id a (m.partX a) (m.params (a+1+1+1+1+1) (m.nx (a+1+1+1+1) 3).toNat) [] 0 0 [] [] 0) _ _ _ _ _ _ (by omega) (by omega)) | exact (nextD m (m.dG id a (m.partX a) (m.params (a+1+1+1+1+1) (m.nx (a+1+1+1+1) 3).toNat) [givenR] 0 0 [] [] 0) _ _ _ _ _ _ (by omega) (by omega)) | exact (nextA m (m.dG id a (m.partX a) (m.params (a+1+1+1+1+1) (m.nx (a+1+1+1+1) 3).toNat) [givenR] (((((m.params (a+1+1+1+1+1) (m.nx (a+1+1+1+1) 3).toNat).map encR).length : Nat) : Int) + 2 + m.nx ((a+1+1+1+1+1 + (m.nx (a+1+1+1+1) 3).toNat)+1) 2) 2 [] [] 0) [encA ⟨4, 0⟩] _ _ _ _ _ _ (by omega) (by omega)) | exact (nextD m (m.dG id a (m.partX a) (m.params (a+1+1+1+1+1) (m.nx (a+1+1+1+1) 3).toNat) [givenR] (((((m.params (a+1+1+1+1+1) (m.nx (a+1+1+1+1) 3).toNat).map encR).length : Nat) : Int) + 2 + m.nx ((a+1+1+1+1+1 + (m.nx (a+1+1+1+1) 3).toNat)+1) 2) 2 [⟨4, 0⟩] [] 0) _ _ _ _ _ _ (by omega) (by omega)) | exact (r1) | exact (site_ok (m.with' (m.dG id a (m.partX a) (m.params (a+1+1+1+1+1) (m.nx (a+1+1+1+1) 3).toNat) [givenR] (((((m.params (a+1+1+1+1+1) (m.nx (a+1+1+1+1) 3).toNat).map encR).length : Nat) : Int) + 2 + m.nx ((a+1+1+1+1+1 + (m.nx (a+1+1+1+1) 3).toNat)+1) 2) 2 [⟨4, 0⟩] rr.1 0)) _ _ _ _ _ (by omega)) | exact (head_ok (m.dG id a (m.partX a) (m.params (a+1+1+1+1+1) (m.nx (a+1+1+1+1) 3).toNat) [givenR] (((((m.params (a+1+1+1+1+1) (m.nx (a+1+1+1+1) 3).toNat).map encR).length : Nat) : Int) + 2 + m.nx ((a+1+1+1+1+1 + (m.nx (a+1+1+1+1) 3).toNat)+1) 2) 2 [⟨4, 0⟩] rr.1 (rr.2.s+1 : Nat)))); refine run ?_)
    exact Done.mk rfl rfl
theorem def_t00 (m : Mk) (id : Int) (a s l p d : Nat) (fine : m.Core) (hid : 0 ≤ id ∧ id < 100) (h : a + 5000 < 2^58) (h' : s + 300 < 2^58) (hp : p < 2^40) (hlen : m.heads.length < 2^20 ∧ m.defs.length < 2^20)
    (t0 : (m.nx (a+1+1+1) 2 == 0) = false) (t1 : (m.nx (a+1+1+1+1+1 + 0) 4 == 0) = false) : CallsA Tryz.prog 110 [mp, it id, bo true] (ctM m a s l p d) (.tup [])
    (ctEnd m (m.dG id a (m.partX a) (m.params (a+1+1+1+1+1) 0) [] (((((m.params (a+1+1+1+1+1) 0).map encR).length : Nat) : Int) + 2 + m.nx ((a+1+1+1+1+1 + 0)+1) 2) 2 [⟨4, 0⟩] ((m.with' (m.dG id a (m.partX a) (m.params (a+1+1+1+1+1) 0) [] (((((m.params (a+1+1+1+1+1) 0).map encR).length : Nat) : Int) + 2 + m.nx ((a+1+1+1+1+1 + 0)+1) 2) 2 [⟨4, 0⟩] [] 0)).stmts 2 (1 + m.nx ((a+1+1+1+1+1 + 0)+1+1) 5).toNat ⟨((a+1+1+1+1+1 + 0)+1+1)+1, s, 9, 0⟩).1 (((m.with' (m.dG id a (m.partX a) (m.params (a+1+1+1+1+1) 0) [] (((((m.params (a+1+1+1+1+1) 0).map encR).length : Nat) : Int) + 2 + m.nx ((a+1+1+1+1+1 + 0)+1) 2) 2 [⟨4, 0⟩] [] 0)).stmts 2 (1 + m.nx ((a+1+1+1+1+1 + 0)+1+1) 5).toNat ⟨((a+1+1+1+1+1 + 0)+1+1)+1, s, 9, 0⟩).2.s+1 : Nat)) ((m.with' (m.dG id a (m.partX a) (m.params (a+1+1+1+1+1) 0) [] (((((m.params (a+1+1+1+1+1) 0).map encR).length : Nat) : Int) + 2 + m.nx ((a+1+1+1+1+1 + 0)+1) 2) 2 [⟨4, 0⟩] [] 0)).stmts 2 (1 + m.nx ((a+1+1+1+1+1 + 0)+1+1) 5).toNat ⟨((a+1+1+1+1+1 + 0)+1+1)+1, s, 9, 0⟩).2.a (((m.with' (m.dG id a (m.partX a) (m.params (a+1+1+1+1+1) 0) [] (((((m.params (a+1+1+1+1+1) 0).map encR).length : Nat) : Int) + 2 + m.nx ((a+1+1+1+1+1 + 0)+1) 2) 2 [⟨4, 0⟩] [] 0)).stmts 2 (1 + m.nx ((a+1+1+1+1+1 + 0)+1+1) 5).toNat ⟨((a+1+1+1+1+1 + 0)+1+1)+1, s, 9, 0⟩).2.s+1) ((m.with' (m.dG id a (m.partX a) (m.params (a+1+1+1+1+1) 0) [] (((((m.params (a+1+1+1+1+1) 0).map encR).length : Nat) : Int) + 2 + m.nx ((a+1+1+1+1+1 + 0)+1) 2) 2 [⟨4, 0⟩] [] 0)).stmts 2 (1 + m.nx ((a+1+1+1+1+1 + 0)+1+1) 5).toNat ⟨((a+1+1+1+1+1 + 0)+1+1)+1, s, 9, 0⟩).2.l p ((m.with' (m.dG id a (m.partX a) (m.params (a+1+1+1+1+1) 0) [] (((((m.params (a+1+1+1+1+1) 0).map encR).length : Nat) : Int) + 2 + m.nx ((a+1+1+1+1+1 + 0)+1) 2) 2 [⟨4, 0⟩] [] 0)).stmts 2 (1 + m.nx ((a+1+1+1+1+1 + 0)+1+1) 5).toNat ⟨((a+1+1+1+1+1 + 0)+1+1)+1, s, 9, 0⟩).2.d) := by
  have bi : 0 ≤ id.tmod 8 ∧ id.tmod 8 < 8 := ⟨Int.tmod_nonneg _ hid.1, Int.tmod_lt_of_pos _ (by omega)⟩
  have n0 := m.nx_bd a (n := 2) (by omega)
  have n1 := m.nx_bd (a+1) (n := 6) (by omega)
  have n2 := m.nx_bd (a+1+1) (n := 4) (by omega)
  have hcalm := fine.calm
  have bX := m.nx_bd (a+1+1+1+1) (n := 3) (by omega)
  have bv := m.nx_bd ((a+1+1+1+1+1 + 0)+1) (n := 2) (by omega)
  have b5 := m.nx_bd ((a+1+1+1+1+1 + 0)+1+1) (n := 5) (by omega)
  have pl : (m.params (a+1+1+1+1+1) 0).length = 0 := m.params_len _ _
  have pl2 : ((m.params (a+1+1+1+1+1) 0).map encR).length = 0 := by rw [List.length_map]; exact pl
  have pl2a : ((m.with' (m.dG id a (m.partX a) (m.params (a+1+1+1+1+1) 0) [] 0 0 [] [] 0)).D.params.map encR).length = 0 := pl2
  have pl2b : ((m.with' (m.dG id a (m.partX a) (m.params (a+1+1+1+1+1) 0) [] 0 0 [] [] 0)).D.params.map encR).length = 0 := pl2
  have pl3 : decide (((((m.params (a+1+1+1+1+1) 0).map encR).length : Nat) : Int) > 0) = false := by rw [pl2]; rfl
  have k1 : ((1 + m.nx ((a+1+1+1+1+1 + 0)+1+1) 5).toNat : Int) = 1 + m.nx ((a+1+1+1+1+1 + 0)+1+1) 5 := by omega
  have fineD : (m.with' (m.dG id a (m.partX a) (m.params (a+1+1+1+1+1) 0) [] (((((m.params (a+1+1+1+1+1) 0).map encR).length : Nat) : Int) + 2 + m.nx ((a+1+1+1+1+1 + 0)+1) 2) 2 [⟨4, 0⟩] [] 0)).Fine := Mk.with_fine fine (by simp only [Mk.dG]; omega) (by simp only [Mk.dG]; omega) (by simp [Mk.dG]) (by simp [Mk.dG])
  have r1 := stmts_ok _ fineD (1 + m.nx ((a+1+1+1+1+1 + 0)+1+1) 5).toNat (by omega) 2 (((a+1+1+1+1+1 + 0)+1+1)+1) s 9 p 0 (by omega) (by omega) (by omega) (by omega) (by omega) (by omega)
  rw [k1] at r1
  have us := (m.with' (m.dG id a (m.partX a) (m.params (a+1+1+1+1+1) 0) [] (((((m.params (a+1+1+1+1+1) 0).map encR).length : Nat) : Int) + 2 + m.nx ((a+1+1+1+1+1 + 0)+1) 2) 2 [⟨4, 0⟩] [] 0)).stmts_use fineD.heads 2 (1 + m.nx ((a+1+1+1+1+1 + 0)+1+1) 5).toNat ⟨((a+1+1+1+1+1 + 0)+1+1)+1, s, 9, 0⟩
  simp only [Less] at us
  rw [ctEnd_eq]
  generalize hR : (m.with' (m.dG id a (m.partX a) (m.params (a+1+1+1+1+1) 0) [] (((((m.params (a+1+1+1+1+1) 0).map encR).length : Nat) : Int) + 2 + m.nx ((a+1+1+1+1+1 + 0)+1) 2) 2 [⟨4, 0⟩] [] 0)).stmts 2 (1 + m.nx ((a+1+1+1+1+1 + 0)+1+1) 5).toNat ⟨((a+1+1+1+1+1 + 0)+1+1)+1, s, 9, 0⟩ = rr at *
  have hl1 : (m.with' (m.dG id a (m.partX a) (m.params (a+1+1+1+1+1) 0) [] (((((m.params (a+1+1+1+1+1) 0).map encR).length : Nat) : Int) + 2 + m.nx ((a+1+1+1+1+1 + 0)+1) 2) 2 [⟨4, 0⟩] rr.1 0)).defs.length < 2^20 := hlen.2
  have hl2 : (m.with' (m.dG id a (m.partX a) (m.params (a+1+1+1+1+1) 0) [] (((((m.params (a+1+1+1+1+1) 0).map encR).length : Nat) : Int) + 2 + m.nx ((a+1+1+1+1+1 + 0)+1) 2) 2 [⟨4, 0⟩] rr.1 0)).heads.length < 2^20 := hlen.1
  have hl3 : (m.with' (m.dG id a (m.partX a) (m.params (a+1+1+1+1+1) 0) [] ((((m.params (a+1+1+1+1+1) 0).length : Nat) : Int) + 2 + m.nx ((a+1+1+1+1+1 + 0)+1) 2) 2 [⟨4, 0⟩] rr.1 0)).defs.length < 2^20 := hlen.2
  have hl4 : (m.with' (m.dG id a (m.partX a) (m.params (a+1+1+1+1+1) 0) [] ((((m.params (a+1+1+1+1+1) 0).length : Nat) : Int) + 2 + m.nx ((a+1+1+1+1+1 + 0)+1) 2) 2 [⟨4, 0⟩] rr.1 0)).heads.length < 2^20 := hlen.1
  have hl5 : (m.with' (m.dG id a (m.partX a) (m.params (a+1+1+1+1+1) 0) [] ((((m.params (a+1+1+1+1+1) 0).length : Nat) : Int) + 2 + m.nx (a + 5 + 1) 2) 2 [⟨4, 0⟩] rr.1 0)).defs.length < 2^20 := hlen.2
  have hl6 : (m.with' (m.dG id a (m.partX a) (m.params (a+1+1+1+1+1) 0) [] ((((m.params (a+1+1+1+1+1) 0).length : Nat) : Int) + 2 + m.nx (a + 5 + 1) 2) 2 [⟨4, 0⟩] rr.1 0)).heads.length < 2^20 := hlen.1
  refine fn_ok hm Tryz.func110 (fun _ => false) [] hintDef (by kernel_rfl) ?_
  refine run ?_; repeat ((apply call_ok; first | exact (next_ok m _ _ _ _ _ _ (by omega) (by omega))); refine run ?_)
  iterate 2
    refine Idx.mapG (f := it) (m.nx (a+1+1) 4).toNat (m.budget (a+1+1)) (by omega) (m.budget_at (a+1+1)) rfl ?_
    refine run ?_
  refine run ?_; repeat ((apply call_ok; first | exact (nextR m (m.dG id a (m.partX a) [] [] 0 0 [] [] 0) [] _ _ _ _ _ _ (by omega) (by omega)) | exact (nextR m (m.dG id a (m.partX a) [] [] 0 0 [] [] 0) [] _ _ _ _ _ _ (by omega) (by omega))); refine run ?_)
  refine LoopS.mk ⟨[], HeadS.inv (fun r : PR => r.v = m.nx (a+1+1+1+1) 3 - r.k ∧ r.k ≤ 0 ∧ r.acc = (m.params (a+1+1+1+1+1) r.k).map encR)
    (fun r => ⟨[(7, it r.v)], [(1000, encMkR (m.with' (m.dG id a (m.partX a) [] [] 0 0 [] [] 0)) 32 (a+1+1+1+1+1 + r.k) s l p d r.acc.length)], [(32, ⟨3, true, r.acc⟩)]⟩)
    (fun r => 0 - r.k) ⟨m.nx (a+1+1+1+1) 3, 0, []⟩ ⟨by simp, Nat.zero_le _, rfl⟩ ?_ ?_ ?_ ?_ ?_⟩
  · repeat' (first | exact trivial | exact rfl | refine ⟨?_, ?_⟩ | refine ⟨?_, ?_, ?_⟩)
  · kernel_rfl
  · kernel_rfl
  · intro r; exact ⟨rfl, rfl, rfl⟩
  rintro ⟨v, k, acc⟩ ⟨w1, w2, w3⟩
  dsimp only at w1 w2 w3 ⊢
  have hb1 : k = 0 := by omega
  subst hb1
  subst w3
  refine Br.mk (fun hb => ?_) (fun hb => ?_)
  all_goals
    refine run ?_; repeat ((apply call_ok; first | exact (nextD m (m.dG id a (m.partX a) (m.params (a+1+1+1+1+1) 0) [] 0 0 [] [] 0) _ _ _ _ _ _ (by omega) (by omega)) | exact (nextD m (m.dG id a (m.partX a) (m.params (a+1+1+1+1+1) 0) [] 0 0 [] [] 0) _ _ _ _ _ _ (by omega) (by omega)) | exact (nextA m (m.dG id a (m.partX a) (m.params (a+1+1+1+1+1) 0) [] (((((m.params (a+1+1+1+1+1) 0).map encR).length : Nat) : Int) + 2 + m.nx ((a+1+1+1+1+1 + 0)+1) 2) 2 [] [] 0) [encA ⟨4, 0⟩] _ _ _ _ _ _ (by omega) (by omega)) | exact (nextD m (m.dG id a (m.partX a) (m.params (a+1+1+1+1+1) 0) [] (((((m.params (a+1+1+1+1+1) 0).map encR).length : Nat) : Int) + 2 + m.nx ((a+1+1+1+1+1 + 0)+1) 2) 2 [⟨4, 0⟩] [] 0) _ _ _ _ _ _ (by omega) (by omega)) | exact (r1) | exact (site_ok (m.with' (m.dG id a (m.partX a) (m.params (a+1+1+1+1+1) 0) [] (((((m.params (a+1+1+1+1+1) 0).map encR).length : Nat) : Int) + 2 + m.nx ((a+1+1+1+1+1 + 0)+1) 2) 2 [⟨4, 0⟩] rr.1 0)) _ _ _ _ _ (by omega)) | exact (head_ok (m.dG id a (m.partX a) (m.params (a+1+1+1+1+1) 0) [] (((((m.params (a+1+1+1+1+1) 0).map encR).length : Nat) : Int) + 2 + m.nx ((a+1+1+1+1+1 + 0)+1) 2) 2 [⟨4, 0⟩] rr.1 (rr.2.s+1 : Nat)))); refine run ?_)
    exact Done.mk rfl rfl
theorem def_f000 (m : Mk) (id : Int) (a s l p d : Nat) (fine : m.Core) (hid : 0 ≤ id ∧ id < 100) (h : a + 5000 < 2^58) (h' : s + 300 < 2^58) (hp : p < 2^40) (hlen : m.heads.length < 2^20 ∧ m.defs.length < 2^20)
    (t0 : (m.nx (a+1+1+1) 2 == 0) = false) (t1 : (m.nx (a+1+1+1+1+1 + (m.nx (a+1+1+1+1) 3).toNat) 4 == 0) = false) (hX : m.nx (a+1+1+1+1) 3 = 0) : CallsA Tryz.prog 110 [mp, it id, bo false] (ctM m a s l p d) (.tup [])
    (ctEnd m (m.dG id a (m.partX a) (m.params (a+1+1+1+1+1) (m.nx (a+1+1+1+1) 3).toNat) [] (((((m.params (a+1+1+1+1+1) (m.nx (a+1+1+1+1) 3).toNat).map encR).length : Nat) : Int) + 2 + m.nx ((a+1+1+1+1+1 + (m.nx (a+1+1+1+1) 3).toNat)+1) 2) 2 [⟨4, 0⟩] ((m.with' (m.dG id a (m.partX a) (m.params (a+1+1+1+1+1) (m.nx (a+1+1+1+1) 3).toNat) [] (((((m.params (a+1+1+1+1+1) (m.nx (a+1+1+1+1) 3).toNat).map encR).length : Nat) : Int) + 2 + m.nx ((a+1+1+1+1+1 + (m.nx (a+1+1+1+1) 3).toNat)+1) 2) 2 [⟨4, 0⟩] [] 0)).stmts 2 (1 + m.nx ((a+1+1+1+1+1 + (m.nx (a+1+1+1+1) 3).toNat)+1+1) 5).toNat ⟨((a+1+1+1+1+1 + (m.nx (a+1+1+1+1) 3).toNat)+1+1)+1, s, 9, 0⟩).1 (((m.with' (m.dG id a (m.partX a) (m.params (a+1+1+1+1+1) (m.nx (a+1+1+1+1) 3).toNat) [] (((((m.params (a+1+1+1+1+1) (m.nx (a+1+1+1+1) 3).toNat).map encR).length : Nat) : Int) + 2 + m.nx ((a+1+1+1+1+1 + (m.nx (a+1+1+1+1) 3).toNat)+1) 2) 2 [⟨4, 0⟩] [] 0)).stmts 2 (1 + m.nx ((a+1+1+1+1+1 + (m.nx (a+1+1+1+1) 3).toNat)+1+1) 5).toNat ⟨((a+1+1+1+1+1 + (m.nx (a+1+1+1+1) 3).toNat)+1+1)+1, s, 9, 0⟩).2.s+1 : Nat)) ((m.with' (m.dG id a (m.partX a) (m.params (a+1+1+1+1+1) (m.nx (a+1+1+1+1) 3).toNat) [] (((((m.params (a+1+1+1+1+1) (m.nx (a+1+1+1+1) 3).toNat).map encR).length : Nat) : Int) + 2 + m.nx ((a+1+1+1+1+1 + (m.nx (a+1+1+1+1) 3).toNat)+1) 2) 2 [⟨4, 0⟩] [] 0)).stmts 2 (1 + m.nx ((a+1+1+1+1+1 + (m.nx (a+1+1+1+1) 3).toNat)+1+1) 5).toNat ⟨((a+1+1+1+1+1 + (m.nx (a+1+1+1+1) 3).toNat)+1+1)+1, s, 9, 0⟩).2.a (((m.with' (m.dG id a (m.partX a) (m.params (a+1+1+1+1+1) (m.nx (a+1+1+1+1) 3).toNat) [] (((((m.params (a+1+1+1+1+1) (m.nx (a+1+1+1+1) 3).toNat).map encR).length : Nat) : Int) + 2 + m.nx ((a+1+1+1+1+1 + (m.nx (a+1+1+1+1) 3).toNat)+1) 2) 2 [⟨4, 0⟩] [] 0)).stmts 2 (1 + m.nx ((a+1+1+1+1+1 + (m.nx (a+1+1+1+1) 3).toNat)+1+1) 5).toNat ⟨((a+1+1+1+1+1 + (m.nx (a+1+1+1+1) 3).toNat)+1+1)+1, s, 9, 0⟩).2.s+1) ((m.with' (m.dG id a (m.partX a) (m.params (a+1+1+1+1+1) (m.nx (a+1+1+1+1) 3).toNat) [] (((((m.params (a+1+1+1+1+1) (m.nx (a+1+1+1+1) 3).toNat).map encR).length : Nat) : Int) + 2 + m.nx ((a+1+1+1+1+1 + (m.nx (a+1+1+1+1) 3).toNat)+1) 2) 2 [⟨4, 0⟩] [] 0)).stmts 2 (1 + m.nx ((a+1+1+1+1+1 + (m.nx (a+1+1+1+1) 3).toNat)+1+1) 5).toNat ⟨((a+1+1+1+1+1 + (m.nx (a+1+1+1+1) 3).toNat)+1+1)+1, s, 9, 0⟩).2.l p ((m.with' (m.dG id a (m.partX a) (m.params (a+1+1+1+1+1) (m.nx (a+1+1+1+1) 3).toNat) [] (((((m.params (a+1+1+1+1+1) (m.nx (a+1+1+1+1) 3).toNat).map encR).length : Nat) : Int) + 2 + m.nx ((a+1+1+1+1+1 + (m.nx (a+1+1+1+1) 3).toNat)+1) 2) 2 [⟨4, 0⟩] [] 0)).stmts 2 (1 + m.nx ((a+1+1+1+1+1 + (m.nx (a+1+1+1+1) 3).toNat)+1+1) 5).toNat ⟨((a+1+1+1+1+1 + (m.nx (a+1+1+1+1) 3).toNat)+1+1)+1, s, 9, 0⟩).2.d) := by
  have bi : 0 ≤ id.tmod 8 ∧ id.tmod 8 < 8 := ⟨Int.tmod_nonneg _ hid.1, Int.tmod_lt_of_pos _ (by omega)⟩
  have n0 := m.nx_bd a (n := 2) (by omega)
  have n1 := m.nx_bd (a+1) (n := 6) (by omega)
  have n2 := m.nx_bd (a+1+1) (n := 4) (by omega)
  have hcalm := fine.calm
  have bX := m.nx_bd (a+1+1+1+1) (n := 3) (by omega)
  have bv := m.nx_bd ((a+1+1+1+1+1 + (m.nx (a+1+1+1+1) 3).toNat)+1) (n := 2) (by omega)
  have b5 := m.nx_bd ((a+1+1+1+1+1 + (m.nx (a+1+1+1+1) 3).toNat)+1+1) (n := 5) (by omega)
  have pl : (m.params (a+1+1+1+1+1) (m.nx (a+1+1+1+1) 3).toNat).length = (m.nx (a+1+1+1+1) 3).toNat := m.params_len _ _
  have pl2 : ((m.params (a+1+1+1+1+1) (m.nx (a+1+1+1+1) 3).toNat).map encR).length = (m.nx (a+1+1+1+1) 3).toNat := by rw [List.length_map]; exact pl
  have pl2a : ((m.with' (m.dG id a (m.partX a) (m.params (a+1+1+1+1+1) (m.nx (a+1+1+1+1) 3).toNat) [] 0 0 [] [] 0)).D.params.map encR).length = (m.nx (a+1+1+1+1) 3).toNat := pl2
  have pl2b : ((m.with' (m.dG id a (m.partX a) (m.params (a+1+1+1+1+1) (m.nx (a+1+1+1+1) 3).toNat) [] 0 0 [] [] 0)).D.params.map encR).length = (m.nx (a+1+1+1+1) 3).toNat := pl2
  have pl3 : decide ((((m.params (a+1+1+1+1+1) (m.nx (a+1+1+1+1) 3).toNat).map encR).length : Nat) > (0 : Int)) = false := by rw [pl2, hX]; rfl
  have k1 : ((1 + m.nx ((a+1+1+1+1+1 + (m.nx (a+1+1+1+1) 3).toNat)+1+1) 5).toNat : Int) = 1 + m.nx ((a+1+1+1+1+1 + (m.nx (a+1+1+1+1) 3).toNat)+1+1) 5 := by omega
  have fineD : (m.with' (m.dG id a (m.partX a) (m.params (a+1+1+1+1+1) (m.nx (a+1+1+1+1) 3).toNat) [] (((((m.params (a+1+1+1+1+1) (m.nx (a+1+1+1+1) 3).toNat).map encR).length : Nat) : Int) + 2 + m.nx ((a+1+1+1+1+1 + (m.nx (a+1+1+1+1) 3).toNat)+1) 2) 2 [⟨4, 0⟩] [] 0)).Fine := Mk.with_fine fine (by simp only [Mk.dG]; omega) (by simp only [Mk.dG]; omega) (by simp [Mk.dG]) (by simp [Mk.dG])
  have r1 := stmts_ok _ fineD (1 + m.nx ((a+1+1+1+1+1 + (m.nx (a+1+1+1+1) 3).toNat)+1+1) 5).toNat (by omega) 2 (((a+1+1+1+1+1 + (m.nx (a+1+1+1+1) 3).toNat)+1+1)+1) s 9 p 0 (by omega) (by omega) (by omega) (by omega) (by omega) (by omega)
  rw [k1] at r1
  have us := (m.with' (m.dG id a (m.partX a) (m.params (a+1+1+1+1+1) (m.nx (a+1+1+1+1) 3).toNat) [] (((((m.params (a+1+1+1+1+1) (m.nx (a+1+1+1+1) 3).toNat).map encR).length : Nat) : Int) + 2 + m.nx ((a+1+1+1+1+1 + (m.nx (a+1+1+1+1) 3).toNat)+1) 2) 2 [⟨4, 0⟩] [] 0)).stmts_use fineD.heads 2 (1 + m.nx ((a+1+1+1+1+1 + (m.nx (a+1+1+1+1) 3).toNat)+1+1) 5).toNat ⟨((a+1+1+1+1+1 + (m.nx (a+1+1+1+1) 3).toNat)+1+1)+1, s, 9, 0⟩
  simp only [Less] at us
  rw [ctEnd_eq]
  generalize hR : (m.with' (m.dG id a (m.partX a) (m.params (a+1+1+1+1+1) (m.nx (a+1+1+1+1) 3).toNat) [] (((((m.params (a+1+1+1+1+1) (m.nx (a+1+1+1+1) 3).toNat).map encR).length : Nat) : Int) + 2 + m.nx ((a+1+1+1+1+1 + (m.nx (a+1+1+1+1) 3).toNat)+1) 2) 2 [⟨4, 0⟩] [] 0)).stmts 2 (1 + m.nx ((a+1+1+1+1+1 + (m.nx (a+1+1+1+1) 3).toNat)+1+1) 5).toNat ⟨((a+1+1+1+1+1 + (m.nx (a+1+1+1+1) 3).toNat)+1+1)+1, s, 9, 0⟩ = rr at *
  have hl1 : (m.with' (m.dG id a (m.partX a) (m.params (a+1+1+1+1+1) (m.nx (a+1+1+1+1) 3).toNat) [] (((((m.params (a+1+1+1+1+1) (m.nx (a+1+1+1+1) 3).toNat).map encR).length : Nat) : Int) + 2 + m.nx ((a+1+1+1+1+1 + (m.nx (a+1+1+1+1) 3).toNat)+1) 2) 2 [⟨4, 0⟩] rr.1 0)).defs.length < 2^20 := hlen.2
  have hl2 : (m.with' (m.dG id a (m.partX a) (m.params (a+1+1+1+1+1) (m.nx (a+1+1+1+1) 3).toNat) [] (((((m.params (a+1+1+1+1+1) (m.nx (a+1+1+1+1) 3).toNat).map encR).length : Nat) : Int) + 2 + m.nx ((a+1+1+1+1+1 + (m.nx (a+1+1+1+1) 3).toNat)+1) 2) 2 [⟨4, 0⟩] rr.1 0)).heads.length < 2^20 := hlen.1
  have hl3 : (m.with' (m.dG id a (m.partX a) (m.params (a+1+1+1+1+1) (m.nx (a+1+1+1+1) 3).toNat) [] ((((m.params (a+1+1+1+1+1) (m.nx (a+1+1+1+1) 3).toNat).length : Nat) : Int) + 2 + m.nx ((a+1+1+1+1+1 + (m.nx (a+1+1+1+1) 3).toNat)+1) 2) 2 [⟨4, 0⟩] rr.1 0)).defs.length < 2^20 := hlen.2
  have hl4 : (m.with' (m.dG id a (m.partX a) (m.params (a+1+1+1+1+1) (m.nx (a+1+1+1+1) 3).toNat) [] ((((m.params (a+1+1+1+1+1) (m.nx (a+1+1+1+1) 3).toNat).length : Nat) : Int) + 2 + m.nx ((a+1+1+1+1+1 + (m.nx (a+1+1+1+1) 3).toNat)+1) 2) 2 [⟨4, 0⟩] rr.1 0)).heads.length < 2^20 := hlen.1
  refine fn_ok hm Tryz.func110 (fun _ => false) [] hintDef (by kernel_rfl) ?_
  refine run ?_; repeat ((apply call_ok; first | exact (next_ok m _ _ _ _ _ _ (by omega) (by omega))); refine run ?_)
  iterate 2
    refine Idx.mapG (f := it) (m.nx (a+1+1) 4).toNat (m.budget (a+1+1)) (by omega) (m.budget_at (a+1+1)) rfl ?_
    refine run ?_
  refine run ?_; repeat ((apply call_ok; first | exact (nextR m (m.dG id a (m.partX a) [] [] 0 0 [] [] 0) [] _ _ _ _ _ _ (by omega) (by omega)) | exact (nextR m (m.dG id a (m.partX a) [] [] 0 0 [] [] 0) [] _ _ _ _ _ _ (by omega) (by omega))); refine run ?_)
  refine LoopS.mk ⟨[], HeadS.inv (fun r : PR => r.v = m.nx (a+1+1+1+1) 3 - r.k ∧ r.k ≤ (m.nx (a+1+1+1+1) 3).toNat ∧ r.acc = (m.params (a+1+1+1+1+1) r.k).map encR)
    (fun r => ⟨[(7, it r.v)], [(1000, encMkR (m.with' (m.dG id a (m.partX a) [] [] 0 0 [] [] 0)) 32 (a+1+1+1+1+1 + r.k) s l p d r.acc.length)], [(32, ⟨3, true, r.acc⟩)]⟩)
    (fun r => (m.nx (a+1+1+1+1) 3).toNat - r.k) ⟨m.nx (a+1+1+1+1) 3, 0, []⟩ ⟨by simp, Nat.zero_le _, rfl⟩ ?_ ?_ ?_ ?_ ?_⟩
  · repeat' (first | exact trivial | exact rfl | refine ⟨?_, ?_⟩ | refine ⟨?_, ?_, ?_⟩)
  · kernel_rfl
  · kernel_rfl
  · intro r; exact ⟨rfl, rfl, rfl⟩
  rintro ⟨v, k, acc⟩ ⟨w1, w2, w3⟩
  dsimp only at w1 w2 w3 ⊢
  refine Br.mk (fun hb => ?_) (fun hb => ?_)
  · have hb1 : 0 < v := by simpa using hb
    have hl : acc.length = k := by rw [w3]; simp [m.params_len]
    have bk := m.nx_bd (a+1+1+1+1+1 + k) (n := 4) (by omega)
    refine run ?_; repeat ((apply call_ok; first | exact (nextR m (m.dG id a (m.partX a) [] [] 0 0 [] [] 0) _ _ _ _ _ _ _ (by omega) (by omega))); refine run ?_)
    iterate 2
      refine Idx.mapG (f := encR) (m.nx (a+1+1+1+1+1 + k) 4).toNat (m.rng (a+1+1+1+1+1 + k)) (by omega) (m.rng_at _) rfl ?_
      refine run ?_
    refine ⟨⟨⟨v - 1, k + 1, acc ++ [encR (m.rng (a+1+1+1+1+1 + k))]⟩, by dsimp only; omega, by dsimp only; omega, by rw [w3]; simp [Mk.params]⟩, by dsimp only; omega, ?_⟩
    repeat' (first | exact trivial | exact rfl | refine ⟨?_, ?_⟩ | refine ⟨?_, ?_, ?_⟩)
  · have hb1 : k = (m.nx (a+1+1+1+1) 3).toNat := by simp at hb; omega
    subst hb1
    subst w3
    refine run ?_; repeat ((apply call_ok; first | exact (nextD m (m.dG id a (m.partX a) (m.params (a+1+1+1+1+1) (m.nx (a+1+1+1+1) 3).toNat) [] 0 0 [] [] 0) _ _ _ _ _ _ (by omega) (by omega)) | exact (nextD m (m.dG id a (m.partX a) (m.params (a+1+1+1+1+1) (m.nx (a+1+1+1+1) 3).toNat) [] 0 0 [] [] 0) _ _ _ _ _ _ (by omega) (by omega)) | exact (nextA m (m.dG id a (m.partX a) (m.params (a+1+1+1+1+1) (m.nx (a+1+1+1+1) 3).toNat) [] (((((m.params (a+1+1+1+1+1) (m.nx (a+1+1+1+1) 3).toNat).map encR).length : Nat) : Int) + 2 + m.nx ((a+1+1+1+1+1 + (m.nx (a+1+1+1+1) 3).toNat)+1) 2) 2 [] [] 0) [encA ⟨4, 0⟩] _ _ _ _ _ _ (by omega) (by omega)) | exact (nextD m (m.dG id a (m.partX a) (m.params (a+1+1+1+1+1) (m.nx (a+1+1+1+1) 3).toNat) [] (((((m.params (a+1+1+1+1+1) (m.nx (a+1+1+1+1) 3).toNat).map encR).length : Nat) : Int) + 2 + m.nx ((a+1+1+1+1+1 + (m.nx (a+1+1+1+1) 3).toNat)+1) 2) 2 [⟨4, 0⟩] [] 0) _ _ _ _ _ _ (by omega) (by omega)) | exact (r1) | exact (site_ok (m.with' (m.dG id a (m.partX a) (m.params (a+1+1+1+1+1) (m.nx (a+1+1+1+1) 3).toNat) [] (((((m.params (a+1+1+1+1+1) (m.nx (a+1+1+1+1) 3).toNat).map encR).length : Nat) : Int) + 2 + m.nx ((a+1+1+1+1+1 + (m.nx (a+1+1+1+1) 3).toNat)+1) 2) 2 [⟨4, 0⟩] rr.1 0)) _ _ _ _ _ (by omega)) | exact (head_ok (m.dG id a (m.partX a) (m.params (a+1+1+1+1+1) (m.nx (a+1+1+1+1) 3).toNat) [] (((((m.params (a+1+1+1+1+1) (m.nx (a+1+1+1+1) 3).toNat).map encR).length : Nat) : Int) + 2 + m.nx ((a+1+1+1+1+1 + (m.nx (a+1+1+1+1) 3).toNat)+1) 2) 2 [⟨4, 0⟩] rr.1 (rr.2.s+1 : Nat)))); refine run ?_)
    exact Done.mk rfl rfl
theorem def_f001 (m : Mk) (id : Int) (a s l p d : Nat) (fine : m.Core) (hid : 0 ≤ id ∧ id < 100) (h : a + 5000 < 2^58) (h' : s + 300 < 2^58) (hp : p < 2^40) (hlen : m.heads.length < 2^20 ∧ m.defs.length < 2^20)
    (t0 : (m.nx (a+1+1+1) 2 == 0) = false) (t1 : (m.nx (a+1+1+1+1+1 + (m.nx (a+1+1+1+1) 3).toNat) 4 == 0) = false) (hX : 0 < m.nx (a+1+1+1+1) 3) (t2 : (m.nx ((a+1+1+1+1+1 + (m.nx (a+1+1+1+1) 3).toNat)+1+1) 2 == 0) = true) : CallsA Tryz.prog 110 [mp, it id, bo false] (ctM m a s l p d) (.tup [])
    (ctEnd m (m.dG id a (m.partX a) (m.params (a+1+1+1+1+1) (m.nx (a+1+1+1+1) 3).toNat) [] (((((m.params (a+1+1+1+1+1) (m.nx (a+1+1+1+1) 3).toNat).map encR).length : Nat) : Int) + 2 + m.nx ((a+1+1+1+1+1 + (m.nx (a+1+1+1+1) 3).toNat)+1) 2) 2 [⟨4, 0⟩, ⟨8, 1⟩] ((m.with' (m.dG id a (m.partX a) (m.params (a+1+1+1+1+1) (m.nx (a+1+1+1+1) 3).toNat) [] (((((m.params (a+1+1+1+1+1) (m.nx (a+1+1+1+1) 3).toNat).map encR).length : Nat) : Int) + 2 + m.nx ((a+1+1+1+1+1 + (m.nx (a+1+1+1+1) 3).toNat)+1) 2) 2 [⟨4, 0⟩, ⟨8, 1⟩] [] 0)).stmts 2 (1 + m.nx ((a+1+1+1+1+1 + (m.nx (a+1+1+1+1) 3).toNat)+1+1+1) 5).toNat ⟨((a+1+1+1+1+1 + (m.nx (a+1+1+1+1) 3).toNat)+1+1+1)+1, s, 9, 0⟩).1 (((m.with' (m.dG id a (m.partX a) (m.params (a+1+1+1+1+1) (m.nx (a+1+1+1+1) 3).toNat) [] (((((m.params (a+1+1+1+1+1) (m.nx (a+1+1+1+1) 3).toNat).map encR).length : Nat) : Int) + 2 + m.nx ((a+1+1+1+1+1 + (m.nx (a+1+1+1+1) 3).toNat)+1) 2) 2 [⟨4, 0⟩, ⟨8, 1⟩] [] 0)).stmts 2 (1 + m.nx ((a+1+1+1+1+1 + (m.nx (a+1+1+1+1) 3).toNat)+1+1+1) 5).toNat ⟨((a+1+1+1+1+1 + (m.nx (a+1+1+1+1) 3).toNat)+1+1+1)+1, s, 9, 0⟩).2.s+1 : Nat)) ((m.with' (m.dG id a (m.partX a) (m.params (a+1+1+1+1+1) (m.nx (a+1+1+1+1) 3).toNat) [] (((((m.params (a+1+1+1+1+1) (m.nx (a+1+1+1+1) 3).toNat).map encR).length : Nat) : Int) + 2 + m.nx ((a+1+1+1+1+1 + (m.nx (a+1+1+1+1) 3).toNat)+1) 2) 2 [⟨4, 0⟩, ⟨8, 1⟩] [] 0)).stmts 2 (1 + m.nx ((a+1+1+1+1+1 + (m.nx (a+1+1+1+1) 3).toNat)+1+1+1) 5).toNat ⟨((a+1+1+1+1+1 + (m.nx (a+1+1+1+1) 3).toNat)+1+1+1)+1, s, 9, 0⟩).2.a (((m.with' (m.dG id a (m.partX a) (m.params (a+1+1+1+1+1) (m.nx (a+1+1+1+1) 3).toNat) [] (((((m.params (a+1+1+1+1+1) (m.nx (a+1+1+1+1) 3).toNat).map encR).length : Nat) : Int) + 2 + m.nx ((a+1+1+1+1+1 + (m.nx (a+1+1+1+1) 3).toNat)+1) 2) 2 [⟨4, 0⟩, ⟨8, 1⟩] [] 0)).stmts 2 (1 + m.nx ((a+1+1+1+1+1 + (m.nx (a+1+1+1+1) 3).toNat)+1+1+1) 5).toNat ⟨((a+1+1+1+1+1 + (m.nx (a+1+1+1+1) 3).toNat)+1+1+1)+1, s, 9, 0⟩).2.s+1) ((m.with' (m.dG id a (m.partX a) (m.params (a+1+1+1+1+1) (m.nx (a+1+1+1+1) 3).toNat) [] (((((m.params (a+1+1+1+1+1) (m.nx (a+1+1+1+1) 3).toNat).map encR).length : Nat) : Int) + 2 + m.nx ((a+1+1+1+1+1 + (m.nx (a+1+1+1+1) 3).toNat)+1) 2) 2 [⟨4, 0⟩, ⟨8, 1⟩] [] 0)).stmts 2 (1 + m.nx ((a+1+1+1+1+1 + (m.nx (a+1+1+1+1) 3).toNat)+1+1+1) 5).toNat ⟨((a+1+1+1+1+1 + (m.nx (a+1+1+1+1) 3).toNat)+1+1+1)+1, s, 9, 0⟩).2.l p ((m.with' (m.dG id a (m.partX a) (m.params (a+1+1+1+1+1) (m.nx (a+1+1+1+1) 3).toNat) [] (((((m.params (a+1+1+1+1+1) (m.nx (a+1+1+1+1) 3).toNat).map encR).length : Nat) : Int) + 2 + m.nx ((a+1+1+1+1+1 + (m.nx (a+1+1+1+1) 3).toNat)+1) 2) 2 [⟨4, 0⟩, ⟨8, 1⟩] [] 0)).stmts 2 (1 + m.nx ((a+1+1+1+1+1 + (m.nx (a+1+1+1+1) 3).toNat)+1+1+1) 5).toNat ⟨((a+1+1+1+1+1 + (m.nx (a+1+1+1+1) 3).toNat)+1+1+1)+1, s, 9, 0⟩).2.d) := by
  have bi : 0 ≤ id.tmod 8 ∧ id.tmod 8 < 8 := ⟨Int.tmod_nonneg _ hid.1, Int.tmod_lt_of_pos _ (by omega)⟩
  have n0 := m.nx_bd a (n := 2) (by omega)
  have n1 := m.nx_bd (a+1) (n := 6) (by omega)
  have n2 := m.nx_bd (a+1+1) (n := 4) (by omega)
  have hcalm := fine.calm
  have bX := m.nx_bd (a+1+1+1+1) (n := 3) (by omega)
  have bv := m.nx_bd ((a+1+1+1+1+1 + (m.nx (a+1+1+1+1) 3).toNat)+1) (n := 2) (by omega)
  have b5 := m.nx_bd ((a+1+1+1+1+1 + (m.nx (a+1+1+1+1) 3).toNat)+1+1+1) (n := 5) (by omega)
  have pl : (m.params (a+1+1+1+1+1) (m.nx (a+1+1+1+1) 3).toNat).length = (m.nx (a+1+1+1+1) 3).toNat := m.params_len _ _
  have pl2 : ((m.params (a+1+1+1+1+1) (m.nx (a+1+1+1+1) 3).toNat).map encR).length = (m.nx (a+1+1+1+1) 3).toNat := by rw [List.length_map]; exact pl
  have pl2a : ((m.with' (m.dG id a (m.partX a) (m.params (a+1+1+1+1+1) (m.nx (a+1+1+1+1) 3).toNat) [] 0 0 [] [] 0)).D.params.map encR).length = (m.nx (a+1+1+1+1) 3).toNat := pl2
  have pl2b : ((m.with' (m.dG id a (m.partX a) (m.params (a+1+1+1+1+1) (m.nx (a+1+1+1+1) 3).toNat) [] 0 0 [] [] 0)).D.params.map encR).length = (m.nx (a+1+1+1+1) 3).toNat := pl2
  have pl3 : decide (((((m.params (a+1+1+1+1+1) (m.nx (a+1+1+1+1) 3).toNat).map encR).length : Nat) : Int) > 0) = true := by rw [pl2]; simp; omega
  have k1 : ((1 + m.nx ((a+1+1+1+1+1 + (m.nx (a+1+1+1+1) 3).toNat)+1+1+1) 5).toNat : Int) = 1 + m.nx ((a+1+1+1+1+1 + (m.nx (a+1+1+1+1) 3).toNat)+1+1+1) 5 := by omega
  have fineD : (m.with' (m.dG id a (m.partX a) (m.params (a+1+1+1+1+1) (m.nx (a+1+1+1+1) 3).toNat) [] (((((m.params (a+1+1+1+1+1) (m.nx (a+1+1+1+1) 3).toNat).map encR).length : Nat) : Int) + 2 + m.nx ((a+1+1+1+1+1 + (m.nx (a+1+1+1+1) 3).toNat)+1) 2) 2 [⟨4, 0⟩, ⟨8, 1⟩] [] 0)).Fine := Mk.with_fine fine (by simp only [Mk.dG]; omega) (by simp only [Mk.dG]; omega) (by simp [Mk.dG]) (by simp [Mk.dG])
  have r1 := stmts_ok _ fineD (1 + m.nx ((a+1+1+1+1+1 + (m.nx (a+1+1+1+1) 3).toNat)+1+1+1) 5).toNat (by omega) 2 (((a+1+1+1+1+1 + (m.nx (a+1+1+1+1) 3).toNat)+1+1+1)+1) s 9 p 0 (by omega) (by omega) (by omega) (by omega) (by omega) (by omega)
  rw [k1] at r1
  have us := (m.with' (m.dG id a (m.partX a) (m.params (a+1+1+1+1+1) (m.nx (a+1+1+1+1) 3).toNat) [] (((((m.params (a+1+1+1+1+1) (m.nx (a+1+1+1+1) 3).toNat).map encR).length : Nat) : Int) + 2 + m.nx ((a+1+1+1+1+1 + (m.nx (a+1+1+1+1) 3).toNat)+1) 2) 2 [⟨4, 0⟩, ⟨8, 1⟩] [] 0)).stmts_use fineD.heads 2 (1 + m.nx ((a+1+1+1+1+1 + (m.nx (a+1+1+1+1) 3).toNat)+1+1+1) 5).toNat ⟨((a+1+1+1+1+1 + (m.nx (a+1+1+1+1) 3).toNat)+1+1+1)+1, s, 9, 0⟩
  simp only [Less] at us
  rw [ctEnd_eq]
  generalize hR : (m.with' (m.dG id a (m.partX a) (m.params (a+1+1+1+1+1) (m.nx (a+1+1+1+1) 3).toNat) [] (((((m.params (a+1+1+1+1+1) (m.nx (a+1+1+1+1) 3).toNat).map encR).length : Nat) : Int) + 2 + m.nx ((a+1+1+1+1+1 + (m.nx (a+1+1+1+1) 3).toNat)+1) 2) 2 [⟨4, 0⟩, ⟨8, 1⟩] [] 0)).stmts 2 (1 + m.nx ((a+1+1+1+1+1 + (m.nx (a+1+1+1+1) 3).toNat)+1+1+1) 5).toNat ⟨((a+1+1+1+1+1 + (m.nx (a+1+1+1+1) 3).toNat)+1+1+1)+1, s, 9, 0⟩ = rr at *
  have hl1 : (m.with' (m.dG id a (m.partX a) (m.params (a+1+1+1+1+1) (m.nx (a+1+1+1+1) 3).toNat) [] (((((m.params (a+1+1+1+1+1) (m.nx (a+1+1+1+1) 3).toNat).map encR).length : Nat) : Int) + 2 + m.nx ((a+1+1+1+1+1 + (m.nx (a+1+1+1+1) 3).toNat)+1) 2) 2 [⟨4, 0⟩, ⟨8, 1⟩] rr.1 0)).defs.length < 2^20 := hlen.2
  have hl2 : (m.with' (m.dG id a (m.partX a) (m.params (a+1+1+1+1+1) (m.nx (a+1+1+1+1) 3).toNat) [] (((((m.params (a+1+1+1+1+1) (m.nx (a+1+1+1+1) 3).toNat).map encR).length : Nat) : Int) + 2 + m.nx ((a+1+1+1+1+1 + (m.nx (a+1+1+1+1) 3).toNat)+1) 2) 2 [⟨4, 0⟩, ⟨8, 1⟩] rr.1 0)).heads.length < 2^20 := hlen.1
  have hl3 : (m.with' (m.dG id a (m.partX a) (m.params (a+1+1+1+1+1) (m.nx (a+1+1+1+1) 3).toNat) [] ((((m.params (a+1+1+1+1+1) (m.nx (a+1+1+1+1) 3).toNat).length : Nat) : Int) + 2 + m.nx ((a+1+1+1+1+1 + (m.nx (a+1+1+1+1) 3).toNat)+1) 2) 2 [⟨4, 0⟩, ⟨8, 1⟩] rr.1 0)).defs.length < 2^20 := hlen.2
  have hl4 : (m.with' (m.dG id a (m.partX a) (m.params (a+1+1+1+1+1) (m.nx (a+1+1+1+1) 3).toNat) [] ((((m.params (a+1+1+1+1+1) (m.nx (a+1+1+1+1) 3).toNat).length : Nat) : Int) + 2 + m.nx ((a+1+1+1+1+1 + (m.nx (a+1+1+1+1) 3).toNat)+1) 2) 2 [⟨4, 0⟩, ⟨8, 1⟩] rr.1 0)).heads.length < 2^20 := hlen.1
  refine fn_ok hm Tryz.func110 (fun _ => false) [] hintDef (by kernel_rfl) ?_
  refine run ?_; repeat ((apply call_ok; first | exact (next_ok m _ _ _ _ _ _ (by omega) (by omega))); refine run ?_)
  iterate 2
    refine Idx.mapG (f := it) (m.nx (a+1+1) 4).toNat (m.budget (a+1+1)) (by omega) (m.budget_at (a+1+1)) rfl ?_
    refine run ?_
  refine run ?_; repeat ((apply call_ok; first | exact (nextR m (m.dG id a (m.partX a) [] [] 0 0 [] [] 0) [] _ _ _ _ _ _ (by omega) (by omega)) | exact (nextR m (m.dG id a (m.partX a) [] [] 0 0 [] [] 0) [] _ _ _ _ _ _ (by omega) (by omega))); refine run ?_)
  refine LoopS.mk ⟨[], HeadS.inv (fun r : PR => r.v = m.nx (a+1+1+1+1) 3 - r.k ∧ r.k ≤ (m.nx (a+1+1+1+1) 3).toNat ∧ r.acc = (m.params (a+1+1+1+1+1) r.k).map encR)
    (fun r => ⟨[(7, it r.v)], [(1000, encMkR (m.with' (m.dG id a (m.partX a) [] [] 0 0 [] [] 0)) 32 (a+1+1+1+1+1 + r.k) s l p d r.acc.length)], [(32, ⟨3, true, r.acc⟩)]⟩)
    (fun r => (m.nx (a+1+1+1+1) 3).toNat - r.k) ⟨m.nx (a+1+1+1+1) 3, 0, []⟩ ⟨by simp, Nat.zero_le _, rfl⟩ ?_ ?_ ?_ ?_ ?_⟩
  · repeat' (first | exact trivial | exact rfl | refine ⟨?_, ?_⟩ | refine ⟨?_, ?_, ?_⟩)
  · kernel_rfl
  · kernel_rfl
  · intro r; exact ⟨rfl, rfl, rfl⟩
  rintro ⟨v, k, acc⟩ ⟨w1, w2, w3⟩
  dsimp only at w1 w2 w3 ⊢
  refine Br.mk (fun hb => ?_) (fun hb => ?_)
  · have hb1 : 0 < v := by simpa using hb
    have hl : acc.length = k := by rw [w3]; simp [m.params_len]
    have bk := m.nx_bd (a+1+1+1+1+1 + k) (n := 4) (by omega)
    refine run ?_; repeat ((apply call_ok; first | exact (nextR m (m.dG id a (m.partX a) [] [] 0 0 [] [] 0) _ _ _ _ _ _ _ (by omega) (by omega))); refine run ?_)
    iterate 2
      refine Idx.mapG (f := encR) (m.nx (a+1+1+1+1+1 + k) 4).toNat (m.rng (a+1+1+1+1+1 + k)) (by omega) (m.rng_at _) rfl ?_
      refine run ?_
    refine ⟨⟨⟨v - 1, k + 1, acc ++ [encR (m.rng (a+1+1+1+1+1 + k))]⟩, by dsimp only; omega, by dsimp only; omega, by rw [w3]; simp [Mk.params]⟩, by dsimp only; omega, ?_⟩
    repeat' (first | exact trivial | exact rfl | refine ⟨?_, ?_⟩ | refine ⟨?_, ?_, ?_⟩)
  · have hb1 : k = (m.nx (a+1+1+1+1) 3).toNat := by simp at hb; omega
    subst hb1
    subst w3
    refine run ?_; repeat ((apply call_ok; first | exact (nextD m (m.dG id a (m.partX a) (m.params (a+1+1+1+1+1) (m.nx (a+1+1+1+1) 3).toNat) [] 0 0 [] [] 0) _ _ _ _ _ _ (by omega) (by omega)) | exact (nextD m (m.dG id a (m.partX a) (m.params (a+1+1+1+1+1) (m.nx (a+1+1+1+1) 3).toNat) [] 0 0 [] [] 0) _ _ _ _ _ _ (by omega) (by omega)) | exact (nextA m (m.dG id a (m.partX a) (m.params (a+1+1+1+1+1) (m.nx (a+1+1+1+1) 3).toNat) [] (((((m.params (a+1+1+1+1+1) (m.nx (a+1+1+1+1) 3).toNat).map encR).length : Nat) : Int) + 2 + m.nx ((a+1+1+1+1+1 + (m.nx (a+1+1+1+1) 3).toNat)+1) 2) 2 [] [] 0) [encA ⟨4, 0⟩] _ _ _ _ _ _ (by omega) (by omega)) | exact (nextD m (m.dG id a (m.partX a) (m.params (a+1+1+1+1+1) (m.nx (a+1+1+1+1) 3).toNat) [] (((((m.params (a+1+1+1+1+1) (m.nx (a+1+1+1+1) 3).toNat).map encR).length : Nat) : Int) + 2 + m.nx ((a+1+1+1+1+1 + (m.nx (a+1+1+1+1) 3).toNat)+1) 2) 2 [⟨4, 0⟩, ⟨8, 1⟩] [] 0) _ _ _ _ _ _ (by omega) (by omega)) | exact (r1) | exact (site_ok (m.with' (m.dG id a (m.partX a) (m.params (a+1+1+1+1+1) (m.nx (a+1+1+1+1) 3).toNat) [] (((((m.params (a+1+1+1+1+1) (m.nx (a+1+1+1+1) 3).toNat).map encR).length : Nat) : Int) + 2 + m.nx ((a+1+1+1+1+1 + (m.nx (a+1+1+1+1) 3).toNat)+1) 2) 2 [⟨4, 0⟩, ⟨8, 1⟩] rr.1 0)) _ _ _ _ _ (by omega)) | exact (head_ok (m.dG id a (m.partX a) (m.params (a+1+1+1+1+1) (m.nx (a+1+1+1+1) 3).toNat) [] (((((m.params (a+1+1+1+1+1) (m.nx (a+1+1+1+1) 3).toNat).map encR).length : Nat) : Int) + 2 + m.nx ((a+1+1+1+1+1 + (m.nx (a+1+1+1+1) 3).toNat)+1) 2) 2 [⟨4, 0⟩, ⟨8, 1⟩] rr.1 (rr.2.s+1 : Nat)))); refine run ?_)
    exact Done.mk rfl rfl
theorem def_f002 (m : Mk) (id : Int) (a s l p d : Nat) (fine : m.Core) (hid : 0 ≤ id ∧ id < 100) (h : a + 5000 < 2^58) (h' : s + 300 < 2^58) (hp : p < 2^40) (hlen : m.heads.length < 2^20 ∧ m.defs.length < 2^20)
    (t0 : (m.nx (a+1+1+1) 2 == 0) = false) (t1 : (m.nx (a+1+1+1+1+1 + (m.nx (a+1+1+1+1) 3).toNat) 4 == 0) = false) (hX : 0 < m.nx (a+1+1+1+1) 3) (t2 : (m.nx ((a+1+1+1+1+1 + (m.nx (a+1+1+1+1) 3).toNat)+1+1) 2 == 0) = false) : CallsA Tryz.prog 110 [mp, it id, bo false] (ctM m a s l p d) (.tup [])
    (ctEnd m (m.dG id a (m.partX a) (m.params (a+1+1+1+1+1) (m.nx (a+1+1+1+1) 3).toNat) [] (((((m.params (a+1+1+1+1+1) (m.nx (a+1+1+1+1) 3).toNat).map encR).length : Nat) : Int) + 2 + m.nx ((a+1+1+1+1+1 + (m.nx (a+1+1+1+1) 3).toNat)+1) 2) 2 [⟨4, 0⟩] ((m.with' (m.dG id a (m.partX a) (m.params (a+1+1+1+1+1) (m.nx (a+1+1+1+1) 3).toNat) [] (((((m.params (a+1+1+1+1+1) (m.nx (a+1+1+1+1) 3).toNat).map encR).length : Nat) : Int) + 2 + m.nx ((a+1+1+1+1+1 + (m.nx (a+1+1+1+1) 3).toNat)+1) 2) 2 [⟨4, 0⟩] [] 0)).stmts 2 (1 + m.nx ((a+1+1+1+1+1 + (m.nx (a+1+1+1+1) 3).toNat)+1+1+1) 5).toNat ⟨((a+1+1+1+1+1 + (m.nx (a+1+1+1+1) 3).toNat)+1+1+1)+1, s, 9, 0⟩).1 (((m.with' (m.dG id a (m.partX a) (m.params (a+1+1+1+1+1) (m.nx (a+1+1+1+1) 3).toNat) [] (((((m.params (a+1+1+1+1+1) (m.nx (a+1+1+1+1) 3).toNat).map encR).length : Nat) : Int) + 2 + m.nx ((a+1+1+1+1+1 + (m.nx (a+1+1+1+1) 3).toNat)+1) 2) 2 [⟨4, 0⟩] [] 0)).stmts 2 (1 + m.nx ((a+1+1+1+1+1 + (m.nx (a+1+1+1+1) 3).toNat)+1+1+1) 5).toNat ⟨((a+1+1+1+1+1 + (m.nx (a+1+1+1+1) 3).toNat)+1+1+1)+1, s, 9, 0⟩).2.s+1 : Nat)) ((m.with' (m.dG id a (m.partX a) (m.params (a+1+1+1+1+1) (m.nx (a+1+1+1+1) 3).toNat) [] (((((m.params (a+1+1+1+1+1) (m.nx (a+1+1+1+1) 3).toNat).map encR).length : Nat) : Int) + 2 + m.nx ((a+1+1+1+1+1 + (m.nx (a+1+1+1+1) 3).toNat)+1) 2) 2 [⟨4, 0⟩] [] 0)).stmts 2 (1 + m.nx ((a+1+1+1+1+1 + (m.nx (a+1+1+1+1) 3).toNat)+1+1+1) 5).toNat ⟨((a+1+1+1+1+1 + (m.nx (a+1+1+1+1) 3).toNat)+1+1+1)+1, s, 9, 0⟩).2.a (((m.with' (m.dG id a (m.partX a) (m.params (a+1+1+1+1+1) (m.nx (a+1+1+1+1) 3).toNat) [] (((((m.params (a+1+1+1+1+1) (m.nx (a+1+1+1+1) 3).toNat).map encR).length : Nat) : Int) + 2 + m.nx ((a+1+1+1+1+1 + (m.nx (a+1+1+1+1) 3).toNat)+1) 2) 2 [⟨4, 0⟩] [] 0)).stmts 2 (1 + m.nx ((a+1+1+1+1+1 + (m.nx (a+1+1+1+1) 3).toNat)+1+1+1) 5).toNat ⟨((a+1+1+1+1+1 + (m.nx (a+1+1+1+1) 3).toNat)+1+1+1)+1, s, 9, 0⟩).2.s+1) ((m.with' (m.dG id a (m.partX a) (m.params (a+1+1+1+1+1) (m.nx (a+1+1+1+1) 3).toNat) [] (((((m.params (a+1+1+1+1+1) (m.nx (a+1+1+1+1) 3).toNat).map encR).length : Nat) : Int) + 2 + m.nx ((a+1+1+1+1+1 + (m.nx (a+1+1+1+1) 3).toNat)+1) 2) 2 [⟨4, 0⟩] [] 0)).stmts 2 (1 + m.nx ((a+1+1+1+1+1 + (m.nx (a+1+1+1+1) 3).toNat)+1+1+1) 5).toNat ⟨((a+1+1+1+1+1 + (m.nx (a+1+1+1+1) 3).toNat)+1+1+1)+1, s, 9, 0⟩).2.l p ((m.with' (m.dG id a (m.partX a) (m.params (a+1+1+1+1+1) (m.nx (a+1+1+1+1) 3).toNat) [] (((((m.params (a+1+1+1+1+1) (m.nx (a+1+1+1+1) 3).toNat).map encR).length : Nat) : Int) + 2 + m.nx ((a+1+1+1+1+1 + (m.nx (a+1+1+1+1) 3).toNat)+1) 2) 2 [⟨4, 0⟩] [] 0)).stmts 2 (1 + m.nx ((a+1+1+1+1+1 + (m.nx (a+1+1+1+1) 3).toNat)+1+1+1) 5).toNat ⟨((a+1+1+1+1+1 + (m.nx (a+1+1+1+1) 3).toNat)+1+1+1)+1, s, 9, 0⟩).2.d) := by
  have bi : 0 ≤ id.tmod 8 ∧ id.tmod 8 < 8 := ⟨Int.tmod_nonneg _ hid.1, Int.tmod_lt_of_pos _ (by omega)⟩
  have n0 := m.nx_bd a (n := 2) (by omega)
  have n1 := m.nx_bd (a+1) (n := 6) (by omega)
  have n2 := m.nx_bd (a+1+1) (n := 4) (by omega)
  have hcalm := fine.calm
  have bX := m.nx_bd (a+1+1+1+1) (n := 3) (by omega)
  have bv := m.nx_bd ((a+1+1+1+1+1 + (m.nx (a+1+1+1+1) 3).toNat)+1) (n := 2) (by omega)
  have b5 := m.nx_bd ((a+1+1+1+1+1 + (m.nx (a+1+1+1+1) 3).toNat)+1+1+1) (n := 5) (by omega)
  have pl : (m.params (a+1+1+1+1+1) (m.nx (a+1+1+1+1) 3).toNat).length = (m.nx (a+1+1+1+1) 3).toNat := m.params_len _ _
  have pl2 : ((m.params (a+1+1+1+1+1) (m.nx (a+1+1+1+1) 3).toNat).map encR).length = (m.nx (a+1+1+1+1) 3).toNat := by rw [List.length_map]; exact pl
  have pl2a : ((m.with' (m.dG id a (m.partX a) (m.params (a+1+1+1+1+1) (m.nx (a+1+1+1+1) 3).toNat) [] 0 0 [] [] 0)).D.params.map encR).length = (m.nx (a+1+1+1+1) 3).toNat := pl2
  have pl2b : ((m.with' (m.dG id a (m.partX a) (m.params (a+1+1+1+1+1) (m.nx (a+1+1+1+1) 3).toNat) [] 0 0 [] [] 0)).D.params.map encR).length = (m.nx (a+1+1+1+1) 3).toNat := pl2
  have pl3 : decide (((((m.params (a+1+1+1+1+1) (m.nx (a+1+1+1+1) 3).toNat).map encR).length : Nat) : Int) > 0) = true := by rw [pl2]; simp; omega
  have k1 : ((1 + m.nx ((a+1+1+1+1+1 + (m.nx (a+1+1+1+1) 3).toNat)+1+1+1) 5).toNat : Int) = 1 + m.nx ((a+1+1+1+1+1 + (m.nx (a+1+1+1+1) 3).toNat)+1+1+1) 5 := by omega
  have fineD : (m.with' (m.dG id a (m.partX a) (m.params (a+1+1+1+1+1) (m.nx (a+1+1+1+1) 3).toNat) [] (((((m.params (a+1+1+1+1+1) (m.nx (a+1+1+1+1) 3).toNat).map encR).length : Nat) : Int) + 2 + m.nx ((a+1+1+1+1+1 + (m.nx (a+1+1+1+1) 3).toNat)+1) 2) 2 [⟨4, 0⟩] [] 0)).Fine := Mk.with_fine fine (by simp only [Mk.dG]; omega) (by simp only [Mk.dG]; omega) (by simp [Mk.dG]) (by simp [Mk.dG])
  have r1 := stmts_ok _ fineD (1 + m.nx ((a+1+1+1+1+1 + (m.nx (a+1+1+1+1) 3).toNat)+1+1+1) 5).toNat (by omega) 2 (((a+1+1+1+1+1 + (m.nx (a+1+1+1+1) 3).toNat)+1+1+1)+1) s 9 p 0 (by omega) (by omega) (by omega) (by omega) (by omega) (by omega)
  rw [k1] at r1
  have us := (m.with' (m.dG id a (m.partX a) (m.params (a+1+1+1+1+1) (m.nx (a+1+1+1+1) 3).toNat) [] (((((m.params (a+1+1+1+1+1) (m.nx (a+1+1+1+1) 3).toNat).map encR).length : Nat) : Int) + 2 + m.nx ((a+1+1+1+1+1 + (m.nx (a+1+1+1+1) 3).toNat)+1) 2) 2 [⟨4, 0⟩] [] 0)).stmts_use fineD.heads 2 (1 + m.nx ((a+1+1+1+1+1 + (m.nx (a+1+1+1+1) 3).toNat)+1+1+1) 5).toNat ⟨((a+1+1+1+1+1 + (m.nx (a+1+1+1+1) 3).toNat)+1+1+1)+1, s, 9, 0⟩
  simp only [Less] at us
  rw [ctEnd_eq]
  generalize hR : (m.with' (m.dG id a (m.partX a) (m.params (a+1+1+1+1+1) (m.nx (a+1+1+1+1) 3).toNat) [] (((((m.params (a+1+1+1+1+1) (m.nx (a+1+1+1+1) 3).toNat).map encR).length : Nat) : Int) + 2 + m.nx ((a+1+1+1+1+1 + (m.nx (a+1+1+1+1) 3).toNat)+1) 2) 2 [⟨4, 0⟩] [] 0)).stmts 2 (1 + m.nx ((a+1+1+1+1+1 + (m.nx (a+1+1+1+1) 3).toNat)+1+1+1) 5).toNat ⟨((a+1+1+1+1+1 + (m.nx (a+1+1+1+1) 3).toNat)+1+1+1)+1, s, 9, 0⟩ = rr at *
  have hl1 : (m.with' (m.dG id a (m.partX a) (m.params (a+1+1+1+1+1) (m.nx (a+1+1+1+1) 3).toNat) [] (((((m.params (a+1+1+1+1+1) (m.nx (a+1+1+1+1) 3).toNat).map encR).length : Nat) : Int) + 2 + m.nx ((a+1+1+1+1+1 + (m.nx (a+1+1+1+1) 3).toNat)+1) 2) 2 [⟨4, 0⟩] rr.1 0)).defs.length < 2^20 := hlen.2
  have hl2 : (m.with' (m.dG id a (m.partX a) (m.params (a+1+1+1+1+1) (m.nx (a+1+1+1+1) 3).toNat) [] (((((m.params (a+1+1+1+1+1) (m.nx (a+1+1+1+1) 3).toNat).map encR).length : Nat) : Int) + 2 + m.nx ((a+1+1+1+1+1 + (m.nx (a+1+1+1+1) 3).toNat)+1) 2) 2 [⟨4, 0⟩] rr.1 0)).heads.length < 2^20 := hlen.1
  have hl3 : (m.with' (m.dG id a (m.partX a) (m.params (a+1+1+1+1+1) (m.nx (a+1+1+1+1) 3).toNat) [] ((((m.params (a+1+1+1+1+1) (m.nx (a+1+1+1+1) 3).toNat).length : Nat) : Int) + 2 + m.nx ((a+1+1+1+1+1 + (m.nx (a+1+1+1+1) 3).toNat)+1) 2) 2 [⟨4, 0⟩] rr.1 0)).defs.length < 2^20 := hlen.2
  have hl4 : (m.with' (m.dG id a (m.partX a) (m.params (a+1+1+1+1+1) (m.nx (a+1+1+1+1) 3).toNat) [] ((((m.params (a+1+1+1+1+1) (m.nx (a+1+1+1+1) 3).toNat).length : Nat) : Int) + 2 + m.nx ((a+1+1+1+1+1 + (m.nx (a+1+1+1+1) 3).toNat)+1) 2) 2 [⟨4, 0⟩] rr.1 0)).heads.length < 2^20 := hlen.1
  refine fn_ok hm Tryz.func110 (fun _ => false) [] hintDef (by kernel_rfl) ?_
  refine run ?_; repeat ((apply call_ok; first | exact (next_ok m _ _ _ _ _ _ (by omega) (by omega))); refine run ?_)
  iterate 2
    refine Idx.mapG (f := it) (m.nx (a+1+1) 4).toNat (m.budget (a+1+1)) (by omega) (m.budget_at (a+1+1)) rfl ?_
    refine run ?_
  refine run ?_; repeat ((apply call_ok; first | exact (nextR m (m.dG id a (m.partX a) [] [] 0 0 [] [] 0) [] _ _ _ _ _ _ (by omega) (by omega)) | exact (nextR m (m.dG id a (m.partX a) [] [] 0 0 [] [] 0) [] _ _ _ _ _ _ (by omega) (by omega))); refine run ?_)
  refine LoopS.mk ⟨[], HeadS.inv (fun r : PR => r.v = m.nx (a+1+1+1+1) 3 - r.k ∧ r.k ≤ (m.nx (a+1+1+1+1) 3).toNat ∧ r.acc = (m.params (a+1+1+1+1+1) r.k).map encR)
    (fun r => ⟨[(7, it r.v)], [(1000, encMkR (m.with' (m.dG id a (m.partX a) [] [] 0 0 [] [] 0)) 32 (a+1+1+1+1+1 + r.k) s l p d r.acc.length)], [(32, ⟨3, true, r.acc⟩)]⟩)
    (fun r => (m.nx (a+1+1+1+1) 3).toNat - r.k) ⟨m.nx (a+1+1+1+1) 3, 0, []⟩ ⟨by simp, Nat.zero_le _, rfl⟩ ?_ ?_ ?_ ?_ ?_⟩
  · repeat' (first | exact trivial | exact rfl | refine ⟨?_, ?_⟩ | refine ⟨?_, ?_, ?_⟩)
  · kernel_rfl
  · kernel_rfl
  · intro r; exact ⟨rfl, rfl, rfl⟩
  rintro ⟨v, k, acc⟩ ⟨w1, w2, w3⟩
  dsimp only at w1 w2 w3 ⊢
  refine Br.mk (fun hb => ?_) (fun hb => ?_)
  · have hb1 : 0 < v := by simpa using hb
    have hl : acc.length = k := by rw [w3]; simp [m.params_len]
    have bk := m.nx_bd (a+1+1+1+1+1 + k) (n := 4) (by omega)
    refine run ?_; repeat ((apply call_ok; first | exact (nextR m (m.dG id a (m.partX a) [] [] 0 0 [] [] 0) _ _ _ _ _ _ _ (by omega) (by omega))); refine run ?_)
    iterate 2
      refine Idx.mapG (f := encR) (m.nx (a+1+1+1+1+1 + k) 4).toNat (m.rng (a+1+1+1+1+1 + k)) (by omega) (m.rng_at _) rfl ?_
      refine run ?_
    refine ⟨⟨⟨v - 1, k + 1, acc ++ [encR (m.rng (a+1+1+1+1+1 + k))]⟩, by dsimp only; omega, by dsimp only; omega, by rw [w3]; simp [Mk.params]⟩, by dsimp only; omega, ?_⟩
    repeat' (first | exact trivial | exact rfl | refine ⟨?_, ?_⟩ | refine ⟨?_, ?_, ?_⟩)
  · have hb1 : k = (m.nx (a+1+1+1+1) 3).toNat := by simp at hb; omega
    subst hb1
    subst w3
    refine run ?_; repeat ((apply call_ok; first | exact (nextD m (m.dG id a (m.partX a) (m.params (a+1+1+1+1+1) (m.nx (a+1+1+1+1) 3).toNat) [] 0 0 [] [] 0) _ _ _ _ _ _ (by omega) (by omega)) | exact (nextD m (m.dG id a (m.partX a) (m.params (a+1+1+1+1+1) (m.nx (a+1+1+1+1) 3).toNat) [] 0 0 [] [] 0) _ _ _ _ _ _ (by omega) (by omega)) | exact (nextA m (m.dG id a (m.partX a) (m.params (a+1+1+1+1+1) (m.nx (a+1+1+1+1) 3).toNat) [] (((((m.params (a+1+1+1+1+1) (m.nx (a+1+1+1+1) 3).toNat).map encR).length : Nat) : Int) + 2 + m.nx ((a+1+1+1+1+1 + (m.nx (a+1+1+1+1) 3).toNat)+1) 2) 2 [] [] 0) [encA ⟨4, 0⟩] _ _ _ _ _ _ (by omega) (by omega)) | exact (nextD m (m.dG id a (m.partX a) (m.params (a+1+1+1+1+1) (m.nx (a+1+1+1+1) 3).toNat) [] (((((m.params (a+1+1+1+1+1) (m.nx (a+1+1+1+1) 3).toNat).map encR).length : Nat) : Int) + 2 + m.nx ((a+1+1+1+1+1 + (m.nx (a+1+1+1+1) 3).toNat)+1) 2) 2 [⟨4, 0⟩] [] 0) _ _ _ _ _ _ (by omega) (by omega)) | exact (r1) | exact (site_ok (m.with' (m.dG id a (m.partX a) (m.params (a+1+1+1+1+1) (m.nx (a+1+1+1+1) 3).toNat) [] (((((m.params (a+1+1+1+1+1) (m.nx (a+1+1+1+1) 3).toNat).map encR).length : Nat) : Int) + 2 + m.nx ((a+1+1+1+1+1 + (m.nx (a+1+1+1+1) 3).toNat)+1) 2) 2 [⟨4, 0⟩] rr.1 0)) _ _ _ _ _ (by omega)) | exact (head_ok (m.dG id a (m.partX a) (m.params (a+1+1+1+1+1) (m.nx (a+1+1+1+1) 3).toNat) [] (((((m.params (a+1+1+1+1+1) (m.nx (a+1+1+1+1) 3).toNat).map encR).length : Nat) : Int) + 2 + m.nx ((a+1+1+1+1+1 + (m.nx (a+1+1+1+1) 3).toNat)+1) 2) 2 [⟨4, 0⟩] rr.1 (rr.2.s+1 : Nat)))); refine run ?_)
    exact Done.mk rfl rfl
end Abs
namespace Abs
open Go Go.Proofs
set_option maxRecDepth 100000
set_option maxHeartbeats 4000000
def Mk.defR (m : Mk) (id : Int) (a s : Nat) (part : Int) (c : Nat) (gs : List Rng) (b2 : Nat) (ar : List Ar) : Df × Ms :=
  (m.dG id a part (m.params (a+1+1+1+1+1) c) gs ((((m.params (a+1+1+1+1+1) c).map encR).length : Nat) + 2 + m.nx ((a+1+1+1+1+1 + c)+1) 2) 2 ar
    ((m.with' (m.dG id a part (m.params (a+1+1+1+1+1) c) gs ((((m.params (a+1+1+1+1+1) c).map encR).length : Nat) + 2 + m.nx ((a+1+1+1+1+1 + c)+1) 2) 2 ar [] 0)).stmts 2 (1 + m.nx b2 5).toNat ⟨b2+1, s, 9, 0⟩).1
    (((m.with' (m.dG id a part (m.params (a+1+1+1+1+1) c) gs ((((m.params (a+1+1+1+1+1) c).map encR).length : Nat) + 2 + m.nx ((a+1+1+1+1+1 + c)+1) 2) 2 ar [] 0)).stmts 2 (1 + m.nx b2 5).toNat ⟨b2+1, s, 9, 0⟩).2.s+1 : Nat),
   ((m.with' (m.dG id a part (m.params (a+1+1+1+1+1) c) gs ((((m.params (a+1+1+1+1+1) c).map encR).length : Nat) + 2 + m.nx ((a+1+1+1+1+1 + c)+1) 2) 2 ar [] 0)).stmts 2 (1 + m.nx b2 5).toNat ⟨b2+1, s, 9, 0⟩).2)
def Mk.def' (m : Mk) (id : Int) (th : Bool) (a s : Nat) : Df × Ms :=
  m.defR id a s (if m.nx (a+1+1+1) 2 == 0 then 0 else m.partX a)
    (if th then 0 else (m.nx (a+1+1+1+1) 3).toNat)
    (if (m.nx ((a+1+1+1+1+1 + (if th then 0 else (m.nx (a+1+1+1+1) 3).toNat))) 4 == 0) && !th then [givenR] else [])
    (if (if th then 0 else (m.nx (a+1+1+1+1) 3).toNat) = 0 then ((a+1+1+1+1+1 + (if th then 0 else (m.nx (a+1+1+1+1) 3).toNat))+1+1) else ((a+1+1+1+1+1 + (if th then 0 else (m.nx (a+1+1+1+1) 3).toNat))+1+1+1))
    (if (if th then 0 else (m.nx (a+1+1+1+1) 3).toNat) = 0 then [⟨4, 0⟩] else if m.nx ((a+1+1+1+1+1 + (m.nx (a+1+1+1+1) 3).toNat)+1+1) 2 == 0 then [⟨4, 0⟩, ⟨8, 1⟩] else [⟨4, 0⟩])
theorem def_ok (m : Mk) (id : Int) (th : Bool) (a s l p d : Nat) (fine : m.Core) (hid : 0 ≤ id ∧ id < 100) (h : a + 5000 < 2^58) (h' : s + 300 < 2^58) (hp : p < 2^40) (hlen : m.heads.length < 2^20 ∧ m.defs.length < 2^20) :
    CallsA Tryz.prog 110 [mp, it id, bo th] (ctM m a s l p d) (.tup [])
      (ctEnd m (m.def' id th a s).1 (m.def' id th a s).2.a ((m.def' id th a s).2.s+1) (m.def' id th a s).2.l p (m.def' id th a s).2.d) := by
  have bX := m.nx_bd (a+1+1+1+1) (n := 3) (by omega)
  cases th
  · by_cases hX : m.nx (a+1+1+1+1) 3 = 0
    · have hX3 : (m.nx (a+1+1+1+1) 3).toNat = 0 := by omega
      cases t0 : (m.nx (a+1+1+1) 2 == 0) <;> cases t1 : (m.nx (a+1+1+1+1+1 + (m.nx (a+1+1+1+1) 3).toNat) 4 == 0)
      all_goals
        have e : m.def' id false a s = m.defR id a s (if m.nx (a+1+1+1) 2 == 0 then 0 else m.partX a) (m.nx (a+1+1+1+1) 3).toNat (if m.nx (a+1+1+1+1+1 + (m.nx (a+1+1+1+1) 3).toNat) 4 == 0 then [givenR] else []) ((a+1+1+1+1+1 + (m.nx (a+1+1+1+1) 3).toNat)+1+1) [⟨4, 0⟩] := by
          simp only [Mk.def', Bool.not_false, Bool.and_true, Bool.false_eq_true, if_false, if_pos hX3]
        rw [e, t0, t1]
      · exact def_f000 m id a s l p d fine hid h h' hp hlen t0 t1 hX
      · exact def_f010 m id a s l p d fine hid h h' hp hlen t0 t1 hX
      · exact def_f100 m id a s l p d fine hid h h' hp hlen t0 t1 hX
      · exact def_f110 m id a s l p d fine hid h h' hp hlen t0 t1 hX
    · have hX2 : 0 < m.nx (a+1+1+1+1) 3 := by omega
      have hX3 : ¬ (m.nx (a+1+1+1+1) 3).toNat = 0 := by omega
      cases t0 : (m.nx (a+1+1+1) 2 == 0) <;> cases t1 : (m.nx (a+1+1+1+1+1 + (m.nx (a+1+1+1+1) 3).toNat) 4 == 0) <;> cases t2 : (m.nx ((a+1+1+1+1+1 + (m.nx (a+1+1+1+1) 3).toNat)+1+1) 2 == 0)
      all_goals
        have e : m.def' id false a s = m.defR id a s (if m.nx (a+1+1+1) 2 == 0 then 0 else m.partX a) (m.nx (a+1+1+1+1) 3).toNat (if m.nx (a+1+1+1+1+1 + (m.nx (a+1+1+1+1) 3).toNat) 4 == 0 then [givenR] else []) ((a+1+1+1+1+1 + (m.nx (a+1+1+1+1) 3).toNat)+1+1+1) (if m.nx ((a+1+1+1+1+1 + (m.nx (a+1+1+1+1) 3).toNat)+1+1) 2 == 0 then [⟨4, 0⟩, ⟨8, 1⟩] else [⟨4, 0⟩]) := by
          simp only [Mk.def', Bool.not_false, Bool.and_true, Bool.false_eq_true, if_false, if_neg hX3]
        rw [e, t0, t1, t2]
      · exact def_f002 m id a s l p d fine hid h h' hp hlen t0 t1 hX2 t2
      · exact def_f001 m id a s l p d fine hid h h' hp hlen t0 t1 hX2 t2
      · exact def_f012 m id a s l p d fine hid h h' hp hlen t0 t1 hX2 t2
      · exact def_f011 m id a s l p d fine hid h h' hp hlen t0 t1 hX2 t2
      · exact def_f102 m id a s l p d fine hid h h' hp hlen t0 t1 hX2 t2
      · exact def_f101 m id a s l p d fine hid h h' hp hlen t0 t1 hX2 t2
      · exact def_f112 m id a s l p d fine hid h h' hp hlen t0 t1 hX2 t2
      · exact def_f111 m id a s l p d fine hid h h' hp hlen t0 t1 hX2 t2
  · cases t0 : (m.nx (a+1+1+1) 2 == 0) <;> cases t1 : (m.nx (a+1+1+1+1+1 + 0) 4 == 0)
    all_goals
      have e : m.def' id true a s = m.defR id a s (if m.nx (a+1+1+1) 2 == 0 then 0 else m.partX a) 0 [] (a+1+1+1+1+1 + 0+1+1) [⟨4, 0⟩] := by
        simp only [Mk.def', Bool.not_true, Bool.and_false, Bool.false_eq_true, if_false, if_true]
      rw [e, t0]
    · exact def_t00 m id a s l p d fine hid h h' hp hlen t0 t1
    · exact def_t01 m id a s l p d fine hid h h' hp hlen t0 t1
    · exact def_t10 m id a s l p d fine hid h h' hp hlen t0 t1
    · exact def_t11 m id a s l p d fine hid h h' hp hlen t0 t1
end Abs
namespace Abs
open Go Go.Proofs
set_option maxRecDepth 100000
set_option maxHeartbeats 4000000
theorem Mk.defR_use (m : Mk) (hh : ∀ h ∈ m.heads, h.params.length ≤ 12 ∧ h.given.length ≤ 12) (id : Int) (a s : Nat) (part : Int) (c : Nat) (gs : List Rng) (b2 : Nat) (ar : List Ar) :
    (m.defR id a s part c gs b2 ar).2.a ≤ b2 + 1801 ∧ (m.defR id a s part c gs b2 ar).2.s ≤ s + 90 ∧ (m.defR id a s part c gs b2 ar).2.l ≤ 9 ∧ (m.defR id a s part c gs b2 ar).2.d ≤ 2 ∧
    (m.defR id a s part c gs b2 ar).1.params.length = c ∧ (m.defR id a s part c gs b2 ar).1.given.length = gs.length := by
  have us := (m.with' (m.dG id a part (m.params (a+1+1+1+1+1) c) gs ((((m.params (a+1+1+1+1+1) c).map encR).length : Nat) + 2 + m.nx ((a+1+1+1+1+1 + c)+1) 2) 2 ar [] 0)).stmts_use hh 2 (1 + m.nx b2 5).toNat ⟨b2+1, s, 9, 0⟩
  simp only [Less] at us
  refine ⟨?_, ?_, ?_, ?_, m.params_len _ _, rfl⟩
  all_goals (simp only [Mk.defR]; omega)
theorem Mk.def_use (m : Mk) (hh : ∀ h ∈ m.heads, h.params.length ≤ 12 ∧ h.given.length ≤ 12) (id : Int) (th : Bool) (a s : Nat) :
    (m.def' id th a s).2.a ≤ a + 1850 ∧ (m.def' id th a s).2.s ≤ s + 90 ∧ (m.def' id th a s).2.l ≤ 9 ∧ (m.def' id th a s).2.d ≤ 2 ∧
    (m.def' id th a s).1.params.length ≤ 2 ∧ (m.def' id th a s).1.given.length ≤ 1 := by
  have bX := m.nx_bd (a+1+1+1+1) (n := 3) (by omega)
  obtain ⟨c, hc, hc2⟩ : ∃ c, (if th then 0 else (m.nx (a+1+1+1+1) 3).toNat) = c ∧ c ≤ 2 := ⟨_, rfl, by split <;> omega⟩
  unfold Mk.def'
  rw [hc]
  have hb : (if c = 0 then ((a+1+1+1+1+1 + c)+1+1) else ((a+1+1+1+1+1 + c)+1+1+1)) ≤ a + 10 := by split <;> omega
  have hg : (if (m.nx ((a+1+1+1+1+1 + c)) 4 == 0) && !th then [givenR] else []).length ≤ 1 := by split <;> simp
  have u := m.defR_use hh id a s (if m.nx (a+1+1+1) 2 == 0 then 0 else m.partX a) c (if (m.nx ((a+1+1+1+1+1 + c)) 4 == 0) && !th then [givenR] else []) (if c = 0 then ((a+1+1+1+1+1 + c)+1+1) else ((a+1+1+1+1+1 + c)+1+1+1))
    (if c = 0 then [⟨4, 0⟩] else if m.nx ((a+1+1+1+1+1 + (m.nx (a+1+1+1+1) 3).toNat)+1+1) 2 == 0 then [⟨4, 0⟩, ⟨8, 1⟩] else [⟨4, 0⟩])
  refine ⟨?_, ?_, ?_, ?_, ?_, ?_⟩
  all_goals omega
def zD : Df := ⟨0, 0, [], 0, 0, [], [], 0, 0, [], 0, []⟩
structure MdS where
  a : Nat
  s : Nat
  l : Nat
  d : Nat
  heads : List Hd
  defs : List Df
  D : Df
def MdS.mk' (L : List UInt8) (x : MdS) : Mk := ⟨L, declD, x.heads, x.defs, [], x.D, false⟩
def encMkN (m : Mk) (h k t : Nat) (a s l p d : Nat) : Dat := .agg ([byt m.L, it a] ++ (cDc m.d ++ ([.ref h (m.heads.map encH).length, .ref k (m.defs.map encD).length, .ref t (m.th.map it).length] ++ (cD m.D ++ [it s, it l, it p, it d, bo m.calm]))))
def lastT (L : List UInt8) (last : Bool) (x : MdS) : Bool := last || (x.mk' L).nx x.a 5 == 0
def lastA (last : Bool) (x : MdS) : Nat := if last then x.a else x.a + 1
def defOf (L : List UInt8) (last : Bool) (i : Nat) (x : MdS) : Df × Ms := (x.mk' L).def' (11 + i) (lastT L last x) (lastA last x) x.s
def MdS.after (x : MdS) (r : Df × Ms) : MdS := ⟨r.2.a, r.2.s + 1, r.2.l, r.2.d, x.heads ++ [headOf r.1], x.defs ++ [r.1], r.1⟩
def mdRun (L : List UInt8) (n : Nat) : Nat → MdS
  | 0 => ⟨1, 100, 0, 0, [], [], zD⟩
  | i + 1 => (mdRun L n i).after (defOf L (i + 1 == n) i (mdRun L n i))
structure MdOk (i : Nat) (x : MdS) : Prop where
  a : x.a ≤ 1 + 1851 * i
  s : x.s ≤ 100 + 91 * i
  l : x.l ≤ 9
  d : x.d ≤ 2
  heads : ∀ h ∈ x.heads, h.params.length ≤ 12 ∧ h.given.length ≤ 12
  nh : x.heads.length = i
  nd : x.defs.length = i
theorem mdRun_ok (L : List UInt8) (n : Nat) : ∀ i, MdOk i (mdRun L n i)
  | 0 => ⟨by simp [mdRun], by simp [mdRun], by simp [mdRun], by simp [mdRun], by simp [mdRun], rfl, rfl⟩
  | i + 1 => by
    have h := mdRun_ok L n i
    have u := ((mdRun L n i).mk' L).def_use h.heads (11 + i) (lastT L (i + 1 == n) (mdRun L n i)) (lastA (i + 1 == n) (mdRun L n i)) (mdRun L n i).s
    have ha : lastA (i + 1 == n) (mdRun L n i) ≤ (mdRun L n i).a + 1 := by unfold lastA; split <;> omega
    have h1 := h.a; have h2 := h.s
    refine ⟨?_, ?_, u.2.2.1, u.2.2.2.1, ?_, ?_, ?_⟩
    · show (defOf L (i + 1 == n) i (mdRun L n i)).2.a ≤ _; unfold defOf; omega
    · show (defOf L (i + 1 == n) i (mdRun L n i)).2.s + 1 ≤ _; unfold defOf; omega
    · intro x hx
      rcases List.mem_append.1 hx with hx | hx
      · exact h.heads x hx
      · have e := List.mem_singleton.1 hx
        subst e
        exact ⟨Nat.le_trans u.2.2.2.2.1 (by omega), Nat.le_trans u.2.2.2.2.2 (by omega)⟩
    · show (_ ++ [_]).length = _; rw [List.length_append, h.nh]; rfl
    · show (_ ++ [_]).length = _; rw [List.length_append, h.nd]; rfl
def hintMade : Nat → List Ad
  | 2 => [.cell 15 9 16, .cell 15 10 17, .cell 15 11 18, .layCell 15 17, .layCell 15 18, .layCell 15 21, .layCell 15 23]
  | 14 => [.layCell 15 9, .layCell 15 10, .layCell 15 11]
  | _ => []
def thRun (ds : List Df) : Nat → List Int → List Int
  | 0, acc => acc
  | k + 1, acc => if acc.length < 2 then thRun ds k (match ds[k]? with | some D => if D.params.length + D.given.length = 0 then acc ++ [D.id] else acc | none => acc) else acc
def madeP (L : List UInt8) : Pg :=
  let n := (1 + (zD, (⟨L, declD, [], [], [], zD, false⟩ : Mk).nx 0 4).2).toNat
  let x := mdRun L n n
  let t := thRun x.defs n []
  ⟨declD, x.heads, x.defs, if (x.mk' L).nx x.a 3 == 0 then t.take 1 else t⟩
end Abs
namespace Abs
open Go Go.Proofs Go.Shelf Go.Sort Go.RowKit
def intD (n : Int) : Dat := .int .i64 n
theorem flat_intD (l : List Int) : (l.map intD).flatMap cells = l.map intD := by
  induction l with
  | nil => rfl
  | cons x l ih => rw [List.map_cons, List.flatMap_cons, ih]; rfl
theorem row_one {γ : Gh} {w : World} {zs : List Int} {cx : Cx} (hm : Mem cx γ (init [.ref 1000 (zs.map intD).length] ⟨[], [⟨1, true, zs.map intD⟩]⟩) w) {v : Value} (hv : Rep γ v (.ref 1000 (zs.map intD).length)) (hne : zs ≠ []) :
    ∃ (t : Tv) (b : Nat) (c : Array Value) (e : TypeId) (fz : Nat × Nat), γ.tv 1000 = some t ∧ t.sz = 1 ∧ t.n = zs.length ∧ t.base = some b ∧ v = .slice (some ⟨b, 0, none⟩) zs.length t.cap ∧ t.n ≤ t.cap ∧ w.heap[b]? = some (.cells c e fz) ∧ Free fz c.size ∧ t.cap ≤ c.size ∧ cx.mine b ∧
      (∀ l, γ.mu l ≠ some b) ∧ (∀ j, γ.I b j = none) ∧ ∀ (j : Nat) (x : Int), zs[j]? = some x → c[j]? = some (Value.int .i64 x) := by
  obtain ⟨t, h1, h2, h3, h4, h5⟩ := hm.row 1000 ⟨1, true, zs.map intD⟩ rfl
  obtain ⟨t', k1, k2, k3, k4⟩ := hv.ref_val
  rw [h1] at k1; cases k1
  have h3' : t.n = zs.length := by simpa using h3
  have hv' := k3 (by simp [h3'])
  unfold RowAt at h5
  cases hb : t.base with
  | none =>
    rw [hb] at h5
    have := h5.1
    simp at this
    exact absurd this hne
  | some b =>
    rw [hb] at h5
    obtain ⟨p1, p2, p3, c, e, fz, p4, p5, p6, p7, p8, p9⟩ := h5
    refine ⟨t, b, c, e, fz, h1, h2, h3', hb, ?_, p1, p4, p5, by simpa using p6, p2, p3, p8 rfl, fun j x hx => ?_⟩
    · rw [hv']; unfold Tv.value; rw [hb]; simp [h3']
    · have hn : nth ((zs.map intD).flatMap cells) j = some (intD x) := by
        rw [flat_intD, nth_eq, List.getElem?_map, hx]; rfl
      obtain ⟨v, v1, v2, _⟩ := p9 j _ hn
      have : v = .int .i64 x := by cases v2; rfl
      rw [← this]; exact v1
theorem heap_putRow {w : World} {b : Nat} {d : Array Int} {c : Array Value} {e : TypeId} {fz : Nat × Nat} (h : w.heap[b]? = some (.cells c e fz)) :
    (putRow (Value.int .i64) w b 0 d).heap[b]? = some (.cells (putCells (Value.int .i64) 0 d c) e fz) := by
  have hlt := lt_of_blk h
  show (w.heap.modify b _)[b]? = _
  rw [Array.getElem?_eq_getElem (by rw [Array.size_modify]; exact hlt), Array.getElem_modify_self]
  have : w.heap[b] = .cells c e fz := by rw [Array.getElem?_eq_getElem hlt] at h; exact Option.some.inj h
  rw [this]; rfl
theorem heap_putRow_ne {w : World} {b k : Nat} {d : Array Int} (h : k ≠ b) : (putRow (Value.int .i64) w b 0 d).heap[k]? = w.heap[k]? := by
  show (w.heap.modify b _)[k]? = _
  by_cases hk : k < w.heap.size
  · rw [Array.getElem?_eq_getElem (by rw [Array.size_modify]; exact hk), Array.getElem_modify_of_ne (Ne.symm h), Array.getElem?_eq_getElem hk]
  · rw [Array.getElem?_eq_none (by rw [Array.size_modify]; omega), Array.getElem?_eq_none (by omega)]
theorem heap_grow {w : World} {os : Array Obj} {k : Nat} (h : k < w.heap.size) : (grow w os).heap[k]? = w.heap[k]? := by
  show (w.heap ++ os)[k]? = _
  rw [Array.getElem?_append_left h]
theorem row_back {γ : Gh} {w w' : World} {zs ys : List Int} {X : Nat → Prop} (hX : X = γ.X) (hm : Mem (Cx.of 0 X w γ.I) γ (init [.ref 1000 (zs.map intD).length] ⟨[], [⟨1, true, zs.map intD⟩]⟩) w) {t : Tv} {b : Nat} {c : Array Value} {e : TypeId} {fz : Nat × Nat}
    (h1 : γ.tv 1000 = some t) (hb : t.base = some b) (hn : t.n = zs.length) (hcap : t.n ≤ t.cap) (hc : w.heap[b]? = some (.cells c e fz)) (hfz : Free fz c.size) (hcs : t.cap ≤ c.size) (hmine : (Cx.of 0 X w γ.I).mine b) (hmu : ∀ l, γ.mu l ≠ some b) (hI : ∀ j, γ.I b j = none)
    (hlen : ys.length = zs.length) (q : Nat) (os : Array Obj) (hw : w' = grow (putRow (Value.int .i64) (Sort.ahead w q) b 0 ys.toArray) os) (own : Bool) :
    ∃ γ' : Gh, Ext γ γ' ∧ γ'.tv = γ.tv ∧ Mem (Cx.of 0 X w γ.I) γ' (init [] ⟨[], [⟨1, own, ys.map intD⟩]⟩) w' ∧ (own = false → ∀ j x, ys[j]? = some x → γ'.I b j = some (Value.int .i64 x)) := by
  have hb1 : w'.heap[b]? = some (.cells (putCells (Value.int .i64) 0 ys.toArray c) e fz) := by
    rw [hw, heap_grow (by have := lt_of_blk hc; simpa [putRow, mapBlock, Sort.ahead] using this)]
    exact heap_putRow (w := Sort.ahead w q) hc
  have hsz : w.heap.size ≤ w'.heap.size := by rw [hw]; simp [grow, putRow, mapBlock, Sort.ahead]
  have hoth : ∀ k, k < w.heap.size → k ≠ b → w'.heap[k]? = w.heap[k]? := fun k hk hne => by
    rw [hw, heap_grow (by simpa [putRow, mapBlock, Sort.ahead] using hk)]
    exact heap_putRow_ne (w := Sort.ahead w q) hne
  have hpc : ∀ j x, ys[j]? = some x → (putCells (Value.int .i64) 0 ys.toArray c)[j]? = some (Value.int .i64 x) := fun j x hx => by
    have hj : j < ys.length := (List.getElem?_eq_some_iff.1 hx).1
    have hjc : j < c.size := by omega
    have hx' : ys[j] = x := (List.getElem?_eq_some_iff.1 hx).2
    unfold putCells
    rw [Array.getElem?_eq_getElem (by simpa using hjc)]
    simp [hj, hx']
  have hpcs : (putCells (Value.int .i64) 0 ys.toArray c).size = c.size := by simp [putCells]
  obtain ⟨γ', hγ'⟩ : ∃ γ' : Gh, γ' = { γ with I := fun x o => if x = b ∧ own = false ∧ o < ys.length then (ys[o]?).map (Value.int .i64) else γ.I x o } := ⟨_, rfl⟩
  have hs : SubI γ.I γ'.I := fun x o v hv => by
    rw [hγ']; dsimp only
    split
    · rename_i hcond
      rw [hcond.1, hI o] at hv; cases hv
    · exact hv
  have I1 : ∀ x o, x ≠ b → γ'.I x o = γ.I x o := fun x o hx => by rw [hγ']; dsimp only; rw [if_neg (fun h => hx h.1)]
  have I2 : own = true → ∀ j, γ'.I b j = none := fun ho j => by rw [hγ']; dsimp only; rw [if_neg (fun h => by rw [ho] at h; cases h.2.1)]; exact hI j
  have I3 : own = false → ∀ j x, ys[j]? = some x → γ'.I b j = some (Value.int .i64 x) := fun ho j x hx => by
    have hj : j < ys.length := (List.getElem?_eq_some_iff.1 hx).1
    rw [hγ']; dsimp only; rw [if_pos ⟨rfl, ho, hj⟩, hx]; rfl
  have I4 : ∀ j, ys.length ≤ j → γ'.I b j = none := fun j hj => by rw [hγ']; dsimp only; rw [if_neg (fun h => by omega)]; exact hI j
  have hext : Ext γ γ' := ⟨hs, fun l x h => by rw [hγ']; exact h, fun k u h => ⟨u, by rw [hγ']; exact h, rfl, .inr rfl⟩⟩
  have hiw : Cells γ'.I w' := fun x o v hv => by
    by_cases hx : x = b
    · subst hx
      cases hown : own with
      | true => rw [I2 hown] at hv; cases hv
      | false =>
        rcases Nat.lt_or_ge o ys.length with h | h
        · have hx0 : ys[o]? = some ys[o] := List.getElem?_eq_getElem h
          rw [I3 hown o _ hx0] at hv; cases hv
          exact ⟨(cell_blk hb1).trans (hpc o _ hx0), rfl⟩
        · rw [I4 o h] at hv; cases hv
    · rw [I1 x o hx] at hv
      have := hm.iw x o v hv
      exact ⟨(cell_same (hoth x (cell_lt this.1) hx)).trans this.1, this.2⟩
  refine ⟨γ', hext, by rw [hγ'], ?_, I3⟩
  have only : ∀ k u, γ.tv k = some u → k = 1000 := fun k u hk => by
    obtain ⟨r, hr⟩ := hm.norow k u hk
    have : rowArgs [⟨1, true, zs.map intD⟩] 1000 (fun _ => none) k = some r := hr
    by_cases h : k = 1000
    · exact h
    · have : upd (fun _ => none) 1000 (some (⟨1, true, zs.map intD⟩ : Row)) k = some r := this
      rw [upd_ne _ _ _ _ h] at this; cases this
  have nobox : ∀ l x, γ.mu l ≠ some x := fun l x h => by
    obtain ⟨d, hd⟩ := hm.nobox l x h
    have : boxArgs [] 1000 (fun _ => none) l = some d := hd
    cases this
  refine ⟨hiw, fun l d h => ?_, fun l x h => ?_, fun l m x h1 h2 => ?_, fun l x h o => ?_, fun k r hr => ?_, fun k u hk => ?_, fun k j u v x h1 h2 h3 h4 => ?_, fun x o v hv => ?_, ?_, fun k hk => ?_⟩
  · have : boxArgs [] 1000 (fun _ => none) l = some d := h
    cases this
  · rw [hγ'] at h; exact absurd h (nobox l x)
  · rw [hγ'] at h1; exact absurd h1 (nobox l x)
  · rw [hγ'] at h; exact absurd h (nobox l x)
  · have hr' : upd (fun _ => none) 1000 (some (⟨1, own, ys.map intD⟩ : Row)) k = some r := hr
    by_cases h : k = 1000
    · subst h
      rw [upd_eq] at hr'; cases hr'
      obtain ⟨t', k1, k2, k3, k4, k5⟩ := hm.row 1000 ⟨1, true, zs.map intD⟩ rfl
      rw [h1] at k1; cases k1
      refine ⟨t, by rw [hγ']; exact h1, k2, by simp [hn, hlen], fun e he => by obtain ⟨x, _, rfl⟩ := List.mem_map.1 he; rfl, ?_⟩
      unfold RowAt
      rw [hb]
      refine ⟨hcap, hmine, fun l => by rw [hγ']; exact hmu l, _, e, fz, hb1, by rw [hpcs]; exact hfz, by rw [hpcs]; simpa using hcs, fun j hj => I4 j (by rw [hn] at hj; dsimp only at hj; omega), fun ho j => I2 ho j, fun j d hd => ?_⟩
      rw [flat_intD, nth_eq, List.getElem?_map] at hd
      cases hx : ys[j]? with
      | none => rw [hx] at hd; cases hd
      | some x =>
        rw [hx] at hd; cases hd
        exact ⟨_, hpc j x hx, .int _ _, rfl, fun ho => I3 ho j x hx⟩
    · rw [upd_ne _ _ _ _ h] at hr'; cases hr'
  · rw [hγ'] at hk
    have := only k u hk
    subst this
    exact ⟨_, rfl⟩
  · rw [hγ'] at h1 h2
    exact (only k u h1).trans (only j v h2).symm
  · by_cases hx : x = b
    · subst hx; exact .inr hmine
    · rw [I1 x o hx] at hv
      exact .inl hv
  · show Frame w w' X
    refine ⟨by rw [hw]; rfl, by rw [hw]; rfl, by rw [hw]; rfl, hsz, fun k hk hx => hoth k hk fun e => hx ?_⟩
    rw [e, hX]
    exact .inr ⟨1000, t, h1, hb⟩
  · exact .inl (Nat.le_trans hsz hk)
end Abs
