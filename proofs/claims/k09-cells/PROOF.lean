import PyProof.Rows.All
import Wide.All
import OpenK.AllK
import Wide.FinOn
import HandS.ForMost
import HandS.IsInst
import PySem.Challenge.RW_discwright_k09_whole_cells_come_back_fro
set_option Elab.async false
set_option maxRecDepth 100000
set_option maxHeartbeats 2000000
namespace K9
/-! ### the mathematics: counts of cells, written as times and read back -/
/-- one cell more: (the counts so far, the cells behind the last 1) -/
def step (s : List Int × Int) (b : Int) : List Int × Int := if b = 1 then (s.1 ++ [s.2 + 1], 0) else (s.1, s.2 + 1)
def cnt (bs : List Int) : List Int × Int := bs.foldl step ([], 0)
/-- the cells of one count -/
def cell1 (n : Int) : List Int := List.replicate (n - 1).toNat 0 ++ [1]
def dec (ns : List Int) : List Int := ns.flatMap cell1
def whole (ns : List Int) (r : Int) : List Int := dec ns ++ List.replicate r.toNat 0
theorem dec_snoc (ns : List Int) (n : Int) : dec (ns ++ [n]) = dec ns ++ cell1 n := by
  unfold dec
  rw [List.flatMap_append]
  simp
/-- what holds of a state behind the cells pre -/
structure Good (s : List Int × Int) (pre : List Int) : Prop where
  wh : whole s.1 s.2 = pre
  r0 : 0 ≤ s.2
  rl : s.2 ≤ (pre.length : Int)
  nl : s.1.length ≤ pre.length
  ns : ∀ n ∈ s.1, 1 ≤ n ∧ n ≤ (pre.length : Int)
theorem good_step {s : List Int × Int} {pre : List Int} {b : Int} (h : Good s pre) (hb : b = 0 ∨ b = 1) : Good (step s b) (pre ++ [b]) := by
  obtain ⟨ns, r⟩ := s
  obtain ⟨h1, h2, h3, h4, h5⟩ := h
  simp only at h1 h2 h3 h4 h5
  have el : ((pre ++ [b]).length : Int) = (pre.length : Int) + 1 := by simp
  have eln : (pre ++ [b]).length = pre.length + 1 := by simp
  rcases hb with rfl | rfl
  · have e : step (ns, r) 0 = (ns, r + 1) := by unfold step; simp
    rw [e]
    refine ⟨?_, by simp only; omega, by simp only; rw [el]; omega, by simp only; rw [eln]; omega, ?_⟩
    · simp only
      rw [← h1]
      unfold whole
      have : (r + 1).toNat = r.toNat + 1 := by omega
      rw [this, List.replicate_succ', List.append_assoc]
    · intro n hn
      have := h5 n hn
      rw [el]
      omega
  · have e : step (ns, r) 1 = (ns ++ [r + 1], 0) := by unfold step; simp
    rw [e]
    refine ⟨?_, by simp only; omega, by simp only; rw [el]; omega, by simp only; rw [eln, List.length_append, List.length_singleton]; omega, ?_⟩
    · simp only
      rw [← h1]
      unfold whole
      rw [dec_snoc]
      unfold cell1
      have : (r + 1 - 1).toNat = r.toNat := by omega
      rw [this]
      simp
    · intro n hn
      rw [el]
      rcases List.mem_append.mp hn with hn | hn
      · have := h5 n hn
        omega
      · have : n = r + 1 := by simpa using hn
        omega
theorem good_run : ∀ (bs : List Int) (s : List Int × Int) (pre : List Int), Good s pre → (∀ b ∈ bs, b = 0 ∨ b = 1) → Good (bs.foldl step s) (pre ++ bs)
  | [], s, pre, h, _ => by simpa using h
  | b :: bs, s, pre, h, hb => by
    have h1 := good_step h (hb b List.mem_cons_self)
    have h2 := good_run bs (step s b) (pre ++ [b]) h1 fun c hc => hb c (List.mem_cons_of_mem _ hc)
    rw [List.append_assoc] at h2
    exact h2
theorem good_cnt {bs : List Int} (hb : ∀ b ∈ bs, b = 0 ∨ b = 1) : Good (cnt bs) bs := by
  have h := good_run bs ([], 0) [] ⟨rfl, by simp, by simp, by simp, by simp⟩ hb
  unfold cnt
  simpa using h
theorem take_more {α : Type} : ∀ {l : List α} {i : Nat} {x : α}, l[i]? = some x → l.take (i + 1) = l.take i ++ [x]
  | [], i, x, h => by simp at h
  | a :: l, 0, x, h => by
    have e : a = x := Option.some.inj h
    subst e
    rfl
  | a :: l, i + 1, x, h => by
    have ih := take_more (l := l) (i := i) (x := x) h
    show a :: l.take (i + 1) = a :: l.take i ++ [x]
    rw [ih]
    rfl
theorem cnt_more {bs : List Int} {i : Nat} {b : Int} (h : bs[i]? = some b) : cnt (bs.take (i + 1)) = step (cnt (bs.take i)) b := by
  unfold cnt
  rw [take_more h, List.foldl_append]
  rfl
/-- the cells that the fixed clock finds in an interval, in the rest -/
def cntOf (c t : Int) : Int := if (2 * t + c).fdiv (2 * c) > 1 then (2 * t + c).fdiv (2 * c) else 1
def restOf (c q : Int) : Int := (2 * q + c).fdiv (2 * c)
theorem fdiv_at {c n d : Int} (hc : 0 < c) (h1 : -c ≤ 2 * d) (h2 : 2 * d < c) : (2 * (n * c + d) + c).fdiv (2 * c) = n := by
  rw [Int.fdiv_eq_ediv_of_nonneg _ (by omega)]
  have e : 2 * (n * c + d) + c = (2 * d + c) + (2 * c) * n := by
    rw [Int.mul_add, Int.mul_comm n c, ← Int.mul_assoc]
    omega
  rw [e, Int.add_mul_ediv_left _ _ (by omega), Int.ediv_eq_zero_of_lt (by omega) (by omega)]
  omega
theorem cntOf_at {c n d : Int} (hc : 0 < c) (hn : 1 ≤ n) (h1 : -c ≤ 2 * d) (h2 : 2 * d < c) : cntOf c (n * c + d) = n := by
  unfold cntOf
  rw [fdiv_at hc h1 h2]
  split <;> omega
theorem restOf_at {c r d q : Int} (hc : 0 < c) (hr : 0 ≤ r) (h1 : -c ≤ 2 * d) (h2 : 2 * d < c) (hq : q = if r * c + d > 0 then r * c + d else 0) : restOf c q = r := by
  unfold restOf
  by_cases h : r * c + d > 0
  · rw [if_pos h] at hq
    rw [hq]
    exact fdiv_at hc h1 h2
  · rw [if_neg h] at hq
    have r0 : r = 0 := by
      rcases Int.lt_or_le 0 r with h' | h'
      · have : c ≤ r * c := by
          have := Int.mul_le_mul_of_nonneg_right (show (1 : Int) ≤ r by omega) (show (0 : Int) ≤ c by omega)
          omega
        omega
      · omega
    subst hq r0
    have e : (2 * (0 : Int) + c) = 2 * (0 * c + 0) + c := by omega
    rw [e]
    exact fdiv_at hc (by omega) (by omega)
theorem mul_bounds {c n m : Int} (hc : 10 ≤ c) (hc2 : c ≤ 1000) (hn : 0 ≤ n) (hm : n ≤ m) : n * c ≤ m * 1000 ∧ n * 10 ≤ n * c := by
  constructor
  · have h1 := Int.mul_le_mul_of_nonneg_right hm (show (0 : Int) ≤ c by omega)
    have h2 := Int.mul_le_mul_of_nonneg_left hc2 (show (0 : Int) ≤ m by omega)
    omega
  · exact Int.mul_le_mul_of_nonneg_left hc hn
theorem len_cell1 {n : Int} (h : 1 ≤ n) : ((cell1 n).length : Int) = n := by
  unfold cell1
  rw [List.length_append, List.length_replicate, List.length_singleton]
  omega
theorem len_dec {m : Nat} : ∀ {ns : List Int}, (∀ n ∈ ns, 1 ≤ n ∧ n ≤ (m : Int)) → (dec ns).length ≤ ns.length * m
  | [], _ => by simp [dec]
  | n :: ns, h => by
    have ih := len_dec (ns := ns) fun x hx => h x (List.mem_cons_of_mem _ hx)
    have h1 := h n List.mem_cons_self
    have h2 := len_cell1 h1.1
    have e : dec (n :: ns) = cell1 n ++ dec ns := by simp [dec]
    rw [e, List.length_append, List.length_cons, Nat.add_mul]
    omega
theorem dec_more {ns : List Int} {i : Nat} {n : Int} (h : ns[i]? = some n) : dec (ns.take (i + 1)) = dec (ns.take i) ++ cell1 n := by
  rw [take_more h, dec_snoc]
theorem at90 {ds : List Int} (hl : ds.length = 90) (hd : ∀ d ∈ ds, 0 ≤ d ∧ d < 4096) (j : Nat) (hj : j < 90) : ∃ d, ds[j]? = some d ∧ 0 ≤ d ∧ d < 4096 := by
  have h : j < ds.length := by omega
  exact ⟨ds[j], List.getElem?_eq_getElem h, hd _ (List.getElem_mem h)⟩
end K9
namespace K9
open PySem L2
/-! ### 1. The text by places -/
def top (i : Nat) : Stmt := PySem.Challenge.pw_discwright_k09_whole_cells_come_back_fro.main.body.getD i (.Pass ⟨0, 0, 0, 0⟩)
abbrev sInit : Stmt := inClass (top 10) 0
abbrev sDem : Stmt := top 11
abbrev sFlux : Stmt := top 12
abbrev sFix : Stmt := top 13
abbrev sCell : Stmt := top 15
abbrev sDraws : Stmt := top 16
abbrev sIsInt : Stmt := top 17
abbrev sInts : Stmt := top 18
abbrev sIsList : Stmt := top 19
abbrev sLaw : Stmt := top 20
/-! ### 2. small words of my own -/
theorem ift {c : Bool} {A B : Prop} (hc : c = true) (h : A) : if c = true then A else B := by
  rw [if_pos hc]
  exact h
theorem iff_ {c : Bool} {A B : Prop} (hc : c = false) (h : B) : if c = true then A else B := by
  rw [hc, if_neg Bool.false_ne_true]
  exact h
theorem sm_upd {H H1 : Hp} {p : Addr} {o : HO} (S : Same H H1) (h : H p = Option.none) : Same H (upd H1 p o) := fun b u e => by
  rw [upd_ne (ne_of_none e h)]
  exact S b u e
theorem kp_upd {H : Hp} {q p : Addr} {o u : HO} (hq : H q = some u) (hp : H p = Option.none) : (upd H p o) q = some u := by
  rw [upd_ne (ne_of_none hq hp)]
  exact hq
theorem atE {xs : List V} {z : Int} {j : Nat} {v : V} (e : z = (j : Int)) (h : xs[j]? = some v) : atI xs z = some v := by
  rw [e]
  exact atI_nat h
theorem map_at {ds : List Int} {j : Nat} {d : Int} (h : ds[j]? = some d) : (ds.map V.int)[j]? = some (V.int d) := by
  rw [List.getElem?_map, h]
  rfl
theorem of_map_at {ds : List Int} {j : Nat} {y : V} (h : (ds.map V.int)[j]? = some y) : ∃ d, ds[j]? = some d ∧ y = V.int d := by
  rw [List.getElem?_map] at h
  cases e : ds[j]? with
  | none =>
    rw [e] at h
    cases h
  | some d =>
    rw [e] at h
    exact ⟨d, rfl, (Option.some.inj h).symm⟩
theorem small {n : Nat} (h : n ≤ 100000) : n < sizeLine := Nat.lt_of_le_of_lt h (by decide)
/-- a % b, b > 0: a letter with its bounds is handed on -/
def rModL : R2 := fun x y H Q => ∃ i j : Int, x = .int i ∧ y = .int j ∧ 0 < j ∧ ∀ m : Int, 0 ≤ m → m < j → Q (.int m) H
theorem op_modL {X : Cx} : OpR X (binaryOp .Mod) rModL := by
  intro pins s σ H x y v u Q I rx ry h
  obtain ⟨i, j, rfl, rfl, hj, q⟩ := h
  exact op_mod pins s σ H _ _ v u Q I rx ry ⟨i, j, rfl, rfl, hj, q _ (Int.emod_nonneg _ (by omega)) (Int.emod_lt_of_pos _ hj)⟩
/-! ### 3. The data -/
theorem ir : ¬ (("intervals" : Str) = "rest") := by decide +kernel
def rf (t : Addr) (r : Int) : List (Str × V) := putF "rest" (.int r) (putF "intervals" (.ref t) [])
theorem rf_eq (t : Addr) (r : Int) : rf t r = ([("intervals", V.ref t), ("rest", V.int r)] : List (Str × V)) := by
  show (if ("intervals" : Str) = "rest" then [(("intervals" : Str), V.int r)] else (("intervals" : Str), V.ref t) :: putF "rest" (V.int r) []) = ([("intervals", V.ref t), ("rest", V.int r)] : List (Str × V))
  rw [if_neg ir]
  all_goals rfl
theorem rf_int (t : Addr) (r : Int) : (rf t r).lookup ("intervals" : Str) = some (.ref t) := by
  unfold rf
  rw [lookup_putF, if_neg ir, lookup_putF, if_pos rfl]
theorem rf_rest (t : Addr) (r : Int) : (rf t r).lookup ("rest" : Str) = some (.int r) := by
  unfold rf
  rw [lookup_putF, if_pos rfl]
/-- a Read stands at p: its intervals are ts, its rest is r -/
def ReadAt (C : Addr) (H : Hp) (p : Addr) (ts : List Int) (r : Int) : Prop := ∃ dx t, H p = some (.ins C dx (rf t r)) ∧ H t = some (.tup (ts.map V.int))
theorem ReadAt.keep {C : Addr} {H H' : Hp} {p : Addr} {ts : List Int} {r : Int} (h : ReadAt C H p ts r) (S : Same H H') : ReadAt C H' p ts r := by
  obtain ⟨dx, t, h1, h2⟩ := h
  exact ⟨dx, t, S _ _ h1, S _ _ h2⟩
/-! ### 4. The promise of each def -/
def spCell (K : PySem.W.Frag) : Sp := fun vs H Q _ => ∃ (a : Addr) (ns : List Int), vs = [.ref a, .int 0] ∧ SqL K H a (ns.map V.int) ∧ ∀ c : Int, Q (.int c) H
def spDraws : Sp := fun vs H Q _ => ∃ c : Int, vs = [.int c, .int 90] ∧ ∀ (p : Addr) (ds : List Int) (H' : Hp), Same H H' → H p = none → H' p = some (.lst (ds.map V.int)) → ds.length = 90 → (∀ d ∈ ds, 0 ≤ d ∧ d < 4096) → Q (.ref p) H'
def spIsInt : Sp := fun vs H Q _ => ∃ i : Int, vs = [.int i] ∧ Q (.bl true) H
def spInts : Sp := fun vs H Q _ => ∃ (a : Addr) (ns : List Int), vs = [.ref a, .str "list"] ∧ H a = some (.lst (ns.map V.int)) ∧ ns.length ≤ 4000 ∧ Q (.bl true) H
def spIsList : Sp := fun vs H Q _ => ∃ (a b : Addr) (ns : List Int), vs = [.ref a, .ref b] ∧ H a = some (.lst (ns.map V.int)) ∧ H b = some (.lst (ns.map V.int)) ∧ ns.length ≤ 4000 ∧ Q (.bl true) H
def spDem : Sp := fun vs H Q _ => ∃ c : Int, vs = [.int c] ∧ 10 ≤ c ∧ c ≤ 1000 ∧ Q .non H
def spInit (C : Addr) : Sp := fun vs H Q _ => ∃ (p dx l : Addr) (ts : List Int) (r : Int), vs = [.ref p, .ref l, .int r] ∧ H p = some (.ins C dx []) ∧ H l = some (.lst (ts.map V.int)) ∧ ts.length ≤ 60 ∧ (∀ t ∈ ts, 1 ≤ t ∧ t ≤ 1000000) ∧ 0 ≤ r ∧ r ≤ 1000000 ∧
  ∀ H' : Hp, (∀ b o, H b = some o → b ≠ p → H' b = some o) → ReadAt C H' p ts r → Q .non H'
def spFlux (K : PySem.W.Frag) (C : Addr) : Sp := fun vs H Q _ => ∃ (l : Addr) (c : Int) (bs : List Int), vs = [.ref l, .int c] ∧ SqL K H l (bs.map V.int) ∧ 10 ≤ c ∧ c ≤ 1000 ∧ bs.length ≤ 60 ∧ (∀ b ∈ bs, b = 0 ∨ b = 1) ∧
  ∀ (H' : Hp) (p : Addr), Same H H' → H p = none → ReadAt C H' p ((cnt bs).1.map (· * c)) ((cnt bs).2 * c) → Q (.ref p) H'
def spFix (C : Addr) : Sp := fun vs H Q _ => ∃ (p : Addr) (c : Int) (ts : List Int) (q : Int) (ns : List Int) (r : Int), vs = [.ref p, .int c] ∧ ReadAt C H p ts q ∧ 10 ≤ c ∧ c ≤ 1000 ∧ (∀ t ∈ ts, 0 ≤ t ∧ t ≤ 1000000) ∧ 0 ≤ q ∧ q ≤ 1000000 ∧ ts.map (cntOf c) = ns ∧ restOf c q = r ∧
  ns.length ≤ 60 ∧ (∀ n ∈ ns, 1 ≤ n ∧ n ≤ 60) ∧ 0 ≤ r ∧ r ≤ 60 ∧ ∀ (H' : Hp) (l : Addr), Same H H' → H l = none → H' l = some (.lst ((whole ns r).map V.int)) → Q (.ref l) H'
def spLaw (K : PySem.W.Frag) : Sp := fun vs H Q _ => ∃ (a : Addr) (ns : List Int), vs = [.ref a] ∧ SqL K H a (ns.map V.int) ∧ ns.length ≤ 63 ∧ ∀ H', Q (.bl true) H'
/-- what the top has written -/
structure Txt (K : PySem.W.Frag) (mg : Str → Option Value) (C fDe fFl fFi fCe fDr fII fIs fIL : Addr) : Prop where
  cl : Cls K C
  nI : NoAttr K C "intervals"
  nR : NoAttr K C "rest"
  gC : mg "Read" = some (.ref C)
  gMost : ∃ t, mg "MOST_INTERVALS" = some (.int 60000 t)
  gLong : ∃ t, mg "LONGEST" = some (.int 1000000 t)
  gSh : ∃ t, mg "SHORTEST_CELL" = some (.int 10 t)
  gLc : ∃ t, mg "LONGEST_CELL" = some (.int 1000 t)
  gDe : mg "demand_cell" = some (.ref fDe)
  gFl : mg "flux_of" = some (.ref fFl)
  gFi : mg "fixed_cells" = some (.ref fFi)
  gCe : mg "_law_cell" = some (.ref fCe)
  gDr : mg "_law_draws" = some (.ref fDr)
  gII : mg "_law_is_int" = some (.ref fII)
  gIs : mg "_law_ints" = some (.ref fIs)
  gIL : mg "_law_is_list" = some (.ref fIL)
  len : mg "len" = none
  range : mg "range" = none
  int : mg "int" = none
  bool : mg "bool" = none
  isi : mg "isinstance" = none
  list : mg "list" = none
  tuple : mg "tuple" = none
  all : mg "all" = none
  max : mg "max" = none
section
variable {P : Program} {w : World} {K : PySem.W.Frag} {mg : Str → Option Value} {base : Heap} {C fDe fFl fFi fCe fDr fII fIs fIL : Addr}
/-! ### 5. One theorem a def -/
theorem scDe : FnScope ["cell"] ["cell"] (defScope sDem) := ⟨rfl, rfl, rfl, by decide +kernel, rfl, by decide +kernel, by decide +kernel⟩
theorem ok_dem {f : Addr} {fd : FuncData} (F : Fun K "demand_cell" "demand_cell" sDem f fd) (T : Txt K mg C fDe fFl fFi fCe fDr fII fIs fIL) : FnOk P w K mg base CX0 1 f fd ["cell"] spDem := by
  refine F.ok scDe (fun vs H Q E h => ?_) (fun cdv A outer s H vs Q E hr h => ?_)
  · obtain ⟨c, rfl, _⟩ := h
    rfl
  · obtain ⟨c, rfl, h1, h2, k⟩ := h
    obtain ⟨t1, m1⟩ := T.gSh
    obtain ⟨t2, m2⟩ := T.gLc
    refine ⟨_, pss_one (ps_if (pt_not (pt_chain op_le op_le (pe_glob (v := .int 10) rfl m1 ⟨_, rfl⟩) (pv 0) (pe_glob (v := .int 1000) rfl m2 ⟨_, rfl⟩))) pss_never pss_nil), ?_⟩
    refine ⟨_, rfl, _, _, rfl, rfl, _, rfl, ift (decide_eq_true h1) ⟨_, _, rfl, rfl, _, rfl, ?_⟩⟩
    exact iteNS h2 k
theorem scCe : FnScope ["_law_script", "_law_k"] ["_law_script", "_law_k"] (defScope sCell) := ⟨rfl, rfl, rfl, by decide +kernel, rfl, by decide +kernel, by decide +kernel⟩
theorem ok_cell {f : Addr} {fd : FuncData} (F : Fun K "_law_cell" "_law_cell" sCell f fd) (T : Txt K mg C fDe fFl fFi fCe fDr fII fIs fIL) : FnOk P w K mg base CX0 1 f fd ["_law_script", "_law_k"] (spCell K) := by
  refine F.ok scCe (fun vs H Q E h => ?_) (fun cdv A outer s H vs Q E hr h => ?_)
  · obtain ⟨a, ns, rfl, _⟩ := h
    rfl
  · obtain ⟨a, ns, rfl, hS, k⟩ := h
    refine ⟨_, pss_cons (ps_if (pt_cmpR op_lt (pv 1) (pe_callB call_len_seq (by rfl) T.len PySem.boot_len (pa_cons (pv 0) pa_nil)) (nomark _)) (pss_one (ps_ret (pe_ix ix_list (pv 0) (pv 1) (fun _ _ => rfl)))) pss_nil) (pss_one (ps_ret pe_int)), ?_⟩
    refine ⟨_, rfl, _, rfl, _, _, rfl, .inl hS, _, _, rfl, rfl, _, rfl, ite2 (fun hlt => ?_) (fun _ => k 0)⟩
    have hlt : (0 : Int) < ((ns.map V.int).length : Int) := of_decide_eq_true hlt
    rw [List.length_map] at hlt
    have h0 : 0 < ns.length := by omega
    exact ⟨_, rfl, _, rfl, _, _, _, _, rfl, rfl, hS, atE (j := 0) rfl (map_at (List.getElem?_eq_getElem h0)), k _⟩
theorem scII : FnScope ["_law_x"] ["_law_x"] (defScope sIsInt) := ⟨rfl, rfl, rfl, by decide +kernel, rfl, by decide +kernel, by decide +kernel⟩
theorem ok_isint {f : Addr} {fd : FuncData} (F : Fun K "_law_is_int" "_law_is_int" sIsInt f fd) (T : Txt K mg C fDe fFl fFi fCe fDr fII fIs fIL) : FnOk P w K mg base CX0 1 f fd ["_law_x"] spIsInt := by
  refine F.ok scII (fun vs H Q E h => ?_) (fun cdv A outer s H vs Q E hr h => ?_)
  · obtain ⟨i, rfl, _⟩ := h
    rfl
  · obtain ⟨i, rfl, k⟩ := h
    refine ⟨_, pss_one (ps_ret (pe_and (pe_callB call_isi (by rfl) T.isi (by decide +kernel) (pa_cons (pv 0) (pa_cons (pe_bltn (v := .ty "int") (by rfl) T.int (by decide +kernel) rfl) pa_nil)))
      (pe_one (pe_not (pe_callB call_isi (by rfl) T.isi (by decide +kernel) (pa_cons (pv 0) (pa_cons (pe_bltn (v := .ty "bool") (by rfl) T.bool (by decide +kernel) rfl) pa_nil))))))), ?_⟩
    refine ⟨_, rfl, _, _, _, _, true, rfl, ClsV.ty "int", .base (.int _), kit_ty (a := "int") (b := "int") (by decide +kernel), _, rfl, iteT ?_⟩
    exact ⟨_, rfl, _, _, _, _, false, rfl, ClsV.ty "bool", .base (.int _), kit_ty (a := "int") (b := "bool") (by decide +kernel), _, rfl, k⟩
theorem scIs : FnScope ["_law_x", "_law_kind", "_law_k"] ["_law_x", "_law_kind"] (defScope sInts) := ⟨rfl, rfl, rfl, by decide +kernel, rfl, by decide +kernel, by decide +kernel⟩
theorem ok_ints {f : Addr} {fd fdI : FuncData} (F : Fun K "_law_ints" "_law_ints" sInts f fd) (T : Txt K mg C fDe fFl fFi fCe fDr fII fIs fIL) (FI : Fun K "_law_is_int" "_law_is_int" sIsInt fII fdI) (bI : Binds K fdI ["_law_x"] []) : FnOk P w K mg base CX0 2 f fd ["_law_x", "_law_kind"] spInts := by
  have GI : FnOk P w K mg base CX0 1 fII fdI ["_law_x"] spIsInt := ok_isint FI T
  refine F.ok scIs (fun vs H Q E h => ?_) (fun cdv A outer s H vs Q E hr h => ?_)
  · obtain ⟨a, ns, rfl, _⟩ := h
    rfl
  · obtain ⟨a, ns, rfl, hL, hlen, k⟩ := h
    have hlm : (ns.map V.int).length = ns.length := List.length_map ..
    refine ⟨_, pss_cons (ps_if (pt_cmpR op_eq (pv 1) pe_str (nomark _))
        (pss_one (ps_if (pt_not (pt_val (pe_callB call_isi (by rfl) T.isi (by decide +kernel) (pa_cons (pv 0) (pa_cons (pe_bltn (v := .ty "list") (by rfl) T.list (by decide +kernel) rfl) pa_nil))))) pss_never pss_nil))
        pss_never)
      (pss_cons (ps_for PassesOwn.never rfl (pi_range1 rfl T.range (pa_cons (pe_callB call_len_seq (by rfl) T.len PySem.boot_len (pa_cons (pv 0) pa_nil)) pa_nil)) (pg_name (i := 2) scIs.nd rfl (Or.inl rfl))
        (pss_one (ps_if (pt_not (pt_val (pe_call GI hr (by rfl) T.gII FI.kp bI .nil pass0 (pa_cons (pe_ix ix_list (pv 0) (pv 2) (fun _ _ => rfl)) pa_nil)))) pss_never pss_nil)))
      (pss_one (ps_ret pe_bl))), ?_⟩
    refine ⟨_, rfl, rfl, _, rfl, ift (by decide) ?_⟩
    refine ⟨_, rfl, _, _, _, _, true, rfl, ClsV.ty "list", .base (.lst hL), kit_ty (a := "list") (b := "list") (by decide +kernel), _, rfl, iteF ?_⟩
    refine ⟨_, rfl, _, _, rfl, .inl (SqL.of hL), _, rfl, by omega, by rw [hlm]; omega, for_range (lo := 0) (n := (ns.map V.int).length) (fun i σ H' => ∃ vk : Option V, σ = [some (.ref a), some (.str "list"), vk] ∧ H' = H) ⟨none, rfl, rfl⟩ ?_ ?_⟩
    · rintro i σ H' hi ⟨vk, rfl, rfl⟩
      rw [hlm] at hi
      refine ⟨_, rfl, _, rfl, _, _, _, _, rfl, rfl, SqL.of hL, atE (j := i) (by omega) (map_at (List.getElem?_eq_getElem hi)), _, rfl, _, rfl, iteF ?_⟩
      exact ⟨_, rfl, rfl⟩
    · rintro σ H' ⟨vk, rfl, rfl⟩
      exact k
theorem dp_ints (H : Hp) : ∀ ns : List Int, DpAll K H (ns.map V.int) (ns.map PyData.int)
  | [] => .nil
  | n :: ns => .cons (.int n) (dp_ints H ns)
theorem can_ints : ∀ ns : List Int, PyData.canLayAll0 (ns.map PyData.int) = true
  | [] => rfl
  | n :: ns => by
    have := can_ints ns
    simp [PyData.canLayAll0, PyData.canLay0, this]
theorem scIL : FnScope ["_law_x", "_law_due"] ["_law_x", "_law_due"] (defScope sIsList) := ⟨rfl, rfl, rfl, by decide +kernel, rfl, by decide +kernel, by decide +kernel⟩
end
end K9
namespace K9
open PySem L2
section
variable {P : Program} {w : World} {K : PySem.W.Frag} {mg : Str → Option Value} {base : Heap} {C fDe fFl fFi fCe fDr fII fIs fIL : Addr}
theorem dep_ints : ∀ ns : List Int, PyData.depthAll (ns.map PyData.int) = 0
  | [] => rfl
  | n :: ns => by
    have := dep_ints ns
    simp [PyData.depthAll, PyData.depth, this]
theorem shaped_ints (ns : List Int) : SeqAt.shaped (.list (ns.map PyData.int)) = true := by
  have h1 : PyData.canLay0 (.list (ns.map PyData.int)) = true := by
    rw [PyData.canLay0]
    exact can_ints ns
  have h2 : PyData.depth (.list (ns.map PyData.int)) = 1 := by
    rw [PyData.depth, dep_ints]
  unfold SeqAt.shaped
  rw [h1, h2]
  rfl
theorem ok_islist {f : Addr} {fd fdS : FuncData} (F : Fun K "_law_is_list" "_law_is_list" sIsList f fd) (T : Txt K mg C fDe fFl fFi fCe fDr fII fIs fIL) (FS : Fun K "_law_ints" "_law_ints" sInts fIs fdS) (bS : Binds K fdS ["_law_x", "_law_kind"] [])
    (GS : FnOk P w K mg base CX0 2 fIs fdS ["_law_x", "_law_kind"] spInts) : FnOk P w K mg base CX0 3 f fd ["_law_x", "_law_due"] spIsList := by
  refine F.ok scIL (fun vs H Q E h => ?_) (fun cdv A outer s H vs Q E hr h => ?_)
  · obtain ⟨a, b, ns, rfl, _⟩ := h
    rfl
  · obtain ⟨a, b, ns, rfl, ha, hb, hlen, k⟩ := h
    refine ⟨_, pss_one (ps_ret (pe_and (pe_call GS hr (by rfl) T.gIs FS.kp bS .nil pass0 (pa_cons (pv 0) (pa_cons pe_str pa_nil))) (pe_one (pe_cmpR (op_eqD hr.units) (pv 0) (pv 1) (nomark _))))), ?_⟩
    refine ⟨_, rfl, a, ns, rfl, ha, hlen, _, rfl, iteT ?_⟩
    refine ⟨_, rfl, _, rfl, _, _, .lst (SqL.of ha) (dp_ints H ns), .lst (SqL.of hb) (dp_ints H ns), shaped_ints ns, shaped_ints ns, ?_⟩
    have e : PyData.eqv (.list (ns.map PyData.int)) (.list (ns.map PyData.int)) = true := SeqAt.eqv_refl _ (SeqAt.canLay_of_shaped (shaped_ints ns))
    show Q (V.bl (PyData.eqv (.list (ns.map PyData.int)) (.list (ns.map PyData.int)))) H
    rw [e]
    exact k
theorem scDr : FnScope ["_law_cell_here", "_law_count", "_law_rows", "_law_left", "_law_k", "_law_mixed"] ["_law_cell_here", "_law_count"] (defScope sDraws) := ⟨rfl, rfl, rfl, by decide +kernel, rfl, by decide +kernel, by decide +kernel⟩
/-- one more draw at the rows' end -/
theorem draw_more {H H' : Hp} {p : Addr} {ds : List Int} {i : Nat} {m : Int} (S : Same H H') (hp : H p = Option.none) (len : ds.length = i) (bd : ∀ d ∈ ds, 0 ≤ d ∧ d < 4096) (h0 : 0 ≤ m) (h1 : m < 4096) :
    Same H (upd H' p (.lst (ds.map V.int ++ [V.int m]))) ∧ (upd H' p (.lst (ds.map V.int ++ [V.int m]))) p = some (.lst ((ds ++ [m]).map V.int)) ∧ (ds ++ [m]).length = i + 1 ∧ ∀ d ∈ ds ++ [m], 0 ≤ d ∧ d < 4096 := by
  refine ⟨sm_upd S hp, ?_, by rw [List.length_append, len]; rfl, fun d hd => ?_⟩
  · rw [upd_same, List.map_append]
    rfl
  · rcases List.mem_append.mp hd with hd | hd
    · exact bd d hd
    · have e : d = m := by simpa using hd
      omega
theorem ok_draws {f : Addr} {fd : FuncData} (F : Fun K "_law_draws" "_law_draws" sDraws f fd) (T : Txt K mg C fDe fFl fFi fCe fDr fII fIs fIL) : FnOk P w K mg base CX0 1 f fd ["_law_cell_here", "_law_count"] spDraws := by
  refine F.ok scDr (fun vs H Q E h => ?_) (fun cdv A outer s H vs Q E hr h => ?_)
  · obtain ⟨c, rfl, _⟩ := h
    rfl
  · obtain ⟨c, rfl, k⟩ := h
    refine ⟨_, pss_cons (ps_set (i := 2) scDr.nd rfl (Or.inl rfl) (pe_lst pa_nil))
      (pss_cons (ps_set (i := 3) scDr.nd rfl (Or.inl rfl) (pv 0))
      (pss_cons (ps_for PassesOwn.never rfl (pi_range1 rfl T.range (pa_cons (pv 1) pa_nil)) (pg_name (i := 4) scDr.nd rfl (Or.inl rfl))
        (pss_one (ps_if (PW.pt (pw_and (pt_cmpR op_ge (pv 0) (pe_op op_pow pe_int pe_int) (nomark _)) (pw_and1 (pt_cmpR op_gt (pv 3) pe_int (nomark _)))))
          (pss_cons (ps_expr (pe_bm PySem.F.plainAttrs_list PySem.F.slot_list_append PySem.F.type_list_append mt_append (pv 2) (pa_cons (pe_op op_modL (pe_callTy call_int1 (by rfl) T.int (by decide +kernel) (pa_cons (pv 3) pa_nil)) pe_int) pa_nil)))
          (pss_one (ps_set (i := 3) scDr.nd rfl (Or.inl rfl) (pe_op op_fdiv (pv 3) pe_int))))
          (pss_cons (ps_set (i := 5) scDr.nd rfl (Or.inl rfl) (pe_op op_modL (pe_callTy call_int1 (by rfl) T.int (by decide +kernel) (pa_cons (pe_op op_add (pe_op op_mul (pv 0) pe_int) (pe_op op_mul (pe_op op_add (pv 4) pe_int) pe_int)) pa_nil)) pe_int))
          (pss_cons (ps_set (i := 5) scDr.nd rfl (Or.inl rfl) (pe_op op_modL (pe_callTy call_int1 (by rfl) T.int (by decide +kernel) (pa_cons (pe_op op_add (pe_op op_add (pe_op op_mul (pv 5) (pv 5)) (pe_op op_mul (pv 5) pe_int)) (pe_op op_mul (pv 4) pe_int)) pa_nil)) pe_int))
          (pss_cons (ps_set (i := 5) scDr.nd rfl (Or.inl rfl) (pe_op op_modL (pe_callTy call_int1 (by rfl) T.int (by decide +kernel) (pa_cons (pe_op op_add (pe_op op_add (pe_op op_mul (pv 5) (pv 5)) (pv 0)) (pe_op op_mul pe_int (pv 4))) pa_nil)) pe_int))
          (pss_one (ps_expr (pe_bm PySem.F.plainAttrs_list PySem.F.slot_list_append PySem.F.type_list_append mt_append (pv 2) (pa_cons (pe_op op_modL (pe_op op_fdiv (pv 5) pe_int) pe_int) pa_nil)))))))))) 
      (pss_one (ps_ret (pv 2))))), ?_⟩
    refine ⟨Nat.zero_le _, fun p hp => ⟨_, rfl, ?_⟩⟩
    refine ⟨_, rfl, _, rfl, by decide, by decide, for_range (lo := 0) (n := 90) (fun i σ H' => ∃ (ds : List Int) (lf : Int) (vk vm : Option V), σ = [some (.int c), some (.int 90), some (.ref p), some (.int lf), vk, vm] ∧
      Same H H' ∧ H' p = some (.lst (ds.map V.int)) ∧ ds.length = i ∧ ∀ d ∈ ds, 0 ≤ d ∧ d < 4096) ⟨[], c, none, none, rfl, sm_upd (Same.refl H) hp, upd_same, rfl, by simp⟩ ?_ ?_⟩
    · rintro i σ H' hi ⟨ds, lf, vk, vm, rfl, S, hL, len, bd⟩
      have hsz : (ds.map V.int).length < sizeLine := small (by rw [List.length_map, len]; omega)
      refine ⟨_, rfl, _, _, rfl, rfl, ⟨by decide, by decide, by decide⟩, _, _, rfl, rfl, _, rfl, ite2 (fun _ => ⟨_, rfl, _, _, rfl, rfl, _, rfl, ite2 (fun _ => ?a) (fun _ => ?b)⟩) (fun _ => iteF ?c)⟩
      case a =>
        refine ⟨_, rfl, .inl ⟨rfl, _, SqL.of hL⟩, _, rfl, .inl ⟨_, rfl, _, _, rfl, rfl, by decide, fun m h0 h1 => ?_⟩⟩
        refine ⟨_, _, _, rfl, rfl, hL, hsz, ?_⟩
        obtain ⟨S2, hL2, len2, bd2⟩ := draw_more S hp len bd h0 h1
        exact ⟨_, rfl, _, _, rfl, rfl, ⟨by decide, by decide⟩, ds ++ [m], _, _, _, rfl, S2, hL2, len2, bd2⟩
      all_goals
        refine ⟨_, rfl, _, _, rfl, rfl, .inr ⟨by decide, by decide⟩, _, rfl, _, _, rfl, rfl, _, _, rfl, rfl, .inr ⟨by decide, by decide⟩, _, _, rfl, rfl, .inl ⟨_, rfl, _, _, rfl, rfl, by decide, fun m0 h0 h1 => ?_⟩⟩
        refine ⟨_, rfl, _, rfl, _, _, rfl, rfl, .inl ⟨by omega, by omega⟩, _, rfl, _, _, rfl, rfl, .inr ⟨by decide, by decide⟩, _, _, rfl, rfl, _, rfl, _, _, rfl, rfl, .inr ⟨by decide, by decide⟩, _, _, rfl, rfl, .inl ⟨_, rfl, _, _, rfl, rfl, by decide, fun m1 h2 h3 => ?_⟩⟩
        refine ⟨_, rfl, _, rfl, _, _, rfl, rfl, .inl ⟨by omega, by omega⟩, _, rfl, _, _, rfl, rfl, _, rfl, _, _, rfl, rfl, .inl ⟨by decide, by decide⟩, _, _, rfl, rfl, .inl ⟨_, rfl, _, _, rfl, rfl, by decide, fun m2 h4 h5 => ?_⟩⟩
        refine ⟨_, rfl, .inl ⟨rfl, _, SqL.of hL⟩, _, rfl, _, _, rfl, rfl, ⟨by decide, by decide⟩, _, _, rfl, rfl, by decide, fun m h6 h7 => ?_⟩
        obtain ⟨S2, hL2, len2, bd2⟩ := draw_more S hp len bd h6 h7
        exact ⟨_, _, _, rfl, rfl, hL, hsz, ds ++ [m], _, _, _, rfl, S2, hL2, len2, bd2⟩
    · rintro σ H' ⟨ds, lf, vk, vm, rfl, S, hL, len, bd⟩
      exact ⟨_, rfl, k p ds H' S hp hL len bd⟩
end
end K9
namespace K9
open PySem L2
section
variable {P : Program} {w : World} {K : PySem.W.Frag} {mg : Str → Option Value} {base : Heap} {C fDe fFl fFi fCe fDr fII fIs fIL : Addr}
theorem all_true : ∀ n : Nat, (List.replicate n true).all id = true
  | 0 => rfl
  | n + 1 => by
    rw [List.replicate_succ, List.all_cons, all_true n]
    rfl
theorem trues_more (n : Nat) : (List.replicate n true).map V.bl ++ [V.bl true] = (List.replicate (n + 1) true).map V.bl := by
  rw [List.replicate_succ', List.map_append]
  rfl
/-! Read.__init__: the last name is the comprehension's own -/
theorem scIn : FnScope ["self", "intervals", "rest", "interval"] ["self", "intervals", "rest"] (defScope sInit) := ⟨rfl, rfl, rfl, by decide +kernel, rfl, by decide +kernel, by decide +kernel⟩
theorem ok_init {f : Addr} {fd : FuncData} (F : Fun K "__init__" "Read.__init__" sInit f fd) (T : Txt K mg C fDe fFl fFi fCe fDr fII fIs fIL) : FnOk P w K mg base CX0 1 f fd ["self", "intervals", "rest"] (spInit C) := by
  refine F.ok scIn (fun vs H Q E h => ?_) (fun cdv A outer s H vs Q E hr h => ?_)
  · obtain ⟨p, dx, l, ts, r, rfl, _⟩ := h
    rfl
  · obtain ⟨p, dx, l, ts, r, rfl, hp, hL, hlen, hts, r0, r1, k⟩ := h
    obtain ⟨t1, m1⟩ := T.gMost
    obtain ⟨t2, m2⟩ := T.gLong
    have hlm : (ts.map V.int).length = ts.length := List.length_map ..
    refine ⟨_, pss_cons (ps_if (PW.pt (pw_or (pt_cmpR op_gt (pe_callB call_len_seq (by rfl) T.len PySem.boot_len (pa_cons (pv 1) pa_nil)) (pe_glob (v := .int 60000) rfl m1 ⟨_, rfl⟩) (nomark _))
          (pw_or1 (pt_not (pt_chain op_le op_le pe_int (pv 2) (pe_glob (v := .int 1000000) rfl m2 ⟨_, rfl⟩)))))) pss_never pss_nil)
      (pss_cons (ps_if (pt_not (pt_val (pe_callB (cr_all rfl) (by rfl) T.all (by decide +kernel) (pa_cons
          (pe_lc (own := [("interval", 3)]) (g := gName 3) (tt := tYes) rfl scIn.nd (pi_list (pv 1)) (blkOk_by (own := [("interval", 3)]) (N := ["self", "intervals", "rest", "interval"]) (sc := defScope sInit) (by decide +kernel))
            (fun _ _ _ _ _ => pg_name (i := 3) scIn.nd rfl (Or.inl rfl)) (fun _ _ _ _ _ => pts_nil) (fun _ _ _ _ _ => pe_chain op_le op_le pe_int (pv 3) (pe_glob (v := .int 1000000) rfl m2 ⟨_, rfl⟩))) pa_nil)))) pss_never pss_nil)
      (pss_cons (ps_fld (pv 0) (pe_callTy call_tuple_of (by rfl) T.tuple (by decide +kernel) (pa_cons (pv 1) pa_nil)) rfl)
      (pss_one (ps_fld (pv 0) (pv 2) rfl)))), ?_⟩
    -- the first test
    refine ⟨_, rfl, _, _, rfl, .inl (SqL.of hL), _, _, rfl, rfl, _, rfl, iff_ (decide_eq_false (by omega)) ?_⟩
    refine ⟨_, rfl, _, _, rfl, rfl, _, rfl, ift (decide_eq_true r0) ⟨_, _, rfl, rfl, _, rfl, iteNS r1 ?_⟩⟩
    -- the second
    refine ⟨_, rfl, l, rfl, ⟨_, SqL.of hL⟩, fun D hD => lc_list (K := K) (a := l) (xs := ts.map V.int) (fun i H' => Same H H' ∧ H' D = some (.lst ((List.replicate i true).map V.bl)))
      ⟨sm_upd (Same.refl H) hD, upd_same⟩ (fun i H' _ ⟨S, _⟩ => S.seq (SqL.of hL)) ?_ ?_⟩
    · rintro i y H' hi ⟨S, hD'⟩
      obtain ⟨t, ht, rfl⟩ := of_map_at hi
      have hi60 : i < ts.length := (List.getElem?_eq_some_iff.mp ht).1
      have hb := hts t (List.mem_of_getElem? ht)
      refine ⟨rfl, ?_⟩
      unfold tYes
      refine iteT ?_
      refine ⟨_, rfl, _, _, rfl, rfl, _, rfl, ift (decide_eq_true hb.1) ⟨_, _, rfl, rfl, _, hD', small (by rw [List.length_map, List.length_replicate]; omega), sm_upd S hD, ?_⟩⟩
      rw [upd_same]
      show some (HO.lst (List.map V.bl (List.replicate i true) ++ [V.bl (decide (t ≤ 1000000))])) = _
      rw [decide_eq_true hb.2, trues_more]
    · rintro H' ⟨S, hD'⟩
      refine ⟨D, _, rfl, SqL.of hD', _, rfl, ?_⟩
      rw [all_true]
      refine iteF ?_
      have hL' := S _ _ hL
      have hp' := S _ _ hp
      -- the two fields
      refine ⟨_, rfl, _, _, rfl, .inl ⟨SqL.of hL', fun t ht => ?_⟩⟩
      have npt : p ≠ t := ne_of_none hp' ht
      refine ⟨_, rfl, p, C, dx, [], rfl, (by rw [upd_ne npt]; exact hp'), T.cl, T.nI, (by show 0 < 1000; decide), ?_⟩
      refine ⟨_, rfl, _, rfl, p, C, dx, _, rfl, upd_same, T.cl, T.nR, (by show 1 < 1000; decide), ?_⟩
      refine k _ (fun b o e hb => ?_) ⟨dx, t, upd_same, ?_⟩
      · rw [upd_ne hb, upd_ne hb, upd_ne (ne_of_none (S _ _ e) ht)]
        exact S _ _ e
      · rw [upd_ne npt.symm, upd_ne npt.symm, upd_same]
theorem scFl : FnScope ["cells", "cell", "intervals", "count", "bit"] ["cells", "cell"] (defScope sFlux) := ⟨rfl, rfl, rfl, by decide +kernel, rfl, by decide +kernel, by decide +kernel⟩
theorem ok_flux {f fI : Addr} {fd fdI fdD : FuncData} (F : Fun K "flux_of" "flux_of" sFlux f fd) (T : Txt K mg C fDe fFl fFi fCe fDr fII fIs fIL) (M : Mk K C fI) (bI : Binds K fdI ["self", "intervals", "rest"] [])
    (GI : FnOk P w K mg base CX0 1 fI fdI ["self", "intervals", "rest"] (spInit C)) (FD : Fun K "demand_cell" "demand_cell" sDem fDe fdD) (bD : Binds K fdD ["cell"] []) (GD : FnOk P w K mg base CX0 1 fDe fdD ["cell"] spDem) :
    FnOk P w K mg base CX0 3 f fd ["cells", "cell"] (spFlux K C) := by
  refine F.ok scFl (fun vs H Q E h => ?_) (fun cdv A outer s H vs Q E hr h => ?_)
  · obtain ⟨l, c, bs, rfl, _⟩ := h
    rfl
  · obtain ⟨l, c, bs, rfl, hS, c0, c1, hlen, h01, k⟩ := h
    have hr1 : Room 1 _ := hr.mono (by decide)
    have G := good_cnt h01
    refine ⟨_, pss_cons (ps_expr (pe_call GD hr1 (by rfl) T.gDe FD.kp bD .nil pass0 (pa_cons (pv 1) pa_nil)))
      (pss_cons (ps_set (i := 2) scFl.nd rfl (Or.inl rfl) (pe_lst pa_nil))
      (pss_cons (ps_set (i := 3) scFl.nd rfl (Or.inl rfl) pe_int)
      (pss_cons (ps_for PassesOwn.never rfl (pi_list (pv 0)) (pg_name (i := 4) scFl.nd rfl (Or.inl rfl))
        (pss_cons (ps_aug (i := 3) scFl.nd rfl (Or.inl rfl) pe_int ip_add)
        (pss_one (ps_if (pt_cmpR op_eq (pv 4) pe_int (nomark _))
          (pss_cons (ps_expr (pe_bm PySem.F.plainAttrs_list PySem.F.slot_list_append PySem.F.type_list_append mt_append (pv 2) (pa_cons (pe_op op_mul (pv 3) (pv 1)) pa_nil)))
          (pss_one (ps_set (i := 3) scFl.nd rfl (Or.inl rfl) pe_int))) pss_nil))))
      (pss_one (ps_ret (pe_make M GI hr (by rfl) T.gC bI .nil pass0 (pa_cons (pv 2) (pa_cons (pe_op op_mul (pv 3) (pv 1)) pa_nil)))))))), ?_⟩
    refine ⟨_, rfl, c, rfl, c0, c1, Nat.zero_le _, fun q hq => ?_⟩
    refine ⟨_, rfl, l, rfl, ⟨_, (sm_upd (Same.refl H) hq).seq hS⟩, for_list (K := K) (a := l) (xs := bs.map V.int) (fun i σ H' => ∃ vb : Option V, σ = [some (.ref l), some (.int c), some (.ref q), some (.int (cnt (bs.take i)).2), vb] ∧
      Same H H' ∧ H' q = some (.lst (((cnt (bs.take i)).1.map (· * c)).map V.int))) ⟨none, rfl, sm_upd (Same.refl H) hq, upd_same⟩ (fun i σ H' _ ⟨_, _, S, _⟩ => S.seq hS) ?_ ?_⟩
    · rintro i y σ H' hi ⟨vb, rfl, S, hL⟩
      obtain ⟨b, hb, rfl⟩ := of_map_at hi
      have st := cnt_more hb
      have Gi := good_cnt (bs := bs.take i) fun x hx => h01 x (List.mem_of_mem_take hx)
      have hti : (bs.take i).length ≤ 60 := by rw [List.length_take]; omega
      have r0 := Gi.r0
      have rl := Gi.rl
      have nl := Gi.nl
      refine ⟨_, rfl, _, _, rfl, rfl, ?_⟩
      rcases h01 b (List.mem_of_getElem? hb) with rfl | rfl
      · refine ⟨_, rfl, rfl, _, rfl, iff_ (decide_eq_false (by intro z; cases z)) ?_⟩
        have e : step (cnt (bs.take i)) 0 = ((cnt (bs.take i)).1, (cnt (bs.take i)).2 + 1) := by unfold step; simp
        rw [e] at st
        exact ⟨_, by rw [st]; rfl, S, by rw [st]; exact hL⟩
      · refine ⟨_, rfl, rfl, _, rfl, ift (decide_eq_true rfl) ?_⟩
        have e : step (cnt (bs.take i)) 1 = ((cnt (bs.take i)).1 ++ [(cnt (bs.take i)).2 + 1], 0) := by unfold step; simp
        rw [e] at st
        refine ⟨_, rfl, .inl ⟨rfl, _, SqL.of hL⟩, _, rfl, _, rfl, _, _, rfl, rfl, .inr ⟨by omega, by omega⟩, _, _, _, rfl, rfl, hL, small (by rw [List.length_map, List.length_map]; omega), ?_⟩
        refine ⟨_, by rw [st]; rfl, sm_upd S hq, ?_⟩
        rw [st, upd_same]
        simp
    · rintro σ H' ⟨vb, rfl, S, hL⟩
      have ef : bs.take (bs.map V.int).length = bs := by rw [List.length_map, List.take_length]
      rw [ef] at hL ⊢
      have r0 := G.r0
      have rl := G.rl
      have nl := G.nl
      have hrest := mul_bounds (m := 60) c0 c1 r0 (by omega)
      refine ⟨_, rfl, _, rfl, _, rfl, _, _, rfl, rfl, .inr ⟨by omega, by omega⟩, fun x dx hx hdx ne => ?_⟩
      have S2 : Same H' (upd (upd H' dx (.own x)) x (.ins C dx [])) := fun b o e => by
        rw [upd_ne (ne_of_none e hx), upd_ne (ne_of_none e hdx)]
        exact e
      refine ⟨x, dx, q, (cnt bs).1.map (· * c), (cnt bs).2 * c, rfl, upd_same, S2 _ _ hL, by rw [List.length_map]; omega, fun t ht => ?_, by omega, by omega, fun H2 kk R => ⟨rfl, ?_⟩⟩
      · obtain ⟨n, hn, rfl⟩ := List.mem_map.mp ht
        have b1 := G.ns n hn
        have b2 := mul_bounds (m := 60) c0 c1 (n := n) (by omega) (by omega)
        show 1 ≤ n * c ∧ n * c ≤ 1000000
        omega
      · refine k H2 x (fun b o e => kk b o (S2 _ _ (S _ _ e)) (ne_of_none (S _ _ e) hx)) (S.free hx) R
theorem scFi : FnScope ["read", "cell", "cells", "interval", "count"] ["read", "cell"] (defScope sFix) := ⟨rfl, rfl, rfl, by decide +kernel, rfl, by decide +kernel, by decide +kernel⟩
theorem zeros (n : Nat) : (List.replicate n [V.int 0]).flatten = (List.replicate n (0 : Int)).map V.int := by
  induction n with
  | zero => rfl
  | succ n ih =>
    rw [List.replicate_succ, List.flatten_cons, ih, List.replicate_succ]
    rfl
theorem ok_fix {f : Addr} {fd fdD : FuncData} (F : Fun K "fixed_cells" "fixed_cells" sFix f fd) (T : Txt K mg C fDe fFl fFi fCe fDr fII fIs fIL) (FD : Fun K "demand_cell" "demand_cell" sDem fDe fdD) (bD : Binds K fdD ["cell"] []) (GD : FnOk P w K mg base CX0 1 fDe fdD ["cell"] spDem) :
    FnOk P w K mg base CX0 2 f fd ["read", "cell"] (spFix C) := by
  refine F.ok scFi (fun vs H Q E h => ?_) (fun cdv A outer s H vs Q E hr h => ?_)
  · obtain ⟨p, c, ts, q, ns, r, rfl, _⟩ := h
    rfl
  · obtain ⟨p, c, ts, q, ns, r, rfl, ⟨dx, a, hp, ha⟩, c0, c1, hts, q0, q1, hns, hr', hlen, hn60, r0, r60, k⟩ := h
    have hlt : ts.length = ns.length := by rw [← hns, List.length_map]
    refine ⟨_, pss_cons (ps_expr (pe_call GD hr (by rfl) T.gDe FD.kp bD .nil pass0 (pa_cons (pv 1) pa_nil)))
      (pss_cons (ps_set (i := 2) scFi.nd rfl (Or.inl rfl) (pe_lst pa_nil))
      (pss_cons (ps_for PassesOwn.never rfl (pi_tup (pe_fld (pv 0) rfl)) (pg_name (i := 3) scFi.nd rfl (Or.inl rfl))
        (pss_cons (ps_set (i := 4) scFi.nd rfl (Or.inl rfl) (pe_callB (call_max2 rfl) (by rfl) T.max (by decide +kernel) (pa_cons pe_int (pa_cons (pe_op op_fdivN (pe_op op_add (pe_op op_mul pe_int (pv 3)) (pv 1)) (pe_op op_mul pe_int (pv 1))) pa_nil))))
        (pss_cons (ps_expr (pe_bm PySem.F.plainAttrs_list PySem.F.slot_list_extend PySem.F.type_list_extend mt_extend (pv 2) (pa_cons (pe_op op_rep (pe_lst (pa_cons pe_int pa_nil)) (pe_op op_sub (pv 4) pe_int)) pa_nil)))
        (pss_one (ps_expr (pe_bm PySem.F.plainAttrs_list PySem.F.slot_list_append PySem.F.type_list_append mt_append (pv 2) (pa_cons pe_int pa_nil)))))))
      (pss_one (ps_ret (pe_op op_cat (pv 2) (pe_op op_rep (pe_lst (pa_cons pe_int pa_nil)) (pe_op op_fdivN (pe_op op_add (pe_op op_mul pe_int (pe_fld (pv 0) rfl)) (pv 1)) (pe_op op_mul pe_int (pv 1))))))))), ?_⟩
    refine ⟨_, rfl, c, rfl, c0, c1, Nat.zero_le _, fun l hl => ?_⟩
    have S0 : Same H (upd H l (.lst [])) := sm_upd (Same.refl H) hl
    refine ⟨_, rfl, p, C, dx, _, _, rfl, S0 _ _ hp, T.cl, T.nI, rf_int _ _, a, rfl, ⟨_, SqT.of (S0 _ _ ha)⟩, for_tup (K := K) (a := a) (xs := ts.map V.int) (fun i σ H' => ∃ vi vc : Option V, σ = [some (.ref p), some (.int c), some (.ref l), vi, vc] ∧
      Same H H' ∧ H' l = some (.lst ((dec (ns.take i)).map V.int))) ⟨none, none, rfl, S0, upd_same⟩ (fun i σ H' _ ⟨_, _, _, S, _⟩ => SqT.of (S _ _ ha)) ?_ ?_⟩
    · rintro i y σ H' hi ⟨vi, vc, rfl, S, hL⟩
      obtain ⟨t, ht, rfl⟩ := of_map_at hi
      have hil : i < ts.length := (List.getElem?_eq_some_iff.mp ht).1
      have tb := hts t (List.mem_of_getElem? ht)
      have hn : ns[i]? = some (cntOf c t) := by rw [← hns, List.getElem?_map, ht]; rfl
      have nb := hn60 _ (List.mem_of_getElem? hn)
      have ld := len_dec (m := 60) (ns := ns.take i) fun x hx => hn60 x (List.mem_of_mem_take hx)
      have ltk : (ns.take i).length ≤ 60 := by rw [List.length_take]; omega
      have hm := dec_more hn
      generalize hnn : cntOf c t = n at hn nb hm
      -- the count of an interval
      refine ⟨_, rfl, _, _, rfl, rfl, .inl ⟨by decide, by decide⟩, _, rfl, _, _, rfl, rfl, _, rfl, _, _, rfl, rfl, .inl ⟨by decide, by decide⟩, _, _, rfl, rfl, ⟨by omega, by omega⟩, _, _, rfl, ?_⟩
      -- the cells 0
      refine ⟨_, rfl, .inl ⟨rfl, _, SqL.of hL⟩, (by show 1 ≤ sizeLine; decide), fun z hz => ?_⟩
      have hc : (if (2 * t + c).fdiv (2 * c) > 1 then (2 * t + c).fdiv (2 * c) else 1) = n := hnn
      refine ⟨_, rfl, _, _, rfl, rfl, z, _, _, rfl, rfl, upd_same, ?_, ?_, ?_, fun y hy => ?_⟩
      · rw [hc]; omega
      · rw [hc]; omega
      · rw [hc]
        have : (n - 1).toNat ≤ 60 := by omega
        have e1 : ([V.int 0] : List V).length = 1 := rfl
        rw [e1, Nat.one_mul]
        exact Nat.le_of_lt (small (by omega))
      have nlz : l ≠ z := ne_of_none hL hz
      have hz0 : (upd H' z (.lst [V.int 0])) l = some (.lst ((dec (ns.take i)).map V.int)) := kp_upd hL hz
      have nly : l ≠ y := ne_of_none hz0 hy
      refine ⟨l, y, _, _, rfl, rfl, kp_upd hz0 hy, upd_same, ?_, ?_⟩
      · rw [hc, zeros, List.length_map, List.length_map, List.length_replicate]
        refine Nat.le_of_lt (small ?_)
        have : (n - 1).toNat ≤ 60 := by omega
        have : (ns.take i).length * 60 ≤ 60 * 60 := Nat.mul_le_mul_right 60 ltk
        omega
      -- the cell 1
      refine ⟨_, rfl, .inl ⟨rfl, _, SqL.of upd_same⟩, _, _, _, rfl, rfl, upd_same, ?_, ?_⟩
      · rw [hc, zeros, List.length_append, List.length_map, List.length_map, List.length_replicate]
        refine small ?_
        have : (n - 1).toNat ≤ 60 := by omega
        have : (ns.take i).length * 60 ≤ 60 * 60 := Nat.mul_le_mul_right 60 ltk
        omega
      refine ⟨_, _, rfl, sm_upd (sm_upd (sm_upd (sm_upd S (S.free hz)) ((sm_upd S (S.free hz)).free hy)) hl) hl, ?_⟩
      rw [upd_same, hc, zeros, hm]
      unfold cell1
      simp
    · rintro σ H' ⟨vi, vc, rfl, S, hL⟩
      have ef : ns.take (ts.map V.int).length = ns := by rw [List.length_map, hlt, List.take_length]
      rw [ef] at hL
      have ld := len_dec (m := 60) hn60
      have hl60 : ns.length * 60 ≤ 60 * 60 := Nat.mul_le_mul_right 60 hlen
      have hq : (2 * q + c).fdiv (2 * c) = r := hr'
      -- the rest's cells
      refine ⟨_, rfl, (by show 1 ≤ sizeLine; decide), fun z hz => ?_⟩
      have Sz : Same H' (upd H' z (.lst [V.int 0])) := sm_upd (Same.refl H') hz
      refine ⟨_, rfl, p, C, dx, _, _, rfl, Sz _ _ (S _ _ hp), T.cl, T.nR, rf_rest _ _, _, _, rfl, rfl, .inl ⟨by decide, by decide⟩, _, rfl, _, _, rfl, rfl, _, rfl, _, _, rfl, rfl, .inl ⟨by decide, by decide⟩, _, _, rfl, rfl, ⟨by omega, by omega⟩, ?_⟩
      refine ⟨z, _, _, rfl, rfl, upd_same, ?_, ?_, ?_, fun y hy => ?_⟩
      · rw [hq]; omega
      · rw [hq]; omega
      · rw [hq]
        have e1 : ([V.int 0] : List V).length = 1 := rfl
        rw [e1, Nat.one_mul]
        exact Nat.le_of_lt (small (by omega))
      have hL1 := Sz _ _ hL
      refine ⟨l, y, _, _, rfl, rfl, kp_upd hL1 hy, upd_same, ?_, fun o ho => ?_⟩
      · rw [hq, zeros, List.length_map, List.length_map, List.length_replicate]
        exact Nat.le_of_lt (small (by omega))
      have S1 : Same H (upd H' z (.lst [V.int 0])) := S.trans Sz
      have S2 := sm_upd (o := .lst (List.replicate ((2 * q + c).fdiv (2 * c)).toNat [V.int 0]).flatten) S1 (S1.free hy)
      refine k _ o (sm_upd S2 (S2.free ho)) (S2.free ho) ?_
      rw [upd_same, hq, zeros]
      unfold whole
      rw [List.map_append]
end
end K9
namespace K9
open PySem L2
section
variable {P : Program} {w : World} {K : PySem.W.Frag} {mg : Str → Option Value} {base : Heap} {C fDe fFl fFi fCe fDr fII fIs fIL : Addr}
/-- a // b, b > 0 and small: a letter with its equation is handed on -/
def rFdL : R2 := fun x y H Q => ∃ i j : Int, x = .int i ∧ y = .int j ∧ CDiv i j ∧ ∀ m : Int, m = i / j → Q (.int m) H
theorem op_fdivL {X : Cx} : OpR X (binaryOp .FloorDiv) rFdL := by
  intro pins s σ H x y v u Q I rx ry h
  obtain ⟨i, j, rfl, rfl, hj, q⟩ := h
  exact op_fdiv pins s σ H _ _ v u Q I rx ry ⟨i, j, rfl, rfl, hj, q _ rfl⟩
/-- a law's cell is 0 or 1 -/
theorem bit01 (k : Bool) : (if k = true then (1 : Int) else 0) = 0 ∨ (if k = true then (1 : Int) else 0) = 1 := by
  cases k
  · exact .inl rfl
  · exact .inr rfl
/-- the length of a cell that the law picks -/
theorem pick_cell {z m : Int} (h0 : 0 ≤ z) (h1 : z < 3) (m0 : 0 ≤ m) (m1 : m < 991) : ∃ c : Int, atI [V.int 10, V.int 1000, V.int (10 + m)] z = some (V.int c) ∧ 10 ≤ c ∧ c ≤ 1000 := by
  rcases (show z = 0 ∨ z = 1 ∨ z = 2 by omega) with rfl | rfl | rfl
  · exact ⟨10, rfl, by omega, by omega⟩
  · exact ⟨1000, rfl, by omega, by omega⟩
  · exact ⟨10 + m, rfl, by omega, by omega⟩
theorem pick_mod {z : Int} (h0 : 0 ≤ z) (h1 : z < 3) : ∃ c : Int, atI [V.int 2, V.int 4, V.int 9] z = some (V.int c) ∧ 0 < c := by
  rcases (show z = 0 ∨ z = 1 ∨ z = 2 by omega) with rfl | rfl | rfl
  · exact ⟨2, rfl, by omega⟩
  · exact ⟨4, rfl, by omega⟩
  · exact ⟨9, rfl, by omega⟩
/-- the difference that the law picks -/
theorem pick_diff {z m b : Int} (h0 : 0 ≤ z) (h1 : z < 3) (m0 : 0 ≤ m) (m1 : m < 2 * b + 1) (hb : 0 ≤ b) : ∃ e : Int, atI [V.int (m - b), V.int b, V.int (-b)] z = some (V.int e) ∧ -b ≤ e ∧ e ≤ b := by
  rcases (show z = 0 ∨ z = 1 ∨ z = 2 by omega) with rfl | rfl | rfl
  · exact ⟨m - b, rfl, by omega, by omega⟩
  · exact ⟨b, rfl, by omega, by omega⟩
  · exact ⟨-b, rfl, by omega, by omega⟩
theorem scL : FnScope ["_law_script", "_law_draws_here", "_law_cell_here", "_law_cells", "_law_read", "_law_most", "_law_rows", "_law_k", "_law_d", "_law_rest"] ["_law_script"] (defScope sLaw) := ⟨rfl, rfl, rfl, by decide +kernel, rfl, by decide +kernel, by decide +kernel⟩
theorem ok_law {f fI : Addr} {fd fdI fdFl fdFi fdCe fdDr fdIL : FuncData} (F : Fun K "law" "law" sLaw f fd) (T : Txt K mg C fDe fFl fFi fCe fDr fII fIs fIL) (M : Mk K C fI) (bI : Binds K fdI ["self", "intervals", "rest"] [])
    (GI : FnOk P w K mg base CX0 1 fI fdI ["self", "intervals", "rest"] (spInit C))
    (FFl : Fun K "flux_of" "flux_of" sFlux fFl fdFl) (bFl : Binds K fdFl ["cells", "cell"] []) (GFl : FnOk P w K mg base CX0 3 fFl fdFl ["cells", "cell"] (spFlux K C))
    (FFi : Fun K "fixed_cells" "fixed_cells" sFix fFi fdFi) (bFi : Binds K fdFi ["read", "cell"] []) (GFi : FnOk P w K mg base CX0 2 fFi fdFi ["read", "cell"] (spFix C))
    (FCe : Fun K "_law_cell" "_law_cell" sCell fCe fdCe) (bCe : Binds K fdCe ["_law_script", "_law_k"] []) (GCe : FnOk P w K mg base CX0 1 fCe fdCe ["_law_script", "_law_k"] (spCell K))
    (FDr : Fun K "_law_draws" "_law_draws" sDraws fDr fdDr) (bDr : Binds K fdDr ["_law_cell_here", "_law_count"] []) (GDr : FnOk P w K mg base CX0 1 fDr fdDr ["_law_cell_here", "_law_count"] spDraws)
    (FIL : Fun K "_law_is_list" "_law_is_list" sIsList fIL fdIL) (bIL : Binds K fdIL ["_law_x", "_law_due"] []) (GIL : FnOk P w K mg base CX0 3 fIL fdIL ["_law_x", "_law_due"] spIsList) :
    FnOk P w K mg base CX0 4 f fd ["_law_script"] (spLaw K) := by
  refine F.ok scL (fun vs H Q E h => ?_) (fun cdv A outer s H vs Q E hr h => ?_)
  · obtain ⟨a, ns, rfl, _⟩ := h
    rfl
  · obtain ⟨a, ns, rfl, hS, hlen, k⟩ := h
    have hr1 : Room 1 _ := hr.mono (by decide)
    have hr2 : Room 2 _ := hr.mono (by decide)
    refine ⟨_, pss_cons (ps_set (i := 1) scL.nd rfl (Or.inr rfl) (pe_call GDr hr1 (by rfl) T.gDr FDr.kp bDr .nil pass0 (pa_cons (pe_call GCe hr1 (by rfl) T.gCe FCe.kp bCe .nil pass0 (pa_cons (pv 0) (pa_cons pe_int pa_nil))) (pa_cons pe_int pa_nil))))
      (pss_cons (ps_set (i := 2) scL.nd rfl (Or.inl rfl) (pe_ix ix_list (pe_lst (pa_cons pe_int (pa_cons pe_int (pa_cons (pe_op op_add pe_int (pe_op op_modL (pe_ix ix_list (pv 1) pe_int (fun _ _ => rfl)) pe_int)) pa_nil)))) (pe_op op_modL (pe_ix ix_list (pv 1) pe_int (fun _ _ => rfl)) pe_int) (fun _ _ => rfl)))
      (pss_cons (ps_setLc (i := 3) (own := [("_law_k", 7)]) (g := gName 7) (tt := tYes) rfl scL.nd rfl rfl (sw_true rfl rfl rfl (by decide +kernel))
        (pi_range1 rfl T.range (pa_cons (pe_op op_modL (pe_op op_fdiv (pe_ix ix_list (pv 1) pe_int (fun _ _ => rfl)) pe_int) pe_int) pa_nil))
        (blkOk_by (own := [("_law_k", 7)]) (N := ["_law_script", "_law_draws_here", "_law_cell_here", "_law_cells", "_law_read", "_law_most", "_law_rows", "_law_k", "_law_d", "_law_rest"]) (sc := defScope sLaw) (by decide +kernel))
        (fun _ _ _ _ _ => pg_name (i := 7) scL.nd rfl (Or.inl rfl)) (fun _ _ _ _ _ => pts_nil)
        (fun _ _ _ _ _ => pe_callTy call_int1 (by rfl) T.int (by decide +kernel) (pa_cons (pe_cmpR op_eq (pe_op op_modL (pe_ix (r := rIxL K) ix_list (pv 1) (pe_op op_add pe_int (pv 7)) (fun _ _ => rfl))
          (pe_ix (r := rIxL K) ix_list (pe_lst (pa_cons pe_int (pa_cons pe_int (pa_cons pe_int pa_nil)))) (pe_op op_modL (pe_ix (r := rIxL K) ix_list (pv 1) pe_int (fun _ _ => rfl)) pe_int) (fun _ _ => rfl))) pe_int (nomark _)) pa_nil)))
      (pss_cons (ps_set (i := 4) scL.nd rfl (Or.inl rfl) (pe_call GFl hr (by rfl) T.gFl FFl.kp bFl .nil pass0 (pa_cons (pv 3) (pa_cons (pv 2) pa_nil))))
      (pss_cons (ps_if (pt_not (pt_val (pe_call GIL hr (by rfl) T.gIL FIL.kp bIL .nil pass0 (pa_cons (pe_call GFi hr2 (by rfl) T.gFi FFi.kp bFi .nil pass0 (pa_cons (pv 4) (pa_cons (pv 2) pa_nil))) (pa_cons (pv 3) pa_nil))))) pss_never pss_nil)
      (pss_cons (ps_set (i := 5) scL.nd rfl (Or.inl rfl) (pe_op op_fdivL (pe_op op_sub (pv 2) pe_int) pe_int))
      (pss_cons (ps_set (i := 6) scL.nd rfl (Or.inl rfl) (pe_lst pa_nil))
      (pss_cons (ps_for PassesOwn.never rfl (pi_range1 rfl T.range (pa_cons (pe_callB call_len_seq (by rfl) T.len PySem.boot_len (pa_cons (pe_fld (pv 4) rfl) pa_nil)) pa_nil)) (pg_name (i := 7) scL.nd rfl (Or.inl rfl))
        (pss_cons (ps_set (i := 8) scL.nd rfl (Or.inl rfl) (pe_ix ix_list (pv 1) (pe_op op_add pe_int (pe_op op_mod (pv 7) pe_int)) (fun _ _ => rfl)))
        (pss_one (ps_expr (pe_bm PySem.F.plainAttrs_list PySem.F.slot_list_append PySem.F.type_list_append mt_append (pv 6) (pa_cons (pe_op op_add (pe_ix ix_tup (pe_fld (pv 4) rfl) (pv 7) (fun _ _ => rfl))
          (pe_ix ix_list (pe_lst (pa_cons (pe_op op_sub (pe_op op_modL (pv 8) (pe_op op_add (pe_op op_mul pe_int (pv 5)) pe_int)) (pv 5)) (pa_cons (pv 5) (pa_cons (pe_un un_neg (pv 5)) pa_nil)))) (pe_op op_modL (pe_op op_fdiv (pv 8) pe_int) pe_int) (fun _ _ => rfl))) pa_nil))))))
      (pss_cons (ps_set (i := 9) scL.nd rfl (Or.inl rfl) (pe_callB (call_max2 rfl) (by rfl) T.max (by decide +kernel) (pa_cons pe_int (pa_cons (pe_op op_sub (pe_op op_add (pe_fld (pv 4) rfl)
          (pe_op op_modL (pe_ix ix_list (pv 1) pe_int (fun _ _ => rfl)) (pe_op op_add (pe_op op_mul pe_int (pv 5)) pe_int))) (pv 5)) pa_nil))))
      (pss_one (ps_ret (pe_call GIL hr (by rfl) T.gIL FIL.kp bIL .nil pass0 (pa_cons (pe_call GFi hr2 (by rfl) T.gFi FFi.kp bFi .nil pass0 (pa_cons (pe_make M GI hr2 (by rfl) T.gC bI .nil pass0 (pa_cons (pv 6) (pa_cons (pv 9) pa_nil))) (pa_cons (pv 2) pa_nil))) (pa_cons (pv 3) pa_nil))))))))))))), ?_⟩
    -- the draws
    refine ⟨_, rfl, a, ns, rfl, hS, fun c0 => ⟨c0, rfl, fun dp ds H1 S1 dp0 hD hdl hdb => ?_⟩⟩
    have dr : ∀ j : Nat, j < 90 → ∃ d, (ds.map V.int)[j]? = some (V.int d) ∧ 0 ≤ d ∧ d < 4096 := fun j hj => by
      obtain ⟨d, h1, h2⟩ := at90 hdl hdb j hj
      exact ⟨d, map_at h1, h2⟩
    obtain ⟨d0, e0, _⟩ := dr 0 (by omega)
    obtain ⟨d1, e1, _⟩ := dr 1 (by omega)
    obtain ⟨d2, e2, _⟩ := dr 2 (by omega)
    obtain ⟨d80, e80, _⟩ := dr 80 (by omega)
    clear S1 dp0
    -- the length of a cell
    refine ⟨_, rfl, _, _, _, _, rfl, rfl, SqL.of hD, atE (j := 0) rfl e0, _, _, rfl, rfl, by decide, fun m0 h00 h01 => ⟨_, _, rfl, rfl, (by show 3 ≤ sizeLine; decide), fun z hz => ?_⟩⟩
    have S2 : Same H1 (upd H1 z (.lst [.int 10, .int 1000, .int (10 + m0)])) := sm_upd (Same.refl H1) hz
    refine ⟨_, rfl, _, _, _, _, rfl, rfl, SqL.of (S2 _ _ hD), atE (j := 1) rfl e1, _, _, rfl, rfl, by decide, fun m1 h10 h11 => ?_⟩
    obtain ⟨c, ec, c0, c1⟩ := pick_cell h10 h11 h00 h01
    refine ⟨_, _, _, _, rfl, rfl, SqL.of upd_same, ec, ?_⟩
    generalize hH2 : upd H1 z (.lst [.int 10, .int 1000, .int (10 + m0)]) = H2 at S2 ⊢
    have hD2 := S2 _ _ hD
    clear hH2 S2 hz hD
    -- the cells
    refine ⟨_, rfl, _, _, _, _, rfl, rfl, SqL.of hD2, atE (j := 2) rfl e2, _, _, rfl, rfl, ⟨by decide, by decide⟩, _, _, rfl, rfl, by decide, fun m2 h20 h21 => ⟨_, rfl, by omega, by omega, fun D hDn => ?_⟩⟩
    refine lc_range (lo := 0) (n := m2.toNat) (fun i H' => Same H2 H' ∧ ∃ bs : List Int, H' D = some (.lst (bs.map V.int)) ∧ bs.length = i ∧ ∀ b ∈ bs, b = 0 ∨ b = 1) ⟨sm_upd (Same.refl H2) hDn, [], upd_same, rfl, by simp⟩ ?_ ?_
    · rintro i H' hi ⟨S, bs, hB, hbl, hb01⟩
      obtain ⟨dk, ek, _⟩ := dr (3 + i) (by omega)
      refine ⟨rfl, ?_⟩
      unfold tYes
      refine iteT ?_
      refine ⟨_, rfl, _, rfl, _, _, rfl, rfl, _, _, _, _, rfl, rfl, SqL.of (S _ _ hD2), atE (j := 3 + i) (by omega) ek, (by show 3 ≤ sizeLine; decide), fun y hy => ?_⟩
      have Sy : Same H' (upd H' y (.lst [.int 2, .int 4, .int 9])) := sm_upd (Same.refl H') hy
      refine ⟨_, rfl, _, _, _, _, rfl, rfl, SqL.of (Sy _ _ (S _ _ hD2)), atE (j := 2) rfl e2, _, _, rfl, rfl, by decide, fun m3 h30 h31 => ?_⟩
      obtain ⟨g, eg, g0⟩ := pick_mod h30 h31
      refine ⟨_, _, _, _, rfl, rfl, SqL.of upd_same, eg, _, _, rfl, rfl, g0, fun m4 _ _ => ⟨rfl, .inr ⟨_, rfl, ?_⟩⟩⟩
      refine ⟨_, Sy _ _ hB, small (by rw [List.length_map, hbl]; omega), sm_upd (S.trans Sy) hDn, bs ++ [if decide (V.int m4 = V.int 0) = true then 1 else 0], ?_, by rw [List.length_append, hbl]; rfl, fun b hb => ?_⟩
      · rw [upd_same, List.map_append]
        rfl
      · rcases List.mem_append.mp hb with hb | hb
        · exact hb01 b hb
        · have e : b = (if decide (V.int m4 = V.int 0) = true then 1 else 0) := by simpa using hb
          rw [e]
          exact bit01 _
    · rintro H3 ⟨S3, bs, hB, hbl, hb01⟩
      have hb60 : bs.length ≤ 60 := by omega
      have G := good_cnt hb01
      have r0 := G.r0
      have rl := G.rl
      have nl := G.nl
      have nb60 : ∀ n ∈ (cnt bs).1, 1 ≤ n ∧ n ≤ 60 := fun n hn => by
        have := G.ns n hn
        omega
      have hwh := G.wh
      generalize hns : (cnt bs).1 = ms at nl nb60 hwh
      generalize hrr : (cnt bs).2 = r at r0 rl hwh
      have hD3 := S3 _ _ hD2
      -- the read
      refine ⟨_, rfl, _, rfl, D, c, bs, rfl, SqL.of hB, c0, c1, hb60, hb01, fun H4 p S4 hp0 R4 => ?_⟩
      rw [hns, hrr] at R4
      have hB4 := S4 _ _ hB
      have hD4 := S4 _ _ hD3
      have tb : ∀ t ∈ ms.map (· * c), 0 ≤ t ∧ t ≤ 1000000 := fun t ht => by
        obtain ⟨n, hn, rfl⟩ := List.mem_map.mp ht
        have b1 := nb60 n hn
        have b2 := mul_bounds (m := 60) c0 c1 (n := n) (by omega) (by omega)
        show 0 ≤ n * c ∧ n * c ≤ 1000000
        omega
      have rb := mul_bounds (m := 60) c0 c1 r0 (by omega)
      have en : (ms.map (· * c)).map (cntOf c) = ms := by
        rw [List.map_map]
        refine (List.map_congr_left fun n hn => ?_).trans (List.map_id _)
        have := cntOf_at (c := c) (n := n) (d := 0) (by omega) (nb60 n hn).1 (by omega) (by omega)
        rw [Int.add_zero] at this
        exact this
      have er : restOf c (r * c) = r := by
        have := fdiv_at (c := c) (n := r) (d := 0) (by omega) (by omega) (by omega)
        rw [Int.add_zero] at this
        exact this
      -- the first question
      refine ⟨_, rfl, _, rfl, p, c, ms.map (· * c), r * c, ms, r, rfl, R4, c0, c1, tb, by omega, by omega, en, er, by omega, nb60, r0, by omega, fun H5 l5 S5 l50 hL5 => ?_⟩
      rw [hwh] at hL5
      refine ⟨_, rfl, l5, D, bs, rfl, hL5, S5 _ _ hB4, by omega, _, rfl, iteF ?_⟩
      have hB5 := S5 _ _ hB4
      have hD5 := S5 _ _ hD4
      have R5 := R4.keep S5
      clear hL5 l50 S5 R4 hD4 hB4 S4 hp0 hD3 S3 hB hD2 hDn
      -- the most, the rows
      refine ⟨_, rfl, _, _, rfl, rfl, _, _, rfl, rfl, ⟨by decide, by decide⟩, fun mo hmo => ⟨Nat.zero_le _, fun q hq => ?_⟩⟩
      have hb0 : 0 ≤ mo := by omega
      have hb1 : 2 * mo < c := by omega
      have hb2 : mo ≤ 1000 := by omega
      have S6 : Same H5 (upd H5 q (.lst [])) := sm_upd (Same.refl H5) hq
      obtain ⟨dx, t, hp5, ht5⟩ := R5
      have hml : ((ms.map (· * c)).map V.int).length = ms.length := by rw [List.length_map, List.length_map]
      refine ⟨_, rfl, p, C, dx, _, _, rfl, S6 _ _ hp5, T.cl, T.nI, rf_int _ _, t, _, rfl, .inr (SqT.of (S6 _ _ ht5)), _, rfl, by omega, by rw [hml]; omega,
        for_range (lo := 0) (n := ((ms.map (· * c)).map V.int).length) (fun i σ H' => ∃ (ts : List Int) (vk vd : Option V), σ = [some (.ref a), some (.ref dp), some (.int c), some (.ref D), some (.ref p), some (.int mo), some (.ref q), vk, vd, none] ∧
          Same H5 H' ∧ H' q = some (.lst (ts.map V.int)) ∧ ts.length = i ∧ (∀ x ∈ ts, 1 ≤ x ∧ x ≤ 1000000) ∧ ts.map (cntOf c) = ms.take i) ⟨[], none, none, rfl, S6, upd_same, rfl, by simp, by simp⟩ ?_ ?_⟩
      · rintro i σ H' hi ⟨ts, vk, vd, rfl, S, hQ, htl, htb, htc⟩
        rw [hml] at hi
        have hm70 : (0 + (i : Int)) % 70 = ((i % 70 : Nat) : Int) := by omega
        obtain ⟨dk, ek, dk0, dk1⟩ := dr (20 + i % 70) (by omega)
        have em : ms[i]? = some ms[i] := List.getElem?_eq_getElem hi
        generalize ms[i] = n at em
        have nb := nb60 n (List.mem_of_getElem? em)
        have et : ((ms.map (· * c)).map V.int)[i]? = some (V.int (n * c)) := by
          rw [List.getElem?_map, List.getElem?_map, em]
          rfl
        refine ⟨_, rfl, _, rfl, _, _, rfl, rfl, (by show (0 : Int) < 70; decide), _, _, rfl, rfl, _, _, _, _, rfl, rfl, SqL.of (S _ _ hD5), atE (j := 20 + i % 70) (by omega) ek, ?_⟩
        refine ⟨_, rfl, .inl ⟨rfl, _, SqL.of hQ⟩, _, rfl, p, C, dx, _, _, rfl, S _ _ hp5, T.cl, T.nI, rf_int _ _, _, rfl, _, _, _, _, rfl, rfl, SqT.of (S _ _ ht5), atE (j := i) (by omega) et, ?_⟩
        refine ⟨_, rfl, _, rfl, _, _, rfl, rfl, .inl ⟨by decide, by decide⟩, _, _, rfl, rfl, _, _, rfl, rfl, by omega, fun m h0 h1 => ⟨_, rfl, _, _, rfl, rfl, _, rfl, _, rfl, _, rfl, (by show 3 ≤ sizeLine; decide), fun y hy => ?_⟩⟩
        refine ⟨_, rfl, _, _, rfl, rfl, ⟨by decide, by decide⟩, _, _, rfl, rfl, by decide, fun m' h0' h1' => ?_⟩
        obtain ⟨e, ee, el, eu⟩ := pick_diff h0' h1' h0 h1 hb0
        refine ⟨_, _, _, _, rfl, rfl, SqL.of upd_same, ee, _, _, rfl, rfl, ?_⟩
        have hnq : (upd H' y (.lst [.int (m - mo), .int mo, .int (-mo)])) q = some (.lst (ts.map V.int)) := kp_upd hQ hy
        refine ⟨_, _, _, rfl, rfl, hnq, small (by rw [List.length_map, htl]; omega), ?_⟩
        have b2 := mul_bounds (m := 60) c0 c1 (n := n) (by omega) (by omega)
        have b3 : c ≤ n * c := by
          have := Int.mul_le_mul_of_nonneg_right nb.1 (show (0 : Int) ≤ c by omega)
          omega
        refine ⟨ts ++ [n * c + e], _, _, rfl, sm_upd (sm_upd S (S.free hy)) hq, ?_, by rw [List.length_append, htl]; rfl, fun x hx => ?_, ?_⟩
        · rw [upd_same, List.map_append]
          rfl
        · rcases List.mem_append.mp hx with hx | hx
          · exact htb x hx
          · have : x = n * c + e := by simpa using hx
            omega
        · rw [List.map_append, htc, take_more em]
          have := cntOf_at (c := c) (n := n) (d := e) (by omega) nb.1 (by omega) (by omega)
          rw [List.map_cons, List.map_nil, this]
      · rintro σ H' ⟨ts, vk, vd, rfl, S, hQ, htl, htb, htc⟩
        rw [hml] at htl htc
        rw [List.take_length] at htc
        -- the rest
        refine ⟨_, rfl, p, C, dx, _, _, rfl, S _ _ hp5, T.cl, T.nR, rf_rest _ _, _, rfl, _, _, _, _, rfl, rfl, SqL.of (S _ _ hD5), atE (j := 80) rfl e80, _, rfl, _, _, rfl, rfl, .inl ⟨by decide, by decide⟩, _, _, rfl, rfl, _, _, rfl, rfl, by omega, fun m h0 h1 => ?_⟩
        refine ⟨_, _, rfl, rfl, _, rfl, _, _, rfl, rfl, _, _, rfl, ?_⟩
        have er2 : restOf c (if r * c + m - mo > 0 then r * c + m - mo else 0) = r := restOf_at (d := m - mo) (by omega) r0 (by omega) (by omega) (by rw [Int.add_sub_assoc])
        have qb : 0 ≤ (if r * c + m - mo > 0 then r * c + m - mo else 0) ∧ (if r * c + m - mo > 0 then r * c + m - mo else 0) ≤ 1000000 := by
          split <;> omega
        generalize (if r * c + m - mo > 0 then r * c + m - mo else 0) = qq at er2 qb
        -- the second question
        refine ⟨_, rfl, _, rfl, fun x dy hx hdy ne => ?_⟩
        have SS : Same H' (upd (upd H' dy (.own x)) x (.ins C dy [])) := fun b o e => by
          rw [upd_ne (ne_of_none e hx), upd_ne (ne_of_none e hdy)]
          exact e
        refine ⟨x, dy, q, ts, qq, rfl, upd_same, SS _ _ hQ, by omega, htb, qb.1, qb.2, fun H6 kk R6 => ⟨rfl, ?_⟩⟩
        have S67 : Same H' H6 := fun b o e => kk b o (SS _ _ e) (ne_of_none e hx)
        refine ⟨_, rfl, x, c, ts, qq, ms, r, rfl, R6, c0, c1, fun y hy => ⟨by have := htb y hy; omega, (htb y hy).2⟩, qb.1, qb.2, htc, er2, by omega, nb60, r0, by omega, fun H7 l7 S7 l70 hL7 => ?_⟩
        rw [hwh] at hL7
        exact ⟨_, rfl, l7, D, bs, rfl, hL7, S7 _ _ (S67 _ _ (S _ _ hB5)), by omega, k _⟩
end
end K9
namespace K9
open PySem L2
/-! ### 6. What the top has written, the head -/
theorem all_mk {l : PySem.W.OpenLaw} {w : World} {K : PySem.W.Frag} {h : Heap} {mg : Str → Option Value} {fa C f1 f2 f3 f4 f5 f6 f7 f8 f9 f0 : Addr} (X : K.In h) (G : h.Ns mainGlobals mg) (hfa : mg "law" = some (.ref fa))
    {od1 an1 od2 an2 od3 an3 od4 an4 od5 an5 od6 an6 od7 an7 od8 an8 od9 an9 od0 an0 : Option Addr} {sl1 sl2 sl3 sl4 sl5 sl6 sl7 sl8 sl9 sl0 : Array (Option Value)} {oc1 kV1 dc1 pm1 cd1 ct1 oc2 kV2 dc2 pm2 cd2 ct2 oc3 kV3 dc3 pm3 cd3 ct3 oc4 kV4 dc4 pm4 cd4 ct4 oc5 kV5 dc5 pm5 cd5 ct5 oc6 kV6 dc6 pm6 cd6 ct6 oc7 kV7 dc7 pm7 cd7 ct7 oc8 kV8 dc8 pm8 cd8 ct8 oc9 kV9 dc9 pm9 cd9 ct9 oc0 kV0 dc0 pm0 cd0 ct0 : Value} {u1 u2 u3 u4 : Tok}
    (aC : PySem.W.nsIn K mainGlobals "Read" = some (some (.ref C)))
    (a1 : PySem.W.findIn K (.ref C) "__init__" = some (some (.ref f1))) (i1 : PySem.W.isFn K (.ref f1) = true)
    (l1 : K.lookup f1 = some ⟨oc1, od1, .func (PySem.W.fnOf "__init__" "Read.__init__" (defArgs sInit) (defBody sInit) (defScope sInit) .none kV1 dc1 pm1 an1 cd1 ct1), sl1⟩) (c1 : PySem.W.codeIn K cd1 "Read.__init__" = true) (k1 : PySem.W.keepIn K (.ref f1) = true)
    (a2 : PySem.W.nsIn K mainGlobals "demand_cell" = some (some (.ref f2)))
    (l2 : K.lookup f2 = some ⟨oc2, od2, .func (PySem.W.fnOf "demand_cell" "demand_cell" (defArgs sDem) (defBody sDem) (defScope sDem) .none kV2 dc2 pm2 an2 cd2 ct2), sl2⟩) (c2 : PySem.W.codeIn K cd2 "demand_cell" = true) (k2 : PySem.W.keepIn K (.ref f2) = true)
    (a3 : PySem.W.nsIn K mainGlobals "flux_of" = some (some (.ref f3)))
    (l3 : K.lookup f3 = some ⟨oc3, od3, .func (PySem.W.fnOf "flux_of" "flux_of" (defArgs sFlux) (defBody sFlux) (defScope sFlux) .none kV3 dc3 pm3 an3 cd3 ct3), sl3⟩) (c3 : PySem.W.codeIn K cd3 "flux_of" = true) (k3 : PySem.W.keepIn K (.ref f3) = true)
    (a4 : PySem.W.nsIn K mainGlobals "fixed_cells" = some (some (.ref f4)))
    (l4 : K.lookup f4 = some ⟨oc4, od4, .func (PySem.W.fnOf "fixed_cells" "fixed_cells" (defArgs sFix) (defBody sFix) (defScope sFix) .none kV4 dc4 pm4 an4 cd4 ct4), sl4⟩) (c4 : PySem.W.codeIn K cd4 "fixed_cells" = true) (k4 : PySem.W.keepIn K (.ref f4) = true)
    (a5 : PySem.W.nsIn K mainGlobals "_law_cell" = some (some (.ref f5)))
    (l5 : K.lookup f5 = some ⟨oc5, od5, .func (PySem.W.fnOf "_law_cell" "_law_cell" (defArgs sCell) (defBody sCell) (defScope sCell) .none kV5 dc5 pm5 an5 cd5 ct5), sl5⟩) (c5 : PySem.W.codeIn K cd5 "_law_cell" = true) (k5 : PySem.W.keepIn K (.ref f5) = true)
    (a6 : PySem.W.nsIn K mainGlobals "_law_draws" = some (some (.ref f6)))
    (l6 : K.lookup f6 = some ⟨oc6, od6, .func (PySem.W.fnOf "_law_draws" "_law_draws" (defArgs sDraws) (defBody sDraws) (defScope sDraws) .none kV6 dc6 pm6 an6 cd6 ct6), sl6⟩) (c6 : PySem.W.codeIn K cd6 "_law_draws" = true) (k6 : PySem.W.keepIn K (.ref f6) = true)
    (a7 : PySem.W.nsIn K mainGlobals "_law_is_int" = some (some (.ref f7)))
    (l7 : K.lookup f7 = some ⟨oc7, od7, .func (PySem.W.fnOf "_law_is_int" "_law_is_int" (defArgs sIsInt) (defBody sIsInt) (defScope sIsInt) .none kV7 dc7 pm7 an7 cd7 ct7), sl7⟩) (c7 : PySem.W.codeIn K cd7 "_law_is_int" = true) (k7 : PySem.W.keepIn K (.ref f7) = true)
    (a8 : PySem.W.nsIn K mainGlobals "_law_ints" = some (some (.ref f8)))
    (l8 : K.lookup f8 = some ⟨oc8, od8, .func (PySem.W.fnOf "_law_ints" "_law_ints" (defArgs sInts) (defBody sInts) (defScope sInts) .none kV8 dc8 pm8 an8 cd8 ct8), sl8⟩) (c8 : PySem.W.codeIn K cd8 "_law_ints" = true) (k8 : PySem.W.keepIn K (.ref f8) = true)
    (a9 : PySem.W.nsIn K mainGlobals "_law_is_list" = some (some (.ref f9)))
    (l9 : K.lookup f9 = some ⟨oc9, od9, .func (PySem.W.fnOf "_law_is_list" "_law_is_list" (defArgs sIsList) (defBody sIsList) (defScope sIsList) .none kV9 dc9 pm9 an9 cd9 ct9), sl9⟩) (c9 : PySem.W.codeIn K cd9 "_law_is_list" = true) (k9 : PySem.W.keepIn K (.ref f9) = true)
    (a0 : PySem.W.nsIn K mainGlobals "law" = some (some (.ref f0)))
    (l0 : K.lookup f0 = some ⟨oc0, od0, .func (PySem.W.fnOf "law" "law" (defArgs sLaw) (defBody sLaw) (defScope sLaw) .none kV0 dc0 pm0 an0 cd0 ct0), sl0⟩) (c0 : PySem.W.codeIn K cd0 "law" = true) (k0 : PySem.W.keepIn K (.ref f0) = true)
    (pg : PySem.W.plainGet K C Str.empty = true) (hd : PySem.W.hasDictIn K C = true) (po : PySem.W.plainOver K C = true) (sa : PySem.W.findIn K (.ref C) "__setattr__" = some (some (.builtin "object.__setattr__"))) (mk : PySem.W.makesIn K C = true) (kc : PySem.W.keepIn K (.ref C) = true)
    (nI : PySem.W.findIn K (.ref C) "intervals" = some none) (nR : PySem.W.findIn K (.ref C) "rest" = some none)
    (gMost : PySem.W.nsIn K mainGlobals "MOST_INTERVALS" = some (some (.int 60000 u1)))
    (gLong : PySem.W.nsIn K mainGlobals "LONGEST" = some (some (.int 1000000 u2)))
    (gSh : PySem.W.nsIn K mainGlobals "SHORTEST_CELL" = some (some (.int 10 u3)))
    (gLc : PySem.W.nsIn K mainGlobals "LONGEST_CELL" = some (some (.int 1000 u4)))
    (z_len : PySem.W.nsIn K mainGlobals "len" = some none)
    (z_range : PySem.W.nsIn K mainGlobals "range" = some none)
    (z_int : PySem.W.nsIn K mainGlobals "int" = some none)
    (z_bool : PySem.W.nsIn K mainGlobals "bool" = some none)
    (z_isinstance : PySem.W.nsIn K mainGlobals "isinstance" = some none)
    (z_list : PySem.W.nsIn K mainGlobals "list" = some none)
    (z_tuple : PySem.W.nsIn K mainGlobals "tuple" = some none)
    (z_all : PySem.W.nsIn K mainGlobals "all" = some none)
    (z_max : PySem.W.nsIn K mainGlobals "max" = some none)
    : ∃ fd : FuncData, (∀ (s : Shared) (v : Value), BindsTo s fd ⟨[v], []⟩ [("_law_script", v)]) ∧ ∀ base : Heap, K.In base → base.Ns mainGlobals mg → FnOk l.prog w K mg base CX0 4 fa fd ["_law_script"] (spLaw K) := by
  have e := hfa.symm.trans (PySem.W.mg_of X G a0)
  cases e
  have T : Txt K mg C f2 f3 f4 f5 f6 f7 f8 f9 := ⟨⟨pg, hd, po, sa⟩, nI, nR, PySem.W.mg_of X G aC, ⟨_, PySem.W.mg_of X G gMost⟩, ⟨_, PySem.W.mg_of X G gLong⟩, ⟨_, PySem.W.mg_of X G gSh⟩, ⟨_, PySem.W.mg_of X G gLc⟩, PySem.W.mg_of X G a2, PySem.W.mg_of X G a3, PySem.W.mg_of X G a4, PySem.W.mg_of X G a5, PySem.W.mg_of X G a6, PySem.W.mg_of X G a7, PySem.W.mg_of X G a8, PySem.W.mg_of X G a9, PySem.W.mg_none_of X G z_len, PySem.W.mg_none_of X G z_range, PySem.W.mg_none_of X G z_int, PySem.W.mg_none_of X G z_bool, PySem.W.mg_none_of X G z_isinstance, PySem.W.mg_none_of X G z_list, PySem.W.mg_none_of X G z_tuple, PySem.W.mg_none_of X G z_all, PySem.W.mg_none_of X G z_max⟩
  have F1 := fun_mk (st := sInit) l1 c1 k1
  have F2 := fun_mk (st := sDem) l2 c2 k2
  have F3 := fun_mk (st := sFlux) l3 c3 k3
  have F4 := fun_mk (st := sFix) l4 c4 k4
  have F5 := fun_mk (st := sCell) l5 c5 k5
  have F6 := fun_mk (st := sDraws) l6 c6 k6
  have F7 := fun_mk (st := sIsInt) l7 c7 k7
  have F8 := fun_mk (st := sInts) l8 c8 k8
  have F9 := fun_mk (st := sIsList) l9 c9 k9
  have F0 := fun_mk (st := sLaw) l0 c0 k0
  have b1 := F1.binds (ps := ["self", "intervals", "rest"]) fun _ _ _ _ _ _ us hl => match us, hl with | [_, _, _], _ => rfl
  have b2 := F2.binds (ps := ["cell"]) fun _ _ _ _ _ _ us hl => match us, hl with | [_], _ => rfl
  have b3 := F3.binds (ps := ["cells", "cell"]) fun _ _ _ _ _ _ us hl => match us, hl with | [_, _], _ => rfl
  have b4 := F4.binds (ps := ["read", "cell"]) fun _ _ _ _ _ _ us hl => match us, hl with | [_, _], _ => rfl
  have b5 := F5.binds (ps := ["_law_script", "_law_k"]) fun _ _ _ _ _ _ us hl => match us, hl with | [_, _], _ => rfl
  have b6 := F6.binds (ps := ["_law_cell_here", "_law_count"]) fun _ _ _ _ _ _ us hl => match us, hl with | [_, _], _ => rfl
  have b7 := F7.binds (ps := ["_law_x"]) fun _ _ _ _ _ _ us hl => match us, hl with | [_], _ => rfl
  have b8 := F8.binds (ps := ["_law_x", "_law_kind"]) fun _ _ _ _ _ _ us hl => match us, hl with | [_, _], _ => rfl
  have b9 := F9.binds (ps := ["_law_x", "_law_due"]) fun _ _ _ _ _ _ us hl => match us, hl with | [_, _], _ => rfl
  refine ⟨PySem.W.fnOf "law" "law" (defArgs sLaw) (defBody sLaw) (defScope sLaw) .none kV0 dc0 pm0 an0 cd0 ct0, fun s v => .of_eq rfl, fun base _ _ => ?_⟩
  have M : Mk K C f1 := ⟨mk, a1, i1, kc⟩
  have G1 := ok_init (P := l.prog) (w := w) (base := base) F1 T
  have G2 := ok_dem (P := l.prog) (w := w) (base := base) F2 T
  have G3 := ok_flux (P := l.prog) (w := w) (base := base) F3 T M b1 G1 F2 b2 G2
  have G4 := ok_fix (P := l.prog) (w := w) (base := base) F4 T F2 b2 G2
  have G5 := ok_cell (P := l.prog) (w := w) (base := base) F5 T
  have G6 := ok_draws (P := l.prog) (w := w) (base := base) F6 T
  have G8 := ok_ints (P := l.prog) (w := w) (base := base) F8 T F7 b7
  have G9 := ok_islist (P := l.prog) (w := w) (base := base) F9 T F8 b8 G8
  exact ok_law F0 T M b1 G1 F3 b3 G3 F4 b4 G4 F5 b5 G5 F6 b6 G6 F9 b9 G9
theorem walk {l : PySem.W.OpenLaw} {q : Program} {loose : List Str} {XP : (Str → Option Value) → Heap → Prop} {YP : World → Heap → Prop} {d : DefRec} {K : Params → PySem.W.Frag} (hn : l.most = some 63) (hdf : d.params.defaults = [])
    (hY : ∀ (w : World) (h : Heap), YP w h → (K w.params).In h)
    (F : ∀ (w : World) (mg : Str → Option Value) (fa : Addr) (h : Heap), (K w.params).In h → h.Ns mainGlobals mg → mg d.name = some (.ref fa) →
      ∃ fd : FuncData, (∀ (s : Shared) (u : Value), BindsTo s fd ⟨[u], []⟩ [("_law_script", u)]) ∧ ∀ base : Heap, (K w.params).In base → base.Ns mainGlobals mg → FnOk l.prog w (K w.params) mg base CX0 4 fa fd ["_law_script"] (spLaw (K w.params))) :
    PySem.W.WalkO q loose XP YP l.row.toRowW d [] (fun f vs => PySem.call f vs) :=
  L2.walk_of (n := 63) (k := 4) (x := "_law_script") (CX := fun _ => CX0) (sp := fun w => spLaw (K w.params)) hn (by decide) hdf ⟨rfl, by decide, by decide⟩ hY F (fun _ _ a ns hl _ hS => ⟨a, ns, rfl, hS, hl, fun _ => rfl⟩) fun _ _ _ _ _ z => z
end K9
open PySem PySem.W PyProof.Rows
set_option maxRecDepth 100000 in
set_option maxHeartbeats 0 in
theorem PySem.Challenge.cw_discwright_k09_whole_cells_come_back_fro_holds : PySem.Challenge.rw_discwright_k09_whole_cells_come_back_fro.Holds := by
  w_on; o_law; k_head; (case hw => w_witness2)
  k_fill
  refine K9.walk (l := PySem.Challenge.rw_discwright_k09_whole_cells_come_back_fro) rfl rfl (fun w h Y => PySem.W.kIn_of Y) ?F
  case F =>
    intro w mg fa h KX G hmg
    refine' K9.all_mk KX G hmg ?aC ?a1 ?i1 ?l1 ?c1 ?k1 ?a2 ?l2 ?c2 ?k2 ?a3 ?l3 ?c3 ?k3 ?a4 ?l4 ?c4 ?k4 ?a5 ?l5 ?c5 ?k5 ?a6 ?l6 ?c6 ?k6 ?a7 ?l7 ?c7 ?k7 ?a8 ?l8 ?c8 ?k8 ?a9 ?l9 ?c9 ?k9 ?a0 ?l0 ?c0 ?k0 ?pg ?hd ?po ?sa ?mk ?kc ?nI ?nR ?gMost ?gLong ?gSh ?gLc ?z_len ?z_range ?z_int ?z_bool ?z_isinstance ?z_list ?z_tuple ?z_all ?z_max
    (case aC => k_is)
    (case a1 => k_is)
    (case i1 => k_is)
    (case l1 => k_is)
    (case c1 => k_is)
    (case k1 => k_is)
    (case a2 => k_is)
    (case l2 => k_is)
    (case c2 => k_is)
    (case k2 => k_is)
    (case a3 => k_is)
    (case l3 => k_is)
    (case c3 => k_is)
    (case k3 => k_is)
    (case a4 => k_is)
    (case l4 => k_is)
    (case c4 => k_is)
    (case k4 => k_is)
    (case a5 => k_is)
    (case l5 => k_is)
    (case c5 => k_is)
    (case k5 => k_is)
    (case a6 => k_is)
    (case l6 => k_is)
    (case c6 => k_is)
    (case k6 => k_is)
    (case a7 => k_is)
    (case l7 => k_is)
    (case c7 => k_is)
    (case k7 => k_is)
    (case a8 => k_is)
    (case l8 => k_is)
    (case c8 => k_is)
    (case k8 => k_is)
    (case a9 => k_is)
    (case l9 => k_is)
    (case c9 => k_is)
    (case k9 => k_is)
    (case a0 => k_is)
    (case l0 => k_is)
    (case c0 => k_is)
    (case k0 => k_is)
    (case pg => k_is)
    (case hd => k_is)
    (case po => k_is)
    (case sa => k_is)
    (case mk => k_is)
    (case kc => k_is)
    (case nI => k_is)
    (case nR => k_is)
    (case gMost => k_is)
    (case gLong => k_is)
    (case gSh => k_is)
    (case gLc => k_is)
    (case z_len => k_is)
    (case z_range => k_is)
    (case z_int => k_is)
    (case z_bool => k_is)
    (case z_isinstance => k_is)
    (case z_list => k_is)
    (case z_tuple => k_is)
    (case z_all => k_is)
    (case z_max => k_is)
#print axioms PySem.Challenge.cw_discwright_k09_whole_cells_come_back_fro_holds
