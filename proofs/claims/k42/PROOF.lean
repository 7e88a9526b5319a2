import PyProof.Rows.All
import Wide.All
import OpenK.AllK
import Wide.FinOn
import HandS.ForMost
import HandS.Exc
import HandS.TryOnly
import HandS.ExcOwn
import HandS.WordsExc
import HandS.ExcIs
import HandS.IsInst
import HandS.Zip
import HandS.Walk
import HandS.Codes
import PySem.Challenge.RW_knownquiet_k42_whole_rows_of_parcels
set_option Elab.async false
set_option linter.all false
/- A proof over the hand layer: first the plain mathematics of parcels and rows, then each def's promise, the law's last. -/
namespace KQ
open PySem

/-- a datum of the law: what a parcel may be, and one kind of things that are none -/
inductive D where
  | non
  | bl (b : Bool)
  | int (i : Int)
  | str (s : Str)
  | tup (ds : List D)
  | odd

def sgn (c : Nat) : Bool := decide (32 ≤ c) && decide (c ≤ 126) && decide (c ≠ 37)
def sgl (c : Nat) : Bool := decide (32 ≤ c) && decide (c ≤ 126)
def shortBy (p : Nat → Bool) (s : Str) : Bool := decide (1 ≤ s.length) && decide (s.length ≤ 20) && s.cps.toList.all p

mutual
def parBy (p : Nat → Bool) : D → Nat → Bool
  | .non, _ => true
  | .bl _, _ => true
  | .int _, _ => true
  | .str s, _ => shortBy p s
  | .odd, _ => false
  | .tup _, 0 => false
  | .tup ds, n + 1 => parsBy p ds n
def parsBy (p : Nat → Bool) : List D → Nat → Bool
  | [], _ => true
  | d :: r, n => parBy p d n && parsBy p r n
end
abbrev par := parBy sgn
abbrev pars := parsBy sgn

theorem parsBy_map (p : Nat → Bool) (n : Nat) : ∀ ds : List D, parsBy p ds n = (ds.map fun d => parBy p d n).all id
  | [] => by rw [parsBy]; rfl
  | d :: r => by rw [parsBy, parsBy_map p n r]; rfl
theorem parBy_tup (p : Nat → Bool) (ds : List D) (n : Nat) : parBy p (.tup ds) n = (decide (0 < n) && (ds.map fun d => parBy p d (n - 1)).all id) := by
  cases n with
  | zero => rw [parBy]; rfl
  | succ n => rw [parBy, parsBy_map]; simp

/-- no sign of it is the percent sign -/
def clean (c : Nat) : Bool := decide (c ≠ 37)
mutual
def noPct : D → Bool
  | .str s => s.cps.toList.all clean
  | .tup ds => noPcts ds
  | .non => true
  | .bl _ => true
  | .int _ => true
  | .odd => true
def noPcts : List D → Bool
  | [] => true
  | d :: r => noPct d && noPcts r
end

theorem all_clean : ∀ l : List Nat, l.all clean = true → l.all sgl = l.all sgn
  | [], _ => rfl
  | c :: r, h => by
    simp only [List.all_cons, Bool.and_eq_true] at h ⊢
    rw [all_clean r h.2]
    have e : sgl c = sgn c := by
      have h1 := h.1
      unfold clean at h1
      unfold sgl sgn
      rw [h1, Bool.and_true]
    rw [e]
mutual
theorem par_sgl : ∀ (d : D) (n : Nat), noPct d = true → parBy sgl d n = parBy sgn d n
  | .non, _, _ => by rw [parBy, parBy]
  | .bl _, _, _ => by rw [parBy, parBy]
  | .int _, _, _ => by rw [parBy, parBy]
  | .odd, _, _ => by rw [parBy, parBy]
  | .str s, _, h => by
    rw [noPct] at h
    rw [parBy, parBy]
    unfold shortBy
    rw [all_clean _ h]
  | .tup _, 0, _ => by rw [parBy, parBy]
  | .tup ds, n + 1, h => by
    rw [noPct] at h
    rw [parBy, parBy]
    exact pars_sgl ds n h
theorem pars_sgl : ∀ (ds : List D) (n : Nat), noPcts ds = true → parsBy sgl ds n = parsBy sgn ds n
  | [], _, _ => by rw [parsBy, parsBy]
  | d :: r, n, h => by
    rw [noPcts, Bool.and_eq_true] at h
    rw [parsBy, parsBy, par_sgl d n h.1, pars_sgl r n h.2]
end
theorem all_sgn_clean : ∀ l : List Nat, l.all sgn = true → l.all clean = true
  | [], _ => rfl
  | c :: r, h => by
    simp only [List.all_cons, Bool.and_eq_true] at h ⊢
    refine ⟨?_, all_sgn_clean r h.2⟩
    have h1 := h.1
    unfold sgn at h1
    unfold clean
    simp only [Bool.and_eq_true] at h1
    exact h1.2
mutual
theorem par_noPct : ∀ (d : D) (n : Nat), parBy sgn d n = true → noPct d = true
  | .non, _, _ => by rw [noPct]
  | .bl _, _, _ => by rw [noPct]
  | .int _, _, _ => by rw [noPct]
  | .odd, _, _ => by rw [noPct]
  | .str s, _, h => by
    rw [parBy] at h
    rw [noPct]
    unfold shortBy at h
    simp only [Bool.and_eq_true] at h
    exact all_sgn_clean _ h.2
  | .tup _, 0, h => by rw [parBy] at h; cases h
  | .tup ds, n + 1, h => by
    rw [parBy] at h
    rw [noPct]
    exact pars_noPcts ds n h
theorem pars_noPcts : ∀ (ds : List D) (n : Nat), parsBy sgn ds n = true → noPcts ds = true
  | [], _, _ => by rw [noPcts]
  | d :: r, n, h => by
    rw [parsBy, Bool.and_eq_true] at h
    rw [noPcts, par_noPct d n h.1, pars_noPcts r n h.2]
    rfl
end
mutual
theorem par_mono (p : Nat → Bool) : ∀ (d : D) (n m : Nat), n ≤ m → parBy p d n = true → parBy p d m = true
  | .non, _, _, _, _ => by rw [parBy]
  | .bl _, _, _, _, _ => by rw [parBy]
  | .int _, _, _, _, _ => by rw [parBy]
  | .odd, _, _, _, h => by rw [parBy] at h; cases h
  | .str s, _, _, _, h => by rw [parBy] at h ⊢; exact h
  | .tup _, 0, _, _, h => by rw [parBy] at h; cases h
  | .tup ds, n + 1, 0, h, _ => by omega
  | .tup ds, n + 1, m + 1, hm, h => by
    rw [parBy] at h ⊢
    exact pars_mono p ds n m (by omega) h
theorem pars_mono (p : Nat → Bool) : ∀ (ds : List D) (n m : Nat), n ≤ m → parsBy p ds n = true → parsBy p ds m = true
  | [], _, _, _, _ => by rw [parsBy]
  | d :: r, n, m, hm, h => by
    rw [parsBy, Bool.and_eq_true] at h ⊢
    exact ⟨par_mono p d n m hm h.1, pars_mono p r n m hm h.2⟩
end

/-! ### rows -/
/-- the whole of a number -/
def whole (n : Nat) : List Int := if n < 128 then [(n : Int)] else (128 + ((n % 128 : Nat) : Int)) :: whole (n / 128)
termination_by n
decreasing_by omega
theorem whole_lt {n : Nat} (h : n < 128) : whole n = [(n : Int)] := by rw [whole, if_pos h]
theorem whole_ge {n : Nat} (h : ¬ n < 128) : whole n = (128 + ((n % 128 : Nat) : Int)) :: whole (n / 128) := by rw [whole, if_neg h]
theorem whole_ne (n : Nat) : whole n ≠ [] := by
  by_cases h : n < 128
  · rw [whole_lt h]; exact List.cons_ne_nil _ _
  · rw [whole_ge h]; exact List.cons_ne_nil _ _
theorem whole_range (n : Nat) : ∀ b ∈ whole n, 0 ≤ b ∧ b < 256 := by
  induction n using Nat.strongRecOn with
  | _ n ih =>
    intro b hb
    by_cases h : n < 128
    · rw [whole_lt h, List.mem_singleton] at hb
      omega
    · rw [whole_ge h, List.mem_cons] at hb
      rcases hb with e | hb
      · omega
      · exact ih (n / 128) (by omega) b hb
theorem whole_len (k : Nat) : ∀ n : Nat, n < 128 ^ (k + 1) → (whole n).length ≤ k + 1 := by
  induction k with
  | zero =>
    intro n h
    rw [whole_lt (by simpa using h)]
    exact Nat.le_refl _
  | succ k ih =>
    intro n h
    by_cases h1 : n < 128
    · rw [whole_lt h1, List.length_singleton]; omega
    · rw [whole_ge h1, List.length_cons]
      have e : (128 : Nat) ^ (k + 1 + 1) = 128 ^ (k + 1) * 128 := Nat.pow_succ _ _
      have := ih (n / 128) (by rw [Nat.div_lt_iff_lt_mul (by decide)]; omega)
      omega

def codes (s : Str) : List Int := s.cps.toList.map fun c => ((c : Nat) : Int)
mutual
def row : D → List Int
  | .non => [0]
  | .bl b => [if b = true then 2 else 1]
  | .int i => if 0 ≤ i then 3 :: whole i.toNat else 4 :: whole (-1 - i).toNat
  | .str s => 5 :: (whole s.length ++ codes s)
  | .tup ds => 6 :: (whole ds.length ++ rows ds)
  | .odd => []
def rows : List D → List Int
  | [] => []
  | d :: r => row d ++ rows r
end
theorem rows_append : ∀ a b : List D, rows (a ++ b) = rows a ++ rows b
  | [], b => by rw [List.nil_append, rows, List.nil_append]
  | d :: r, b => by rw [List.cons_append, rows, rows, rows_append r b, List.append_assoc]
theorem rows_one (d : D) : rows [d] = row d := by rw [rows, rows, List.append_nil]
theorem row_le_rows : ∀ (ds : List D) (i : Nat) (d : D), ds[i]? = some d → (rows (ds.take i)).length + (row d).length ≤ (rows ds).length
  | [], i, d, h => by simp at h
  | e :: r, 0, d, h => by
    have : e = d := by simpa using h
    subst this
    rw [List.take_zero, rows, rows, List.length_append]
    simp
  | e :: r, i + 1, d, h => by
    have := row_le_rows r i d (by simpa using h)
    rw [List.take_succ_cons, rows, rows, List.length_append, List.length_append]
    omega
theorem sgn_range {c : Nat} (h : sgn c = true) : 32 ≤ c ∧ c ≤ 126 ∧ c ≠ 37 := by
  unfold sgn at h
  simp only [Bool.and_eq_true, decide_eq_true_eq] at h
  exact ⟨h.1.1, h.1.2, h.2⟩
mutual
theorem row_range : ∀ (d : D) (n : Nat), parBy sgn d n = true → ∀ b ∈ row d, 0 ≤ b ∧ b < 256
  | .non, _, _ => fun b h => by
    rw [row, List.mem_singleton] at h; omega
  | .bl c, _, _ => fun b h => by
    rw [row, List.mem_singleton] at h
    split at h <;> omega
  | .int i, _, _ => fun b h => by
    rw [row] at h
    split at h
    · rcases List.mem_cons.mp h with e | e
      · omega
      · exact whole_range _ b e
    · rcases List.mem_cons.mp h with e | e
      · omega
      · exact whole_range _ b e
  | .odd, _, _ => fun b h => by rw [row] at h; cases h
  | .str s, _, hp => fun b h => by
    rw [parBy] at hp
    rw [row] at h
    unfold shortBy at hp
    simp only [Bool.and_eq_true] at hp
    rcases List.mem_cons.mp h with e | e
    · omega
    · rcases List.mem_append.mp e with e | e
      · exact whole_range _ b e
      · unfold codes at e
        obtain ⟨c, hc, rfl⟩ := List.mem_map.mp e
        have := sgn_range (List.all_eq_true.mp hp.2 c hc)
        omega
  | .tup _, 0, hp => by rw [parBy] at hp; cases hp
  | .tup ds, n + 1, hp => fun b h => by
    rw [parBy] at hp
    rw [row] at h
    rcases List.mem_cons.mp h with e | e
    · omega
    · rcases List.mem_append.mp e with e | e
      · exact whole_range _ b e
      · exact rows_range ds n hp b e
theorem rows_range : ∀ (ds : List D) (n : Nat), parsBy sgn ds n = true → ∀ b ∈ rows ds, 0 ≤ b ∧ b < 256
  | [], _, _ => fun b h => by rw [rows] at h; cases h
  | d :: r, n, hp => fun b h => by
    rw [parsBy, Bool.and_eq_true] at hp
    rw [rows] at h
    rcases List.mem_append.mp h with e | e
    · exact row_range d n hp.1 b e
    · exact rows_range r n hp.2 b e
end
theorem row_pos (d : D) (n : Nat) (h : parBy sgn d n = true) : 0 < (row d).length := by
  cases d with
  | non => rw [row]; decide
  | bl b => rw [row]; exact Nat.succ_pos _
  | int i => rw [row]; split <;> exact Nat.succ_pos _
  | str s => rw [row]; exact Nat.succ_pos _
  | tup ds => rw [row]; exact Nat.succ_pos _
  | odd => rw [parBy] at h; cases h

/-! ### nests -/
def nest : Nat → D → D
  | 0, d => d
  | n + 1, d => .tup [nest n d]
theorem nest_par (p : Nat → Bool) (m : Nat) (d : D) : ∀ n : Nat, parBy p (nest n d) (n + m) = parBy p d m
  | 0 => by rw [nest, Nat.zero_add]
  | n + 1 => by rw [nest, show n + 1 + m = (n + m) + 1 by omega, parBy, parsBy, parsBy, nest_par p m d n, Bool.and_true]
theorem nest_len (d : D) : ∀ n : Nat, (row (nest n d)).length = (row d).length + 2 * n
  | 0 => by rw [nest]; rfl
  | n + 1 => by
    rw [nest, row, rows_one, List.length_singleton, whole_lt (by decide)]
    have := nest_len d n
    simp only [List.length_cons, List.length_append, List.length_nil]
    omega
theorem nest_noPct (d : D) (h : noPct d = true) : ∀ n : Nat, noPct (nest n d) = true
  | 0 => by rw [nest]; exact h
  | n + 1 => by rw [nest, noPct, noPcts, noPcts, nest_noPct d h n]; rfl
/-- no tuple -/
def flat : D → Bool
  | .tup _ => false
  | _ => true
theorem flat_par (p : Nat → Bool) (d : D) (h : flat d = true) (n m : Nat) : parBy p d n = parBy p d m := by
  cases d with
  | tup ds => cases h
  | _ => rw [parBy, parBy]

/-! ### what the law draws -/
def bnd : Nat → Nat
  | 0 => 30
  | n + 1 => 30 + 4 * bnd n
structure Drawn (k : Nat) (d : D) : Prop where
  par : parBy sgn d k = true
  len : (row d).length ≤ bnd k
theorem bnd_ge (k : Nat) : 30 ≤ bnd k := by
  cases k with
  | zero => exact Nat.le_refl _
  | succ k => unfold bnd; omega
theorem drawn_non (k : Nat) : Drawn k .non := ⟨by rw [parBy], by rw [row]; have := bnd_ge k; simp only [List.length_cons, List.length_nil]; omega⟩
theorem drawn_bl (k : Nat) (b : Bool) : Drawn k (.bl b) := ⟨by rw [parBy], by rw [row]; have := bnd_ge k; simp only [List.length_cons, List.length_nil]; omega⟩
theorem drawn_int (k : Nat) {i : Int} (h1 : -(10 ^ 15 : Int) ≤ i) (h2 : i ≤ 10 ^ 15) : Drawn k (.int i) := ⟨by rw [parBy], by
  have hb := bnd_ge k
  rw [row]
  split
  · have := whole_len 8 i.toNat (by omega)
    rw [List.length_cons]; omega
  · have := whole_len 8 (-1 - i).toNat (by omega)
    rw [List.length_cons]; omega⟩
theorem codes_len (s : Str) : (codes s).length = s.length := by
  unfold codes
  rw [List.length_map, Array.length_toList]
  rfl
theorem drawn_str (k : Nat) {s : Str} (h : shortBy sgn s = true) : Drawn k (.str s) := ⟨by rw [parBy]; exact h, by
  have hb := bnd_ge k
  unfold shortBy at h
  simp only [Bool.and_eq_true, decide_eq_true_eq] at h
  rw [row, whole_lt (by omega)]
  simp only [List.length_cons, List.length_append, List.length_nil, codes_len]
  omega⟩
theorem drawn_tup (k : Nat) {ds : List D} (hl : ds.length ≤ 4) (h : ∀ d ∈ ds, Drawn k d) : Drawn (k + 1) (.tup ds) := by
  have h1 : ∀ ds : List D, (∀ d ∈ ds, Drawn k d) → parsBy sgn ds k = true ∧ (rows ds).length ≤ ds.length * bnd k := by
    intro ds
    induction ds with
    | nil => intro _; rw [parsBy, rows]; exact ⟨rfl, by simp⟩
    | cons d r ih =>
      intro h
      obtain ⟨i1, i2⟩ := ih fun e he => h e (List.mem_cons_of_mem _ he)
      obtain ⟨d1, d2⟩ := h d List.mem_cons_self
      rw [parsBy, rows, d1, i1, List.length_append, List.length_cons, Nat.succ_mul]
      exact ⟨rfl, by omega⟩
  obtain ⟨p1, p2⟩ := h1 ds h
  refine ⟨by rw [parBy]; exact p1, ?_⟩
  rw [row, whole_lt (by omega)]
  simp only [List.length_cons, List.length_append, List.length_nil]
  have h3 : ds.length * bnd k ≤ 4 * bnd k := Nat.mul_le_mul_right _ hl
  unfold bnd
  omega
/-- the law's parcel: drawn, then perhaps nested -/
structure Parc (d : D) : Prop where
  par : parBy sgn d 20 = true
  len : (row d).length ≤ 3000
theorem parc_of {d : D} (h : Drawn 3 d) : Parc d := ⟨par_mono _ d 3 20 (by decide) h.par, by
  have := h.len
  have e : bnd 3 = 2550 := by decide
  omega⟩
theorem parc_nest {d : D} (h : Drawn 3 d) {n : Nat} (hn : n + (if flat d = true then 0 else 4) ≤ 20) : Parc (nest n d) := by
  have hl := h.len
  have e : bnd 3 = 2550 := by decide
  refine ⟨?_, by rw [nest_len]; omega⟩
  cases c : flat d with
  | true =>
    rw [c, if_pos rfl] at hn
    refine par_mono _ _ (n + 0) 20 (by omega) ?_
    rw [nest_par, flat_par _ d c 0 3]
    exact h.par
  | false =>
    rw [c, if_neg Bool.false_ne_true] at hn
    refine par_mono _ _ (n + 3) 20 (by omega) ?_
    rw [nest_par]
    exact h.par
end KQ
set_option maxRecDepth 100000
set_option maxHeartbeats 8000000
namespace KQ
open PySem PySem.Spec PyProof.Rows L2

/-! ### the text by places -/
def topS (i : Nat) : Stmt := PySem.Challenge.pw_knownquiet_k42_whole_rows_of_parcels.main.body.getD i (.Pass ⟨0, 0, 0, 0⟩)

/-! ### a def as it stands behind the top, a def that keeps a promise -/
structure DefAt (K : PySem.W.Frag) (mg : Str → Option Value) (x : Str) (st : Stmt) (ps : List Str) : Prop where
  ex : ∃ (f : Addr) (fd : FuncData), Fun K x x st f fd ∧ mg x = some (.ref f) ∧ Binds K fd ps []
structure MetAt (K : PySem.W.Frag) (C : Addr) (m qual : Str) (st : Stmt) (ps : List Str) : Prop where
  ex : ∃ (f : Addr) (fd : FuncData), Fun K m qual st f fd ∧ Meth K C m f ∧ Binds K fd ps []
structure Cal (P : Program) (w : World) (K : PySem.W.Frag) (mg : Str → Option Value) (base : Heap) (CX : CXT) (k : Nat) (x : Str) (ps : List Str) (sp : Sp) : Prop where
  ex : ∃ (f : Addr) (fd : FuncData), FnOk P w K mg base CX k f fd ps sp ∧ mg x = some (.ref f) ∧ PySem.W.keepIn K (.ref f) = true ∧ Binds K fd ps []
structure Met (P : Program) (w : World) (K : PySem.W.Frag) (mg : Str → Option Value) (base : Heap) (CX : CXT) (k : Nat) (C : Addr) (m : Str) (ps : List Str) (sp : Sp) : Prop where
  ex : ∃ (f : Addr) (fd : FuncData), FnOk P w K mg base CX k f fd ps sp ∧ Meth K C m f ∧ Binds K fd ps []
section
variable {P : Program} {w : World} {K : PySem.W.Frag} {mg : Str → Option Value} {base : Heap}
theorem defAt_mk {h : Heap} (X : K.In h) (G : h.Ns mainGlobals mg) {x : Str} {st : Stmt} {ps : List Str} {f : Addr} {oc : Value} {od an : Option Addr} {osl : Array (Option Value)} {kV doc pm cdv ct : Value}
    (a : PySem.W.nsIn K mainGlobals x = some (some (.ref f))) (l : K.lookup f = some ⟨oc, od, .func (PySem.W.fnOf x x (defArgs st) (defBody st) (defScope st) .none kV doc pm an cdv ct), osl⟩)
    (c : PySem.W.codeIn K cdv x = true) (k : PySem.W.keepIn K (.ref f) = true)
    (b : ∀ (kV doc pm : Value) (an : Option Addr) (cdv ct : Value) (us : List Value), us.length = ps.length → bindArgs (PySem.W.fnOf x x (defArgs st) (defBody st) (defScope st) .none kV doc pm an cdv ct) ⟨us, []⟩ = pure (ps.zip us)) : DefAt K mg x st ps :=
  ⟨f, _, fun_mk l c k, PySem.W.mg_of X G a, (fun_mk l c k).binds b⟩
theorem metAt_mk {C : Addr} {m qual : Str} {st : Stmt} {ps : List Str} {f : Addr} {oc : Value} {od an : Option Addr} {osl : Array (Option Value)} {kV doc pm cdv ct : Value}
    (a : PySem.W.findIn K (.ref C) m = some (some (.ref f))) (i : PySem.W.isFn K (.ref f) = true) (l : K.lookup f = some ⟨oc, od, .func (PySem.W.fnOf m qual (defArgs st) (defBody st) (defScope st) .none kV doc pm an cdv ct), osl⟩)
    (c : PySem.W.codeIn K cdv qual = true) (k : PySem.W.keepIn K (.ref f) = true)
    (b : ∀ (kV doc pm : Value) (an : Option Addr) (cdv ct : Value) (us : List Value), us.length = ps.length → bindArgs (PySem.W.fnOf m qual (defArgs st) (defBody st) (defScope st) .none kV doc pm an cdv ct) ⟨us, []⟩ = pure (ps.zip us)) : MetAt K C m qual st ps :=
  ⟨f, _, fun_mk l c k, ⟨a, i, k⟩, (fun_mk l c k).binds b⟩
theorem cal_of {x : Str} {st : Stmt} {N ps : List Str} {k : Nat} {sp : Sp} (A : DefAt K mg x st ps) (S : FnScope N ps (defScope st)) (len : ∀ vs H Q E, sp vs H Q E → vs.length = ps.length)
    (hbody : ∀ (f : Addr) (cdv : Value) (A : Around) (outer : List Env) (s : Shared) (H : Hp) (vs : List V) (Q : VK) (E : XK), Room k (A.deeper (envOfC x (defScope st) s.heap.objs.size f cdv)) → sp vs H Q E →
      ∃ t, PSs (cxOf CX0 P w K mg base N x (defScope st) f cdv A outer s H E).nox (defBody st) t ∧ t { nx := fun _ H' => Q .non H', rt := Q } (start N vs) H) : Cal P w K mg base CX0 (k + 1) x ps sp := by
  obtain ⟨f, fd, F, hm, hb⟩ := A.ex
  exact ⟨f, fd, F.ok S len (fun cdv A outer s H vs Q E hr h => hbody f cdv A outer s H vs Q E hr h), hm, F.kp, hb⟩
theorem cal_ofX {x : Str} {st : Stmt} {N ps : List Str} {k : Nat} {sp : Sp} (A : DefAt K mg x st ps) (S : FnScope N ps (defScope st)) (len : ∀ vs H Q E, sp vs H Q E → vs.length = ps.length)
    (hbody : ∀ (f : Addr) (cdv : Value) (A : Around) (outer : List Env) (s : Shared) (H : Hp) (vs : List V) (Q : VK) (E : XK), Room k (A.deeper (envOfC x (defScope st) s.heap.objs.size f cdv)) → sp vs H Q E →
      ∃ t, PSs (cxOf (L2.CX P w) P w K mg base N x (defScope st) f cdv A outer s H E) (defBody st) t ∧ t { nx := fun _ H' => Q .non H', rt := Q } (start N vs) H) : Cal P w K mg base (L2.CX P w) (k + 1) x ps sp := by
  obtain ⟨f, fd, F, hm, hb⟩ := A.ex
  exact ⟨f, fd, F.okX S len (fun cdv A outer s H vs Q E hr h => hbody f cdv A outer s H vs Q E hr h), hm, F.kp, hb⟩
theorem met_of {C : Addr} {m qual : Str} {st : Stmt} {N ps : List Str} {k : Nat} {sp : Sp} (A : MetAt K C m qual st ps) (S : FnScope N ps (defScope st)) (len : ∀ vs H Q E, sp vs H Q E → vs.length = ps.length)
    (hbody : ∀ (f : Addr) (cdv : Value) (A : Around) (outer : List Env) (s : Shared) (H : Hp) (vs : List V) (Q : VK) (E : XK), Room k (A.deeper (envOfC qual (defScope st) s.heap.objs.size f cdv)) → sp vs H Q E →
      ∃ t, PSs (cxOf CX0 P w K mg base N qual (defScope st) f cdv A outer s H E).nox (defBody st) t ∧ t { nx := fun _ H' => Q .non H', rt := Q } (start N vs) H) : Met P w K mg base CX0 (k + 1) C m ps sp := by
  obtain ⟨f, fd, F, hm, hb⟩ := A.ex
  exact ⟨f, fd, F.ok S len (fun cdv A outer s H vs Q E hr h => hbody f cdv A outer s H vs Q E hr h), hm, hb⟩
/-- with no call left nothing is asked -/
theorem cal_none {x : Str} {st : Stmt} {ps : List Str} {sp : Sp} {CX : CXT} (A : DefAt K mg x st ps) (k : Nat) (no : ∀ vs H Q E, ¬ sp vs H Q E) : Cal P w K mg base CX k x ps sp := by
  obtain ⟨f, fd, F, hm, hb⟩ := A.ex
  exact ⟨f, fd, ⟨fun vs H Q E h => absurd h (no vs H Q E), fun A outer s H args us vs Q E _ _ _ _ h => absurd h (no vs H Q E)⟩, hm, F.kp, hb⟩
theorem met_none {C : Addr} {m qual : Str} {st : Stmt} {ps : List Str} {sp : Sp} {CX : CXT} (A : MetAt K C m qual st ps) (k : Nat) (no : ∀ vs H Q E, ¬ sp vs H Q E) : Met P w K mg base CX k C m ps sp := by
  obtain ⟨f, fd, F, hm, hb⟩ := A.ex
  exact ⟨f, fd, ⟨fun vs H Q E h => absurd h (no vs H Q E), fun A outer s H args us vs Q E _ _ _ _ h => absurd h (no vs H Q E)⟩, hm, hb⟩
theorem Cal.imp {x : Str} {ps : List Str} {sp sp' : Sp} {CX : CXT} {k : Nat} (c : Cal P w K mg base CX k x ps sp) (h : ∀ vs H Q E, sp' vs H Q E → sp vs H Q E) : Cal P w K mg base CX k x ps sp' := by
  obtain ⟨f, fd, F, r⟩ := c.ex
  exact ⟨f, fd, F.imp h, r⟩
theorem Cal.mono {x : Str} {ps : List Str} {sp : Sp} {CX : CXT} {j k : Nat} (c : Cal P w K mg base CX j x ps sp) (h : j ≤ k) : Cal P w K mg base CX k x ps sp := by
  obtain ⟨f, fd, F, r⟩ := c.ex
  exact ⟨f, fd, F.mono h, r⟩
end

section
variable {X : Cx} {CX : CXT} {k j : Nat} {C : Addr} {x m : Str} {ps : List Str} {sp : Sp} {E : XK} {p pos apos : Pos} {e o : Expr} {es : List Expr} {ta : TE} {t : TA}
theorem pe_c (c : Cal X.prog X.w X.K X.mg X.base CX k x ps sp) (hr : Room j X.A) (hk : k ≤ j) (hg : Gl X x) (hx : Passes CX X E) (ha : PA X (e :: es) t)
    (hdb : (x == ("__debug__" : Str)) = false := by decide) (he : starEach (e :: es) X.env = (false, eval e X.env) :: starEach es X.env := by rfl) (hpl : (backTo pos (starEach es X.env)).any (·.1) = false := by rfl) :
    PE X (.Call (.Name x p) (e :: es) [] pos) (tCall sp [] E t) := by
  obtain ⟨f, fd, F, hm, kp, b⟩ := c.ex
  exact pe_call F (hr.mono hk) hg hm kp b .nil hx ha hdb he hpl
theorem pe_c0 (c : Cal X.prog X.w X.K X.mg X.base CX k x ps sp) (hr : Room j X.A) (hk : k ≤ j) (hg : Gl X x) (hx : Passes CX X E)
    (hdb : (x == ("__debug__" : Str)) = false := by decide) :
    PE X (.Call (.Name x p) [] [] pos) (tCall sp [] E tNil) := by
  obtain ⟨f, fd, F, hm, kp, b⟩ := c.ex
  exact pe_call0 F (hr.mono hk) hg hm kp b .nil hx hdb
theorem pe_m {pl : Sem Bool} (c : Met X.prog X.w X.K X.mg X.base CX k C m ps sp) (cl : Cls X.K C) (hr : Room j X.A) (hk : k ≤ j) (hx : Passes CX X E) (he : PE X o ta) (ha : PA X (e :: es) t)
    (hst : starEach (e :: es) X.env = (false, eval e X.env) :: starEach es X.env := by rfl) (hpl : (backTo pos (starEach es X.env)).any (·.1) = false := by rfl)
    (ht : eval (.Call (.Attribute o m apos) (e :: es) [] pos) X.env = (do
      let ov ← eval o X.env
      standAt apos.atName
      let (f, first) ← holding [ov] (getMethod ov m pl)
      callWith pos f first (backTo pos (starEach (e :: es) X.env)) (backToKw pos (keywordEach [] X.env))) := by rfl) :
    PE X (.Call (.Attribute o m apos) (e :: es) [] pos) (tMeth C m sp [] E ta t) := by
  obtain ⟨f, fd, F, hm, b⟩ := c.ex
  exact pe_meth (pl := pl) he cl hm F (hr.mono hk) b .nil hx ha hst hpl ht
theorem pe_m0 {pl : Sem Bool} (c : Met X.prog X.w X.K X.mg X.base CX k C m ps sp) (cl : Cls X.K C) (hr : Room j X.A) (hk : k ≤ j) (hx : Passes CX X E) (he : PE X o ta)
    (ht : eval (.Call (.Attribute o m apos) [] [] pos) X.env = (do
      let ov ← eval o X.env
      standAt apos.atName
      let (f, first) ← holding [ov] (getMethod ov m pl)
      callWith pos f first (backTo pos (starEach [] X.env)) (backToKw pos (keywordEach [] X.env))) := by rfl) :
    PE X (.Call (.Attribute o m apos) [] [] pos) (tMeth C m sp [] E ta tNil) := by
  obtain ⟨f, fd, F, hm, b⟩ := c.ex
  exact pe_meth0 (pl := pl) he cl hm F (hr.mono hk) b .nil hx ht
/-- f(..) where what is raised is wished for at the slots -/
theorem pe_cS {ES : L2.St → XK} (c : Cal X.prog X.w X.K X.mg X.base CX k x ps sp) (hr : Room j X.A) (hk : k ≤ j) (hg : Gl X x) (hx : ∀ σ, PassesAt CX X σ (ES σ)) (ha : PA X (e :: es) t)
    (hdb : (x == ("__debug__" : Str)) = false := by decide) (he : starEach (e :: es) X.env = (false, eval e X.env) :: starEach es X.env := by rfl) (hpl : (backTo pos (starEach es X.env)).any (·.1) = false := by rfl) :
    PE X (.Call (.Name x p) (e :: es) [] pos) (tCallS sp ES t) := by
  obtain ⟨f, fd, F, hm, kp, b⟩ := c.ex
  exact pe_callS F (hr.mono hk) hg hm kp b hx ha hdb he hpl
end

/-! ### rules that the hand layer lacks -/
section
variable {X : Cx} {pos : Pos}
open PySem.Spec PyProof.Rows
/-- X(), an own exception class without own __init__ -/
theorem pmk_own0 {C : Addr} {bmB : List Value} {B newId initId : String} {x : Str} {p : Pos} (F : ExcBaseFacts B newId initId bmB) (q : PySem.W.excIn X.K C bmB newId = true) (gC : X.mg x = some (.ref C))
    (kC : PySem.W.keepIn X.K (.ref C) = true) (r : Raises X (.ref C)) (hg : Gl X x) (hdb : (x == ("__debug__" : Str)) = false := by decide) :
    PMk X (.Call (.Name x p) [] [] pos) (fun _ H Q => Q (.ref C) none H) := by
  intro pins s σ H Q I h
  refine wpAny_Call_Name_kw (ld_glob I hg gC ?_ hdb)
  refine PySem.W.callWith_K0 I.kIn kC ?_
  obtain ⟨bm, N, nm, qn, bs, hdct, sn, sub, ab, col, dd, k0, k1, k2, k3, k5, mN, hC, hN, hni, T⟩ := exc_obj I.kIn q
  refine wpAny_call_exc_subT F T hC hN hni (fun h' e hm => ?_) (Nat.zero_le _)
  exact mk_of I hm r h (I.hok.gone hm.new)
/-- s * n, n written below a million -/
theorem op_mul_str : OpR X (binaryOp .Mult) (fun x y H Q => ∃ (z : Str) (n : Nat), x = .str z ∧ y = .int (n : Int) ∧ 2 ≤ n ∧ 1 ≤ z.length ∧ z.length * n ≤ 1000 ∧ Q (.str ⟨(List.replicate n z.cps).foldl (· ++ ·) #[]⟩) H) := by
  intro pins s σ H x y v u Q I r1 r2 h
  obtain ⟨z, n, rfl, rfl, h1, h2, h3, q⟩ := h
  obtain ⟨t, rfl⟩ := (show ∃ t, v = Value.str z t from r1)
  obtain ⟨t', rfl⟩ := (show ∃ t', u = Value.int (n : Int) t' from r2)
  have hn : n ≤ 1000 := Nat.le_trans (Nat.le_mul_of_pos_left n h2) h3
  refine PySem.P.mul_str ?_ (fun _ _ => ?_) (fun _ _ => ?_) ?_
  · rw [Bool.or_eq_false_iff, decide_eq_false_iff_not, decide_eq_false_iff_not]
    omega
  · have hz : z.length ≤ 1000 := Nat.le_trans (Nat.le_mul_of_pos_right _ (by omega)) h3
    have e : (1000 : Int) ≤ (2 ^ 63 - 1) / (n : Int) := by
      rw [Int.le_ediv_iff_mul_le (by omega)]
      omega
    omega
  · rw [Int.toNat_natCast]
    unfold Builtin.Str.tooLong
    first
      | (rw [decide_eq_false_iff_not]; omega)
      | (simp only [sizeLine_eq, decide_eq_false_iff_not]; omega)
  · have c2 : ¬ ((n : Int) < 1) := by omega
    have c3 : ((n : Int) == 1 || z.length == 0) = false := by
      rw [Bool.or_eq_false_iff, beq_eq_false_iff_ne, beq_eq_false_iff_ne]
      exact ⟨by omega, by omega⟩
    rw [if_neg c2, if_neg (by rw [c3]; decide), Int.toNat_natCast]
    refine ⟨?_, .str _, H, I.tok _, ⟨_, rfl⟩, q⟩
    have e : ∀ (k : Nat) (a : Array Nat), ((List.replicate k z.cps).foldl (· ++ ·) a).size = a.size + z.length * k := by
      intro k
      induction k with
      | zero => intro a; simp
      | succ k ih =>
        intro a
        rw [List.replicate_succ, List.foldl_cons, ih, Array.size_append, Nat.mul_succ]
        show a.size + z.length + z.length * k = _
        omega
    have e1 := e n #[]
    show ((List.replicate n z.cps).foldl (· ++ ·) #[]).size ≤ sizeLine
    rw [e1, sizeLine_eq]
    show 0 + z.length * n ≤ _
    omega
end
end KQ
namespace KQ
open PySem PySem.Spec PyProof.Rows L2

/-! ### heaps -/
theorem same_new {H : Hp} {p : Addr} (h : H p = none) (o : HO) : Same H (upd H p o) := fun b u q => by rw [upd_ne (ne_of_none q h)]; exact q
/-- tuples stand -/
def Tups (H H' : Hp) : Prop := ∀ b xs, H b = some (.tup xs) → H' b = some (.tup xs)
theorem Tups.of {H H' : Hp} (s : Same H H') : Tups H H' := fun b xs h => s b _ h
theorem Tups.trans {H H1 H2 : Hp} (a : Tups H H1) (b : Tups H1 H2) : Tups H H2 := fun c o h => b c o (a c o h)
theorem Tups.refl (H : Hp) : Tups H H := fun _ _ h => h
/-- all but what stands at p stands -/
def But (p : Addr) (H H' : Hp) : Prop := ∀ b o, H b = some o → b ≠ p → H' b = some o
theorem But.refl (p : Addr) (H : Hp) : But p H H := fun _ _ h _ => h
theorem But.trans {p : Addr} {H H1 H2 : Hp} (a : But p H H1) (b : But p H1 H2) : But p H H2 := fun c o h n => b c o (a c o h n) n
theorem But.of {p : Addr} {H H' : Hp} (s : Same H H') : But p H H' := fun b o h _ => s b o h
theorem But.upd {p : Addr} {H : Hp} {o : HO} : But p H (upd H p o) := fun b u h n => by rw [upd_ne n]; exact h
theorem But.tups {p : Addr} {H H' : Hp} (s : But p H H') {o : HO} (h : H p = some o) (n : ∀ xs, o ≠ .tup xs) : Tups H H' := fun b xs e => s b _ e fun z => by
  subst z
  rw [h] at e
  exact n xs (Option.some.inj e)
/-- a new thing made, then changed: nothing that stood has changed -/
theorem same_at {H H' : Hp} {p : Addr} (h : H p = none) (s : ∀ b o, H b = some o → b ≠ p → H' b = some o) : Same H H' := fun b o e => s b o e (ne_of_none e h)
theorem same_upd {H H' : Hp} {p : Addr} (h : H p = none) (s : Same H H') (o : HO) : Same H (upd H' p o) := fun b u e => by rw [upd_ne (ne_of_none e h)]; exact s b u e

/-! ### a datum at a value -/
mutual
def At (H : Hp) : D → V → Prop
  | .non, v => v = .non
  | .bl b, v => v = .bl b
  | .int i, v => v = .int i
  | .str s, v => v = .str s ∧ s.length ≤ 1000
  | .odd, v => ∃ a, v = .ref a ∧ ((∃ xs, H a = some (.lst xs)) ∨ ∃ kvs, H a = some (.dK kvs))
  | .tup ds, v => ∃ a vs, v = .ref a ∧ H a = some (.tup vs) ∧ ds.length ≤ 1000000 ∧ AtL H ds vs
def AtL (H : Hp) : List D → List V → Prop
  | [], vs => vs = []
  | d :: r, vs => ∃ v us, vs = v :: us ∧ At H d v ∧ AtL H r us
end
mutual
theorem At.same {H H' : Hp} (s : Same H H') : ∀ (d : D) (v : V), At H d v → At H' d v
  | .non, _, h => by rw [At] at h ⊢; exact h
  | .bl _, _, h => by rw [At] at h ⊢; exact h
  | .int _, _, h => by rw [At] at h ⊢; exact h
  | .str _, _, h => by rw [At] at h ⊢; exact h
  | .odd, v, h => by
    rw [At] at h ⊢
    obtain ⟨a, e, h⟩ := h
    refine ⟨a, e, ?_⟩
    rcases h with ⟨xs, h⟩ | ⟨kvs, h⟩
    · exact .inl ⟨xs, s _ _ h⟩
    · exact .inr ⟨kvs, s _ _ h⟩
  | .tup ds, v, h => by
    rw [At] at h ⊢
    obtain ⟨a, vs, e, h, l, q⟩ := h
    exact ⟨a, vs, e, s _ _ h, l, AtL.same s ds vs q⟩
theorem AtL.same {H H' : Hp} (s : Same H H') : ∀ (ds : List D) (vs : List V), AtL H ds vs → AtL H' ds vs
  | [], _, h => by rw [AtL] at h ⊢; exact h
  | d :: r, vs, h => by
    rw [AtL] at h ⊢
    obtain ⟨v, us, e, h1, h2⟩ := h
    exact ⟨v, us, e, At.same s d v h1, AtL.same s r us h2⟩
end
mutual
theorem At.tups {H H' : Hp} (s : Tups H H') : ∀ (d : D) (n : Nat) (v : V), parBy sgn d n = true → At H d v → At H' d v
  | .non, _, _, _, h => by rw [At] at h ⊢; exact h
  | .bl _, _, _, _, h => by rw [At] at h ⊢; exact h
  | .int _, _, _, _, h => by rw [At] at h ⊢; exact h
  | .str _, _, _, _, h => by rw [At] at h ⊢; exact h
  | .odd, _, v, hp, h => by rw [parBy] at hp; cases hp
  | .tup ds, 0, v, hp, h => by rw [parBy] at hp; cases hp
  | .tup ds, n + 1, v, hp, h => by
    rw [parBy] at hp
    rw [At] at h ⊢
    obtain ⟨a, vs, e, h, l, q⟩ := h
    exact ⟨a, vs, e, s _ _ h, l, AtL.tups s ds n vs hp q⟩
theorem AtL.tups {H H' : Hp} (s : Tups H H') : ∀ (ds : List D) (n : Nat) (vs : List V), parsBy sgn ds n = true → AtL H ds vs → AtL H' ds vs
  | [], _, _, _, h => by rw [AtL] at h ⊢; exact h
  | d :: r, n, vs, hp, h => by
    rw [parsBy, Bool.and_eq_true] at hp
    rw [AtL] at h ⊢
    obtain ⟨v, us, e, h1, h2⟩ := h
    exact ⟨v, us, e, At.tups s d n v hp.1 h1, AtL.tups s r n us hp.2 h2⟩
end
theorem AtL.length {H : Hp} : ∀ {ds : List D} {vs : List V}, AtL H ds vs → vs.length = ds.length
  | [], vs, h => by rw [AtL] at h; rw [h]; rfl
  | d :: r, vs, h => by
    rw [AtL] at h
    obtain ⟨v, us, e, _, h2⟩ := h
    rw [e, List.length_cons, List.length_cons, AtL.length h2]
theorem AtL.get {H : Hp} : ∀ {ds : List D} {vs : List V} {i : Nat} {v : V}, AtL H ds vs → vs[i]? = some v → ∃ d, ds[i]? = some d ∧ At H d v
  | [], vs, i, v, h, e => by rw [AtL] at h; rw [h] at e; simp at e
  | d :: r, vs, i, v, h, e => by
    rw [AtL] at h
    obtain ⟨v', us, e', h1, h2⟩ := h
    subst e'
    cases i with
    | zero =>
      have : v' = v := by simpa using e
      subst this
      exact ⟨d, rfl, h1⟩
    | succ i =>
      obtain ⟨d', e1, e2⟩ := AtL.get (i := i) h2 (by simpa using e)
      exact ⟨d', by simpa using e1, e2⟩
theorem AtL.nil {H : Hp} : AtL H [] [] := by rw [AtL]
theorem AtL.cons {H : Hp} {d : D} {ds : List D} {v : V} {vs : List V} (h1 : At H d v) (h2 : AtL H ds vs) : AtL H (d :: ds) (v :: vs) := by
  rw [AtL]
  exact ⟨v, vs, rfl, h1, h2⟩
theorem AtL.snoc {H : Hp} : ∀ {ds : List D} {vs : List V} {d : D} {v : V}, AtL H ds vs → At H d v → AtL H (ds ++ [d]) (vs ++ [v])
  | [], vs, d, v, h, q => by
    rw [AtL] at h
    subst h
    exact AtL.cons q AtL.nil
  | e :: r, vs, d, v, h, q => by
    rw [AtL] at h
    obtain ⟨u, us, rfl, h1, h2⟩ := h
    exact AtL.cons h1 (AtL.snoc h2 q)
theorem At.tup_mk {H : Hp} {a : Addr} {vs : List V} {ds : List D} (h : H a = some (.tup vs)) (l : ds.length ≤ 1000000) (q : AtL H ds vs) : At H (.tup ds) (.ref a) := by
  rw [At]
  exact ⟨a, vs, rfl, h, l, q⟩

/-! ### the kinds, for isinstance -/
def isTup : D → Bool | .tup _ => true | _ => false
def isStr : D → Bool | .str _ => true | _ => false
def isBl : D → Bool | .bl _ => true | _ => false
def isInt : D → Bool | .bl _ => true | .int _ => true | _ => false
structure Kinds (d : D) (n : String) : Prop where
  tup : kitB n "tuple" = some (isTup d)
  str : kitB n "str" = some (isStr d)
  bl : kitB n "bool" = some (isBl d)
  int : kitB n "int" = some (isInt d)
theorem At.ty {K : PySem.W.Frag} {H : Hp} {d : D} {v : V} (h : At H d v) : ∃ n, TyX K H v (.type n) ∧ Kinds d n := by
  cases d with
  | non => rw [At] at h; subst h; exact ⟨_, .base .non, ⟨(show kitB "NoneType" "tuple" = some false from by decide +kernel), (show kitB "NoneType" "str" = some false from by decide +kernel), (show kitB "NoneType" "bool" = some false from by decide +kernel), (show kitB "NoneType" "int" = some false from by decide +kernel)⟩⟩
  | bl b => rw [At] at h; subst h; exact ⟨_, .base (.bl b), ⟨(show kitB "bool" "tuple" = some false from by decide +kernel), (show kitB "bool" "str" = some false from by decide +kernel), (show kitB "bool" "bool" = some true from by decide +kernel), (show kitB "bool" "int" = some true from by decide +kernel)⟩⟩
  | int i => rw [At] at h; subst h; exact ⟨_, .base (.int i), ⟨(show kitB "int" "tuple" = some false from by decide +kernel), (show kitB "int" "str" = some false from by decide +kernel), (show kitB "int" "bool" = some false from by decide +kernel), (show kitB "int" "int" = some true from by decide +kernel)⟩⟩
  | str s => rw [At] at h; obtain ⟨rfl, _⟩ := h; exact ⟨_, .base (.str s), ⟨(show kitB "str" "tuple" = some false from by decide +kernel), (show kitB "str" "str" = some true from by decide +kernel), (show kitB "str" "bool" = some false from by decide +kernel), (show kitB "str" "int" = some false from by decide +kernel)⟩⟩
  | tup ds =>
    rw [At] at h
    obtain ⟨a, vs, rfl, e, _⟩ := h
    exact ⟨_, .base (.tup e), ⟨(show kitB "tuple" "tuple" = some true from by decide +kernel), (show kitB "tuple" "str" = some false from by decide +kernel), (show kitB "tuple" "bool" = some false from by decide +kernel), (show kitB "tuple" "int" = some false from by decide +kernel)⟩⟩
  | odd =>
    rw [At] at h
    obtain ⟨a, rfl, h⟩ := h
    rcases h with ⟨xs, e⟩ | ⟨kvs, e⟩
    · exact ⟨_, .base (.lst e), ⟨(show kitB "list" "tuple" = some false from by decide +kernel), (show kitB "list" "str" = some false from by decide +kernel), (show kitB "list" "bool" = some false from by decide +kernel), (show kitB "list" "int" = some false from by decide +kernel)⟩⟩
    · exact ⟨_, .base (.dK e), ⟨(show kitB "dict" "tuple" = some false from by decide +kernel), (show kitB "dict" "str" = some false from by decide +kernel), (show kitB "dict" "bool" = some false from by decide +kernel), (show kitB "dict" "int" = some false from by decide +kernel)⟩⟩
theorem ty_int {K : PySem.W.Frag} {H : Hp} (i : Int) : ∃ n, TyX K H (.int i) (.type n) ∧ Kinds (.int i) n := At.ty (by rw [At])
theorem At.non_iff {H : Hp} {d : D} {v : V} (h : At H d v) : decide (v = .non) = (match d with | .non => true | _ => false) := by
  cases d with
  | non => rw [At] at h; subst h; rfl
  | bl b => rw [At] at h; subst h; rfl
  | int i => rw [At] at h; subst h; rfl
  | str s => rw [At] at h; obtain ⟨rfl, _⟩ := h; rfl
  | tup ds => rw [At] at h; obtain ⟨a, vs, rfl, _⟩ := h; rfl
  | odd => rw [At] at h; obtain ⟨a, rfl, _⟩ := h; rfl

section
variable {X : Cx} {pos : Pos}
theorem CallR.imp {f : Value} {r r' : List V → Hp → VK → Prop} (c : CallR X f r) (h : ∀ xs H Q, r' xs H Q → r xs H Q) : CallR X f r' := fun pins s σ H xs us Q I rv q => c pins s σ H xs us Q I rv (h xs H Q q)
/-- isinstance(e, T), T a built-in class -/
def rIsi1 (K : PySem.W.Frag) (n : String) : List V → Hp → VK → Prop := fun xs H Q => xs.tail = [.ty n] ∧ ∃ t b, TyX K H (xs.headD .non) (.type t) ∧ kitB t n = some b ∧ Q (.bl b) H
theorem call_isi1 (n : String) : CallR X (.builtin "isinstance") (rIsi1 X.K n) := CallR.imp call_isi fun xs H Q h => by
  obtain ⟨e, t, b, ty, kt, q⟩ := h
  match xs, e with
  | [x, .ty m], e =>
    have e' : m = n := by simpa using e
    subst e'
    exact ⟨x, .ty m, .type t, .type m, b, rfl, .ty m, ty, kit_ty kt, q⟩
def tIsi (K : PySem.W.Frag) (n : String) (te : TE) : TE := tCB (rIsi1 K n) (tCons te (tCons (tC (.ty n)) tNil))
theorem pe_isi {e : Expr} {te : TE} {p q : Pos} {x : Str} (n : String) (he : PE X e te) (hgi : Gl X "isinstance") (hmi : X.mg "isinstance" = none) (hg : Gl X x) (hm : X.mg x = none) (hb : bootBuiltins x = some (.type n))
    (hs1 : starEach [e, .Name x q] X.env = (false, eval e X.env) :: starEach [.Name x q] X.env := by rfl) (hs2 : starEach [.Name x q] X.env = (false, eval (.Name x q) X.env) :: starEach [] X.env := by rfl)
    (hpl : (backTo pos (starEach [.Name x q] X.env)).any (·.1) = false := by rfl)
    (hn : x ≠ "__name__" := by decide) (hd : (x == ("__debug__" : Str)) = false := by decide) : PE X (.Call (.Name "isinstance" p) [e, .Name x q] [] pos) (tIsi X.K n te) :=
  pe_callB (call_isi1 n) hgi hmi (by decide +kernel) (pa_cons he (pa_cons (pe_bltn (v := .ty n) hg hm hb rfl hn hd) pa_nil hs2) hs1) (by decide) (by decide) hs1 hpl
/-- a written int of the module -/
theorem pe_k {x : Str} {i : Int} (h : ∃ t, X.mg x = some (.int i t)) (hg : Gl X x) (hd : (x == ("__debug__" : Str)) = false := by decide) : PE X (.Name x pos) (tC (.int i)) := by
  obtain ⟨t, h⟩ := h
  exact pe_glob hg h ⟨t, rfl⟩ hd
theorem pe_kS {x : Str} {z : Str} (h : ∃ t, X.mg x = some (.str z t)) (hg : Gl X x) (hd : (x == ("__debug__" : Str)) = false := by decide) : PE X (.Name x pos) (tC (.str z)) := by
  obtain ⟨t, h⟩ := h
  exact pe_glob hg h ⟨t, rfl⟩ hd
end
/-! ### a comprehension whose values are known -/
theorem set_wipe (σ : L2.St) (i : Nat) (x : V) : wipe ((wipe σ [i]).set i (some x)) [i] = wipe σ [i] := by
  show ((σ.set i none).set i (some x)).set i none = σ.set i none
  rw [List.set_set, List.set_set]
theorem lc_one {J : It} {n : Nat} {G : Hp → Prop} {Y : Nat → Hp → V → Hp → Prop} {i : Nat} {te : TE} {σ : L2.St} {H1 : Hp} {D : Addr} {Qd : Hp → Prop} (zs : List V) (w : Walk J n G Y) (hn : zs.length = n) (hz : n ≤ 1000000) (hD : H1 D = none)
    (hG : ∀ H, Same H1 H → G H) (hY : ∀ m H x H', Y m H x H' → Same H H')
    (hs : ∀ m x H H' z (k : VK), zs[m]? = some z → Same H1 H → Y m H x H' → (∀ H4, Same H' H4 → k z H4) → te ((σ.set i none).set i (some x)) H' k) (hd : ∀ H, Same H1 H → H D = some (.lst zs) → Qd H) :
    ∃ W : Nat → Nat → Hp → Prop, (∃ m, W 0 m (upd H1 D (.lst []))) ∧ ∀ j m H, W j m H →
      (J.stop j H ∧ Qd H) ∨ (J.go j H ∧ ∃ Nx : Hp → Prop, (∀ H', Nx H' → ∃ m', m' < m ∧ W (j + 1) m' H') ∧ ∀ x H', J.yld j H x H' → gName i x (wipe σ [i]) H' fun σ2 H2 => wipe σ2 [i] = wipe σ [i] ∧ tYes σ2 H2 fun b H3 =>
        if b = true then te σ2 H3 fun y H4 => ∃ acc, H4 D = some (.lst acc) ∧ acc.length < sizeLine ∧ Nx (upd H4 D (.lst (acc ++ [y]))) else Nx H3) := by
  refine lc_it w (fun j H => Same H1 H ∧ H D = some (.lst (zs.take j))) ⟨same_upd hD (Same.refl _) _, upd_same⟩ (fun j H _ h => hG H h.1) (fun j x H H' hj h y => ⟨set_wipe σ i x, ?_⟩) (fun H h => hd H h.1 (by rw [h.2, List.take_of_length_le (by omega)]))
  unfold tYes
  dsimp only
  rw [if_pos rfl]
  have hjz : j < zs.length := by omega
  refine hs j x H H' zs[j] _ (by simp [hjz]) h.1 y fun H4 s4 => ?_
  have e4 := s4 _ _ (hY j H x H' y _ _ h.2)
  refine ⟨zs.take j, e4, ?_, same_upd hD (h.1.trans ((hY j H x H' y).trans s4)) _, ?_⟩
  · rw [List.length_take, sizeLine_eq]
    omega
  · rw [upd_same, List.take_add_one]
    simp [hjz]
end KQ
namespace KQ
open PySem PySem.Spec PyProof.Rows L2

/-- built-in names that the top leaves alone -/
structure Bu (mg : Str → Option Value) : Prop where
  isi : mg "isinstance" = none
  tup : mg "tuple" = none
  all : mg "all" = none
  int : mg "int" = none
  bool : mg "bool" = none
  str : mg "str" = none
  ord : mg "ord" = none
  len : mg "len" = none
  range : mg "range" = none
  sum : mg "sum" = none
  abs : mg "abs" = none
  zip : mg "zip" = none
  ve : mg "ValueError" = none
def signs : Str := " !\"#$ &'()*+,-./0123456789:;<=>?@ABCDEFGHIJKLMNOPQRSTUVWXYZ[\\]^_`abcdefghijklmnopqrstuvwxyz{|}~"
theorem signs_at : ∀ c : Nat, c < 127 → sgn c = true → signs.cps[c - 32]? = some c := by decide +kernel
theorem signs_len : signs.length = 95 := by decide +kernel
/-- the module's constants -/
structure Cn (mg : Str → Option Value) : Prop where
  nothing : ∃ t, mg "NOTHING" = some (.int 0 t)
  no : ∃ t, mg "NO" = some (.int 1 t)
  yes : ∃ t, mg "YES" = some (.int 2 t)
  number : ∃ t, mg "NUMBER" = some (.int 3 t)
  below : ∃ t, mg "BELOW" = some (.int 4 t)
  string : ∃ t, mg "STRING" = some (.int 5 t)
  several : ∃ t, mg "SEVERAL" = some (.int 6 t)
  deep : ∃ t, mg "MOST_DEEP" = some (.int 20 t)
  most : ∃ t, mg "MOST_SIGNS" = some (.int 20 t)
  first : ∃ t, mg "FIRST_SIGN" = some (.int 32 t)
  last : ∃ t, mg "LAST_SIGN" = some (.int 126 t)
  nosign : ∃ t, mg "NO_SIGN" = some (.int 37 t)
  signs : ∃ t, mg "SIGNS" = some (.str signs t)
  base : ∃ t, mg "BASE" = some (.int 128 t)
  bytes : ∃ t, mg "BYTES" = some (.int 256 t)
  mult : ∃ t, mg "MULTIPLIER" = some (.int 1000003 t)
  modulus : ∃ m t, 0 < m ∧ mg "MODULUS" = some (.int m t)
  sealb : ∃ t, mg "SEAL_BYTES" = some (.int 4 t)
abbrev bmVE : List Value := [.type "ValueError", .type "Exception", .type "BaseException", .type "object"]
/-- the classes: RowReader at R, NoParcel at N, QuietError at Q -/
structure Cl (K : PySem.W.Frag) (mg : Str → Option Value) (R N Q : Addr) : Prop where
  cl : Cls K R
  nRow : NoAttr K R "row"
  nAt : NoAttr K R "at"
  gR : mg "RowReader" = some (.ref R)
  mkR : PySem.W.makesIn K R = true
  kR : PySem.W.keepIn K (.ref R) = true
  gN : mg "NoParcel" = some (.ref N)
  gQ : mg "QuietError" = some (.ref Q)
  exN : PySem.W.excIn K N bmVE "ValueError.__new__" = true
  kN : PySem.W.keepIn K (.ref N) = true
  bN : PySem.W.subIn K (.ref N) (.type "BaseException") = some true
  tN : PySem.W.typeIn K (.ref N) = some (.type "type")
  bQ : PySem.W.subIn K (.ref Q) (.type "BaseException") = some true
  dQ : PySem.W.hasDictIn K Q = true
  tQ : PySem.W.typeIn K (.ref Q) = some (.type "type")
  sNQ : PySem.W.subIn K (.ref N) (.ref Q) = some true
  ec : ExcC K N
  oneN : PySem.W.kitOne K (.ref N) (.ref N) = some true
  oneV : PySem.W.kitOne K (.ref N) (.type "ValueError") = some true
  retr : ∃ f fd, Fun K "__init__" "RowReader.__init__" (inClass (topS 33) 0) f fd ∧ Mk K R f ∧ Binds K fd ["self", "row"] []
  mNext : MetAt K R "next_byte" "RowReader.next_byte" (inClass (topS 33) 1) ["self"]
  mWhole : MetAt K R "read_whole" "RowReader.read_whole" (inClass (topS 33) 2) ["self"]
  mString : MetAt K R "read_string" "RowReader.read_string" (inClass (topS 33) 3) ["self"]
  mSeveral : MetAt K R "read_several" "RowReader.read_several" (inClass (topS 33) 4) ["self", "left"]
  mParcel : MetAt K R "read_parcel" "RowReader.read_parcel" (inClass (topS 33) 5) ["self", "left"]
end KQ
namespace KQ
open PySem PySem.Spec PyProof.Rows L2
section
variable {P : Program} {w : World} {K : PySem.W.Frag} {mg : Str → Option Value} {base : Heap}
/-! ### is_sign -/
abbrev sIsSign : Stmt := topS 26
theorem scIsSign : FnScope ["number"] ["number"] (defScope sIsSign) := ⟨rfl, rfl, rfl, by decide +kernel, rfl, by decide +kernel, by decide +kernel⟩
def spIsSign : Sp := fun vs H Q _ => ∃ c : Nat, vs = [.int (c : Int)] ∧ Q (.bl (sgn c)) H
theorem ok_isSign (A : DefAt K mg "is_sign" sIsSign ["number"]) (k : Cn mg) : Cal P w K mg base CX0 1 "is_sign" ["number"] spIsSign := by
  refine cal_of A scIsSign (fun vs H Q E h => ?_) (fun f cdv A outer s H vs Q E hr h => ?_)
  · obtain ⟨c, rfl, _⟩ := h
    rfl
  obtain ⟨c, rfl, q⟩ := h
  refine ⟨_, pss_one (ps_ret (pe_and (pe_chain op_le op_le (pe_k k.first rfl) (pv 0) (pe_k k.last rfl)) (pe_one (pe_cmpR op_ne (pv 0) (pe_k k.nosign rfl) (nomark _))))), ?_⟩
  refine ⟨_, rfl, _, _, rfl, rfl, _, rfl, ?_⟩
  by_cases h1 : (32 : Int) ≤ (c : Int)
  · rw [decide_eq_true h1, if_pos rfl]
    refine ⟨_, _, rfl, rfl, _, rfl, ?_⟩
    by_cases h2 : (c : Int) ≤ 126
    · rw [decide_eq_true h2, if_pos rfl]
      refine ⟨_, rfl, rfl, ?_⟩
      have e : (!decide (V.int (c : Int) = V.int 37)) = sgn c := by
        rw [dec_int]
        unfold sgn
        rw [decide_eq_true (show 32 ≤ c by omega), decide_eq_true (show c ≤ 126 by omega)]
        by_cases h3 : c = 37
        · subst h3; rfl
        · rw [decide_eq_true h3, beq_eq_false_iff_ne.mpr (by omega)]; rfl
      rw [e]
      exact q
    · rw [decide_eq_false h2, if_neg Bool.false_ne_true]
      have e : sgn c = false := by
        unfold sgn
        rw [decide_eq_false (show ¬ c ≤ 126 by omega)]
        simp
      rw [e] at q
      exact q
  · rw [decide_eq_false h1, if_neg Bool.false_ne_true]
    refine ⟨_, rfl, ?_⟩
    rw [if_neg Bool.false_ne_true]
    have e : sgn c = false := by
      unfold sgn
      rw [decide_eq_false (show ¬ 32 ≤ c by omega)]
      simp
    rw [e] at q
    exact q
/-! ### is_short_string -/
abbrev sShort : Stmt := topS 27
theorem scShort : FnScope ["thing", "sign"] ["thing"] (defScope sShort) := ⟨rfl, rfl, rfl, by decide +kernel, rfl, by decide +kernel, by decide +kernel⟩
def isShort (p : Nat → Bool) : D → Bool
  | .str s => shortBy p s
  | _ => false
theorem isShort_str (p : Nat → Bool) (s : Str) : isShort p (.str s) = shortBy p s := rfl
def spShort : Sp := fun vs H Q _ => ∃ (v : V) (d : D), vs = [v] ∧ At H d v ∧ ∀ H', Same H H' → Q (.bl (isShort sgn d)) H'
theorem ok_short (A : DefAt K mg "is_short_string" sShort ["thing"]) (b : Bu mg) (k : Cn mg) (C : Cal P w K mg base CX0 1 "is_sign" ["number"] spIsSign) : Cal P w K mg base CX0 2 "is_short_string" ["thing"] spShort := by
  refine cal_of A scShort (fun vs H Q E h => ?_) (fun f cdv A outer s H vs Q E hr h => ?_)
  · obtain ⟨v, d, rfl, _⟩ := h
    rfl
  obtain ⟨v, d, rfl, hv, q⟩ := h
  refine ⟨_, pss_cons (ps_if (PW.pt (pw_or (pt_not (pt_val (pe_isi "str" (pv 0) rfl b.isi rfl b.str (by decide +kernel)))) (pw_or1 (pt_not (pt_chain op_le op_le pe_int (pe_callB call_len_str rfl b.len PySem.boot_len (pa_cons (pv 0) pa_nil)) (pe_k k.most rfl))))))
      (pss_one (ps_ret pe_bl)) pss_nil)
    (pss_one (ps_ret (pe_callB (cr_all rfl) rfl b.all (by decide +kernel) (pa_cons (pe_lc (own := [("sign", 1)]) (g := gName 1) (tt := tYes) rfl scShort.nd (pi_str (pv 0)) (blkOk_by (N := ["thing", "sign"]) (sc := defScope sShort) (by decide +kernel))
      (fun _ _ _ _ _ => pg_name (i := 1) scShort.nd rfl (Or.inl rfl)) (fun _ _ _ _ _ => pts_nil)
      (fun _ _ _ _ _ => pe_c C hr (Nat.le_refl _) rfl pass0 (pa_cons (pe_callB call_ord rfl b.ord (by decide +kernel) (pa_cons (pv 1) pa_nil)) pa_nil))) pa_nil)))), ?_⟩
  obtain ⟨n, ty, kd⟩ := At.ty (K := K) hv
  refine ⟨_, rfl, rfl, _, _, ty, kd.str, _, rfl, ?_⟩
  cases d with
  | str s =>
    rw [At] at hv
    obtain ⟨rfl, hl⟩ := hv
    refine ⟨_, rfl, s, rfl, (by rw [sizeLine_eq]; omega), _, _, rfl, rfl, _, rfl, ?_⟩
    by_cases h1 : (1 : Int) ≤ (s.length : Int)
    · rw [decide_eq_true h1]
      refine ⟨_, _, rfl, rfl, _, rfl, ?_⟩
      by_cases h2 : (s.length : Int) ≤ 20
      · rw [decide_eq_true h2]
        refine ⟨_, rfl, s, rfl, fun D hD => ?_⟩
        refine lc_one (zs := s.cps.toList.map fun c => .bl (sgn c)) walk_str (by simp) (by show s.length ≤ _; omega) hD (fun _ _ => trivial) (fun m H x H' y => by rw [y.1]; exact Same.refl _) (fun m x H2 H3 z k hz s2 y kk => ?_) (fun H2 s2 e2 => ?_)
        · obtain ⟨rfl, c, hc, rfl⟩ := y
          have hz' : z = .bl (sgn c) := by
            rw [List.getElem?_map, Array.getElem?_toList, hc] at hz
            exact (Option.some.inj hz).symm
          subst hz'
          refine ⟨_, rfl, ⟨#[c]⟩, rfl, rfl, c, rfl, kk _ (Same.refl _)⟩
        · refine ⟨D, s.cps.toList.map sgn, rfl, SqL.of (by rw [e2, List.map_map]; rfl), ?_⟩
          have e : (s.cps.toList.map sgn).all id = isShort sgn (.str s) := by
            rw [isShort_str]; unfold shortBy
            rw [decide_eq_true (show 1 ≤ s.length by omega), decide_eq_true (show s.length ≤ 20 by omega), List.all_map]
            rfl
          rw [e]
          exact q H2 s2
      · rw [decide_eq_false h2]
        have e : isShort sgn (.str s) = false := by
          rw [isShort_str]; unfold shortBy
          rw [decide_eq_false (show ¬ s.length ≤ 20 by omega)]
          simp
        rw [e] at q
        exact q H (Same.refl H)
    · rw [decide_eq_false h1]
      have e : isShort sgn (.str s) = false := by
        rw [isShort_str]; unfold shortBy
        rw [decide_eq_false (show ¬ 1 ≤ s.length by omega)]
        simp
      rw [e] at q
      exact ⟨_, rfl, q H (Same.refl H)⟩
  | _ => exact q H (Same.refl H)
end
end KQ
namespace KQ
open PySem PySem.Spec PyProof.Rows L2
section
variable {P : Program} {w : World} {K : PySem.W.Frag} {mg : Str → Option Value} {base : Heap}
/-! ### is_parcel_deep -/
abbrev sDeep : Stmt := topS 28
theorem scDeep : FnScope ["thing", "left", "item"] ["thing", "left"] (defScope sDeep) := ⟨rfl, rfl, rfl, by decide +kernel, rfl, by decide +kernel, by decide +kernel⟩
def spDeep (n : Nat) : Sp := fun vs H Q _ => ∃ (v : V) (d : D) (z : Int), vs = [v, .int z] ∧ At H d v ∧ 0 ≤ z ∧ z.toNat + 1 ≤ n ∧ ∀ H', Same H H' → Q (.bl (parBy sgn d z.toNat)) H'
theorem ok_deep {n : Nat} (A : DefAt K mg "is_parcel_deep" sDeep ["thing", "left"]) (b : Bu mg) (C : Cal P w K mg base CX0 (n + 2) "is_parcel_deep" ["thing", "left"] (spDeep n)) (CS : Cal P w K mg base CX0 2 "is_short_string" ["thing"] spShort) :
    Cal P w K mg base CX0 (n + 2 + 1) "is_parcel_deep" ["thing", "left"] (spDeep (n + 1)) := by
  refine cal_of A scDeep (fun vs H Q E h => ?_) (fun f cdv A outer s H vs Q E hr h => ?_)
  · obtain ⟨v, d, z, rfl, _⟩ := h
    rfl
  obtain ⟨v, d, z, rfl, hv, hz, hn, q⟩ := h
  refine ⟨_, pss_cons (ps_if (pt_val (pe_isi "tuple" (pv 0) rfl b.isi rfl b.tup (by decide +kernel)))
      (pss_one (ps_ret (pe_and (pe_cmpR op_gt (pv 1) pe_int (nomark _)) (pe_one (pe_callB (cr_all rfl) rfl b.all (by decide +kernel) (pa_cons (pe_lc (own := [("item", 2)]) (g := gName 2) (tt := tYes) rfl scDeep.nd (pi_tup (pv 0))
        (blkOk_by (N := ["thing", "left", "item"]) (sc := defScope sDeep) (by decide +kernel)) (fun _ _ _ _ _ => pg_name (i := 2) scDeep.nd rfl (Or.inl rfl)) (fun _ _ _ _ _ => pts_nil)
        (fun _ _ _ _ _ => pe_c C hr (Nat.le_refl _) rfl pass0 (pa_cons (pv 2) (pa_cons (pe_op op_sub (pv 1) pe_int) pa_nil)))) pa_nil)))))) pss_nil)
    (pss_one (ps_ret (pe_or (pe_cmp (pc_isN (pv 0))) (pe_or (pe_isi "int" (pv 0) rfl b.isi rfl b.int (by decide +kernel)) (pe_one (pe_c CS hr (Nat.le_add_left 2 n) rfl pass0 (pa_cons (pv 0) pa_nil))))))), ?_⟩
  obtain ⟨nm, ty, kd⟩ := At.ty (K := K) hv
  have hnon := hv.non_iff
  refine ⟨_, rfl, rfl, _, _, ty, kd.tup, _, rfl, ?_⟩
  cases d with
  | tup ds =>
    have hv' := hv
    rw [At] at hv'
    obtain ⟨a, xs, rfl, ha, hl, hq⟩ := hv'
    have hlen := hq.length
    refine ⟨_, rfl, _, _, rfl, rfl, _, rfl, ?_⟩
    by_cases h1 : (0 : Int) < z
    · rw [decide_eq_true h1]
      refine ⟨_, rfl, a, rfl, ⟨_, SqT.of ha⟩, fun D hD => ?_⟩
      refine lc_one (zs := ds.map fun d => .bl (parBy sgn d (z - 1).toNat)) (walk_tup (K := K) (a := a) (xs := xs)) (by rw [List.length_map, hlen]) (by omega) hD (fun H2 s2 => SqT.of (s2 _ _ ha)) (fun m H x H' y => by rw [y.1]; exact Same.refl _) (fun m x H2 H3 zz k hz' s2 y kk => ?_) (fun H2 s2 e2 => ?_)
      · obtain ⟨rfl, hx⟩ := y
        obtain ⟨d, hd, hat⟩ := hq.get hx
        rw [List.getElem?_map, hd] at hz'
        cases hz'
        refine ⟨_, rfl, _, rfl, _, _, rfl, rfl, x, d, z - 1, rfl, At.same s2 _ _ hat, by omega, by omega, fun H4 s4 => kk H4 s4⟩
      · refine ⟨D, ds.map fun d => parBy sgn d (z - 1).toNat, rfl, SqL.of (by rw [e2, List.map_map]; rfl), ?_⟩
        have e : (ds.map fun d => parBy sgn d (z - 1).toNat).all id = parBy sgn (.tup ds) z.toNat := by
          rw [parBy_tup, decide_eq_true (show 0 < z.toNat by omega), Bool.true_and, show (z - 1).toNat = z.toNat - 1 by omega]
        rw [e]
        exact q H2 s2
    · rw [decide_eq_false h1]
      have e : parBy sgn (.tup ds) z.toNat = false := by
        rw [parBy_tup, decide_eq_false (show ¬ 0 < z.toNat by omega), Bool.false_and]
      rw [e] at q
      exact q H (Same.refl H)
  | non => 
    refine ⟨_, rfl, _, rfl, ?_⟩
    rw [hnon]
    rw [parBy] at q
    exact q H (Same.refl H)
  | bl c => 
    refine ⟨_, rfl, _, rfl, ?_⟩
    rw [hnon]
    rw [parBy] at q
    exact ⟨_, rfl, rfl, _, _, ty, kd.int, _, rfl, q H (Same.refl H)⟩
  | int c => 
    refine ⟨_, rfl, _, rfl, ?_⟩
    rw [hnon]
    rw [parBy] at q
    exact ⟨_, rfl, rfl, _, _, ty, kd.int, _, rfl, q H (Same.refl H)⟩
  | str c => 
    refine ⟨_, rfl, _, rfl, ?_⟩
    rw [hnon]
    rw [parBy] at q
    exact ⟨_, rfl, rfl, _, _, ty, kd.int, _, rfl, _, rfl, v, .str c, rfl, hv, q⟩
  | odd => 
    refine ⟨_, rfl, _, rfl, ?_⟩
    rw [hnon]
    rw [parBy] at q
    exact ⟨_, rfl, rfl, _, _, ty, kd.int, _, rfl, _, rfl, v, .odd, rfl, hv, q⟩
theorem all_deep (A : DefAt K mg "is_parcel_deep" sDeep ["thing", "left"]) (b : Bu mg) (CS : Cal P w K mg base CX0 2 "is_short_string" ["thing"] spShort) :
    ∀ n : Nat, Cal P w K mg base CX0 (n + 2) "is_parcel_deep" ["thing", "left"] (spDeep n)
  | 0 => cal_none A _ fun vs H Q E h => by
    obtain ⟨_, _, _, _, _, _, hn, _⟩ := h
    omega
  | n + 1 => ok_deep A b (all_deep A b CS n) CS
/-! ### is_parcel -/
abbrev sIsParcel : Stmt := topS 29
theorem scIsParcel : FnScope ["thing"] ["thing"] (defScope sIsParcel) := ⟨rfl, rfl, rfl, by decide +kernel, rfl, by decide +kernel, by decide +kernel⟩
def spIsParcel : Sp := fun vs H Q _ => ∃ (v : V) (d : D), vs = [v] ∧ At H d v ∧ ∀ H', Same H H' → Q (.bl (parBy sgn d 20)) H'
theorem ok_isParcel (A : DefAt K mg "is_parcel" sIsParcel ["thing"]) (k : Cn mg) (C : Cal P w K mg base CX0 23 "is_parcel_deep" ["thing", "left"] (spDeep 21)) : Cal P w K mg base CX0 24 "is_parcel" ["thing"] spIsParcel := by
  refine cal_of A scIsParcel (fun vs H Q E h => ?_) (fun f cdv A outer s H vs Q E hr h => ?_)
  · obtain ⟨v, d, rfl, _⟩ := h
    rfl
  obtain ⟨v, d, rfl, hv, q⟩ := h
  refine ⟨_, pss_one (ps_ret (pe_c C hr (Nat.le_refl _) rfl pass0 (pa_cons (pv 0) (pa_cons (pe_k k.deep rfl) pa_nil)))), ?_⟩
  exact ⟨_, rfl, v, d, 20, rfl, hv, by decide, by decide, q⟩
end
end KQ
namespace KQ
open PySem PySem.Spec PyProof.Rows L2
abbrev iv (l : List Int) : List V := l.map V.int
theorem len_line {n : Nat} (h : n ≤ 2000000) : n < sizeLine := by rw [sizeLine_eq]; omega
section
variable {P : Program} {w : World} {K : PySem.W.Frag} {mg : Str → Option Value} {base : Heap}
/-! ### whole -/
abbrev sWhole : Stmt := topS 30
theorem scWhole : FnScope ["number", "found"] ["number"] (defScope sWhole) := ⟨rfl, rfl, rfl, by decide +kernel, rfl, by decide +kernel, by decide +kernel⟩
def spWhole : Sp := fun vs H Q _ => ∃ n : Nat, vs = [.int (n : Int)] ∧ (whole n).length ≤ 1000000 ∧ ∀ r H', Same H H' → H' r = some (.lst (iv (whole n))) → Q (.ref r) H'
def headInt : L2.St → Nat
  | some (.int z) :: _ => z.toNat
  | _ => 0
theorem ok_whole (A : DefAt K mg "whole" sWhole ["number"]) (k : Cn mg) : Cal P w K mg base CX0 1 "whole" ["number"] spWhole := by
  refine cal_of A scWhole (fun vs H Q E h => ?_) (fun f cdv A outer s H vs Q E hr h => ?_)
  · obtain ⟨n, rfl, _⟩ := h
    rfl
  obtain ⟨n, rfl, hn, q⟩ := h
  refine ⟨_, pss_cons (ps_set (i := 1) scWhole.nd rfl (Or.inl rfl) (pe_lst pa_nil))
    (pss_cons (ps_while PassesOwn.never (pt_cmpR op_ge (pv 0) (pe_k k.base rfl) (nomark _))
      (pss_cons (ps_expr (pe_bm PySem.F.plainAttrs_list PySem.F.slot_list_append PySem.F.type_list_append mt_append (pv 1) (pa_cons (pe_op op_add (pe_k k.base rfl) (pe_op op_mod (pv 0) (pe_k k.base rfl))) pa_nil)))
      (pss_one (ps_set (i := 0) scWhole.nd rfl (Or.inl rfl) (pe_op op_fdiv (pv 0) (pe_k k.base rfl))))))
    (pss_one (ps_ret (pe_op op_cat (pv 1) (pe_lst (pa_cons (pv 0) pa_nil)))))), ?_⟩
  refine ⟨Nat.zero_le _, fun l hl => ?_⟩
  refine while_by (fun σ H' => ∃ (m : Nat) (acc : List Int), σ = [some (.int (m : Int)), some (.ref l)] ∧ Same H H' ∧ H' l = some (.lst (iv acc)) ∧ acc ++ whole m = whole n) (fun σ _ => headInt σ)
    ⟨n, [], rfl, same_new hl _, upd_same, rfl⟩ ?_ (fun σ H Q Q' f ⟨v, e1, i, j, e2, e3, k, e4, q⟩ => ⟨v, e1, i, j, e2, e3, k, e4, f _ _ q⟩)
  rintro σ H1 ⟨m, acc, rfl, s1, hL, ha⟩
  have hz : acc.length + (whole m).length = (whole n).length := by rw [← ha, List.length_append]
  refine ⟨_, rfl, _, _, rfl, rfl, _, rfl, ?_⟩
  by_cases h1 : (128 : Int) ≤ (m : Int)
  · rw [decide_eq_true h1]
    have hm : ¬ m < 128 := by omega
    refine ⟨_, rfl, .inl ⟨rfl, _, SqL.of hL⟩, _, rfl, _, _, rfl, rfl, (by show (0 : Int) < 128; decide), _, _, rfl, rfl, l, _, _, rfl, rfl, hL, len_line (by rw [List.length_map]; omega), ?_⟩
    refine ⟨_, rfl, _, _, rfl, rfl, ⟨by decide, by decide⟩, ?_⟩
    refine ⟨⟨m / 128, acc ++ [128 + ((m % 128 : Nat) : Int)], rfl, same_upd hl s1 _, ?_, ?_⟩, ?_⟩
    · rw [upd_same]
      unfold iv
      rw [List.map_append]
      rfl
    · rw [← ha, whole_ge hm, List.append_assoc]
      rfl
    · show ((m : Int) / 128).toNat < ((m : Nat) : Int).toNat
      omega
  · rw [decide_eq_false h1]
    have hm : m < 128 := by omega
    refine ⟨_, rfl, _, rfl, (by show 1 ≤ sizeLine; rw [sizeLine_eq]; decide), fun p hp => ?_⟩
    have npl : l ≠ p := ne_of_none hL hp
    refine ⟨l, p, _, _, rfl, rfl, (by rw [upd_ne npl]; exact hL), upd_same, Nat.le_of_lt (len_line (by rw [List.length_map, List.length_singleton]; omega)), fun t ht => ?_⟩
    refine q t _ ((s1.trans (same_new hp _)).trans (same_new ht _)) ?_
    rw [upd_same, ← ha, whole_lt hm]
    unfold iv
    rw [List.map_append]
    rfl
/-! ### bytes_of -/
abbrev sBytes : Stmt := topS 31
theorem scBytes : FnScope ["parcel", "found", "item", "sign"] ["parcel"] (defScope sBytes) := ⟨rfl, rfl, rfl, by decide +kernel, rfl, by decide +kernel, by decide +kernel⟩
def spBytes (n : Nat) : Sp := fun vs H Q _ => ∃ (v : V) (d : D) (z : Nat), vs = [v] ∧ At H d v ∧ parBy sgn d z = true ∧ z + 1 ≤ n ∧ (row d).length ≤ 1000000 ∧ ∀ r H', Same H H' → H' r = some (.lst (iv (row d))) → Q (.ref r) H'
theorem ok_bytes {n : Nat} (A : DefAt K mg "bytes_of" sBytes ["parcel"]) (b : Bu mg) (k : Cn mg) (CW : Cal P w K mg base CX0 1 "whole" ["number"] spWhole) (C : Cal P w K mg base CX0 (n + 1) "bytes_of" ["parcel"] (spBytes n)) :
    Cal P w K mg base CX0 (n + 1 + 1) "bytes_of" ["parcel"] (spBytes (n + 1)) := by
  refine cal_of A scBytes (fun vs H Q E h => ?_) (fun f cdv A outer s H vs Q E hr h => ?_)
  · obtain ⟨v, d, z, rfl, _⟩ := h
    rfl
  obtain ⟨v, d, z, rfl, hv, hp, hz, hn, q⟩ := h
  refine ⟨_, pss_cons (ps_if (pt_cmp (pc_isN (pv 0))) (pss_one (ps_ret (pe_lst (pa_cons (pe_k k.nothing rfl) pa_nil)))) pss_nil)
    (pss_cons (ps_if (pt_val (pe_isi "bool" (pv 0) rfl b.isi rfl b.bool (by decide +kernel))) (pss_one (ps_ret (pe_lst (pa_cons (pe_ifExp (pt_val (pv 0)) (pe_k k.yes rfl) (pe_k k.no rfl)) pa_nil)))) pss_nil)
    (pss_cons (ps_if (pt_val (pe_isi "int" (pv 0) rfl b.isi rfl b.int (by decide +kernel)))
      (pss_one (ps_ret (pe_ifExp (pt_cmpR op_ge (pv 0) pe_int (nomark _))
        (pe_op op_cat (pe_lst (pa_cons (pe_k k.number rfl) pa_nil)) (pe_c CW hr (Nat.le_add_left 1 n) rfl pass0 (pa_cons (pv 0) pa_nil)))
        (pe_op op_cat (pe_lst (pa_cons (pe_k k.below rfl) pa_nil)) (pe_c CW hr (Nat.le_add_left 1 n) rfl pass0 (pa_cons (pe_op op_sub (pe_un un_neg pe_int) (pv 0)) pa_nil)))))) pss_nil)
    (pss_cons (ps_if (pt_val (pe_isi "str" (pv 0) rfl b.isi rfl b.str (by decide +kernel)))
      (pss_one (ps_ret (pe_op op_cat (pe_op op_cat (pe_lst (pa_cons (pe_k k.string rfl) pa_nil)) (pe_c CW hr (Nat.le_add_left 1 n) rfl pass0 (pa_cons (pe_callB call_len_str rfl b.len PySem.boot_len (pa_cons (pv 0) pa_nil)) pa_nil)))
        (pe_lc (own := [("sign", 3)]) (g := gName 3) (tt := tYes) rfl scBytes.nd (pi_str (pv 0))
          (blkOk_by (N := ["parcel", "found", "item", "sign"]) (sc := defScope sBytes) (by decide +kernel)) (fun _ _ _ _ _ => pg_name (i := 3) scBytes.nd rfl (Or.inl rfl)) (fun _ _ _ _ _ => pts_nil)
          (fun _ _ _ _ _ => pe_callB call_ord rfl b.ord (by decide +kernel) (pa_cons (pv 3) pa_nil)))))) pss_nil)
    (pss_cons (ps_set (i := 1) scBytes.nd rfl (Or.inl rfl) (pe_op op_cat (pe_lst (pa_cons (pe_k k.several rfl) pa_nil)) (pe_c CW hr (Nat.le_add_left 1 n) rfl pass0 (pa_cons (pe_callB call_len_seq rfl b.len PySem.boot_len (pa_cons (pv 0) pa_nil)) pa_nil))))
    (pss_cons (ps_for PassesOwn.never rfl (pi_tup (pv 0)) (pg_name (i := 2) scBytes.nd rfl (Or.inl rfl))
      (pss_one (ps_expr (pe_bm PySem.F.plainAttrs_list PySem.F.slot_list_extend PySem.F.type_list_extend mt_extend (pv 1) (pa_cons (pe_c C hr (Nat.le_refl _) rfl pass0 (pa_cons (pv 2) pa_nil)) pa_nil)))))
    (pss_one (ps_ret (pv 1)))))))), ?_⟩
  obtain ⟨nm, ty, kd⟩ := At.ty (K := K) hv
  have hnon := hv.non_iff
  refine ⟨_, rfl, _, rfl, ?_⟩
  rw [hnon]
  have z1 : (1 : Nat) ≤ sizeLine := by rw [sizeLine_eq]; decide
  cases d with
  | non =>
    refine ⟨z1, fun p hp => q p _ (same_new hp _) ?_⟩
    rw [upd_same, row]
    rfl
  | bl c =>
    rw [At] at hv
    subst hv
    refine ⟨_, rfl, rfl, _, _, ty, kd.bl, _, rfl, _, rfl, _, rfl, ?_⟩
    cases c with
    | true => exact ⟨z1, fun p hp => q p _ (same_new hp _) (by rw [upd_same, row]; rfl)⟩
    | false => exact ⟨z1, fun p hp => q p _ (same_new hp _) (by rw [upd_same, row]; rfl)⟩
  | int c =>
    rw [At] at hv
    subst hv
    refine ⟨_, rfl, rfl, _, _, ty, kd.bl, _, rfl, _, rfl, rfl, _, _, ty, kd.int, _, rfl, _, rfl, _, _, rfl, rfl, _, rfl, ?_⟩
    by_cases h1 : (0 : Int) ≤ c
    · rw [decide_eq_true h1]
      have e : row (.int c) = 3 :: whole c.toNat := by rw [row, if_pos h1]
      rw [e] at hn q
      rw [List.length_cons] at hn
      refine ⟨z1, fun p hp => ⟨_, rfl, c.toNat, by rw [Int.toNat_of_nonneg h1]; rfl, by omega, fun r H' s2 hr' => ?_⟩⟩
      refine ⟨p, r, _, _, rfl, rfl, s2 _ _ upd_same, hr', Nat.le_of_lt (len_line (by rw [List.length_map, List.length_singleton]; omega)), fun t ht => ?_⟩
      refine q t _ (((same_new hp _).trans s2).trans (same_new ht _)) ?_
      rw [upd_same]
      rfl
    · rw [decide_eq_false h1]
      have e : row (.int c) = 4 :: whole (-1 - c).toNat := by rw [row, if_neg h1]
      rw [e] at hn q
      rw [List.length_cons] at hn
      refine ⟨z1, fun p hp => ⟨_, rfl, _, rfl, _, _, rfl, rfl, (-1 - c).toNat, by rw [Int.toNat_of_nonneg (by omega)]; rfl, by omega, fun r H' s2 hr' => ?_⟩⟩
      refine ⟨p, r, _, _, rfl, rfl, s2 _ _ upd_same, hr', Nat.le_of_lt (len_line (by rw [List.length_map, List.length_singleton]; omega)), fun t ht => ?_⟩
      refine q t _ (((same_new hp _).trans s2).trans (same_new ht _)) ?_
      rw [upd_same]
      rfl
  | str c =>
    rw [At] at hv
    obtain ⟨rfl, hl⟩ := hv
    rw [row] at hn q
    rw [List.length_cons, List.length_append, codes_len] at hn
    refine ⟨_, rfl, rfl, _, _, ty, kd.bl, _, rfl, _, rfl, rfl, _, _, ty, kd.int, _, rfl, _, rfl, rfl, _, _, ty, kd.str, _, rfl, ?_⟩
    refine ⟨z1, fun p hp => ⟨_, rfl, c, rfl, Nat.le_of_lt (len_line (by omega)), c.length, rfl, by omega, fun r H' s2 hr' => ?_⟩⟩
    refine ⟨p, r, _, _, rfl, rfl, s2 _ _ upd_same, hr', Nat.le_of_lt (len_line (by rw [List.length_map, List.length_singleton]; omega)), fun t ht => ?_⟩
    refine ⟨_, rfl, c, rfl, fun D hD => ?_⟩
    have s3 : Same H (upd H' t (.lst ([V.int 5] ++ iv (whole c.length)))) := ((same_new hp _).trans s2).trans (same_new ht _)
    refine lc_one (zs := iv (codes c)) walk_str (by unfold iv codes; simp) (by show c.length ≤ _; omega) hD (fun _ _ => trivial) (fun m H x H' y => by rw [y.1]; exact Same.refl _) (fun m x H2 H3 z k hz s2 y kk => ?_) (fun H2 s4 e2 => ?_)
    · obtain ⟨rfl, cc, hc, rfl⟩ := y
      have hz' : z = .int (cc : Int) := by
        unfold iv codes at hz
        rw [List.getElem?_map, List.getElem?_map, Array.getElem?_toList, hc] at hz
        exact (Option.some.inj hz).symm
      subst hz'
      refine ⟨_, rfl, ⟨#[cc]⟩, rfl, rfl, kk _ (Same.refl _)⟩
    · refine ⟨t, D, _, _, rfl, rfl, s4 _ _ upd_same, e2, Nat.le_of_lt (len_line ?_), fun u hu => ?_⟩
      · unfold iv
        rw [List.length_append, List.length_map, List.length_map, codes_len, List.length_singleton]
        omega
      refine q u _ ((s3.trans s4).trans (same_new hu _)) ?_
      rw [upd_same]
      unfold iv
      rw [List.map_cons, List.map_append]
      rfl
  | tup ds =>
    have hv' := hv
    rw [At] at hv'
    obtain ⟨a, xs, rfl, ha, hl, hq⟩ := hv'
    have hlen := hq.length
    rw [row] at hn q
    rw [List.length_cons, List.length_append] at hn
    cases z with
    | zero => rw [parBy] at hp; cases hp
    | succ z =>
    rw [parBy, parsBy_map] at hp
    refine ⟨_, rfl, rfl, _, _, ty, kd.bl, _, rfl, _, rfl, rfl, _, _, ty, kd.int, _, rfl, _, rfl, rfl, _, _, ty, kd.str, _, rfl, ?_⟩
    refine ⟨z1, fun p hp0 => ⟨_, rfl, a, xs, rfl, .inr (SqT.of (same_new hp0 _ _ _ ha)), ds.length, by rw [hlen]; rfl, by omega, fun r H' s2 hr' => ?_⟩⟩
    refine ⟨p, r, _, _, rfl, rfl, s2 _ _ upd_same, hr', Nat.le_of_lt (len_line (by rw [List.length_map, List.length_singleton]; omega)), fun l hl0 => ?_⟩
    have s3 : Same H H' := (same_new hp0 _).trans s2
    have hl1 : H l = none := s3.free hl0
    refine ⟨_, rfl, a, rfl, ⟨_, SqT.of (same_new hl0 _ _ _ (s3 _ _ ha))⟩, ?_⟩
    refine for_tup (K := K) (a := a) (xs := xs) (fun i σ H2 => ∃ v, σ = [some (.ref a), some (.ref l), v, none] ∧ Same H H2 ∧ H2 l = some (.lst (iv (6 :: (whole ds.length ++ rows (ds.take i))))))
      ⟨none, rfl, s3.trans (same_new hl0 _), ?_⟩ (fun i σ H2 _ ⟨_, _, s4, _⟩ => SqT.of (s4 _ _ ha)) ?_ ?_
    · rw [upd_same, List.take_zero, rows, List.append_nil]
      rfl
    · rintro i x σ H2 hx ⟨v, rfl, s4, hL⟩
      obtain ⟨d, hd, hat⟩ := hq.get hx
      have hle := row_le_rows ds i d hd
      have hpd : parBy sgn d z = true := by
        have := List.all_eq_true.mp hp (parBy sgn d z) (List.mem_map.mpr ⟨d, List.mem_of_getElem? hd, rfl⟩)
        exact this
      refine ⟨_, rfl, .inl ⟨rfl, _, SqL.of hL⟩, _, rfl, x, d, z, rfl, At.same s4 _ _ hat, hpd, by omega, by omega, fun r2 H3 s5 hr2 => ?_⟩
      refine ⟨l, r2, _, _, rfl, rfl, s5 _ _ hL, hr2, Nat.le_of_lt (len_line ?_), ?_⟩
      · rw [List.length_map, List.length_map, List.length_cons, List.length_append]
        omega
      · refine ⟨some x, rfl, same_upd hl1 (s4.trans s5) _, ?_⟩
        rw [upd_same, List.take_add_one, hd, rows_append]
        show some (HO.lst _) = some (HO.lst (iv (6 :: (whole ds.length ++ (rows (ds.take i) ++ rows [d])))))
        rw [rows_one]
        unfold iv
        rw [← List.map_append, List.cons_append, List.append_assoc]
    · rintro σ H2 ⟨v, rfl, s4, hL⟩
      refine ⟨_, rfl, q l H2 s4 ?_⟩
      rw [hL, hlen, List.take_length]
  | odd => rw [parBy] at hp; cases hp
theorem all_bytes (A : DefAt K mg "bytes_of" sBytes ["parcel"]) (b : Bu mg) (k : Cn mg) (CW : Cal P w K mg base CX0 1 "whole" ["number"] spWhole) :
    ∀ n : Nat, Cal P w K mg base CX0 (n + 1) "bytes_of" ["parcel"] (spBytes n)
  | 0 => cal_none A _ fun vs H Q E h => by
    obtain ⟨_, _, _, _, _, _, hn, _⟩ := h
    omega
  | n + 1 => ok_bytes A b k CW (all_bytes A b k CW n)
end
end KQ
namespace KQ
open PySem PySem.Spec PyProof.Rows L2
section
variable {P : Program} {w : World} {K : PySem.W.Frag} {mg : Str → Option Value} {base : Heap} {R N Qe : Addr}
/-! ### row_of -/
abbrev sRowOf : Stmt := topS 32
theorem scRowOf : FnScope ["parcel"] ["parcel"] (defScope sRowOf) := ⟨rfl, rfl, rfl, by decide +kernel, rfl, by decide +kernel, by decide +kernel⟩
def spRowOf (N : Addr) : Sp := fun vs H Q E => ∃ (v : V) (d : D), vs = [v] ∧ At H d v ∧
  (parBy sgn d 20 = true → (row d).length ≤ 1000000 ∧ ∀ t H', Same H H' → H' t = some (.tup (iv (row d))) → Q (.ref t) H') ∧ (parBy sgn d 20 = false → ∀ H', Same H H' → E (.ref N) none H')
theorem ok_rowOf (A : DefAt K mg "row_of" sRowOf ["parcel"]) (b : Bu mg) (T : Cl K mg R N Qe) (CP : Cal P w K mg base CX0 24 "is_parcel" ["thing"] spIsParcel) (CB : Cal P w K mg base CX0 22 "bytes_of" ["parcel"] (spBytes 21)) :
    Cal P w K mg base (L2.CX P w) 25 "row_of" ["parcel"] (spRowOf N) := by
  refine cal_ofX A scRowOf (fun vs H Q E h => ?_) (fun f cdv A outer s H vs Q E hr h => ?_)
  · obtain ⟨v, d, rfl, _⟩ := h
    rfl
  obtain ⟨v, d, rfl, hv, q1, q2⟩ := h
  refine ⟨_, pss_cons (ps_if (pt_not (pt_val (pe_c CP hr (Nat.le_refl _) rfl pass0 (pa_cons (pv 0) pa_nil)))) (pss_one (ps_raise rfl (takes_of rfl rfl rfl rfl) (pmk_own0 PySem.F.excBase_ValueError T.exN T.gN T.kN (raises_own T.bN T.tN) rfl))) pss_nil)
    (pss_one (ps_ret (pe_callTy call_tuple_of rfl b.tup (by decide +kernel) (pa_cons (pe_c CB hr (by decide) rfl pass0 (pa_cons (pv 0) pa_nil)) pa_nil)))), ?_⟩
  refine ⟨_, rfl, v, d, rfl, hv, fun H1 s1 => ⟨_, rfl, ?_⟩⟩
  cases e : parBy sgn d 20 with
  | false => exact q2 e H1 s1
  | true =>
    obtain ⟨hl, q⟩ := q1 e
    refine ⟨_, rfl, v, d, 20, rfl, At.same s1 _ _ hv, e, by decide, hl, fun r H2 s2 hr2 => ?_⟩
    exact ⟨r, _, rfl, .inl ⟨SqL.of hr2, fun l hl0 => q l _ ((s1.trans s2).trans (same_new hl0 _)) upd_same⟩⟩
/-! ### raw_mark, seal_of -/
abbrev sRaw : Stmt := topS 35
theorem scRaw : FnScope ["row", "found", "byte"] ["row"] (defScope sRaw) := ⟨rfl, rfl, rfl, by decide +kernel, rfl, by decide +kernel, by decide +kernel⟩
def spRaw : Sp := fun vs H Q _ => ∃ (a : Addr) (bs : List Int), vs = [.ref a] ∧ H a = some (.tup (iv bs)) ∧ ∀ z : Int, Q (.int z) H
theorem ok_raw (A : DefAt K mg "raw_mark" sRaw ["row"]) (k : Cn mg) : Cal P w K mg base CX0 1 "raw_mark" ["row"] spRaw := by
  refine cal_of A scRaw (fun vs H Q E h => ?_) (fun f cdv A outer s H vs Q E hr h => ?_)
  · obtain ⟨a, bs, rfl, _⟩ := h
    rfl
  obtain ⟨a, bs, rfl, ha, q⟩ := h
  obtain ⟨m, tm, hm, gm⟩ := k.modulus
  refine ⟨_, pss_cons (ps_set (i := 1) scRaw.nd rfl (Or.inl rfl) pe_int)
    (pss_cons (ps_for PassesOwn.never rfl (pi_tup (pv 0)) (pg_name (i := 2) scRaw.nd rfl (Or.inl rfl))
      (pss_one (ps_set (i := 1) scRaw.nd rfl (Or.inl rfl) (pe_op op_mod (pe_op op_add (pe_op op_add (pe_op op_mul (pv 1) (pe_k k.mult rfl)) (pv 2)) pe_int) (pe_glob (v := .int m) rfl gm ⟨_, rfl⟩)))))
    (pss_one (ps_ret (pv 1)))), ?_⟩
  refine ⟨_, rfl, a, rfl, ⟨_, SqT.of ha⟩, ?_⟩
  refine for_tup (K := K) (a := a) (xs := iv bs) (fun i σ H2 => ∃ z v, σ = [some (.ref a), some (.int z), v] ∧ H2 = H)
    ⟨1, none, rfl, rfl⟩ (fun i σ H2 _ ⟨_, _, _, e⟩ => by rw [e]; exact SqT.of ha) ?_ ?_
  · rintro i x σ H2 hx ⟨z, v, rfl, rfl⟩
    obtain ⟨c, hc, rfl⟩ : ∃ c, bs[i]? = some c ∧ x = V.int c := by
      unfold iv at hx
      rw [List.getElem?_map] at hx
      cases e : bs[i]? with
      | none => rw [e] at hx; cases hx
      | some c => rw [e] at hx; exact ⟨c, rfl, (Option.some.inj hx).symm⟩
    exact ⟨_, rfl, _, _, rfl, rfl, .inr ⟨by decide, by decide⟩, _, rfl, _, _, rfl, rfl, _, _, rfl, rfl, _, _, rfl, rfl, hm, _, _, rfl, rfl⟩
  · rintro σ H2 ⟨z, v, rfl, rfl⟩
    exact ⟨_, rfl, q z⟩
abbrev sSeal : Stmt := topS 36
theorem scSeal : FnScope ["row", "number", "found", "turn"] ["row"] (defScope sSeal) := ⟨rfl, rfl, rfl, by decide +kernel, rfl, by decide +kernel, by decide +kernel⟩
def spSeal : Sp := fun vs H Q _ => ∃ (a : Addr) (bs : List Int), vs = [.ref a] ∧ H a = some (.tup (iv bs)) ∧ ∀ (t : Addr) (H' : Hp) (cs : List V), cs.length = 4 → Same H H' → H' t = some (.tup cs) → Q (.ref t) H'
theorem ok_seal (A : DefAt K mg "seal_of" sSeal ["row"]) (b : Bu mg) (k : Cn mg) (C : Cal P w K mg base CX0 1 "raw_mark" ["row"] spRaw) : Cal P w K mg base CX0 2 "seal_of" ["row"] spSeal := by
  refine cal_of A scSeal (fun vs H Q E h => ?_) (fun f cdv A outer s H vs Q E hr h => ?_)
  · obtain ⟨a, bs, rfl, _⟩ := h
    rfl
  obtain ⟨a, bs, rfl, ha, q⟩ := h
  refine ⟨_, pss_cons (ps_set (i := 1) scSeal.nd rfl (Or.inl rfl) (pe_c C hr (Nat.le_refl _) rfl pass0 (pa_cons (pv 0) pa_nil)))
    (pss_cons (ps_set (i := 2) scSeal.nd rfl (Or.inl rfl) (pe_lst pa_nil))
    (pss_cons (ps_for PassesOwn.never rfl (pi_range1 rfl b.range (pa_cons (pe_k k.sealb rfl) pa_nil)) (pg_name (i := 3) scSeal.nd rfl (Or.inl rfl))
      (pss_cons (ps_expr (pe_bm PySem.F.plainAttrs_list PySem.F.slot_list_append PySem.F.type_list_append mt_append (pv 2) (pa_cons (pe_op op_mod (pv 1) (pe_k k.bytes rfl)) pa_nil)))
      (pss_one (ps_set (i := 1) scSeal.nd rfl (Or.inl rfl) (pe_op op_fdiv (pv 1) (pe_k k.bytes rfl))))))
    (pss_one (ps_ret (pe_callTy call_tuple_of rfl b.tup (by decide +kernel) (pa_cons (pv 2) pa_nil)))))), ?_⟩
  refine ⟨_, rfl, a, bs, rfl, ha, fun z => ?_⟩
  refine ⟨Nat.zero_le _, fun l hl => ?_⟩
  refine ⟨4, rfl, by decide, by decide, ?_⟩
  refine for_range (n := 4) (fun i σ H2 => ∃ (z : Int) (v : Option V) (cs : List V), i ≤ 4 ∧ σ = [some (.ref a), some (.int z), some (.ref l), v] ∧ Same H H2 ∧ H2 l = some (.lst cs) ∧ cs.length = i) ⟨z, none, [], by decide, rfl, same_new hl _, upd_same, rfl⟩ ?_ ?_
  · rintro i σ H2 hi ⟨z, v, cs, _, rfl, s2, hL, hc⟩
    refine ⟨_, rfl, .inl ⟨rfl, _, SqL.of hL⟩, _, rfl, _, _, rfl, rfl, (by show (0 : Int) < 256; decide), l, _, _, rfl, rfl, hL, len_line (by omega), ?_⟩
    exact ⟨_, rfl, _, _, rfl, rfl, ⟨by decide, by decide⟩, _, _, _, by omega, rfl, same_upd hl s2 _, upd_same, by rw [List.length_append, hc, List.length_singleton]⟩
  · rintro σ H2 ⟨z, v, cs, _, rfl, s2, hL, hc⟩
    exact ⟨_, rfl, l, _, rfl, .inl ⟨SqL.of hL, fun t ht => q t _ cs hc (s2.trans (same_new ht _)) upd_same⟩⟩
/-! ### sealed -/
abbrev sSealed : Stmt := topS 37
theorem scSealed : FnScope ["parcel", "row"] ["parcel"] (defScope sSealed) := ⟨rfl, rfl, rfl, by decide +kernel, rfl, by decide +kernel, by decide +kernel⟩
def spSealed (N : Addr) : Sp := fun vs H Q E => ∃ (v : V) (d : D), vs = [v] ∧ At H d v ∧
  (parBy sgn d 20 = true → (row d).length ≤ 1000000 ∧ ∀ u H', Same H H' → Q u H') ∧ (parBy sgn d 20 = false → ∀ H', Same H H' → E (.ref N) none H')
theorem ok_sealed (A : DefAt K mg "sealed" sSealed ["parcel"]) (CR : Cal P w K mg base (L2.CX P w) 25 "row_of" ["parcel"] (spRowOf N)) (CS : Cal P w K mg base CX0 2 "seal_of" ["row"] spSeal) :
    Cal P w K mg base (L2.CX P w) 26 "sealed" ["parcel"] (spSealed N) := by
  refine cal_ofX A scSealed (fun vs H Q E h => ?_) (fun f cdv A outer s H vs Q E hr h => ?_)
  · obtain ⟨v, d, rfl, _⟩ := h
    rfl
  obtain ⟨v, d, rfl, hv, q1, q2⟩ := h
  refine ⟨_, pss_cons (ps_set (i := 1) scSealed.nd rfl (Or.inl rfl) (pe_c CR hr (Nat.le_refl _) rfl (passes_call (takes_of rfl rfl rfl rfl) (fun _ _ _ _ h => h)) (pa_cons (pv 0) pa_nil)))
    (pss_one (ps_ret (pe_op op_catT (pv 1) (pe_c CS hr (by decide) rfl pass0 (pa_cons (pv 1) pa_nil))))), ?_⟩
  refine ⟨_, rfl, v, d, rfl, hv, fun e => ?_, q2⟩
  obtain ⟨hl, q⟩ := q1 e
  refine ⟨hl, fun t H1 s1 ht => ?_⟩
  refine ⟨_, rfl, _, rfl, t, _, rfl, ht, fun t2 H2 cs hc s2 ht2 => ?_⟩
  have hpos := row_pos d 20 e
  refine ⟨t, t2, _, _, rfl, rfl, SqT.of (s2 _ _ ht), SqT.of ht2, ?_, Nat.le_of_lt (len_line (by rw [List.length_map, hc]; omega)), fun e0 => ?_, fun _ p hp => q _ _ ((s1.trans s2).trans (same_new hp _))⟩
  · intro e0
    have : (iv (row d)).length = 0 := by rw [e0]; rfl
    rw [List.length_map] at this
    omega
  · rw [e0] at hc
    cases hc
end
end KQ
namespace KQ
open PySem PySem.Spec PyProof.Rows L2
section
variable {P : Program} {w : World} {K : PySem.W.Frag} {mg : Str → Option Value} {base : Heap} {R N Qe : Addr}
/-! ### the law's whole -/
abbrev sWholeL : Stmt := topS 43
theorem scWholeL : FnScope ["_law_number_here", "_law_found"] ["_law_number_here"] (defScope sWholeL) := ⟨rfl, rfl, rfl, by decide +kernel, rfl, by decide +kernel, by decide +kernel⟩
theorem ok_wholeL (A : DefAt K mg "_law_whole" sWholeL ["_law_number_here"]) : Cal P w K mg base CX0 1 "_law_whole" ["_law_number_here"] spWhole := by
  refine cal_of A scWholeL (fun vs H Q E h => ?_) (fun f cdv A outer s H vs Q E hr h => ?_)
  · obtain ⟨n, rfl, _⟩ := h
    rfl
  obtain ⟨n, rfl, hn, q⟩ := h
  refine ⟨_, pss_cons (ps_set (i := 1) scWholeL.nd rfl (Or.inl rfl) (pe_lst pa_nil))
    (pss_cons (ps_while PassesOwn.never (pt_cmpR op_gt (pv 0) pe_int (nomark _))
      (pss_cons (ps_expr (pe_bm PySem.F.plainAttrs_list PySem.F.slot_list_append PySem.F.type_list_append mt_append (pv 1) (pa_cons (pe_op op_add (pe_op op_mod (pv 0) pe_int) pe_int) pa_nil)))
      (pss_one (ps_set (i := 0) scWholeL.nd rfl (Or.inl rfl) (pe_op op_fdiv (pv 0) pe_int)))))
    (pss_one (ps_ret (pe_op op_cat (pv 1) (pe_lst (pa_cons (pv 0) pa_nil)))))), ?_⟩
  refine ⟨Nat.zero_le _, fun l hl => ?_⟩
  refine while_by (fun σ H' => ∃ (m : Nat) (acc : List Int), σ = [some (.int (m : Int)), some (.ref l)] ∧ Same H H' ∧ H' l = some (.lst (iv acc)) ∧ acc ++ whole m = whole n) (fun σ _ => headInt σ)
    ⟨n, [], rfl, same_new hl _, upd_same, rfl⟩ ?_ (fun σ H Q Q' f ⟨v, e1, i, j, e2, e3, k, e4, q⟩ => ⟨v, e1, i, j, e2, e3, k, e4, f _ _ q⟩)
  rintro σ H1 ⟨m, acc, rfl, s1, hL, ha⟩
  have hz : acc.length + (whole m).length = (whole n).length := by rw [← ha, List.length_append]
  refine ⟨_, rfl, _, _, rfl, rfl, _, rfl, ?_⟩
  by_cases h1 : (127 : Int) < (m : Int)
  · rw [decide_eq_true h1]
    have hm : ¬ m < 128 := by omega
    refine ⟨_, rfl, .inl ⟨rfl, _, SqL.of hL⟩, _, rfl, _, _, rfl, rfl, (by show (0 : Int) < 128; decide), _, _, rfl, rfl, l, _, _, rfl, rfl, hL, len_line (by rw [List.length_map]; omega), ?_⟩
    refine ⟨_, rfl, _, _, rfl, rfl, ⟨by decide, by decide⟩, ?_⟩
    refine ⟨⟨m / 128, acc ++ [128 + ((m % 128 : Nat) : Int)], rfl, same_upd hl s1 _, ?_, ?_⟩, ?_⟩
    · rw [upd_same]
      unfold iv
      rw [List.map_append]
      show some (HO.lst (_ ++ [V.int ((m : Int) % 128 + 128)])) = some (HO.lst (_ ++ [V.int (128 + ((m % 128 : Nat) : Int))]))
      rw [show (m : Int) % 128 + 128 = 128 + ((m % 128 : Nat) : Int) by omega]
    · rw [← ha, whole_ge hm, List.append_assoc]
      rfl
    · show ((m : Int) / 128).toNat < ((m : Nat) : Int).toNat
      omega
  · rw [decide_eq_false h1]
    have hm : m < 128 := by omega
    refine ⟨_, rfl, _, rfl, (by show 1 ≤ sizeLine; rw [sizeLine_eq]; decide), fun p hp => ?_⟩
    have npl : l ≠ p := ne_of_none hL hp
    refine ⟨l, p, _, _, rfl, rfl, (by rw [upd_ne npl]; exact hL), upd_same, Nat.le_of_lt (len_line (by rw [List.length_map, List.length_singleton]; omega)), fun t ht => ?_⟩
    refine q t _ ((s1.trans (same_new hp _)).trans (same_new ht _)) ?_
    rw [upd_same, ← ha, whole_lt hm]
    unfold iv
    rw [List.map_append]
    rfl
/-! ### the law's bytes -/
abbrev sBytesL : Stmt := topS 44
theorem scBytesL : FnScope ["_law_parcel_here", "_law_found", "_law_part", "_law_sign"] ["_law_parcel_here"] (defScope sBytesL) := ⟨rfl, rfl, rfl, by decide +kernel, rfl, by decide +kernel, by decide +kernel⟩
theorem ok_bytesL {n : Nat} (A : DefAt K mg "_law_bytes" sBytesL ["_law_parcel_here"]) (b : Bu mg) (CW : Cal P w K mg base CX0 1 "_law_whole" ["_law_number_here"] spWhole) (C : Cal P w K mg base CX0 (n + 1) "_law_bytes" ["_law_parcel_here"] (spBytes n)) :
    Cal P w K mg base CX0 (n + 1 + 1) "_law_bytes" ["_law_parcel_here"] (spBytes (n + 1)) := by
  refine cal_of A scBytesL (fun vs H Q E h => ?_) (fun f cdv A outer s H vs Q E hr h => ?_)
  · obtain ⟨v, d, z, rfl, _⟩ := h
    rfl
  obtain ⟨v, d, z, rfl, hv, hp, hz, hn, q⟩ := h
  refine ⟨_, pss_cons (ps_if (pt_cmp (pc_isN (pv 0))) (pss_one (ps_ret (pe_lst (pa_cons pe_int pa_nil)))) pss_nil)
    (pss_cons (ps_if (pt_val (pe_isi "bool" (pv 0) rfl b.isi rfl b.bool (by decide +kernel))) (pss_one (ps_ret (pe_lst (pa_cons (pe_op op_add pe_int (pe_callTy call_int1 rfl b.int (by decide +kernel) (pa_cons (pv 0) pa_nil))) pa_nil)))) pss_nil)
    (pss_cons (ps_if (pt_val (pe_isi "int" (pv 0) rfl b.isi rfl b.int (by decide +kernel)))
      (pss_one (ps_ret (pe_ifExp (pt_cmpR op_ge (pv 0) pe_int (nomark _))
        (pe_op op_cat (pe_lst (pa_cons pe_int pa_nil)) (pe_c CW hr (Nat.le_add_left 1 n) rfl pass0 (pa_cons (pv 0) pa_nil)))
        (pe_op op_cat (pe_lst (pa_cons pe_int pa_nil)) (pe_c CW hr (Nat.le_add_left 1 n) rfl pass0 (pa_cons (pe_op op_sub (pe_op op_sub pe_int pe_int) (pv 0)) pa_nil)))))) pss_nil)
    (pss_cons (ps_if (pt_val (pe_isi "str" (pv 0) rfl b.isi rfl b.str (by decide +kernel)))
      (pss_one (ps_ret (pe_op op_cat (pe_op op_cat (pe_lst (pa_cons pe_int pa_nil)) (pe_c CW hr (Nat.le_add_left 1 n) rfl pass0 (pa_cons (pe_callB call_len_str rfl b.len PySem.boot_len (pa_cons (pv 0) pa_nil)) pa_nil)))
        (pe_lc (own := [("_law_sign", 3)]) (g := gName 3) (tt := tYes) rfl scBytesL.nd (pi_str (pv 0))
          (blkOk_by (N := ["_law_parcel_here", "_law_found", "_law_part", "_law_sign"]) (sc := defScope sBytesL) (by decide +kernel)) (fun _ _ _ _ _ => pg_name (i := 3) scBytesL.nd rfl (Or.inl rfl)) (fun _ _ _ _ _ => pts_nil)
          (fun _ _ _ _ _ => pe_callB call_ord rfl b.ord (by decide +kernel) (pa_cons (pv 3) pa_nil)))))) pss_nil)
    (pss_cons (ps_set (i := 1) scBytesL.nd rfl (Or.inl rfl) (pe_op op_cat (pe_lst (pa_cons pe_int pa_nil)) (pe_c CW hr (Nat.le_add_left 1 n) rfl pass0 (pa_cons (pe_callB call_len_seq rfl b.len PySem.boot_len (pa_cons (pv 0) pa_nil)) pa_nil))))
    (pss_cons (ps_for PassesOwn.never rfl (pi_tup (pv 0)) (pg_name (i := 2) scBytesL.nd rfl (Or.inl rfl))
      (pss_one (ps_expr (pe_bm PySem.F.plainAttrs_list PySem.F.slot_list_extend PySem.F.type_list_extend mt_extend (pv 1) (pa_cons (pe_c C hr (Nat.le_refl _) rfl pass0 (pa_cons (pv 2) pa_nil)) pa_nil)))))
    (pss_one (ps_ret (pv 1)))))))), ?_⟩
  obtain ⟨nm, ty, kd⟩ := At.ty (K := K) hv
  have hnon := hv.non_iff
  refine ⟨_, rfl, _, rfl, ?_⟩
  rw [hnon]
  have z1 : (1 : Nat) ≤ sizeLine := by rw [sizeLine_eq]; decide
  cases d with
  | non =>
    refine ⟨z1, fun p hp => q p _ (same_new hp _) ?_⟩
    rw [upd_same, row]
    rfl
  | bl c =>
    rw [At] at hv
    subst hv
    refine ⟨_, rfl, rfl, _, _, ty, kd.bl, _, rfl, _, rfl, .inr ⟨_, rfl, _, _, rfl, rfl, ?_⟩⟩
    cases c with
    | true => exact ⟨z1, fun p hp => q p _ (same_new hp _) (by rw [upd_same, row]; rfl)⟩
    | false => exact ⟨z1, fun p hp => q p _ (same_new hp _) (by rw [upd_same, row]; rfl)⟩
  | int c =>
    rw [At] at hv
    subst hv
    refine ⟨_, rfl, rfl, _, _, ty, kd.bl, _, rfl, _, rfl, rfl, _, _, ty, kd.int, _, rfl, _, rfl, _, _, rfl, rfl, _, rfl, ?_⟩
    by_cases h1 : (0 : Int) ≤ c
    · rw [decide_eq_true h1]
      have e : row (.int c) = 3 :: whole c.toNat := by rw [row, if_pos h1]
      rw [e] at hn q
      rw [List.length_cons] at hn
      refine ⟨z1, fun p hp => ⟨_, rfl, c.toNat, by rw [Int.toNat_of_nonneg h1]; rfl, by omega, fun r H' s2 hr' => ?_⟩⟩
      refine ⟨p, r, _, _, rfl, rfl, s2 _ _ upd_same, hr', Nat.le_of_lt (len_line (by rw [List.length_map, List.length_singleton]; omega)), fun t ht => ?_⟩
      refine q t _ (((same_new hp _).trans s2).trans (same_new ht _)) ?_
      rw [upd_same]
      rfl
    · rw [decide_eq_false h1]
      have e : row (.int c) = 4 :: whole (-1 - c).toNat := by rw [row, if_neg h1]
      rw [e] at hn q
      rw [List.length_cons] at hn
      refine ⟨z1, fun p hp => ⟨_, _, rfl, rfl, _, rfl, _, _, rfl, rfl, (-1 - c).toNat, by rw [Int.toNat_of_nonneg (by omega)]; rfl, by omega, fun r H' s2 hr' => ?_⟩⟩
      refine ⟨p, r, _, _, rfl, rfl, s2 _ _ upd_same, hr', Nat.le_of_lt (len_line (by rw [List.length_map, List.length_singleton]; omega)), fun t ht => ?_⟩
      refine q t _ (((same_new hp _).trans s2).trans (same_new ht _)) ?_
      rw [upd_same]
      rfl
  | str c =>
    rw [At] at hv
    obtain ⟨rfl, hl⟩ := hv
    rw [row] at hn q
    rw [List.length_cons, List.length_append, codes_len] at hn
    refine ⟨_, rfl, rfl, _, _, ty, kd.bl, _, rfl, _, rfl, rfl, _, _, ty, kd.int, _, rfl, _, rfl, rfl, _, _, ty, kd.str, _, rfl, ?_⟩
    refine ⟨z1, fun p hp => ⟨_, rfl, c, rfl, Nat.le_of_lt (len_line (by omega)), c.length, rfl, by omega, fun r H' s2 hr' => ?_⟩⟩
    refine ⟨p, r, _, _, rfl, rfl, s2 _ _ upd_same, hr', Nat.le_of_lt (len_line (by rw [List.length_map, List.length_singleton]; omega)), fun t ht => ?_⟩
    refine ⟨_, rfl, c, rfl, fun D hD => ?_⟩
    have s3 : Same H (upd H' t (.lst ([V.int 5] ++ iv (whole c.length)))) := ((same_new hp _).trans s2).trans (same_new ht _)
    refine lc_one (zs := iv (codes c)) walk_str (by unfold iv codes; simp) (by show c.length ≤ _; omega) hD (fun _ _ => trivial) (fun m H x H' y => by rw [y.1]; exact Same.refl _) (fun m x H2 H3 z k hz s2 y kk => ?_) (fun H2 s4 e2 => ?_)
    · obtain ⟨rfl, cc, hc, rfl⟩ := y
      have hz' : z = .int (cc : Int) := by
        unfold iv codes at hz
        rw [List.getElem?_map, List.getElem?_map, Array.getElem?_toList, hc] at hz
        exact (Option.some.inj hz).symm
      subst hz'
      refine ⟨_, rfl, ⟨#[cc]⟩, rfl, rfl, kk _ (Same.refl _)⟩
    · refine ⟨t, D, _, _, rfl, rfl, s4 _ _ upd_same, e2, Nat.le_of_lt (len_line ?_), fun u hu => ?_⟩
      · unfold iv
        rw [List.length_append, List.length_map, List.length_map, codes_len, List.length_singleton]
        omega
      refine q u _ ((s3.trans s4).trans (same_new hu _)) ?_
      rw [upd_same]
      unfold iv
      rw [List.map_cons, List.map_append]
      rfl
  | tup ds =>
    have hv' := hv
    rw [At] at hv'
    obtain ⟨a, xs, rfl, ha, hl, hq⟩ := hv'
    have hlen := hq.length
    rw [row] at hn q
    rw [List.length_cons, List.length_append] at hn
    cases z with
    | zero => rw [parBy] at hp; cases hp
    | succ z =>
    rw [parBy, parsBy_map] at hp
    refine ⟨_, rfl, rfl, _, _, ty, kd.bl, _, rfl, _, rfl, rfl, _, _, ty, kd.int, _, rfl, _, rfl, rfl, _, _, ty, kd.str, _, rfl, ?_⟩
    refine ⟨z1, fun p hp0 => ⟨_, rfl, a, xs, rfl, .inr (SqT.of (same_new hp0 _ _ _ ha)), ds.length, by rw [hlen]; rfl, by omega, fun r H' s2 hr' => ?_⟩⟩
    refine ⟨p, r, _, _, rfl, rfl, s2 _ _ upd_same, hr', Nat.le_of_lt (len_line (by rw [List.length_map, List.length_singleton]; omega)), fun l hl0 => ?_⟩
    have s3 : Same H H' := (same_new hp0 _).trans s2
    have hl1 : H l = none := s3.free hl0
    refine ⟨_, rfl, a, rfl, ⟨_, SqT.of (same_new hl0 _ _ _ (s3 _ _ ha))⟩, ?_⟩
    refine for_tup (K := K) (a := a) (xs := xs) (fun i σ H2 => ∃ v, σ = [some (.ref a), some (.ref l), v, none] ∧ Same H H2 ∧ H2 l = some (.lst (iv (6 :: (whole ds.length ++ rows (ds.take i))))))
      ⟨none, rfl, s3.trans (same_new hl0 _), ?_⟩ (fun i σ H2 _ ⟨_, _, s4, _⟩ => SqT.of (s4 _ _ ha)) ?_ ?_
    · rw [upd_same, List.take_zero, rows, List.append_nil]
      rfl
    · rintro i x σ H2 hx ⟨v, rfl, s4, hL⟩
      obtain ⟨d, hd, hat⟩ := hq.get hx
      have hle := row_le_rows ds i d hd
      have hpd : parBy sgn d z = true := by
        have := List.all_eq_true.mp hp (parBy sgn d z) (List.mem_map.mpr ⟨d, List.mem_of_getElem? hd, rfl⟩)
        exact this
      refine ⟨_, rfl, .inl ⟨rfl, _, SqL.of hL⟩, _, rfl, x, d, z, rfl, At.same s4 _ _ hat, hpd, by omega, by omega, fun r2 H3 s5 hr2 => ?_⟩
      refine ⟨l, r2, _, _, rfl, rfl, s5 _ _ hL, hr2, Nat.le_of_lt (len_line ?_), ?_⟩
      · rw [List.length_map, List.length_map, List.length_cons, List.length_append]
        omega
      · refine ⟨some x, rfl, same_upd hl1 (s4.trans s5) _, ?_⟩
        rw [upd_same, List.take_add_one, hd, rows_append]
        show some (HO.lst _) = some (HO.lst (iv (6 :: (whole ds.length ++ (rows (ds.take i) ++ rows [d])))))
        rw [rows_one]
        unfold iv
        rw [← List.map_append, List.cons_append, List.append_assoc]
    · rintro σ H2 ⟨v, rfl, s4, hL⟩
      refine ⟨_, rfl, q l H2 s4 ?_⟩
      rw [hL, hlen, List.take_length]
  | odd => rw [parBy] at hp; cases hp
theorem all_bytesL (A : DefAt K mg "_law_bytes" sBytesL ["_law_parcel_here"]) (b : Bu mg) (CW : Cal P w K mg base CX0 1 "_law_whole" ["_law_number_here"] spWhole) :
    ∀ n : Nat, Cal P w K mg base CX0 (n + 1) "_law_bytes" ["_law_parcel_here"] (spBytes n)
  | 0 => cal_none A _ fun vs H Q E h => by
    obtain ⟨_, _, _, _, _, _, hn, _⟩ := h
    omega
  | n + 1 => ok_bytesL A b CW (all_bytesL A b CW n)
/-! ### the law's flag -/
abbrev sFlagL : Stmt := topS 42
theorem scFlagL : FnScope ["_law_thing", "_law_due"] ["_law_thing", "_law_due"] (defScope sFlagL) := ⟨rfl, rfl, rfl, by decide +kernel, rfl, by decide +kernel, by decide +kernel⟩
def spFlagL : Sp := fun vs H Q _ => ∃ x : Bool, vs = [.bl x, .bl x] ∧ Q (.bl true) H
theorem ok_flagL (A : DefAt K mg "_law_flag" sFlagL ["_law_thing", "_law_due"]) (b : Bu mg) : Cal P w K mg base CX0 1 "_law_flag" ["_law_thing", "_law_due"] spFlagL := by
  refine cal_of A scFlagL (fun vs H Q E h => ?_) (fun f cdv A outer s H vs Q E hr h => ?_)
  · obtain ⟨x, rfl, _⟩ := h
    rfl
  obtain ⟨x, rfl, q⟩ := h
  refine ⟨_, pss_one (ps_ret (pe_and (pe_isi "bool" (pv 0) rfl b.isi rfl b.bool (by decide +kernel)) (pe_one (pe_cmpR op_eq (pv 0) (pv 1) (nomark _))))), ?_⟩
  refine ⟨_, rfl, rfl, _, _, .base (.bl x), (show kitB "bool" "bool" = some true from by decide +kernel), _, rfl, _, rfl, _, rfl, rfl, ?_⟩
  rw [decide_eq_true rfl]
  exact q
/-! ### the law's word: what row_of or sealed says of a thing -/
theorem pss_given {X : Cx} {sts : List Stmt} {t : TS} {p : Prop} (h : p → PSs X sts t) : PSs X sts (fun D σ H => p ∧ t D σ H) := ⟨fun pins s σ H D I hh => (h hh.1).run pins s σ H D I hh.2⟩
abbrev sWordL : Stmt := topS 50
theorem scWordL : FnScope ["_law_which", "_law_thing", "_law_word_here", "e"] ["_law_which", "_law_thing"] (defScope sWordL) := ⟨rfl, rfl, rfl, by decide +kernel, rfl, by decide +kernel, by decide +kernel⟩
def wordOf (b : Bool) : Str := if b = true then "let" else "parcel"
def spWordL : Sp := fun vs H Q _ => ∃ (i : Int) (v : V) (d : D), vs = [.int i, v] ∧ At H d v ∧ (parBy sgn d 20 = true → (row d).length ≤ 1000000) ∧ ∀ H', Same H H' → Q (.str (wordOf (parBy sgn d 20))) H'
theorem ok_wordL (A : DefAt K mg "_law_word" sWordL ["_law_which", "_law_thing"]) (b : Bu mg) (T : Cl K mg R N Qe) (CR : Cal P w K mg base (L2.CX P w) 25 "row_of" ["parcel"] (spRowOf N)) (CS : Cal P w K mg base (L2.CX P w) 26 "sealed" ["parcel"] (spSealed N)) :
    Cal P w K mg base CX0 27 "_law_word" ["_law_which", "_law_thing"] spWordL := by
  refine cal_of A scWordL (fun vs H Q E h => ?_) (fun f cdv A outer s H vs Q E hr h => ?_)
  · obtain ⟨i, v, d, rfl, _⟩ := h
    rfl
  obtain ⟨i, v, d, rfl, hv, hl, q⟩ := h
  refine ⟨_, pss_cons (ps_set (i := 2) scWordL.nd rfl (Or.inl rfl) pe_str)
    (pss_cons (ps_try_as (i := 3) (Wout := fun _ _ _ _ => False)
      (tb := fun W => tIfS (tTest (tOp rEq (tVar 0) (tC (.int 0)))) (tDrop (tCallS (spRowOf N) (WE W) (tCons (tVar 1) tNil))) (tDrop (tCallS (spSealed N) (WE W) (tCons (tVar 1) tNil))))
      (ts := fun a cls dd => fun D σ H => (cls = .ref N ∧ dd = none) ∧ tAsg (tIf (tAnd (tB (tCB (rIsE K N a) (tCons (tVar 3) (tCons (tC (.ref N)) tNil)))) (tB (tCB (rIsE K N a) (tCons (tVar 3) (tCons (tC (.ty "ValueError")) tNil))))) (tC (.str "parcel")) (tC (.str "other"))) (gName 2) D σ H)
      rfl rfl scWordL.nd rfl rfl ⟨rfl, by decide, .inl T.gQ⟩ takes0
      (fun W pn xe tk _ => pss_one (ps_if (pt_cmpR op_eq (pv 0) pe_int (nomark _))
        (pss_one (ps_expr (by exact (pe_cS CR hr (by decide) rfl (fun σ => passAt tk σ) (by exact (pa_cons (pv 1) pa_nil))))))
        (pss_one (ps_expr (by exact (pe_cS CS hr (by decide) rfl (fun σ => passAt tk σ) (by exact (pa_cons (pv 1) pa_nil))))))))
      (fun a oe cls dd pn hz hf => pss_given fun e => by
        obtain ⟨rfl, rfl⟩ := e
        exact pss_one (ps_set (i := 2) scWordL.nd rfl (Or.inl rfl) (pe_ifExp (PW.pt (pw_and (pt_val (pe_callB (call_isE T.ec hz hf) rfl b.isi (by decide +kernel) (pa_cons (pv 3) (pa_cons (pe_glob (v := .ref N) rfl T.gN rfl) pa_nil))))
          (pw_and1 (pt_val (pe_callB (call_isE T.ec hz hf) rfl b.isi (by decide +kernel) (pa_cons (pv 3) (pa_cons (pe_bltn (v := .ty "ValueError") rfl b.ve (by decide +kernel) rfl) pa_nil))))))) pe_str pe_str))))
    (pss_one (ps_ret (pv 2)))), ?_⟩
  have caught : ∀ H', Same H H' → parBy sgn d 20 = false → wAs K (.ref Qe) 3 (fun a cls dd => fun D σ H => (cls = .ref N ∧ dd = none) ∧ tAsg (tIf (tAnd (tB (tCB (rIsE K N a) (tCons (tVar 3) (tCons (tC (.ref N)) tNil)))) (tB (tCB (rIsE K N a) (tCons (tVar 3) (tCons (tC (.ty "ValueError")) tNil))))) (tC (.str "parcel")) (tC (.str "other"))) (gName 2) D σ H) (fun _ _ _ _ => False)
      { nx := fun σ H => tRet (tVar 2) { nx := fun _ H' => Q .non H', rt := Q } σ H, rt := Q } (.ref N) none [some (.int i), some v, some (.str "let"), none] H' := by
    intro H' s1 e
    refine ⟨true, PySem.W.exm_ref T.bQ T.dQ T.tQ T.sNQ, fun _ a ha => ?_, fun z => nomatch z⟩
    refine ⟨⟨rfl, rfl⟩, ?_⟩
    refine ⟨_, rfl, .ref N, .ref N, true, rfl, fun u hu => hu, T.oneN, _, rfl, ?_⟩
    refine ⟨_, rfl, .ty "ValueError", .type "ValueError", true, rfl, fun u hu => hu, T.oneV, _, rfl, ?_⟩
    refine ⟨_, rfl, ?_⟩
    have := q H' s1
    rw [e] at this
    exact this
  have passed : ∀ H', Same H H' → parBy sgn d 20 = true → tRet (tVar 2) { nx := fun _ H' => Q .non H', rt := Q } [some (.int i), some v, some (.str "let"), none] H' := by
    intro H' s1 e
    have := q H' s1
    rw [e] at this
    exact ⟨_, rfl, this⟩
  refine ⟨_, rfl, rfl, _, rfl, ?_⟩
  refine ite2 (fun _ => ?_) (fun _ => ?_)
  · exact ⟨_, rfl, v, d, rfl, hv, fun e => ⟨hl e, fun t H' s1 _ => passed H' s1 e⟩, fun e H' s1 => caught H' s1 e⟩
  · exact ⟨_, rfl, v, d, rfl, hv, fun e => ⟨hl e, fun t H' s1 => passed H' s1 e⟩, fun e H' s1 => caught H' s1 e⟩
end
end KQ
namespace KQ
open PySem PySem.Spec PyProof.Rows L2
theorem lt_one (a b : Nat) : (([a] : List Nat) < [b]) ↔ a < b := by
  constructor
  · intro q
    cases q with
    | rel h' => exact h'
    | cons h' => cases h'
  · intro h
    exact List.Lex.rel h
theorem sgl_one (c : Nat) : (!decide ((⟨#[c]⟩ : Str).cps.toList < (" " : Str).cps.toList) && !decide (("~" : Str).cps.toList < (⟨#[c]⟩ : Str).cps.toList)) = sgl c := by
  have e1 : (" " : Str).cps.toList = [32] := by decide +kernel
  have e2 : ("~" : Str).cps.toList = [126] := by decide +kernel
  have e3 : (⟨#[c]⟩ : Str).cps.toList = [c] := rfl
  rw [e1, e2, e3]
  unfold sgl
  have h1 : (!decide (([c] : List Nat) < [32])) = decide (32 ≤ c) := by
    by_cases h : c < 32
    · rw [decide_eq_true ((lt_one c 32).mpr h), decide_eq_false (by omega)]; rfl
    · rw [decide_eq_false (fun q => h ((lt_one c 32).mp q)), decide_eq_true (by omega)]; rfl
  have h2 : (!decide (([126] : List Nat) < [c])) = decide (c ≤ 126) := by
    by_cases h : 126 < c
    · rw [decide_eq_true ((lt_one 126 c).mpr h), decide_eq_false (by omega)]; rfl
    · rw [decide_eq_false (fun q => h ((lt_one 126 c).mp q)), decide_eq_true (by omega)]; rfl
  rw [h1, h2]
theorem walk_zipT {K : PySem.W.Frag} {a b : Addr} {xs ys : List V} {n : Nat} (h1 : xs.length = n) (h2 : ys.length = n) : Walk (RZ.ItzT K a b) n (fun H => SqT K H a xs ∧ SqT K H b ys) (YPair (fun i => xs[i]?) (fun i => ys[i]?)) := by
  refine ⟨fun i _ hi q => ?_, fun _ q => ⟨xs, ys, q.1, q.2, by omega⟩, fun i H v H' _ q y => ?_⟩
  · have h1 : i < xs.length := by omega
    have h2 : i < ys.length := by omega
    exact ⟨xs, ys, xs[i], ys[i], q.1, q.2, by simp [h1], by simp [h2]⟩
  · obtain ⟨T, x, z, h1, h2, h3, h4, h5⟩ := y
    exact ⟨T, x, z, h1, h2, h3, h4 xs q.1, h5 ys q.2⟩
section
variable {P : Program} {w : World} {K : PySem.W.Frag} {mg : Str → Option Value} {base : Heap} {R N Qe : Addr}
/-! ### the law's own look -/
abbrev sIsPL : Stmt := topS 49
theorem scIsPL : FnScope ["_law_thing", "_law_left", "_law_part", "_law_sign"] ["_law_thing", "_law_left"] (defScope sIsPL) := ⟨rfl, rfl, rfl, by decide +kernel, rfl, by decide +kernel, by decide +kernel⟩
def spIsPL (n : Nat) : Sp := fun vs H Q _ => ∃ (v : V) (d : D) (z : Int), vs = [v, .int z] ∧ At H d v ∧ 0 ≤ z ∧ z.toNat + 1 ≤ n ∧ ∀ H', Same H H' → Q (.bl (parBy sgl d z.toNat)) H'
theorem ok_isPL {n : Nat} (A : DefAt K mg "_law_is_parcel" sIsPL ["_law_thing", "_law_left"]) (b : Bu mg) (C : Cal P w K mg base CX0 n "_law_is_parcel" ["_law_thing", "_law_left"] (spIsPL n)) :
    Cal P w K mg base CX0 (n + 1) "_law_is_parcel" ["_law_thing", "_law_left"] (spIsPL (n + 1)) := by
  refine cal_of A scIsPL (fun vs H Q E h => ?_) (fun f cdv A outer s H vs Q E hr h => ?_)
  · obtain ⟨v, d, z, rfl, _⟩ := h
    rfl
  obtain ⟨v, d, z, rfl, hv, hz, hn, q⟩ := h
  refine ⟨_, pss_cons (ps_if (pt_val (pe_isi "tuple" (pv 0) rfl b.isi rfl b.tup (by decide +kernel)))
      (pss_one (ps_ret (pe_and (pe_cmpR op_gt (pv 1) pe_int (nomark _)) (pe_one (pe_callB (cr_all rfl) rfl b.all (by decide +kernel) (pa_cons (pe_lc (own := [("_law_part", 2)]) (g := gName 2) (tt := tYes) rfl scIsPL.nd (pi_tup (pv 0))
        (blkOk_by (N := ["_law_thing", "_law_left", "_law_part", "_law_sign"]) (sc := defScope sIsPL) (by decide +kernel)) (fun _ _ _ _ _ => pg_name (i := 2) scIsPL.nd rfl (Or.inl rfl)) (fun _ _ _ _ _ => pts_nil)
        (fun _ _ _ _ _ => pe_c C hr (Nat.le_refl _) rfl pass0 (pa_cons (pv 2) (pa_cons (pe_op op_sub (pv 1) pe_int) pa_nil)))) pa_nil)))))) pss_nil)
    (pss_cons (ps_if (pt_val (pe_isi "str" (pv 0) rfl b.isi rfl b.str (by decide +kernel)))
      (pss_one (ps_ret (pe_and (pe_chain op_le op_le pe_int (pe_callB call_len_str rfl b.len PySem.boot_len (pa_cons (pv 0) pa_nil)) pe_int) (pe_one (pe_callB (cr_all rfl) rfl b.all (by decide +kernel) (pa_cons (pe_lc (own := [("_law_sign", 3)]) (g := gName 3) (tt := tYes) rfl scIsPL.nd (pi_str (pv 0))
        (blkOk_by (N := ["_law_thing", "_law_left", "_law_part", "_law_sign"]) (sc := defScope sIsPL) (by decide +kernel)) (fun _ _ _ _ _ => pg_name (i := 3) scIsPL.nd rfl (Or.inl rfl)) (fun _ _ _ _ _ => pts_nil)
        (fun _ _ _ _ _ => pe_chain op_le_str op_le_str pe_str (pv 3) pe_str)) pa_nil)))))) pss_nil)
    (pss_one (ps_ret (pe_or (pe_cmp (pc_isN (pv 0))) (pe_one (pe_isi "int" (pv 0) rfl b.isi rfl b.int (by decide +kernel))))))), ?_⟩
  obtain ⟨nm, ty, kd⟩ := At.ty (K := K) hv
  have hnon := hv.non_iff
  refine ⟨_, rfl, rfl, _, _, ty, kd.tup, _, rfl, ?_⟩
  cases d with
  | tup ds =>
    have hv' := hv
    rw [At] at hv'
    obtain ⟨a, xs, rfl, ha, hl, hq⟩ := hv'
    have hlen := hq.length
    refine ⟨_, rfl, _, _, rfl, rfl, _, rfl, ?_⟩
    by_cases h1 : (0 : Int) < z
    · rw [decide_eq_true h1]
      refine ⟨_, rfl, a, rfl, ⟨_, SqT.of ha⟩, fun D hD => ?_⟩
      refine lc_one (zs := ds.map fun d => .bl (parBy sgl d (z - 1).toNat)) (walk_tup (K := K) (a := a) (xs := xs)) (by rw [List.length_map, hlen]) (by omega) hD (fun H2 s2 => SqT.of (s2 _ _ ha)) (fun m H x H' y => by rw [y.1]; exact Same.refl _) (fun m x H2 H3 zz k hz' s2 y kk => ?_) (fun H2 s2 e2 => ?_)
      · obtain ⟨rfl, hx⟩ := y
        obtain ⟨d, hd, hat⟩ := hq.get hx
        rw [List.getElem?_map, hd] at hz'
        cases hz'
        refine ⟨_, rfl, _, rfl, _, _, rfl, rfl, x, d, z - 1, rfl, At.same s2 _ _ hat, by omega, by omega, fun H4 s4 => kk H4 s4⟩
      · refine ⟨D, ds.map fun d => parBy sgl d (z - 1).toNat, rfl, SqL.of (by rw [e2, List.map_map]; rfl), ?_⟩
        have e : (ds.map fun d => parBy sgl d (z - 1).toNat).all id = parBy sgl (.tup ds) z.toNat := by
          rw [parBy_tup, decide_eq_true (show 0 < z.toNat by omega), Bool.true_and, show (z - 1).toNat = z.toNat - 1 by omega]
        rw [e]
        exact q H2 s2
    · rw [decide_eq_false h1]
      have e : parBy sgl (.tup ds) z.toNat = false := by
        rw [parBy_tup, decide_eq_false (show ¬ 0 < z.toNat by omega), Bool.false_and]
      rw [e] at q
      exact q H (Same.refl H)
  | str s =>
    rw [At] at hv
    obtain ⟨rfl, hl⟩ := hv
    rw [parBy] at q
    refine ⟨_, rfl, rfl, _, _, ty, kd.str, _, rfl, ?_⟩
    refine ⟨_, rfl, s, rfl, Nat.le_of_lt (len_line (by omega)), _, _, rfl, rfl, _, rfl, ?_⟩
    by_cases h1 : (1 : Int) ≤ (s.length : Int)
    · rw [decide_eq_true h1]
      refine ⟨_, _, rfl, rfl, _, rfl, ?_⟩
      by_cases h2 : (s.length : Int) ≤ 20
      · rw [decide_eq_true h2]
        refine ⟨_, rfl, s, rfl, fun D hD => ?_⟩
        refine lc_one (zs := s.cps.toList.map fun c => .bl (sgl c)) walk_str (by simp) (by show s.length ≤ _; omega) hD (fun _ _ => trivial) (fun m H x H' y => by rw [y.1]; exact Same.refl _) (fun m x H2 H3 z k hz s2 y kk => ?_) (fun H2 s2 e2 => ?_)
        · obtain ⟨rfl, c, hc, rfl⟩ := y
          have hz' : z = .bl (sgl c) := by
            rw [List.getElem?_map, Array.getElem?_toList, hc] at hz
            exact (Option.some.inj hz).symm
          subst hz'
          have e := sgl_one c
          refine ⟨_, rfl, _, _, rfl, rfl, _, rfl, ?_⟩
          cases e1 : decide ((⟨#[c]⟩ : Str).cps.toList < (" " : Str).cps.toList) with
          | true =>
            rw [e1] at e
            have e' : sgl c = false := e.symm
            rw [e'] at kk
            exact kk _ (Same.refl _)
          | false =>
            rw [e1] at e
            have e' : (!decide (("~" : Str).cps.toList < (⟨#[c]⟩ : Str).cps.toList)) = sgl c := e
            refine ⟨_, _, rfl, rfl, ?_⟩
            rw [e']
            exact kk _ (Same.refl _)
        · refine ⟨D, s.cps.toList.map sgl, rfl, SqL.of (by rw [e2, List.map_map]; rfl), ?_⟩
          have e : (s.cps.toList.map sgl).all id = shortBy sgl s := by
            unfold shortBy
            rw [decide_eq_true (show 1 ≤ s.length by omega), decide_eq_true (show s.length ≤ 20 by omega), List.all_map]
            rfl
          rw [e]
          exact q H2 s2
      · rw [decide_eq_false h2]
        have e : shortBy sgl s = false := by
          unfold shortBy
          rw [decide_eq_false (show ¬ s.length ≤ 20 by omega)]
          simp
        rw [e] at q
        exact q H (Same.refl H)
    · rw [decide_eq_false h1]
      have e : shortBy sgl s = false := by
        unfold shortBy
        rw [decide_eq_false (show ¬ 1 ≤ s.length by omega)]
        simp
      rw [e] at q
      exact ⟨_, rfl, q H (Same.refl H)⟩
  | non =>
    refine ⟨_, rfl, rfl, _, _, ty, kd.str, _, rfl, _, rfl, _, rfl, ?_⟩
    rw [hnon]
    rw [parBy] at q
    exact q H (Same.refl H)
  | bl c =>
    refine ⟨_, rfl, rfl, _, _, ty, kd.str, _, rfl, _, rfl, _, rfl, ?_⟩
    rw [hnon]
    rw [parBy] at q
    exact ⟨_, rfl, rfl, _, _, ty, kd.int, q H (Same.refl H)⟩
  | int c =>
    refine ⟨_, rfl, rfl, _, _, ty, kd.str, _, rfl, _, rfl, _, rfl, ?_⟩
    rw [hnon]
    rw [parBy] at q
    exact ⟨_, rfl, rfl, _, _, ty, kd.int, q H (Same.refl H)⟩
  | odd =>
    refine ⟨_, rfl, rfl, _, _, ty, kd.str, _, rfl, _, rfl, _, rfl, ?_⟩
    rw [hnon]
    rw [parBy] at q
    exact ⟨_, rfl, rfl, _, _, ty, kd.int, q H (Same.refl H)⟩
theorem all_isPL (A : DefAt K mg "_law_is_parcel" sIsPL ["_law_thing", "_law_left"]) (b : Bu mg) :
    ∀ n : Nat, Cal P w K mg base CX0 n "_law_is_parcel" ["_law_thing", "_law_left"] (spIsPL n)
  | 0 => cal_none A _ fun vs H Q E h => by
    obtain ⟨_, _, _, _, _, _, hn, _⟩ := h
    omega
  | n + 1 => ok_isPL A b (all_isPL A b n)
/-! ### nests and the deep list -/
abbrev sNestL : Stmt := topS 47
theorem scNestL : FnScope ["_law_many", "_law_inner", "_law_found", "_law_turn"] ["_law_many", "_law_inner"] (defScope sNestL) := ⟨rfl, rfl, rfl, by decide +kernel, rfl, by decide +kernel, by decide +kernel⟩
def spNestL : Sp := fun vs H Q _ => ∃ (n : Nat) (v : V) (d : D), vs = [.int (n : Int), v] ∧ n ≤ 1000 ∧ At H d v ∧ ∀ v' H', Same H H' → At H' (nest n d) v' → Q v' H'
theorem ok_nestL (A : DefAt K mg "_law_nested" sNestL ["_law_many", "_law_inner"]) (b : Bu mg) : Cal P w K mg base CX0 1 "_law_nested" ["_law_many", "_law_inner"] spNestL := by
  refine cal_of A scNestL (fun vs H Q E h => ?_) (fun f cdv A outer s H vs Q E hr h => ?_)
  · obtain ⟨n, v, d, rfl, _⟩ := h
    rfl
  obtain ⟨n, v, d, rfl, hn, hv, q⟩ := h
  refine ⟨_, pss_cons (ps_set (i := 2) scNestL.nd rfl (Or.inl rfl) (pv 1))
    (pss_cons (ps_for PassesOwn.never rfl (pi_range1 rfl b.range (pa_cons (pv 0) pa_nil)) (pg_name (i := 3) scNestL.nd rfl (Or.inl rfl))
      (pss_one (ps_set (i := 2) scNestL.nd rfl (Or.inl rfl) (pe_tup (pa_cons (pv 2) pa_nil)))))
    (pss_one (ps_ret (pv 2)))), ?_⟩
  refine ⟨_, rfl, _, rfl, (n : Int), rfl, by omega, by omega, ?_⟩
  refine for_range (n := ((n : Nat) : Int).toNat) (fun i σ H2 => ∃ (u : V) (t : Option V), σ = [some (.int (n : Int)), some v, some u, t] ∧ Same H H2 ∧ At H2 (nest i d) u)
    ⟨v, none, rfl, Same.refl H, by rw [nest]; exact hv⟩ ?_ ?_
  · rintro i σ H2 hi ⟨u, t, rfl, s2, hu⟩
    refine ⟨_, rfl, Nat.le_of_lt (len_line (by show 1 ≤ 2000000; decide)), fun p hp => ?_⟩
    have s3 := same_new hp (.tup [u])
    refine ⟨.ref p, _, rfl, s2.trans s3, ?_⟩
    rw [nest]
    exact At.tup_mk (upd_same) (by show 1 ≤ 1000000; decide) (AtL.cons (At.same s3 _ _ hu) AtL.nil)
  · rintro σ H2 ⟨u, t, rfl, s2, hu⟩
    refine ⟨_, rfl, q u H2 s2 ?_⟩
    rw [Int.toNat_natCast] at hu
    exact hu
abbrev sDeepL : Stmt := topS 41
theorem scDeepL : FnScope ["_law_thing", "_law_turn"] [] (defScope sDeepL) := ⟨rfl, rfl, rfl, by decide +kernel, rfl, by decide +kernel, by decide +kernel⟩
def spDeepL : Sp := fun vs H Q _ => vs = [] ∧ ∀ v' H', Same H H' → At H' .odd v' → Q v' H'
theorem ok_deepL (A : DefAt K mg "_law_deep" sDeepL []) (b : Bu mg) : Cal P w K mg base CX0 1 "_law_deep" [] spDeepL := by
  refine cal_of A scDeepL (fun vs H Q E h => ?_) (fun f cdv A outer s H vs Q E hr h => ?_)
  · obtain ⟨rfl, _⟩ := h
    rfl
  obtain ⟨rfl, q⟩ := h
  refine ⟨_, pss_cons (ps_set (i := 0) scDeepL.nd rfl (Or.inl rfl) (pe_lst (pa_cons pe_non pa_nil)))
    (pss_cons (ps_for PassesOwn.never rfl (pi_range1 rfl b.range (pa_cons pe_int pa_nil)) (pg_name (i := 1) scDeepL.nd rfl (Or.inl rfl))
      (pss_one (ps_set (i := 0) scDeepL.nd rfl (Or.inl rfl) (pe_lst (pa_cons (pv 0) pa_nil)))))
    (pss_one (ps_ret (pv 0)))), ?_⟩
  refine ⟨Nat.le_of_lt (len_line (by decide)), fun l hl => ⟨35, rfl, by decide, by decide, ?_⟩⟩
  refine for_range (n := 35) (fun i σ H2 => ∃ (a : Addr) (xs : List V) (t : Option V), σ = [some (.ref a), t] ∧ Same H H2 ∧ H2 a = some (.lst xs))
    ⟨l, _, none, rfl, same_new hl _, upd_same⟩ ?_ ?_
  · rintro i σ H2 hi ⟨a, xs, t, rfl, s2, ha⟩
    refine ⟨_, rfl, Nat.le_of_lt (len_line (by show 1 ≤ 2000000; decide)), fun p hp => ?_⟩
    exact ⟨p, _, _, rfl, s2.trans (same_new hp _), upd_same⟩
  · rintro σ H2 ⟨a, xs, t, rfl, s2, ha⟩
    refine ⟨_, rfl, q _ H2 s2 ?_⟩
    rw [At]
    exact ⟨a, rfl, .inl ⟨xs, ha⟩⟩
end
end KQ
namespace KQ
open PySem PySem.Spec PyProof.Rows L2
theorem all_true (n : Nat) : (List.replicate n true).all id = true := by
  induction n with
  | zero => rfl
  | succ n ih => rw [List.replicate_succ, List.all_cons, ih]; rfl
section
variable {P : Program} {w : World} {K : PySem.W.Frag} {mg : Str → Option Value} {base : Heap} {R N Qe : Addr}
/-! ### the law's sameness -/
abbrev sSameL : Stmt := topS 48
theorem scSameL : FnScope ["_law_one", "_law_other", "_law_first", "_law_later"] ["_law_one", "_law_other"] (defScope sSameL) := ⟨rfl, rfl, rfl, by decide +kernel, rfl, by decide +kernel, by decide +kernel⟩
def spSameL (n : Nat) : Sp := fun vs H Q _ => ∃ (v u : V) (d : D) (z : Nat), vs = [v, u] ∧ At H d v ∧ At H d u ∧ parBy sgn d z = true ∧ z + 1 ≤ n ∧ ∀ H', Same H H' → Q (.bl true) H'
theorem ok_sameL {n : Nat} (A : DefAt K mg "_law_same" sSameL ["_law_one", "_law_other"]) (b : Bu mg) (C : Cal P w K mg base CX0 n "_law_same" ["_law_one", "_law_other"] (spSameL n)) :
    Cal P w K mg base CX0 (n + 1) "_law_same" ["_law_one", "_law_other"] (spSameL (n + 1)) := by
  refine cal_of A scSameL (fun vs H Q E h => ?_) (fun f cdv A outer s H vs Q E hr h => ?_)
  · obtain ⟨v, u, d, z, rfl, _⟩ := h
    rfl
  obtain ⟨v, u, d, z, rfl, hv, hu, hp, hn, q⟩ := h
  refine ⟨_, pss_cons (ps_if (PW.pt (pw_or (pt_val (pe_isi "tuple" (pv 0) rfl b.isi rfl b.tup (by decide +kernel))) (pw_or1 (pt_val (pe_isi "tuple" (pv 1) rfl b.isi rfl b.tup (by decide +kernel))))))
      (pss_cons (ps_if (PW.pt (pw_or (pt_not (pt_val (pe_isi "tuple" (pv 0) rfl b.isi rfl b.tup (by decide +kernel)))) (pw_or (pt_not (pt_val (pe_isi "tuple" (pv 1) rfl b.isi rfl b.tup (by decide +kernel))))
          (pw_or1 (pt_cmpR op_ne (pe_callB call_len_seq rfl b.len PySem.boot_len (pa_cons (pv 0) pa_nil)) (pe_callB call_len_seq rfl b.len PySem.boot_len (pa_cons (pv 1) pa_nil)) (nomark _)))))) (pss_one (ps_ret pe_bl)) pss_nil)
      (pss_one (ps_ret (pe_callB (cr_all rfl) rfl b.all (by decide +kernel) (pa_cons (pe_lc (own := [("_law_first", 2), ("_law_later", 3)]) (g := gTup K 2 (gCons (gName 2) (gCons (gName 3) gNil))) (tt := tYes) rfl scSameL.nd (RZ.pi_zipA rfl b.zip (pa_cons (pv 0) (pa_cons (pv 1) pa_nil)))
        (blkOk_by (N := ["_law_one", "_law_other", "_law_first", "_law_later"]) (sc := defScope sSameL) (by decide +kernel))
        (fun _ _ _ _ _ => by exact (pg_tup rfl (pgs_cons (pg_name (i := 2) scSameL.nd rfl (Or.inl rfl)) (pgs_cons (pg_name (i := 3) scSameL.nd rfl (Or.inl rfl)) pgs_nil)))) (fun _ _ _ _ _ => pts_nil)
        (fun _ _ _ _ _ => pe_c C hr (Nat.le_refl _) rfl pass0 (pa_cons (pv 2) (pa_cons (pv 3) pa_nil)))) pa_nil))))) pss_nil)
    (pss_one (ps_ret (pe_and (pe_cmpR op_eq (pe_isi "bool" (pv 0) rfl b.isi rfl b.bool (by decide +kernel)) (pe_isi "bool" (pv 1) rfl b.isi rfl b.bool (by decide +kernel)) (nomark _))
      (pe_and (pe_cmpR op_eq (pe_isi "str" (pv 0) rfl b.isi rfl b.str (by decide +kernel)) (pe_isi "str" (pv 1) rfl b.isi rfl b.str (by decide +kernel)) (nomark _)) (pe_one (pe_cmpR op_eq (pv 0) (pv 1) (nomark _))))))), ?_⟩
  obtain ⟨nm, ty, kd⟩ := At.ty (K := K) hv
  obtain ⟨nm2, ty2, kd2⟩ := At.ty (K := K) hu
  refine ⟨_, rfl, rfl, _, _, ty, kd.tup, _, rfl, ?_⟩
  have flat : ∀ x : V, v = x → u = x → scal x x = true → isTup d = false → isBl d = isBl d → (∀ H', Same H H' → Q (.bl true) H') →
      ∃ a, tIsi K "bool" (tVar 0) [some v, some u, none, none] H (fun x1 H1 => tIsi K "bool" (tVar 1) [some v, some u, none, none] H1 fun x2 H2 => rEq x1 x2 H2 fun x3 H3 => ∃ c, x3 = .bl c ∧ if c = true then
        (tAndV (tOp rEq (tIsi K "str" (tVar 0)) (tIsi K "str" (tVar 1))) (tOp rEq (tVar 0) (tVar 1))) [some v, some u, none, none] H3 Q else Q (.bl false) H3) ∧ a = () := by
    intro x e1 e2 sc _ _ q
    subst e1 e2
    refine ⟨(), ?_, rfl⟩
    refine ⟨_, rfl, rfl, _, _, ty, kd.bl, _, rfl, rfl, _, _, ty2, kd2.bl, rfl, _, rfl, ?_⟩
    rw [decide_eq_true rfl]
    refine ⟨_, rfl, rfl, _, _, ty, kd.str, _, rfl, rfl, _, _, ty2, kd2.str, rfl, _, rfl, ?_⟩
    rw [decide_eq_true rfl]
    refine ⟨_, rfl, _, rfl, sc, ?_⟩
    rw [decide_eq_true rfl]
    exact q H (Same.refl H)
  cases d with
  | tup ds =>
    have hv' := hv
    have hu' := hu
    rw [At] at hv' hu'
    obtain ⟨a, xs, rfl, ha, hl, hq⟩ := hv'
    obtain ⟨a2, ys, rfl, ha2, hl2, hq2⟩ := hu'
    have hlen := hq.length
    have hlen2 := hq2.length
    cases z with
    | zero => rw [parBy] at hp; cases hp
    | succ z =>
    rw [parBy, parsBy_map] at hp
    refine ⟨_, rfl, rfl, _, _, ty, kd.tup, _, rfl, ?_⟩
    refine ⟨_, rfl, rfl, _, _, ty2, kd2.tup, _, rfl, ?_⟩
    refine ⟨_, rfl, a, xs, rfl, .inr (SqT.of ha), _, rfl, a2, ys, rfl, .inr (SqT.of ha2), rfl, _, rfl, ?_⟩
    rw [hlen, hlen2, decide_eq_true rfl]
    refine ⟨_, rfl, _, rfl, a, a2, xs, ys, rfl, .inr ⟨SqT.of ha, SqT.of ha2, fun D hD => ?_⟩⟩
    refine lc_it (walk_zipT (K := K) (a := a) (b := a2) (xs := xs) (ys := ys) hlen hlen2) (fun i H2 => Same H H2 ∧ H2 D = some (.lst (List.replicate i (.bl true)))) ⟨same_new hD _, upd_same⟩ (fun i H2 _ s2 => ⟨SqT.of (s2.1 _ _ ha), SqT.of (s2.1 _ _ ha2)⟩) ?_ ?_
    · rintro i x H2 H3 hi ⟨s2, hL⟩ ⟨T, x1, y1, rfl, hT, rfl, hx, hy⟩
      obtain ⟨d, hd, hat⟩ := hq.get hx
      obtain ⟨d', hd', hat'⟩ := hq2.get hy
      rw [hd] at hd'
      cases hd'
      have s3 := same_new hT (.tup [x1, y1])
      have hpd : parBy sgn d z = true := List.all_eq_true.mp hp (parBy sgn d z) (List.mem_map.mpr ⟨d, List.mem_of_getElem? hd, rfl⟩)
      refine ⟨T, _, rfl, SqT.of upd_same, rfl, x1, _, rfl, y1, _, rfl, rfl, rfl, ?_⟩
      refine ⟨_, rfl, _, rfl, x1, y1, d, z, rfl, At.same (s2.trans s3) _ _ hat, At.same (s2.trans s3) _ _ hat', hpd, by omega, fun H4 s4 => ?_⟩
      refine ⟨_, s4 _ _ (s3 _ _ hL), len_line (by rw [List.length_replicate]; omega), same_upd hD ((s2.trans s3).trans s4) _, ?_⟩
      rw [upd_same, List.replicate_succ']
    · rintro H2 ⟨s2, hL⟩
      refine ⟨D, List.replicate ds.length true, rfl, SqL.of (by rw [hL, List.map_replicate]), ?_⟩
      rw [all_true]
      exact q H2 s2
  | non =>
    rw [At] at hv hu
    refine ⟨_, rfl, rfl, _, _, ty2, kd2.tup, _, rfl, ?_⟩
    obtain ⟨_, h, _⟩ := flat _ hv hu rfl rfl rfl q
    exact h
  | bl c =>
    rw [At] at hv hu
    refine ⟨_, rfl, rfl, _, _, ty2, kd2.tup, _, rfl, ?_⟩
    obtain ⟨_, h, _⟩ := flat _ hv hu rfl rfl rfl q
    exact h
  | int c =>
    rw [At] at hv hu
    refine ⟨_, rfl, rfl, _, _, ty2, kd2.tup, _, rfl, ?_⟩
    obtain ⟨_, h, _⟩ := flat _ hv hu rfl rfl rfl q
    exact h
  | str c =>
    rw [At] at hv hu
    refine ⟨_, rfl, rfl, _, _, ty2, kd2.tup, _, rfl, ?_⟩
    obtain ⟨_, h, _⟩ := flat _ hv.1 hu.1 rfl rfl rfl q
    exact h
  | odd => rw [parBy] at hp; cases hp
theorem all_sameL (A : DefAt K mg "_law_same" sSameL ["_law_one", "_law_other"]) (b : Bu mg) :
    ∀ n : Nat, Cal P w K mg base CX0 n "_law_same" ["_law_one", "_law_other"] (spSameL n)
  | 0 => cal_none A _ fun vs H Q E h => by
    obtain ⟨_, _, _, _, _, _, _, _, hn, _⟩ := h
    omega
  | n + 1 => ok_sameL A b (all_sameL A b n)
end
end KQ
namespace KQ
open PySem PySem.Spec PyProof.Rows L2
/-! ### the reader -/
theorem ra : ¬ (("row" : Str) = "at") := by decide +kernel
theorem ar : ¬ (("at" : Str) = "row") := by decide +kernel
def rd (a : Addr) (k : Int) : List (Str × V) := putF "at" (.int k) (putF "row" (.ref a) [])
theorem rd_eq (a : Addr) (k : Int) : rd a k = ([("row", V.ref a), ("at", V.int k)] : List (Str × V)) := by
  show (if ("row" : Str) = "at" then [(("row" : Str), V.int k)] else (("row" : Str), V.ref a) :: putF "at" (V.int k) []) = ([("row", V.ref a), ("at", V.int k)] : List (Str × V))
  rw [if_neg ra]
  all_goals rfl
theorem rd_row (a : Addr) (k : Int) : (rd a k).lookup ("row" : Str) = some (.ref a) := by
  unfold rd
  rw [lookup_putF, if_neg ra, lookup_putF, if_pos rfl]
theorem rd_at (a : Addr) (k : Int) : (rd a k).lookup ("at" : Str) = some (.int k) := by
  unfold rd
  rw [lookup_putF, if_pos rfl]
theorem rd_no (a : Addr) (k : Int) {m : Str} (h1 : ¬ m = "at") (h2 : ¬ m = "row") : (rd a k).lookup m = none := by
  unfold rd
  rw [lookup_putF, if_neg h1, lookup_putF, if_neg h2]
  all_goals rfl
theorem rd_put (a : Addr) (k j : Int) : putF "at" (.int j) (rd a k) = rd a j := by
  rw [rd_eq, rd_eq]
  show (if ("row" : Str) = "at" then _ else (("row" : Str), V.ref a) :: (if ("at" : Str) = "at" then [(("at" : Str), V.int j)] else _)) = ([("row", V.ref a), ("at", V.int j)] : List (Str × V))
  rw [if_neg ra, if_pos rfl]
theorem rd_len (a : Addr) (k : Int) : (rd a k).length < 1000 := by rw [rd_eq]; show 2 < 1000; decide
/-- a reader stands at p, its row at a holds bs, it has read k bytes -/
structure Rdr (R : Addr) (H : Hp) (p a : Addr) (bs : List Int) (k : Nat) : Prop where
  ob : ∃ dx, H p = some (.ins R dx (rd a (k : Int)))
  tp : H a = some (.tup (iv bs))
theorem Rdr.tups {R : Addr} {H H' : Hp} {p a : Addr} {bs : List Int} {k : Nat} (D : Rdr R H p a bs k) (s : But p H H') : Tups H H' := by
  obtain ⟨dx, h⟩ := D.ob
  exact s.tups h fun xs e => nomatch e
theorem Rdr.same {R : Addr} {H H' : Hp} {p a : Addr} {bs : List Int} {k : Nat} (D : Rdr R H p a bs k) (s : Same H H') : Rdr R H' p a bs k := by
  obtain ⟨dx, h⟩ := D.ob
  exact ⟨⟨dx, s _ _ h⟩, s _ _ D.tp⟩
section
variable {P : Program} {w : World} {K : PySem.W.Frag} {mg : Str → Option Value} {base : Heap} {R N Qe : Addr}
abbrev sInit : Stmt := inClass (topS 33) 0
abbrev sNext : Stmt := inClass (topS 33) 1
abbrev sReadW : Stmt := inClass (topS 33) 2
abbrev sReadS : Stmt := inClass (topS 33) 3
theorem scInit : FnScope ["self", "row"] ["self", "row"] (defScope sInit) := ⟨rfl, rfl, rfl, by decide +kernel, rfl, by decide +kernel, by decide +kernel⟩
def spInit (R : Addr) : Sp := fun vs H Q _ => ∃ (p a dx : Addr), vs = [.ref p, .ref a] ∧ H p = some (.ins R dx []) ∧ ∀ H', But p H H' → H' p = some (.ins R dx (rd a 0)) → Q .non H'
theorem ok_init {f : Addr} {fd : FuncData} (F : Fun K "__init__" "RowReader.__init__" sInit f fd) (T : Cl K mg R N Qe) : FnOk P w K mg base CX0 1 f fd ["self", "row"] (spInit R) := by
  refine F.ok scInit (fun vs H Q E h => ?_) (fun cdv A outer s H vs Q E hr h => ?_)
  · obtain ⟨p, a, dx, rfl, _⟩ := h
    rfl
  obtain ⟨p, a, dx, rfl, hp, q⟩ := h
  refine ⟨_, pss_cons (ps_fld (pv 0) (pv 1) rfl) (pss_one (ps_fld (pv 0) pe_int rfl)), ?_⟩
  refine ⟨_, rfl, _, rfl, p, R, dx, [], rfl, hp, T.cl, T.nRow, (by show 0 < 1000; decide), _, rfl, p, R, dx, _, rfl, upd_same, T.cl, T.nAt, (by show 1 < 1000; decide), ?_⟩
  refine q _ (fun b o e n => by rw [upd_ne n, upd_ne n]; exact e) ?_
  rw [upd_same]
  rfl
theorem scNext : FnScope ["self"] ["self"] (defScope sNext) := ⟨rfl, rfl, rfl, by decide +kernel, rfl, by decide +kernel, by decide +kernel⟩
def spNext (R : Addr) : Sp := fun vs H Q _ => ∃ (p a : Addr) (bs : List Int) (k : Nat) (c : Int), vs = [.ref p] ∧ Rdr R H p a bs k ∧ bs[k]? = some c ∧ ∀ H', But p H H' → Rdr R H' p a bs (k + 1) → Q (.int c) H'
theorem rdr_step {H : Hp} {p a dx : Addr} {bs : List Int} {k : Nat} (h : H p = some (.ins R dx (rd a (k : Int)))) (t : H a = some (.tup (iv bs))) : Rdr R (upd H p (.ins R dx (putF "at" (.int ((k : Int) + 1)) (rd a (k : Int))))) p a bs (k + 1) := by
  refine ⟨⟨dx, ?_⟩, ?_⟩
  · rw [upd_same, rd_put]
    rfl
  · rw [upd_ne (ne_of t h (by intro z; cases z))]
    exact t
theorem ok_next (A : MetAt K R "next_byte" "RowReader.next_byte" sNext ["self"]) (b : Bu mg) (T : Cl K mg R N Qe) : Met P w K mg base CX0 1 R "next_byte" ["self"] (spNext R) := by
  refine met_of A scNext (fun vs H Q E h => ?_) (fun f cdv A outer s H vs Q E hr h => ?_)
  · obtain ⟨p, a, bs, k, c, rfl, _⟩ := h
    rfl
  obtain ⟨p, a, bs, k, c, rfl, D, hc, q⟩ := h
  refine ⟨_, pss_cons (ps_if (pt_cmpR op_eq (pe_fld (pv 0) rfl) (pe_callB call_len_seq rfl b.len PySem.boot_len (pa_cons (pe_fld (pv 0) rfl) pa_nil)) (nomark _)) pss_never pss_nil)
    (pss_cons (ps_fldaug (pv 0) pe_int in_add)
    (pss_one (ps_ret (pe_ix ix_tup (pe_fld (pv 0) rfl) (pe_op op_sub (pe_fld (pv 0) rfl) pe_int) (fun _ _ => rfl))))), ?_⟩
  obtain ⟨⟨dx, hp⟩, ht⟩ := id D
  have hk : k < bs.length := (List.getElem?_eq_some_iff.mp hc).1
  refine ⟨_, rfl, p, R, dx, _, _, rfl, hp, T.cl, T.nAt, rd_at _ _, _, rfl, p, R, dx, _, _, rfl, hp, T.cl, T.nRow, rd_row _ _, a, _, rfl, .inr (SqT.of ht), rfl, _, rfl, ?_⟩
  rw [dec_int, List.length_map, beq_eq_false_iff_ne.mpr (show (k : Int) ≠ (bs.length : Int) by omega)]
  refine ⟨_, rfl, p, R, dx, _, _, rfl, hp, T.cl, T.nAt, rd_at _ _, _, _, rfl, rfl, dx, _, hp, rd_len _ _, ?_⟩
  have D2 : Rdr R (upd H p (.ins R dx (putF "at" (.int ((k : Int) + 1)) (rd a (k : Int))))) p a bs (k + 1) := rdr_step hp ht
  obtain ⟨⟨dy, hp2⟩, ht2⟩ := id D2
  refine ⟨_, rfl, p, R, dy, _, _, rfl, hp2, T.cl, T.nRow, rd_row _ _, _, rfl, p, R, dy, _, _, rfl, hp2, T.cl, T.nAt, rd_at _ _, _, _, rfl, rfl, a, _, _, _, rfl, rfl, SqT.of ht2, ?_, q _ But.upd D2⟩
  rw [show ((k + 1 : Nat) : Int) - 1 = (k : Int) by omega]
  exact atI_nat (by unfold iv; rw [List.getElem?_map, hc]; rfl)
theorem scReadW : FnScope ["self", "begin", "found", "worth", "byte"] ["self"] (defScope sReadW) := ⟨rfl, rfl, rfl, by decide +kernel, rfl, by decide +kernel, by decide +kernel⟩
def spReadW (R : Addr) : Sp := fun vs H Q _ => ∃ (p a : Addr) (bs : List Int) (k n : Nat) (rest : List Int), vs = [.ref p] ∧ Rdr R H p a bs k ∧ bs.drop k = whole n ++ rest ∧ ∀ H', But p H H' → Rdr R H' p a bs (k + (whole n).length) → Q (.int (n : Int)) H'
theorem drop_head {bs : List Int} {k : Nat} {c : Int} {r : List Int} (h : bs.drop k = c :: r) : bs[k]? = some c ∧ bs.drop (k + 1) = r ∧ k < bs.length := by
  have h1 : k < bs.length := by
    refine Nat.lt_of_not_le fun q => ?_
    rw [List.drop_eq_nil_of_le q] at h
    cases h
  rw [List.drop_eq_getElem_cons h1] at h
  injection h with h2 h3
  exact ⟨by rw [List.getElem?_eq_getElem h1, h2], h3, h1⟩
def WRW (R p a : Addr) (bs rest : List Int) (k n : Nat) (H : Hp) : Nat → L2.St → Hp → Prop := fun m σ H' => ∃ (fo wo j : Nat) (y : Option V), σ = [some (.ref p), some (.int (k : Int)), some (.int (fo : Int)), some (.int (wo : Int)), y] ∧
  But p H H' ∧ Rdr R H' p a bs j ∧ bs.drop j = whole m ++ rest ∧ fo + wo * m = n ∧ (m = 0 → j = k) ∧ j + (whole m).length = k + (whole n).length
theorem turn_nat {fo wo m n : Nat} (h : fo + wo * m = n) : fo + m % 128 * wo + wo * 128 * (m / 128) = n := by
  have e : wo * m = wo * (128 * (m / 128) + m % 128) := by rw [Nat.div_add_mod]
  rw [e, Nat.mul_add, ← Nat.mul_assoc] at h
  rw [Nat.mul_comm (m % 128) wo]
  omega
theorem ok_readW (A : MetAt K R "read_whole" "RowReader.read_whole" sReadW ["self"]) (b : Bu mg) (kk : Cn mg) (T : Cl K mg R N Qe) : Met P w K mg base CX0 1 R "read_whole" ["self"] (spReadW R) := by
  refine met_of A scReadW (fun vs H Q E h => ?_) (fun f cdv A outer s H vs Q E hr h => ?_)
  · obtain ⟨p, a, bs, k, n, rest, rfl, _⟩ := h
    rfl
  obtain ⟨p, a, bs, k, n, rest, rfl, D, hd, q⟩ := h
  refine ⟨_, pss_cons (ps_set (i := 1) scReadW.nd rfl (Or.inl rfl) (pe_fld (pv 0) rfl))
    (pss_cons (ps_asg (pe_tup (pa_cons pe_int (pa_cons pe_int pa_nil))) (pg_tup rfl (pgs_cons (pg_name (i := 2) scReadW.nd rfl (.inl rfl)) (pgs_cons (pg_name (i := 3) scReadW.nd rfl (.inl rfl)) pgs_nil))))
    (pss_cons (ps_while PassesOwn.never (pt_cmpR op_lt (pe_fld (pv 0) rfl) (pe_callB call_len_seq rfl b.len PySem.boot_len (pa_cons (pe_fld (pv 0) rfl) pa_nil)) (nomark _))
      (pss_cons (ps_set (i := 4) scReadW.nd rfl (Or.inl rfl) (pe_ix ix_tup (pe_fld (pv 0) rfl) (pe_fld (pv 0) rfl) (fun _ _ => rfl)))
      (pss_cons (ps_fldaug (pv 0) pe_int in_add)
      (pss_cons (ps_aug (i := 2) scReadW.nd rfl (Or.inl rfl) (pe_op op_mul (pe_op op_mod (pv 4) (pe_k kk.base rfl)) (pv 3)) ip_add)
      (pss_cons (ps_aug (i := 3) scReadW.nd rfl (Or.inl rfl) (pe_k kk.base rfl) iop_mul)
      (pss_one (ps_if (pt_cmpR op_lt (pv 4) (pe_k kk.base rfl) (nomark _))
        (pss_cons (ps_if (PW.pt (pw_and (pt_cmpR op_eq (pv 4) pe_int (nomark _)) (pw_and1 (pt_cmpR op_gt (pe_op op_sub (pe_fld (pv 0) rfl) (pv 1)) pe_int (nomark _))))) pss_never pss_nil)
        (pss_one (ps_ret (pv 2)))) pss_nil)))))))
    pss_never)), ?_⟩
  obtain ⟨⟨dx, hp⟩, ht⟩ := id D
  refine ⟨_, rfl, p, R, dx, _, _, rfl, hp, T.cl, T.nAt, rd_at _ _, ?_⟩
  refine ⟨Nat.le_of_lt (len_line (by show 2 ≤ 2000000; decide)), fun t ht0 => ⟨t, _, rfl, SqT.of upd_same, rfl, _, _, rfl, _, _, rfl, rfl, ?_⟩⟩
  refine ⟨WRW R p a bs rest k n H, ⟨n, 0, 1, k, none, rfl, But.of (same_new ht0 _), D.same (same_new ht0 _), hd, by omega, fun _ => rfl, rfl⟩, ?_⟩
  rintro m σ H1 ⟨fo, wo, j, y, rfl, s1, D1, hd1, hs, hz, hl⟩
  obtain ⟨⟨dx1, hp1⟩, ht1⟩ := id D1
  have D2 : Rdr R (upd H1 p (.ins R dx1 (putF "at" (.int ((j : Int) + 1)) (rd a (j : Int))))) p a bs (j + 1) := rdr_step hp1 ht1
  obtain ⟨⟨dx2, hp2⟩, ht2⟩ := id D2
  obtain ⟨c, r, hw⟩ : ∃ c r, whole m = c :: r := by
    cases e : whole m with
    | nil => exact absurd e (whole_ne m)
    | cons c r => exact ⟨c, r, rfl⟩
  rw [hw] at hd1
  obtain ⟨g1, g2, g3⟩ := drop_head (show bs.drop j = c :: (r ++ rest) from hd1)
  refine ⟨_, rfl, p, R, dx1, _, _, rfl, hp1, T.cl, T.nAt, rd_at _ _, _, rfl, p, R, dx1, _, _, rfl, hp1, T.cl, T.nRow, rd_row _ _, a, _, rfl, .inr (SqT.of ht1), _, _, rfl, rfl, _, rfl, ?_⟩
  rw [List.length_map, decide_eq_true (show (j : Int) < (bs.length : Int) by omega)]
  refine ⟨fun σ' H' => ∃ m', m' < m ∧ WRW R p a bs rest k n H m' σ' H', fun _ _ h => h, ?_⟩
  refine ⟨_, rfl, p, R, dx1, _, _, rfl, hp1, T.cl, T.nRow, rd_row _ _, _, rfl, p, R, dx1, _, _, rfl, hp1, T.cl, T.nAt, rd_at _ _, a, _, _, _, rfl, rfl, SqT.of ht1, atI_nat (v := .int c) (by unfold iv; rw [List.getElem?_map, g1]; rfl), ?_⟩
  refine ⟨_, rfl, p, R, dx1, _, _, rfl, hp1, T.cl, T.nAt, rd_at _ _, _, _, rfl, rfl, dx1, _, hp1, rd_len _ _, ?_⟩
  have b1 := Int.emod_nonneg c (show (128 : Int) ≠ 0 by decide)
  have b2 := Int.emod_lt_of_pos c (show (0 : Int) < 128 by decide)
  refine ⟨_, rfl, _, rfl, _, _, rfl, rfl, (by show (0 : Int) < 128; decide), _, rfl, _, _, rfl, rfl, .inl ⟨by omega, by omega⟩, _, _, rfl, rfl, ?_⟩
  refine ⟨_, rfl, _, _, rfl, rfl, .inr ⟨by decide, by decide⟩, ?_⟩
  refine ⟨_, rfl, _, _, rfl, rfl, _, rfl, ?_⟩
  by_cases h1 : m < 128
  · rw [whole_lt h1] at hw
    injection hw with hc hr0
    subst hc
    subst hr0
    rw [decide_eq_true (show (m : Int) < 128 by omega)]
    have hL : j + 1 = k + (whole n).length := by rw [← hl, whole_lt h1, List.length_singleton]
    have fin : tRet (tVar 2) { nx := fun _ H' => Q .non H', rt := Q } [some (.ref p), some (.int (k : Int)), some (.int ((fo : Int) + (m : Int) % 128 * (wo : Int))), some (.int ((wo : Int) * 128)), some (.int (m : Int))]
        (upd H1 p (.ins R dx1 (putF "at" (.int ((j : Int) + 1)) (rd a (j : Int))))) := by
      refine ⟨_, rfl, ?_⟩
      have e : (fo : Int) + (m : Int) % 128 * (wo : Int) = (n : Int) := by
        rw [show (m : Int) % 128 = (m : Int) by omega, ← hs, Int.natCast_add, Int.natCast_mul, Int.mul_comm]
      rw [e]
      rw [hL] at D2
      exact q _ (s1.trans But.upd) D2
    refine ⟨_, rfl, rfl, _, rfl, ?_⟩
    by_cases h0 : m = 0
    · subst h0
      refine ⟨_, rfl, p, R, dx2, _, _, rfl, hp2, T.cl, T.nAt, rd_at _ _, _, rfl, _, _, rfl, rfl, _, _, rfl, rfl, _, rfl, ?_⟩
      have hj := hz rfl
      rw [decide_eq_false (show ¬ (1 : Int) < ((j + 1 : Nat) : Int) - (k : Int) by omega)]
      exact fin
    · rw [dec_int, beq_eq_false_iff_ne.mpr (show (m : Int) ≠ 0 by omega)]
      exact fin
  · rw [whole_ge h1] at hw
    injection hw with hc hr0
    rw [decide_eq_false (show ¬ c < 128 by omega)]
    have e2 : (fo : Int) + c % 128 * (wo : Int) = ((fo + m % 128 * wo : Nat) : Int) := by
      rw [show c % 128 = ((m % 128 : Nat) : Int) by omega, Int.natCast_add, Int.natCast_mul]
    have e3 : (wo : Int) * 128 = ((wo * 128 : Nat) : Int) := by
      rw [Int.natCast_mul]
      rfl
    refine ⟨m / 128, by omega, fo + m % 128 * wo, wo * 128, j + 1, some (.int c), ?_, s1.trans But.upd, D2, by rw [g2, ← hr0], turn_nat hs, fun h => by omega, ?_⟩
    · rw [← e2, ← e3]
      rfl
    · rw [← hl, whole_ge h1, List.length_cons]
      omega
end
end KQ
namespace KQ
open PySem PySem.Spec PyProof.Rows L2
theorem drop_app {bs x r : List Int} {k : Nat} (h : bs.drop k = x ++ r) : bs.drop (k + x.length) = r ∧ k + x.length ≤ bs.length + 0 ∨ x = [] ∧ bs.drop k = r := by
  cases x with
  | nil => exact .inr ⟨rfl, h⟩
  | cons c t =>
    refine .inl ⟨?_, ?_⟩
    · rw [← List.drop_drop, h, List.drop_left]
    · have e : (bs.drop k).length = (c :: t).length + r.length := by rw [h, List.length_append]
      rw [List.length_drop] at e
      rw [List.length_cons] at e ⊢
      omega
theorem drop_more {bs x r : List Int} {k : Nat} (h : bs.drop k = x ++ r) : bs.drop (k + x.length) = r := by
  rw [← List.drop_drop, h, List.drop_left]
section
variable {P : Program} {w : World} {K : PySem.W.Frag} {mg : Str → Option Value} {base : Heap} {R N Qe : Addr}
/-! ### read_string -/
theorem scReadS : FnScope ["self", "begin", "many", "found", "turn", "byte"] ["self"] (defScope sReadS) := ⟨rfl, rfl, rfl, by decide +kernel, rfl, by decide +kernel, by decide +kernel⟩
def spReadS (R : Addr) : Sp := fun vs H Q _ => ∃ (p a : Addr) (bs : List Int) (k : Nat) (s : Str) (rest : List Int), vs = [.ref p] ∧ Rdr R H p a bs k ∧ bs.drop k = whole s.length ++ (codes s ++ rest) ∧ shortBy sgn s = true ∧
  ∀ H', But p H H' → Rdr R H' p a bs (k + ((whole s.length).length + s.length)) → Q (.str s) H'
theorem ok_readS (A : MetAt K R "read_string" "RowReader.read_string" sReadS ["self"]) (b : Bu mg) (kk : Cn mg) (T : Cl K mg R N Qe) (CN : Met P w K mg base CX0 1 R "next_byte" ["self"] (spNext R)) (CW : Met P w K mg base CX0 1 R "read_whole" ["self"] (spReadW R))
    (CS : Cal P w K mg base CX0 1 "is_sign" ["number"] spIsSign) : Met P w K mg base CX0 2 R "read_string" ["self"] (spReadS R) := by
  refine met_of A scReadS (fun vs H Q E h => ?_) (fun f cdv A outer s0 H vs Q E hr h => ?_)
  · obtain ⟨p, a, bs, k, s, rest, rfl, _⟩ := h
    rfl
  obtain ⟨p, a, bs, k, s, rest, rfl, D, hd, hsh, q⟩ := h
  refine ⟨_, pss_cons (ps_set (i := 1) scReadS.nd rfl (Or.inl rfl) (pe_fld (pv 0) rfl))
    (pss_cons (ps_set (i := 2) scReadS.nd rfl (Or.inl rfl) (pe_m0 CW T.cl hr (Nat.le_refl _) pass0 (pv 0)))
    (pss_cons (ps_if (pt_not (pt_chain op_le op_le pe_int (pv 2) (pe_k kk.most rfl))) pss_never pss_nil)
    (pss_cons (ps_set (i := 3) scReadS.nd rfl (Or.inl rfl) pe_str)
    (pss_cons (ps_for PassesOwn.never rfl (pi_range1 rfl b.range (pa_cons (pv 2) pa_nil)) (pg_name (i := 4) scReadS.nd rfl (Or.inl rfl))
      (pss_cons (ps_set (i := 5) scReadS.nd rfl (Or.inl rfl) (pe_m0 CN T.cl hr (Nat.le_refl _) pass0 (pv 0)))
      (pss_cons (ps_if (pt_not (pt_val (pe_c CS hr (Nat.le_refl _) rfl pass0 (pa_cons (pv 5) pa_nil)))) pss_never pss_nil)
      (pss_one (ps_aug (i := 3) scReadS.nd rfl (Or.inl rfl) (pe_item_str (pe_kS kk.signs rfl) (pe_op op_sub (pv 5) (pe_k kk.first rfl)) (fun _ _ => rfl)) iop_add_str)))))
    (pss_one (ps_ret (pv 3))))))), ?_⟩
  obtain ⟨⟨dx, hp⟩, ht⟩ := id D
  have hs2 := hsh
  unfold shortBy at hs2
  simp only [Bool.and_eq_true, decide_eq_true_eq] at hs2
  obtain ⟨⟨l1, l2⟩, l3⟩ := hs2
  refine ⟨_, rfl, p, R, dx, _, _, rfl, hp, T.cl, T.nAt, rd_at _ _, ?_⟩
  refine ⟨_, rfl, p, dx, _, rfl, hp, rd_no _ _ (by decide +kernel) (by decide +kernel), p, a, bs, k, s.length, codes s ++ rest, rfl, D, hd, fun H1 s1 D1 => ?_⟩
  refine ⟨_, rfl, _, _, rfl, rfl, _, rfl, ?_⟩
  rw [decide_eq_true (show (1 : Int) ≤ (s.length : Int) by omega)]
  refine ⟨_, _, rfl, rfl, _, rfl, ?_⟩
  rw [decide_eq_true (show (s.length : Int) ≤ 20 by omega)]
  refine ⟨_, rfl, (s.length : Int), rfl, by omega, by omega, ?_⟩
  have hd1 := drop_more hd
  refine for_range (n := ((s.length : Nat) : Int).toNat) (fun i σ H2 => ∃ (t y : Option V), σ = [some (.ref p), some (.int (k : Int)), some (.int (s.length : Int)), some (.str ⟨(s.cps.toList.take i).toArray⟩), t, y] ∧ But p H H2 ∧ Rdr R H2 p a bs (k + (whole s.length).length + i))
    ⟨none, none, rfl, s1, D1⟩ ?_ ?_
  · rintro i σ H2 hi ⟨t, y, rfl, s2, D2⟩
    rw [Int.toNat_natCast] at hi
    obtain ⟨⟨dx2, hp2⟩, ht2⟩ := id D2
    have hi' : i < s.cps.toList.length := by rw [Array.length_toList]; exact hi
    obtain ⟨c, hc⟩ : ∃ c, s.cps.toList[i]? = some c := ⟨_, List.getElem?_eq_getElem hi'⟩
    have hsg : sgn c = true := List.all_eq_true.mp l3 c (List.mem_of_getElem? hc)
    obtain ⟨g1, g2, g3⟩ := sgn_range hsg
    have hbs : bs[k + (whole s.length).length + i]? = some (c : Int) := by
      have e : (bs.drop (k + (whole s.length).length))[i]? = some (c : Int) := by
        rw [hd1, List.getElem?_append_left (by rw [codes_len]; exact hi)]
        unfold codes
        rw [List.getElem?_map, hc]
        rfl
      rw [List.getElem?_drop] at e
      exact e
    refine ⟨_, rfl, p, dx2, _, rfl, hp2, rd_no _ _ (by decide +kernel) (by decide +kernel), p, a, bs, _, (c : Int), rfl, D2, hbs, fun H3 s3 D3 => ?_⟩
    refine ⟨_, rfl, c, rfl, ?_⟩
    rw [hsg]
    refine ⟨_, rfl, ?_⟩
    refine ⟨_, rfl, _, rfl, _, _, rfl, rfl, signs, (c : Int) - 32, c, rfl, rfl, by omega, by omega, by rw [signs_len]; omega, ?_, ?_⟩
    · rw [show ((c : Int) - 32).toNat = c - 32 by omega]
      exact signs_at c (by omega) hsg
    refine ⟨_, _, rfl, rfl, ?_, some (.int (0 + (i : Int))), some (.int (c : Int)), ?_, s2.trans s3, D3⟩
    · refine Nat.le_of_lt (len_line ?_)
      show (s.cps.toList.take i).toArray.size + 1 ≤ _
      rw [List.size_toArray, List.length_take]
      omega
    · have e : (⟨(s.cps.toList.take i).toArray⟩ : Str) ++ (⟨#[c]⟩ : Str) = ⟨(s.cps.toList.take (i + 1)).toArray⟩ := by
        show (⟨(s.cps.toList.take i).toArray ++ #[c]⟩ : Str) = _
        rw [List.take_add_one, hc]
        simp
      rw [← e]
      rfl
  · rintro σ H2 ⟨t, y, rfl, s2, D2⟩
    rw [Int.toNat_natCast] at D2 ⊢
    refine ⟨_, rfl, ?_⟩
    have e : (⟨(s.cps.toList.take s.length).toArray⟩ : Str) = s := by
      rw [List.take_of_length_le (by rw [Array.length_toList]; exact Nat.le_refl _)]
    rw [e]
    exact q H2 s2 (by rw [← Nat.add_assoc]; exact D2)
end
end KQ
namespace KQ
open PySem PySem.Spec PyProof.Rows L2
theorem len_le_rows : ∀ (ds : List D) (n : Nat), parsBy sgn ds n = true → ds.length ≤ (rows ds).length
  | [], _, _ => Nat.zero_le _
  | d :: r, n, h => by
    rw [parsBy, Bool.and_eq_true] at h
    have h1 := row_pos d n h.1
    have h2 := len_le_rows r n h.2
    rw [rows, List.length_append, List.length_cons]
    omega
theorem pars_get {ds : List D} {n i : Nat} {d : D} (h : parsBy sgn ds n = true) (hd : ds[i]? = some d) : parBy sgn d n = true := by
  rw [parsBy_map] at h
  exact List.all_eq_true.mp h (parBy sgn d n) (List.mem_map.mpr ⟨d, List.mem_of_getElem? hd, rfl⟩)
theorem pars_take : ∀ {ds : List D} {n : Nat} (h : parsBy sgn ds n = true) (i : Nat), parsBy sgn (ds.take i) n = true
  | ds, n, h, 0 => by rw [List.take_zero, parsBy]
  | [], n, h, i + 1 => by rw [List.take_nil, parsBy]
  | d :: r, n, h, i + 1 => by
    rw [parsBy, Bool.and_eq_true] at h
    rw [List.take_succ_cons, parsBy, h.1, pars_take h.2 i]
    rfl
theorem rows_at {ds : List D} {i : Nat} {d : D} (hd : ds[i]? = some d) : rows ds = rows (ds.take i) ++ (row d ++ rows (ds.drop (i + 1))) := by
  have hi : i < ds.length := (List.getElem?_eq_some_iff.mp hd).1
  have e : ds = ds.take i ++ d :: ds.drop (i + 1) := by
    have h1 := List.take_append_drop i ds
    rw [List.drop_eq_getElem_cons hi] at h1
    rw [List.getElem?_eq_getElem hi] at hd
    rw [Option.some.inj hd] at h1
    exact h1.symm
  conv => lhs; rw [e]
  rw [rows_append, rows]
theorem rows_more {ds : List D} {i : Nat} {d : D} (hd : ds[i]? = some d) : (rows (ds.take (i + 1))).length = (rows (ds.take i)).length + (row d).length := by
  rw [List.take_add_one, hd, rows_append, List.length_append]
  show _ + (rows [d]).length = _
  rw [rows_one]
section
variable {P : Program} {w : World} {K : PySem.W.Frag} {mg : Str → Option Value} {base : Heap} {R N Qe : Addr}
theorem Rdr.updL {H : Hp} {p a l : Addr} {bs : List Int} {k : Nat} {xs ys : List V} (D : Rdr R H p a bs k) (hl : H l = some (.lst xs)) : Rdr R (upd H l (.lst ys)) p a bs k := by
  obtain ⟨dx, h⟩ := D.ob
  refine ⟨⟨dx, ?_⟩, ?_⟩
  · rw [upd_ne (ne_of h hl (by intro z; cases z))]
    exact h
  · rw [upd_ne (ne_of D.tp hl (by intro z; cases z))]
    exact D.tp
theorem tups_updL {H : Hp} {l : Addr} {xs ys : List V} (hl : H l = some (.lst xs)) : Tups H (upd H l (.lst ys)) := fun b zs h => by
  rw [upd_ne (ne_of h hl (by intro z; cases z))]
  exact h
abbrev sReadV : Stmt := inClass (topS 33) 4
abbrev sReadP : Stmt := inClass (topS 33) 5
theorem scReadV : FnScope ["self", "left", "many", "found"] ["self", "left"] (defScope sReadV) := ⟨rfl, rfl, rfl, by decide +kernel, rfl, by decide +kernel, by decide +kernel⟩
theorem scReadP : FnScope ["self", "left", "begin", "sort"] ["self", "left"] (defScope sReadP) := ⟨rfl, rfl, rfl, by decide +kernel, rfl, by decide +kernel, by decide +kernel⟩
def spReadV (R : Addr) (n : Nat) : Sp := fun vs H Q _ => ∃ (p a : Addr) (bs : List Int) (k : Nat) (z : Int) (ds : List D) (rest : List Int), vs = [.ref p, .int z] ∧ Rdr R H p a bs k ∧ bs.drop k = whole ds.length ++ (rows ds ++ rest) ∧ parsBy sgn ds z.toNat = true ∧ 0 ≤ z ∧ z.toNat + 1 ≤ n ∧ bs.length ≤ 1000000 ∧
  ∀ v H', But p H H' → Rdr R H' p a bs (k + ((whole ds.length).length + (rows ds).length)) → At H' (.tup ds) v → Q v H'
def spReadP (R : Addr) (n : Nat) : Sp := fun vs H Q _ => ∃ (p a : Addr) (bs : List Int) (k : Nat) (z : Int) (d : D) (rest : List Int), vs = [.ref p, .int z] ∧ Rdr R H p a bs k ∧ bs.drop k = row d ++ rest ∧ parBy sgn d z.toNat = true ∧ 0 ≤ z ∧ z.toNat + 1 ≤ n ∧ bs.length ≤ 1000000 ∧
  ∀ v H', But p H H' → Rdr R H' p a bs (k + (row d).length) → At H' d v → Q v H'
theorem ok_readV {n : Nat} (A : MetAt K R "read_several" "RowReader.read_several" sReadV ["self", "left"]) (b : Bu mg) (T : Cl K mg R N Qe) (CW : Met P w K mg base CX0 1 R "read_whole" ["self"] (spReadW R))
    (CP : Met P w K mg base CX0 (2 * n + 2) R "read_parcel" ["self", "left"] (spReadP R n)) : Met P w K mg base CX0 (2 * n + 2 + 1) R "read_several" ["self", "left"] (spReadV R n) := by
  refine met_of A scReadV (fun vs H Q E h => ?_) (fun f cdv A outer s0 H vs Q E hr h => ?_)
  · obtain ⟨p, a, bs, k, z, ds, rest, rfl, _⟩ := h
    rfl
  obtain ⟨p, a, bs, k, z, ds, rest, rfl, D, hd, hpar, hz, hn, hbs, q⟩ := h
  refine ⟨_, pss_cons (ps_set (i := 2) scReadV.nd rfl (Or.inl rfl) (pe_m0 CW T.cl hr (by omega) pass0 (pv 0)))
    (pss_cons (ps_set (i := 3) scReadV.nd rfl (Or.inl rfl) (pe_lst pa_nil))
    (pss_cons (ps_while PassesOwn.never (pt_cmpR op_lt (pe_callB call_len_seq rfl b.len PySem.boot_len (pa_cons (pv 3) pa_nil)) (pv 2) (nomark _))
      (pss_one (ps_expr (pe_bm PySem.F.plainAttrs_list PySem.F.slot_list_append PySem.F.type_list_append mt_append (pv 3) (pa_cons (pe_m CP T.cl hr (Nat.le_refl _) pass0 (pv 0) (pa_cons (pv 1) pa_nil)) pa_nil)))))
    (pss_one (ps_ret (pe_callTy call_tuple_of rfl b.tup (by decide +kernel) (pa_cons (pv 3) pa_nil)))))), ?_⟩
  obtain ⟨⟨dx, hp⟩, ht⟩ := id D
  refine ⟨_, rfl, p, dx, _, rfl, hp, rd_no _ _ (by decide +kernel) (by decide +kernel), p, a, bs, k, ds.length, rows ds ++ rest, rfl, D, hd, fun H1 s1 D1 => ?_⟩
  have hd1 := drop_more hd
  have hlr := len_le_rows ds _ hpar
  have hrl : (rows ds).length ≤ bs.length := by
    have e : (bs.drop (k + (whole ds.length).length)).length = (rows ds).length + rest.length := by rw [hd1, List.length_append]
    rw [List.length_drop] at e
    omega
  refine ⟨Nat.zero_le _, fun l hl0 => ?_⟩
  have hlH : H l = none := by
    cases e : H l with
    | none => rfl
    | some o =>
      by_cases hlp : l = p
      · subst hlp
        obtain ⟨dy, hy⟩ := D1.ob
        rw [hy] at hl0
        cases hl0
      · rw [s1 l o e hlp] at hl0
        cases hl0
  refine ⟨fun j σ H2 => ∃ (i : Nat) (vs : List V), j = ds.length - i ∧ i ≤ ds.length ∧ σ = [some (.ref p), some (.int z), some (.int (ds.length : Int)), some (.ref l)] ∧ But p H H2 ∧ Rdr R H2 p a bs (k + (whole ds.length).length + (rows (ds.take i)).length) ∧ H2 l = some (.lst vs) ∧ AtL H2 (ds.take i) vs,
    ⟨_, 0, [], rfl, Nat.zero_le _, rfl, s1.trans (But.of (same_new hl0 _)), ?_, upd_same, by rw [List.take_zero]; exact AtL.nil⟩, ?_⟩
  · rw [List.take_zero, rows]
    exact D1.same (same_new hl0 _)
  rintro j σ H2 ⟨i, vs, rfl, hi, rfl, s2, D2, hL, hA⟩
  have hvl := hA.length
  rw [List.length_take, Nat.min_eq_left hi] at hvl
  refine ⟨_, rfl, l, vs, rfl, .inl (SqL.of hL), _, rfl, _, _, rfl, rfl, _, rfl, ?_⟩
  rw [hvl]
  by_cases h1 : i < ds.length
  · rw [decide_eq_true (show (i : Int) < (ds.length : Int) by omega)]
    obtain ⟨d, hdi⟩ : ∃ d, ds[i]? = some d := ⟨_, List.getElem?_eq_getElem h1⟩
    obtain ⟨⟨dx2, hp2⟩, ht2⟩ := id D2
    have hd2 : bs.drop (k + (whole ds.length).length + (rows (ds.take i)).length) = row d ++ (rows (ds.drop (i + 1)) ++ rest) := by
      refine drop_more (x := rows (ds.take i)) ?_
      rw [hd1, rows_at hdi, List.append_assoc, List.append_assoc]
    refine ⟨fun σ' H' => ∃ j', j' < ds.length - i ∧ _, fun _ _ h => h, ?_⟩
    refine ⟨_, rfl, .inl ⟨rfl, _, SqL.of hL⟩, _, rfl, p, dx2, _, rfl, hp2, rd_no _ _ (by decide +kernel) (by decide +kernel), _, rfl, p, a, bs, _, z, d, _, rfl, D2, hd2, pars_get hpar hdi, hz, hn, hbs, fun v H3 s3 D3 hat => ?_⟩
    have hlp : l ≠ p := fun e => by rw [e, hp] at hlH; cases hlH
    have hL3 : H3 l = some (.lst vs) := s3 _ _ hL hlp
    refine ⟨l, vs, v, rfl, rfl, hL3, len_line (by omega), ds.length - (i + 1), by omega, i + 1, vs ++ [v], rfl, h1, rfl, ?_, ?_, upd_same, ?_⟩
    · intro c o e n
      rw [upd_ne (ne_of_none e hlH)]
      exact s3 _ _ (s2 _ _ e n) n
    · rw [rows_more hdi, ← Nat.add_assoc]
      exact D3.updL hL3
    · have t3 := D2.tups s3
      have t4 : Tups H3 (upd H3 l (.lst (vs ++ [v]))) := tups_updL hL3
      rw [List.take_add_one, hdi]
      exact AtL.snoc (AtL.tups (t3.trans t4) _ z.toNat _ (pars_take hpar i) hA) (At.tups t4 _ z.toNat _ (pars_get hpar hdi) hat)
  · rw [decide_eq_false (show ¬ (i : Int) < (ds.length : Int) by omega)]
    have hi' : i = ds.length := by omega
    subst hi'
    rw [List.take_length] at hA D2
    refine ⟨_, rfl, l, vs, rfl, .inl ⟨SqL.of hL, fun t ht0 => ?_⟩⟩
    have s3 := same_new ht0 (.tup vs)
    refine q _ _ (s2.trans (But.of s3)) ?_ (At.tup_mk upd_same (by omega) (AtL.same s3 _ _ hA))
    rw [← Nat.add_assoc]
    exact D2.same s3
theorem ok_readP {n : Nat} (A : MetAt K R "read_parcel" "RowReader.read_parcel" sReadP ["self", "left"]) (b : Bu mg) (kk : Cn mg) (T : Cl K mg R N Qe) (CN : Met P w K mg base CX0 1 R "next_byte" ["self"] (spNext R)) (CW : Met P w K mg base CX0 1 R "read_whole" ["self"] (spReadW R))
    (CS : Met P w K mg base CX0 2 R "read_string" ["self"] (spReadS R)) (CV : Met P w K mg base CX0 (2 * n + 2 + 1) R "read_several" ["self", "left"] (spReadV R n)) : Met P w K mg base CX0 (2 * (n + 1) + 2) R "read_parcel" ["self", "left"] (spReadP R (n + 1)) := by
  refine met_of (k := 2 * n + 2 + 1) A scReadP (fun vs H Q E h => ?_) (fun f cdv A outer s0 H vs Q E hr h => ?_)
  · obtain ⟨p, a, bs, k, z, d, rest, rfl, _⟩ := h
    rfl
  obtain ⟨p, a, bs, k, z, d, rest, rfl, D, hd, hpar, hz, hn, hbs, q⟩ := h
  refine ⟨_, pss_cons (ps_set (i := 2) scReadP.nd rfl (Or.inl rfl) (pe_fld (pv 0) rfl))
    (pss_cons (ps_set (i := 3) scReadP.nd rfl (Or.inl rfl) (pe_m0 CN T.cl hr (by omega) pass0 (pv 0)))
    (pss_cons (ps_if (PW.pt (pw_or (pt_cmpR op_gt (pv 3) (pe_k kk.several rfl) (nomark _)) (pw_or1 (PW.pt (pw_and (pt_cmpR op_eq (pv 3) (pe_k kk.several rfl) (nomark _)) (pw_and1 (pt_cmpR op_eq (pv 1) pe_int (nomark _)))))))) pss_never pss_nil)
    (pss_cons (ps_if (pt_cmpR op_eq (pv 3) (pe_k kk.nothing rfl) (nomark _)) (pss_one (ps_ret pe_non)) pss_nil)
    (pss_cons (ps_if (pt_cmpR op_in_seq (pv 3) (pe_tup (pa_cons (pe_k kk.no rfl) (pa_cons (pe_k kk.yes rfl) pa_nil))) (by rfl)) (pss_one (ps_ret (pe_cmpR op_eq (pv 3) (pe_k kk.yes rfl) (nomark _)))) pss_nil)
    (pss_cons (ps_if (pt_cmpR op_eq (pv 3) (pe_k kk.string rfl) (nomark _)) (pss_one (ps_ret (pe_m0 CS T.cl hr (by omega) pass0 (pv 0)))) pss_nil)
    (pss_cons (ps_if (pt_cmpR op_eq (pv 3) (pe_k kk.several rfl) (nomark _)) (pss_one (ps_ret (pe_m CV T.cl hr (Nat.le_refl _) pass0 (pv 0) (pa_cons (pe_op op_sub (pv 1) pe_int) pa_nil)))) pss_nil)
    (pss_one (ps_ret (pe_ifExp (pt_cmpR op_eq (pv 3) (pe_k kk.number rfl) (nomark _)) (pe_m0 CW T.cl hr (by omega) pass0 (pv 0)) (pe_op op_sub (pe_un un_neg pe_int) (pe_m0 CW T.cl hr (by omega) pass0 (pv 0)))))))))))), ?_⟩
  obtain ⟨⟨dx, hp⟩, ht⟩ := id D
  obtain ⟨c, r, hrow⟩ : ∃ c r, row d = c :: r := by
    cases e : row d with
    | nil => have := row_pos d _ hpar; rw [e] at this; cases this
    | cons c r => exact ⟨c, r, rfl⟩
  rw [hrow] at hd q
  obtain ⟨g1, g2, g3⟩ := drop_head (show bs.drop k = c :: (r ++ rest) from hd)
  rw [List.length_cons] at q
  refine ⟨_, rfl, p, R, dx, _, _, rfl, hp, T.cl, T.nAt, rd_at _ _, ?_⟩
  refine ⟨_, rfl, p, dx, _, rfl, hp, rd_no _ _ (by decide +kernel) (by decide +kernel), p, a, bs, k, c, rfl, D, g1, fun H1 s1 D1 => ?_⟩
  obtain ⟨⟨dx1, hp1⟩, ht1⟩ := id D1
  refine ⟨_, rfl, _, _, rfl, rfl, _, rfl, ?_⟩
  have z2 : (2 : Nat) ≤ sizeLine := Nat.le_of_lt (len_line (by decide))
  cases d with
  | non =>
    rw [row] at hrow
    injection hrow with e1 e2
    subst e1 e2
    exact ⟨_, rfl, rfl, _, rfl, _, rfl, rfl, _, rfl, q .non H1 s1 D1 (by rw [At])⟩
  | bl c =>
    rw [row] at hrow
    cases c with
    | true =>
      injection hrow with e1 e2
      subst e1 e2
      refine ⟨_, rfl, rfl, _, rfl, _, rfl, rfl, _, rfl, _, rfl, z2, fun t ht0 => ⟨t, _, rfl, .inr (SqT.of upd_same), rfl, rfl, _, rfl, _, rfl, rfl, ?_⟩⟩
      have s2 := same_new ht0 (.tup [.int 1, .int 2])
      exact q (.bl true) _ (s1.trans (But.of s2)) (D1.same s2) (by rw [At])
    | false =>
      injection hrow with e1 e2
      subst e1 e2
      refine ⟨_, rfl, rfl, _, rfl, _, rfl, rfl, _, rfl, _, rfl, z2, fun t ht0 => ⟨t, _, rfl, .inr (SqT.of upd_same), rfl, rfl, _, rfl, _, rfl, rfl, ?_⟩⟩
      have s2 := same_new ht0 (.tup [.int 1, .int 2])
      exact q (.bl false) _ (s1.trans (But.of s2)) (D1.same s2) (by rw [At])
  | int i =>
    rw [row] at hrow
    by_cases h1 : 0 ≤ i
    · rw [if_pos h1] at hrow
      injection hrow with e1 e2
      subst e1 e2
      refine ⟨_, rfl, rfl, _, rfl, _, rfl, rfl, _, rfl, _, rfl, z2, fun t ht0 => ⟨t, _, rfl, .inr (SqT.of upd_same), rfl, rfl, _, rfl, _, rfl, rfl, _, rfl, _, rfl, rfl, _, rfl, _, rfl, rfl, _, rfl, ?_⟩⟩
      have s2 := same_new ht0 (.tup [.int 1, .int 2])
      refine ⟨_, rfl, p, dx1, _, rfl, s2 _ _ hp1, rd_no _ _ (by decide +kernel) (by decide +kernel), p, a, bs, k + 1, i.toNat, rest, rfl, D1.same s2, g2, fun H2 s3 D2 => ?_⟩
      refine q _ H2 ((s1.trans (But.of s2)).trans s3) (by rw [show k + ((whole i.toNat).length + 1) = k + 1 + (whole i.toNat).length by omega]; exact D2) ?_
      rw [At, Int.toNat_of_nonneg h1]
    · rw [if_neg h1] at hrow
      injection hrow with e1 e2
      subst e1 e2
      refine ⟨_, rfl, rfl, _, rfl, _, rfl, rfl, _, rfl, _, rfl, z2, fun t ht0 => ⟨t, _, rfl, .inr (SqT.of upd_same), rfl, rfl, _, rfl, _, rfl, rfl, _, rfl, _, rfl, rfl, _, rfl, _, rfl, rfl, _, rfl, ?_⟩⟩
      have s2 := same_new ht0 (.tup [.int 1, .int 2])
      refine ⟨_, rfl, _, rfl, p, dx1, _, rfl, s2 _ _ hp1, rd_no _ _ (by decide +kernel) (by decide +kernel), p, a, bs, k + 1, (-1 - i).toNat, rest, rfl, D1.same s2, g2, fun H2 s3 D2 => ⟨_, _, rfl, rfl, ?_⟩⟩
      refine q _ H2 ((s1.trans (But.of s2)).trans s3) (by rw [show k + ((whole (-1 - i).toNat).length + 1) = k + 1 + (whole (-1 - i).toNat).length by omega]; exact D2) ?_
      rw [At]
      show V.int (-1 - (((-1 - i).toNat : Nat) : Int)) = V.int i
      rw [show (-1 : Int) - (((-1 - i).toNat : Nat) : Int) = i by omega]
  | str s =>
    rw [row] at hrow
    injection hrow with e1 e2
    subst e1 e2
    rw [parBy] at hpar
    have hsh := hpar
    unfold shortBy at hsh
    simp only [Bool.and_eq_true, decide_eq_true_eq] at hsh
    refine ⟨_, rfl, rfl, _, rfl, _, rfl, rfl, _, rfl, _, rfl, z2, fun t ht0 => ⟨t, _, rfl, .inr (SqT.of upd_same), rfl, rfl, _, rfl, _, rfl, rfl, _, rfl, ?_⟩⟩
    have s2 := same_new ht0 (.tup [.int 1, .int 2])
    refine ⟨_, rfl, p, dx1, _, rfl, s2 _ _ hp1, rd_no _ _ (by decide +kernel) (by decide +kernel), p, a, bs, k + 1, s, rest, rfl, D1.same s2, by rw [g2, List.append_assoc], hpar, fun H2 s3 D2 => ?_⟩
    rw [List.length_append, codes_len] at q
    refine q _ H2 ((s1.trans (But.of s2)).trans s3) (by rw [show k + ((whole s.length).length + s.length + 1) = k + 1 + ((whole s.length).length + s.length) by omega]; exact D2) ?_
    rw [At]
    exact ⟨rfl, by omega⟩
  | tup ds =>
    rw [row] at hrow
    injection hrow with e1 e2
    subst e1 e2
    rw [parBy_tup, Bool.and_eq_true, decide_eq_true_eq, ← parsBy_map] at hpar
    obtain ⟨hz1, hpar⟩ := hpar
    refine ⟨_, rfl, rfl, _, rfl, _, rfl, rfl, _, rfl, ?_⟩
    rw [dec_int, beq_eq_false_iff_ne.mpr (show z ≠ 0 by omega)]
    refine ⟨_, rfl, rfl, _, rfl, _, rfl, z2, fun t ht0 => ⟨t, _, rfl, .inr (SqT.of upd_same), rfl, rfl, _, rfl, _, rfl, rfl, _, rfl, _, rfl, rfl, _, rfl, ?_⟩⟩
    have s2 := same_new ht0 (.tup [.int 1, .int 2])
    refine ⟨_, rfl, p, dx1, _, rfl, s2 _ _ hp1, rd_no _ _ (by decide +kernel) (by decide +kernel), _, rfl, _, _, rfl, rfl, p, a, bs, k + 1, z - 1, ds, rest, rfl, D1.same s2, by rw [g2, List.append_assoc], by rw [show (z - 1).toNat = z.toNat - 1 by omega]; exact hpar, by omega, by omega, hbs, fun v H2 s3 D2 hat => ?_⟩
    rw [List.length_append] at q
    exact q v H2 ((s1.trans (But.of s2)).trans s3) (by rw [show k + ((whole ds.length).length + (rows ds).length + 1) = k + 1 + ((whole ds.length).length + (rows ds).length) by omega]; exact D2) hat
  | odd => rw [parBy] at hpar; cases hpar
theorem all_readP (AV : MetAt K R "read_several" "RowReader.read_several" sReadV ["self", "left"]) (AP : MetAt K R "read_parcel" "RowReader.read_parcel" sReadP ["self", "left"]) (b : Bu mg) (kk : Cn mg) (T : Cl K mg R N Qe)
    (CN : Met P w K mg base CX0 1 R "next_byte" ["self"] (spNext R)) (CW : Met P w K mg base CX0 1 R "read_whole" ["self"] (spReadW R)) (CS : Met P w K mg base CX0 2 R "read_string" ["self"] (spReadS R)) :
    ∀ n : Nat, Met P w K mg base CX0 (2 * n + 2) R "read_parcel" ["self", "left"] (spReadP R n)
  | 0 => met_none AP _ fun vs H Q E h => by
    obtain ⟨_, _, _, _, _, _, _, _, _, _, _, _, hn, _⟩ := h
    omega
  | n + 1 => ok_readP AP b kk T CN CW CS (ok_readV AV b T CW (all_readP AV AP b kk T CN CW CS n))
/-! ### is_row, check_row -/
abbrev sIsRow : Stmt := topS 24
theorem scIsRow : FnScope ["thing", "byte"] ["thing"] (defScope sIsRow) := ⟨rfl, rfl, rfl, by decide +kernel, rfl, by decide +kernel, by decide +kernel⟩
def spIsRow : Sp := fun vs H Q _ => ∃ (a : Addr) (bs : List Int), vs = [.ref a] ∧ H a = some (.tup (iv bs)) ∧ bs.length ≤ 1000000 ∧ (∀ c ∈ bs, 0 ≤ c ∧ c < 256) ∧ ∀ H', Same H H' → Q (.bl true) H'
theorem ok_isRow (A : DefAt K mg "is_row" sIsRow ["thing"]) (b : Bu mg) (kk : Cn mg) : Cal P w K mg base CX0 1 "is_row" ["thing"] spIsRow := by
  refine cal_of A scIsRow (fun vs H Q E h => ?_) (fun f cdv A outer s H vs Q E hr h => ?_)
  · obtain ⟨a, bs, rfl, _⟩ := h
    rfl
  obtain ⟨a, bs, rfl, ha, hl, hb, q⟩ := h
  refine ⟨_, pss_cons (ps_if (pt_not (pt_val (pe_isi "tuple" (pv 0) rfl b.isi rfl b.tup (by decide +kernel)))) (pss_one (ps_ret pe_bl)) pss_nil)
    (pss_one (ps_ret (pe_callB (cr_all rfl) rfl b.all (by decide +kernel) (pa_cons (pe_lc (own := [("byte", 1)]) (g := gName 1) (tt := tYes) (te := tAndV (tIsi K "int" (tVar 1)) (tAndV (tNotV (tIsi K "bool" (tVar 1))) (tChain (rI0 fun i j => .bl (decide (i ≤ j))) (rI0 fun i j => .bl (decide (i < j))) (tC (.int 0)) (tVar 1) (tC (.int 256))))) rfl scIsRow.nd (pi_tup (pv 0))
      (blkOk_by (N := ["thing", "byte"]) (sc := defScope sIsRow) (by decide +kernel)) (fun _ _ _ _ _ => pg_name (i := 1) scIsRow.nd rfl (Or.inl rfl)) (fun _ _ _ _ _ => pts_nil)
      (fun _ _ _ _ _ => by exact (pe_and (pe_isi "int" (pv 1) rfl b.isi rfl b.int (by decide +kernel)) (pe_and (pe_not (pe_isi "bool" (pv 1) rfl b.isi rfl b.bool (by decide +kernel))) (pe_one (pe_chain op_le op_lt pe_int (pv 1) (pe_k kk.bytes rfl))))))) pa_nil)))), ?_⟩
  refine ⟨_, rfl, rfl, _, _, .base (.tup ha), (show kitB "tuple" "tuple" = some true from by decide +kernel), _, rfl, ?_⟩
  refine ⟨_, rfl, a, rfl, ⟨_, SqT.of ha⟩, fun D hD => ?_⟩
  refine lc_one (zs := List.replicate bs.length (.bl true)) (walk_tup (K := K) (a := a) (xs := iv bs)) (by rw [List.length_replicate, List.length_map]) (by rw [List.length_map]; exact hl) hD (fun H2 s2 => SqT.of (s2 _ _ ha)) (fun m H x H' y => by rw [y.1]; exact Same.refl _) (fun m x H2 H3 z k hz s2 y kx => ?_) (fun H2 s2 e2 => ?_)
  · obtain ⟨rfl, hx⟩ := y
    obtain ⟨c, hc, rfl⟩ : ∃ c, bs[m]? = some c ∧ x = V.int c := by
      unfold iv at hx
      rw [List.getElem?_map] at hx
      cases e : bs[m]? with
      | none => rw [e] at hx; cases hx
      | some c => rw [e] at hx; exact ⟨c, rfl, (Option.some.inj hx).symm⟩
    have hz' : z = .bl true := by
      rw [List.getElem?_replicate] at hz
      split at hz
      · exact (Option.some.inj hz).symm
      · cases hz
    subst hz'
    obtain ⟨c1, c2⟩ := hb c (List.mem_of_getElem? hc)
    refine ⟨_, rfl, rfl, _, _, .base (.int c), (show kitB "int" "int" = some true from by decide +kernel), _, rfl, ?_⟩
    refine ⟨_, rfl, rfl, _, _, .base (.int c), (show kitB "int" "bool" = some false from by decide +kernel), _, rfl, _, rfl, ?_⟩
    refine ⟨_, rfl, _, _, rfl, rfl, _, rfl, ?_⟩
    rw [decide_eq_true c1]
    refine ⟨_, _, rfl, rfl, ?_⟩
    show k (.bl (decide (c < 256))) H3
    rw [decide_eq_true c2]
    exact kx _ (Same.refl _)
  · refine ⟨D, List.replicate bs.length true, rfl, SqL.of (by rw [e2, List.map_replicate]), ?_⟩
    rw [all_true]
    exact q H2 s2
abbrev sCheckRow : Stmt := topS 25
theorem scCheckRow : FnScope ["thing"] ["thing"] (defScope sCheckRow) := ⟨rfl, rfl, rfl, by decide +kernel, rfl, by decide +kernel, by decide +kernel⟩
def spCheckRow : Sp := fun vs H Q _ => ∃ (a : Addr) (bs : List Int), vs = [.ref a] ∧ H a = some (.tup (iv bs)) ∧ bs.length ≤ 1000000 ∧ (∀ c ∈ bs, 0 ≤ c ∧ c < 256) ∧ ∀ H', Same H H' → Q .non H'
theorem ok_checkRow (A : DefAt K mg "check_row" sCheckRow ["thing"]) (C : Cal P w K mg base CX0 1 "is_row" ["thing"] spIsRow) : Cal P w K mg base CX0 2 "check_row" ["thing"] spCheckRow := by
  refine cal_of A scCheckRow (fun vs H Q E h => ?_) (fun f cdv A outer s H vs Q E hr h => ?_)
  · obtain ⟨a, bs, rfl, _⟩ := h
    rfl
  obtain ⟨a, bs, rfl, ha, hl, hb, q⟩ := h
  refine ⟨_, pss_one (ps_if (pt_not (pt_val (pe_c C hr (Nat.le_refl _) rfl pass0 (pa_cons (pv 0) pa_nil)))) pss_never pss_nil), ?_⟩
  exact ⟨_, rfl, a, bs, rfl, ha, hl, hb, fun H1 s1 => ⟨_, rfl, q H1 s1⟩⟩
/-! ### parcel_of -/
abbrev sParcelOf : Stmt := topS 34
theorem scParcelOf : FnScope ["row", "reader", "found"] ["row"] (defScope sParcelOf) := ⟨rfl, rfl, rfl, by decide +kernel, rfl, by decide +kernel, by decide +kernel⟩
def spParcelOf : Sp := fun vs H Q _ => ∃ (a : Addr) (d : D), vs = [.ref a] ∧ H a = some (.tup (iv (row d))) ∧ (row d).length ≤ 1000000 ∧ parBy sgn d 20 = true ∧ ∀ v H', Same H H' → At H' d v → Q v H'
theorem ok_parcelOf (A : DefAt K mg "parcel_of" sParcelOf ["row"]) (b : Bu mg) (kk : Cn mg) (T : Cl K mg R N Qe) (CC : Cal P w K mg base CX0 2 "check_row" ["thing"] spCheckRow) (CP : Met P w K mg base CX0 44 R "read_parcel" ["self", "left"] (spReadP R 21)) :
    Cal P w K mg base CX0 45 "parcel_of" ["row"] spParcelOf := by
  obtain ⟨fI, fdI, FI, MI, bI⟩ := T.retr
  have GI : FnOk P w K mg base CX0 1 fI fdI ["self", "row"] (spInit R) := ok_init FI T
  refine cal_of A scParcelOf (fun vs H Q E h => ?_) (fun f cdv A outer s H vs Q E hr h => ?_)
  · obtain ⟨a, d, rfl, _⟩ := h
    rfl
  obtain ⟨a, d, rfl, ha, hl, hp, q⟩ := h
  refine ⟨_, pss_cons (ps_expr (pe_c CC hr (by decide) rfl pass0 (pa_cons (pv 0) pa_nil)))
    (pss_cons (ps_set (i := 1) scParcelOf.nd rfl (Or.inl rfl) (pe_make MI GI (hr.mono (by decide)) rfl T.gR bI .nil pass0 (pa_cons (pv 0) pa_nil)))
    (pss_cons (ps_set (i := 2) scParcelOf.nd rfl (Or.inl rfl) (pe_m CP T.cl hr (Nat.le_refl _) pass0 (pv 1) (pa_cons (pe_k kk.deep rfl) pa_nil)))
    (pss_cons (ps_if (pt_cmpR op_lt (pe_fld (pv 1) rfl) (pe_callB call_len_seq rfl b.len PySem.boot_len (pa_cons (pv 0) pa_nil)) (nomark _)) pss_never pss_nil)
    (pss_one (ps_ret (pv 2)))))), ?_⟩
  refine ⟨_, rfl, a, row d, rfl, ha, hl, row_range d 20 hp, fun H1 s1 => ?_⟩
  refine ⟨_, rfl, fun x dx nx ndx nex => ?_⟩
  have s2 : Same H1 (upd (upd H1 dx (.own x)) x (.ins R dx [])) := fun c o e => by
    rw [upd_ne (ne_of_none e nx), upd_ne (ne_of_none e ndx)]
    exact e
  refine ⟨x, a, dx, rfl, upd_same, fun H2 s3 hx2 => ⟨rfl, ?_⟩⟩
  have s4 : Same H1 H2 := fun c o e => s3 _ _ (s2 _ _ e) (ne_of_none e nx)
  have D2 : Rdr R H2 x a (row d) 0 := ⟨⟨dx, hx2⟩, s4 _ _ (s1 _ _ ha)⟩
  refine ⟨_, rfl, x, dx, _, rfl, hx2, rd_no _ _ (by decide +kernel) (by decide +kernel), x, a, row d, 0, 20, d, [], rfl, D2, by rw [List.drop_zero, List.append_nil], hp, by decide, by decide, hl, fun v H3 s5 D3 hat => ?_⟩
  obtain ⟨⟨dy, hy⟩, ht3⟩ := id D3
  refine ⟨_, rfl, x, R, dy, _, _, rfl, hy, T.cl, T.nAt, rd_at _ _, _, rfl, a, _, rfl, .inr (SqT.of ht3), _, _, rfl, rfl, _, rfl, ?_⟩
  rw [List.length_map, decide_eq_false (show ¬ ((0 + (row d).length : Nat) : Int) < ((row d).length : Int) by omega)]
  refine ⟨_, rfl, q v H3 (fun c o e => ?_) hat⟩
  have e1 := s1 _ _ e
  exact s5 _ _ (s4 _ _ e1) (ne_of_none e1 nx)
end
end KQ
namespace KQ
open PySem PySem.Spec PyProof.Rows L2
theorem cutV_iv (ns : List Int) (lo hi : Option Int) : ∃ ms : List Int, cutV (iv ns) lo hi = iv ms ∧ ms.length ≤ ns.length := by
  refine ⟨(ns.drop (HT.sIx (iv ns).length 0 lo)).take (HT.sIx (iv ns).length (iv ns).length hi - HT.sIx (iv ns).length 0 lo), ?_, ?_⟩
  · unfold cutV iv
    rw [List.map_take, List.map_drop]
  · rw [List.length_take, List.length_drop]
    omega
theorem iv_get {ns : List Int} {i : Nat} {x : V} (h : (iv ns)[i]? = some x) : ∃ z, ns[i]? = some z ∧ x = V.int z := by
  unfold iv at h
  rw [List.getElem?_map] at h
  cases e : ns[i]? with
  | none => rw [e] at h; cases h
  | some z => rw [e] at h; exact ⟨z, rfl, (Option.some.inj h).symm⟩
/-- the law's pool stands at p, its cells at c -/
structure Pool (H : Hp) (p c : Addr) : Prop where
  po : ∃ s n : Int, H p = some (.lst [.int s, .int n, .ref c])
  ce : ∃ cs : List Int, H c = some (.lst (iv cs)) ∧ cs.length ≤ 63
  ne : c ≠ p
/-- all but what stands at p and c stands -/
def Bt (p c : Addr) (H H' : Hp) : Prop := ∀ b o, H b = some o → b ≠ p → b ≠ c → H' b = some o
theorem Bt.refl (p c : Addr) (H : Hp) : Bt p c H H := fun _ _ h _ _ => h
theorem Bt.trans {p c : Addr} {H H1 H2 : Hp} (a : Bt p c H H1) (b : Bt p c H1 H2) : Bt p c H H2 := fun d o h n m => b d o (a d o h n m) n m
theorem Bt.of {p c : Addr} {H H' : Hp} (s : Same H H') : Bt p c H H' := fun b o h _ _ => s b o h
theorem Bt.upd1 {p c : Addr} {H : Hp} {o : HO} : Bt p c H (upd H p o) := fun b u h n _ => by rw [upd_ne n]; exact h
theorem Bt.upd2 {p c : Addr} {H : Hp} {o : HO} : Bt p c H (upd H c o) := fun b u h _ n => by rw [upd_ne n]; exact h
theorem Pool.same {H H' : Hp} {p c : Addr} (P : Pool H p c) (s : Same H H') : Pool H' p c := by
  obtain ⟨⟨a, n, h⟩, ⟨cs, h2, l⟩, ne⟩ := P
  exact ⟨⟨a, n, s _ _ h⟩, ⟨cs, s _ _ h2, l⟩, ne⟩
section
variable {P : Program} {w : World} {K : PySem.W.Frag} {mg : Str → Option Value} {base : Heap} {R N Qe : Addr}
abbrev sPoolL : Stmt := topS 39
theorem scPoolL : FnScope ["_law_script", "_law_seed", "_law_cell"] ["_law_script"] (defScope sPoolL) := ⟨rfl, rfl, rfl, by decide +kernel, rfl, by decide +kernel, by decide +kernel⟩
def spPoolL (K : PySem.W.Frag) : Sp := fun vs H Q _ => ∃ (a : Addr) (ns : List Int), vs = [.ref a] ∧ SqL K H a (iv ns) ∧ ns.length ≤ 63 ∧ ∀ p c H', Pool H' p c → Q (.ref p) H'
theorem ok_poolL (A : DefAt K mg "_law_pool" sPoolL ["_law_script"]) (b : Bu mg) : Cal P w K mg base CX0 1 "_law_pool" ["_law_script"] (spPoolL K) := by
  refine cal_of A scPoolL (fun vs H Q E h => ?_) (fun f cdv A outer s H vs Q E hr h => ?_)
  · obtain ⟨a, ns, rfl, _⟩ := h
    rfl
  obtain ⟨a, ns, rfl, ha, hl, q⟩ := h
  refine ⟨_, pss_cons (ps_set (i := 1) scPoolL.nd rfl (Or.inl rfl) (pe_op op_add (pe_op op_add (pe_op op_mod (pe_callTy call_int1 rfl b.int (by decide +kernel) (pa_cons (pe_callB (cr_sum rfl) rfl b.sum (by decide +kernel) (pa_cons (pe_slice sl_list (pv 0) po_none (po_some pe_int)) pa_nil)) pa_nil)) pe_int)
      (pe_callB call_len_seq rfl b.len PySem.boot_len (pa_cons (pv 0) pa_nil))) pe_int))
    (pss_cons (ps_for PassesOwn.never rfl (pi_list (pe_slice sl_list (pv 0) po_none (po_some pe_int))) (pg_name (i := 2) scPoolL.nd rfl (Or.inl rfl))
      (pss_one (ps_set (i := 1) scPoolL.nd rfl (Or.inl rfl) (pe_op op_mod (pe_callTy call_int1 rfl b.int (by decide +kernel) (pa_cons (pe_op op_add (pe_op op_add (pe_op op_mul (pv 1) pe_int) (pe_op op_mod (pe_callTy call_int1 rfl b.int (by decide +kernel) (pa_cons (pv 2) pa_nil)) pe_int)) pe_int) pa_nil)) pe_int))))
    (pss_one (ps_ret (pe_lst (pa_cons (pv 1) (pa_cons pe_int (pa_cons (pe_lc (own := [("_law_cell", 2)]) (g := gName 2) (tt := (tTest (tOp (rI0 fun i j => .bl (decide (j ≤ i))) (tCB (fun xs H Q => ∃ i, xs = [V.int i] ∧ Q (.int (if i < 0 then -i else i)) H) (tCons (tVar 2) tNil)) (tOp (rI CPow fun i j => .int (i ^ j.toNat)) (tC (.int 10)) (tC (.int 18)))))) rfl scPoolL.nd
        (pi_list (pe_slice sl_list (pv 0) po_none (po_some pe_int)))
        (blkOk_by (N := ["_law_script", "_law_seed", "_law_cell"]) (sc := defScope sPoolL) (by decide +kernel)) (fun _ _ _ _ _ => pg_name (i := 2) scPoolL.nd rfl (Or.inl rfl))
        (fun _ _ _ _ _ => by exact (pts_one (pt_cmpR op_ge (pe_callB call_abs rfl b.abs (by decide +kernel) (pa_cons (pv 2) pa_nil)) (pe_op op_pow pe_int pe_int) (nomark _))))
        (fun _ _ _ _ _ => pe_callB call_abs rfl b.abs (by decide +kernel) (pa_cons (pv 2) pa_nil))) pa_nil))))))), ?_⟩
  obtain ⟨m1, e1, l1⟩ := cutV_iv ns none (some 1)
  obtain ⟨m2, e2, l2⟩ := cutV_iv ns none (some 63)
  refine ⟨_, rfl, _, rfl, a, _, rfl, ha, fun l hl0 => ?_⟩
  rw [e1]
  have s1 : Same H (upd H l (.lst (iv m1))) := same_new hl0 _
  refine ⟨l, m1, rfl, SqL.of upd_same, .inl ⟨_, rfl, _, _, rfl, rfl, (by show (0 : Int) < 1000003; decide), ?_⟩⟩
  refine ⟨_, rfl, a, _, rfl, .inl (s1.seq ha), _, _, rfl, rfl, _, _, rfl, rfl, ?_⟩
  refine ⟨_, rfl, _, rfl, a, _, rfl, s1.seq ha, fun l2 hl2 => ?_⟩
  rw [e2]
  have s2 := same_new hl2 (.lst (iv m2))
  refine ⟨l2, rfl, ⟨_, SqL.of upd_same⟩, ?_⟩
  refine for_list (K := K) (a := l2) (xs := iv m2) (fun i σ H2 => ∃ (z : Int) (v : Option V), σ = [some (.ref a), some (.int z), v] ∧ Same (upd (upd H l (.lst (iv m1))) l2 (.lst (iv m2))) H2)
    ⟨_, none, rfl, Same.refl _⟩ (fun i σ H2 _ ⟨_, _, _, s3⟩ => SqL.of (s3 _ _ upd_same)) ?_ ?_
  · rintro i x σ H2 hx ⟨z, v, rfl, s3⟩
    obtain ⟨y, hy, rfl⟩ := iv_get hx
    refine ⟨_, rfl, _, _, rfl, rfl, .inr ⟨by decide, by decide⟩, ?_⟩
    refine ⟨_, rfl, .inl ⟨_, rfl, _, _, rfl, rfl, (by show (0 : Int) < 2147483629; decide), _, _, rfl, rfl, _, _, rfl, rfl, .inl ⟨_, rfl, _, _, rfl, rfl, (by show (0 : Int) < 2147483647; decide), ?_⟩⟩⟩
    exact ⟨_, _, rfl, s3⟩
  · rintro σ H2 ⟨z, v, rfl, s3⟩
    have s4 : Same H H2 := (s1.trans s2).trans s3
    refine ⟨_, rfl, _, rfl, _, rfl, a, _, rfl, s4.seq ha, fun l3 hl3 => ?_⟩
    rw [e2]
    refine ⟨l3, rfl, ⟨_, SqL.of upd_same⟩, fun D hD => ?_⟩
    have nl : l3 ≠ D := ne_of_none upd_same hD
    refine lc_list (K := K) (a := l3) (xs := iv m2) (fun i H3 => ∃ cs : List Int, cs.length ≤ i ∧ H3 l3 = some (.lst (iv m2)) ∧ H3 D = some (.lst (iv cs)))
      ⟨[], Nat.le_refl _, by rw [upd_ne nl]; exact upd_same, upd_same⟩ (fun i H3 _ ⟨_, _, h, _⟩ => SqL.of h) ?_ ?_
    · rintro i x H3 hx ⟨cs, hc, h3, hD3⟩
      obtain ⟨y, hy, rfl⟩ := iv_get hx
      have hi : i < (iv m2).length := (List.getElem?_eq_some_iff.mp hx).1
      rw [List.length_map] at hi
      refine ⟨set_wipe _ 2 _, ?_⟩
      refine ⟨_, rfl, _, rfl, _, _, rfl, rfl, ⟨by decide, by decide, by decide⟩, _, _, rfl, rfl, _, rfl, ?_⟩
      refine ite2 (fun _ => ?_) (fun _ => ⟨cs, by omega, h3, hD3⟩)
      refine ⟨_, rfl, _, rfl, _, hD3, len_line (by rw [List.length_map]; omega), cs ++ [if y < 0 then -y else y], by rw [List.length_append, List.length_singleton]; omega, by rw [upd_ne nl]; exact h3, ?_⟩
      rw [upd_same]
      unfold iv
      rw [List.map_append]
      rfl
    · rintro H3 ⟨cs, hc, h3, hD3⟩
      rw [List.length_map] at hc
      refine ⟨Nat.le_of_lt (len_line (by show 3 ≤ 2000000; decide)), fun p hp => ?_⟩
      have nDp : D ≠ p := ne_of_none hD3 hp
      exact q p D _ ⟨⟨z, 0, upd_same⟩, ⟨cs, by rw [upd_ne nDp]; exact hD3, by omega⟩, nDp⟩
end
end KQ
namespace KQ
open PySem PySem.Spec PyProof.Rows L2
theorem ixN_0 {n : Nat} (h : 0 < n) : ixN n 0 = some 0 := by
  unfold ixN
  rw [if_pos (by decide), if_pos (by omega)]
  rfl
theorem seqIx_0 {n : Nat} (h : 0 < n) : seqIndex? 0 n = some 0 := by
  have := (ixN_seq (ixN_0 h)).1
  exact this
section
variable {P : Program} {w : World} {K : PySem.W.Frag} {mg : Str → Option Value} {base : Heap} {R N Qe : Addr}
abbrev sDrawL : Stmt := topS 40
theorem scDrawL : FnScope ["_law_pool_here", "_law_many", "_law_cells", "_law_digit", "_law_mixed"] ["_law_pool_here", "_law_many"] (defScope sDrawL) := ⟨rfl, rfl, rfl, by decide +kernel, rfl, by decide +kernel, by decide +kernel⟩
def spDrawL : Sp := fun vs H Q _ => ∃ (p c : Addr) (m : Int), vs = [.ref p, .int m] ∧ Pool H p c ∧ 0 < m ∧ m ≤ 1000 ∧ ∀ (z : Int) H', 0 ≤ z → z < m → Bt p c H H' → Pool H' p c → Q (.int z) H'
theorem ok_drawL (A : DefAt K mg "_law_draw" sDrawL ["_law_pool_here", "_law_many"]) (b : Bu mg) : Cal P w K mg base CX0 1 "_law_draw" ["_law_pool_here", "_law_many"] spDrawL := by
  refine cal_of A scDrawL (fun vs H Q E h => ?_) (fun f cdv A outer s H vs Q E hr h => ?_)
  · obtain ⟨p, c, m, rfl, _⟩ := h
    rfl
  obtain ⟨p, c, m, rfl, PP, m0, m1, q⟩ := h
  refine ⟨_, pss_cons (ps_asg (pe_op op_add (pe_ix ix_list (pv 0) pe_int (fun _ _ => rfl)) pe_int) (pg_sub (pv 0) pe_int set_list))
    (pss_cons (ps_set (i := 2) scDrawL.nd rfl (Or.inl rfl) (pe_ix ix_list (pv 0) pe_int (fun _ _ => rfl)))
    (pss_cons (ps_if (pt_cmpR op_gt (pe_callB call_len_seq rfl b.len PySem.boot_len (pa_cons (pv 2) pa_nil)) pe_int (nomark _))
      (pss_cons (ps_set (i := 3) scDrawL.nd rfl (Or.inl rfl) (pe_op op_mod (pe_callTy call_int1 rfl b.int (by decide +kernel) (pa_cons (pe_ix ix_list (pv 2) pe_int (fun _ _ => rfl)) pa_nil)) (pv 1)))
      (pss_cons (ps_asg (pe_op op_fdiv (pe_callTy call_int1 rfl b.int (by decide +kernel) (pa_cons (pe_ix ix_list (pv 2) pe_int (fun _ _ => rfl)) pa_nil)) (pv 1)) (pg_sub (pv 2) pe_int set_list))
      (pss_cons (ps_if (pt_cmpR op_eq (pe_ix ix_list (pv 2) pe_int (fun _ _ => rfl)) pe_int (nomark _)) (pss_one (ps_expr (pe_bm PySem.F.plainAttrs_list PySem.F.slot_list_pop PySem.F.type_list_pop mt_popAt (pv 2) (pa_cons pe_int pa_nil)))) pss_nil)
      (pss_one (ps_ret (pv 3)))))) pss_nil)
    (pss_cons (ps_set (i := 4) scDrawL.nd rfl (Or.inl rfl) (pe_op op_mod (pe_callTy call_int1 rfl b.int (by decide +kernel) (pa_cons (pe_op op_mul (pe_op op_add (pe_ix ix_list (pv 0) pe_int (fun _ _ => rfl)) (pe_op op_mul pe_int (pe_ix ix_list (pv 0) pe_int (fun _ _ => rfl)))) pe_int) pa_nil)) pe_int))
    (pss_cons (ps_set (i := 4) scDrawL.nd rfl (Or.inl rfl) (pe_op op_mod (pe_callTy call_int1 rfl b.int (by decide +kernel) (pa_cons (pe_op op_mul (pv 4) (pe_op op_add (pe_op op_fdiv (pv 4) pe_int) pe_int)) pa_nil)) pe_int))
    (pss_cons (ps_set (i := 4) scDrawL.nd rfl (Or.inl rfl) (pe_op op_mod (pe_callTy call_int1 rfl b.int (by decide +kernel) (pa_cons (pe_op op_mul (pv 4) (pe_op op_add (pe_op op_fdiv (pv 4) pe_int) pe_int)) pa_nil)) pe_int))
    (pss_one (ps_ret (pe_op op_mod (pe_callTy call_int1 rfl b.int (by decide +kernel) (pa_cons (pe_op op_fdiv (pv 4) pe_int) pa_nil)) (pv 1))))))))), ?_⟩
  obtain ⟨⟨sd, n, hp⟩, ⟨cs, hc, hl⟩, ne⟩ := id PP
  refine ⟨_, rfl, p, _, _, _, rfl, rfl, SqL.of hp, (atI_nat (j := 1) rfl), _, _, rfl, rfl, _, rfl, p, _, _, 1, rfl, rfl, hp, rfl, ?_⟩
  have hp1 : upd H p (.lst [.int sd, .int (n + 1), .ref c]) p = some (.lst [.int sd, .int (n + 1), .ref c]) := upd_same
  have hc1 : upd H p (.lst [.int sd, .int (n + 1), .ref c]) c = some (.lst (iv cs)) := by rw [upd_ne ne]; exact hc
  refine ⟨_, rfl, p, _, _, _, rfl, rfl, SqL.of hp1, (atI_nat (j := 2) rfl), ?_⟩
  refine ⟨_, rfl, c, _, rfl, .inl (SqL.of hc1), _, _, rfl, rfl, _, rfl, ?_⟩
  have fin : ∀ x : Int, 0 ≤ x % m ∧ x % m < m := fun x => ⟨Int.emod_nonneg _ (by omega), Int.emod_lt_of_pos _ m0⟩
  cases cs with
  | cons z r =>
    rw [List.length_cons] at hl
    rw [decide_eq_true (show (0 : Int) < (((iv (z :: r)).length : Nat) : Int) by rw [List.length_map, List.length_cons]; omega)]
    refine ⟨_, rfl, c, _, _, _, rfl, rfl, SqL.of hc1, (atI_nat (j := 0) rfl), .inl ⟨_, rfl, _, rfl, _, _, rfl, rfl, m0, ?_⟩⟩
    refine ⟨_, rfl, c, _, _, _, rfl, rfl, SqL.of hc1, (atI_nat (j := 0) rfl), .inl ⟨_, rfl, _, rfl, _, _, rfl, rfl, ⟨m0, by omega⟩, ?_⟩⟩
    refine ⟨_, rfl, c, _, _, 0, rfl, rfl, hc1, ixN_0 (Nat.succ_pos _), ?_⟩
    have hc2 : upd (upd H p (.lst [.int sd, .int (n + 1), .ref c])) c (.lst (iv (z / m :: r))) c = some (.lst (iv (z / m :: r))) := upd_same
    have hp2 : upd (upd H p (.lst [.int sd, .int (n + 1), .ref c])) c (.lst (iv (z / m :: r))) p = some (.lst [.int sd, .int (n + 1), .ref c]) := by rw [upd_ne (Ne.symm ne)]; exact hp1
    refine ⟨_, rfl, c, _, _, _, rfl, rfl, SqL.of hc2, (atI_nat (j := 0) rfl), rfl, _, rfl, ?_⟩
    refine ite2 (fun _ => ?_) (fun _ => ?_)
    · refine ⟨_, rfl, .inl ⟨rfl, _, SqL.of hc2⟩, c, _, _, 0, _, rfl, rfl, hc2, by decide, by decide, seqIx_0 (Nat.succ_pos _), rfl, ?_⟩
      refine ⟨_, rfl, q _ _ (fin z).1 (fin z).2 (Bt.upd1.trans (Bt.upd2.trans Bt.upd2)) ⟨⟨sd, n + 1, by rw [upd_ne (Ne.symm ne)]; exact hp2⟩, ⟨r, upd_same, by omega⟩, ne⟩⟩
    · refine ⟨_, rfl, q _ _ (fin z).1 (fin z).2 (Bt.upd1.trans Bt.upd2) ⟨⟨sd, n + 1, hp2⟩, ⟨z / m :: r, hc2, by rw [List.length_cons]; omega⟩, ne⟩⟩
  | nil =>
    refine ⟨_, rfl, p, _, _, _, rfl, rfl, SqL.of hp1, (atI_nat (j := 0) rfl), _, rfl, p, _, _, _, rfl, rfl, SqL.of hp1, (atI_nat (j := 1) rfl), _, _, rfl, rfl, .inl ⟨by decide, by decide⟩, _, _, rfl, rfl, _, _, rfl, rfl, .inr ⟨by decide, by decide⟩, .inl ⟨_, rfl, _, _, rfl, rfl, (by show (0 : Int) < 2147483647; decide), ?_⟩⟩
    have b1 : ∀ x : Int, 0 ≤ x % 2147483647 ∧ x % 2147483647 < 2147483647 := fun x => ⟨Int.emod_nonneg _ (by decide), Int.emod_lt_of_pos _ (by decide)⟩
    obtain ⟨u1, u2⟩ := b1 ((sd + 7919 * (n + 1)) * 48271)
    refine ⟨_, rfl, _, rfl, _, _, rfl, rfl, ⟨by decide, by decide⟩, _, _, rfl, rfl, _, _, rfl, rfl, .inl ⟨by show -(2 ^ 64) < (sd + 7919 * (n + 1)) * 48271 % 2147483647; omega, by show (sd + 7919 * (n + 1)) * 48271 % 2147483647 < 2 ^ 64; omega⟩, .inl ⟨_, rfl, _, _, rfl, rfl, (by show (0 : Int) < 2147483647; decide), ?_⟩⟩
    generalize hy1 : (sd + 7919 * (n + 1)) * 48271 % 2147483647 = y1 at u1 u2
    obtain ⟨u3, u4⟩ := b1 (y1 * (y1 / 1009 + 69621))
    refine ⟨_, rfl, _, rfl, _, _, rfl, rfl, ⟨by decide, by decide⟩, _, _, rfl, rfl, _, _, rfl, rfl, .inl ⟨?_, ?_⟩, .inl ⟨_, rfl, _, _, rfl, rfl, (by show (0 : Int) < 2147483399; decide), ?_⟩⟩
    · omega
    · omega
    refine ⟨_, rfl, _, _, rfl, rfl, ⟨by decide, by decide⟩, .inl ⟨_, rfl, _, rfl, _, _, rfl, rfl, m0, ?_⟩⟩
    exact q _ _ (fin _).1 (fin _).2 Bt.upd1 ⟨⟨sd, n + 1, hp1⟩, ⟨[], hc1, by decide⟩, ne⟩
abbrev sNumL : Stmt := topS 45
theorem scNumL : FnScope ["_law_pool_here", "_law_kind", "_law_found", "_law_turn"] ["_law_pool_here"] (defScope sNumL) := ⟨rfl, rfl, rfl, by decide +kernel, rfl, by decide +kernel, by decide +kernel⟩
def spNumL : Sp := fun vs H Q _ => ∃ (p c : Addr), vs = [.ref p] ∧ Pool H p c ∧ ∀ (z : Int) H', -(10 ^ 15) ≤ z → z ≤ 10 ^ 15 → Bt p c H H' → Pool H' p c → Q (.int z) H'
def eleven : List Int := [0, 1, -1, 127, 128, -128, -129, 300, 16383, 16384, -16385]
theorem eleven_all : ∀ z ∈ eleven, -(10 ^ 15 : Int) ≤ z ∧ z ≤ 10 ^ 15 := by decide
theorem bt_ne {p c b : Addr} {H : Hp} {o : HO} (P : Pool H p c) (hb : H b = none) : b ≠ p ∧ b ≠ c := by
  obtain ⟨⟨_, _, h1⟩, ⟨_, h2, _⟩, _⟩ := P
  exact ⟨fun e => (by rw [e, h1] at hb; cases hb), fun e => (by rw [e, h2] at hb; cases hb)⟩
theorem ok_numL (A : DefAt K mg "_law_number" sNumL ["_law_pool_here"]) (b : Bu mg) (CD : Cal P w K mg base CX0 1 "_law_draw" ["_law_pool_here", "_law_many"] spDrawL) : Cal P w K mg base CX0 2 "_law_number" ["_law_pool_here"] spNumL := by
  refine cal_of A scNumL (fun vs H Q E h => ?_) (fun f cdv A outer s H vs Q E hr h => ?_)
  · obtain ⟨p, c, rfl, _⟩ := h
    rfl
  obtain ⟨p, c, rfl, PP, q⟩ := h
  refine ⟨_, pss_cons (ps_set (i := 1) scNumL.nd rfl (Or.inl rfl) (pe_c CD hr (Nat.le_refl _) rfl pass0 (pa_cons (pv 0) (pa_cons pe_int pa_nil))))
    (pss_cons (ps_if (pt_cmpR op_lt (pv 1) pe_int (nomark _)) (pss_one (ps_ret (pe_ix ix_list (pe_lst (pa_cons pe_int (pa_cons pe_int (pa_cons (pe_un un_neg pe_int) (pa_cons pe_int (pa_cons pe_int (pa_cons (pe_un un_neg pe_int) (pa_cons (pe_un un_neg pe_int)
        (pa_cons pe_int (pa_cons pe_int (pa_cons pe_int (pa_cons (pe_un un_neg pe_int) pa_nil)))))))))))) (pe_c CD hr (Nat.le_refl _) rfl pass0 (pa_cons (pv 0) (pa_cons pe_int pa_nil))) (fun _ _ => rfl)))) pss_nil)
    (pss_cons (ps_set (i := 2) scNumL.nd rfl (Or.inl rfl) (pe_c CD hr (Nat.le_refl _) rfl pass0 (pa_cons (pv 0) (pa_cons pe_int pa_nil))))
    (pss_cons (ps_for PassesOwn.never rfl (pi_range1 rfl b.range (pa_cons (pe_c CD hr (Nat.le_refl _) rfl pass0 (pa_cons (pv 0) (pa_cons pe_int pa_nil))) pa_nil)) (pg_name (i := 3) scNumL.nd rfl (Or.inl rfl))
      (pss_one (ps_set (i := 2) scNumL.nd rfl (Or.inl rfl) (pe_op op_add (pe_op op_mul (pv 2) pe_int) (pe_c CD hr (Nat.le_refl _) rfl pass0 (pa_cons (pv 0) (pa_cons pe_int pa_nil)))))))
    (pss_one (ps_ret (pe_ifExp (pt_cmpR op_lt (pv 1) pe_int (nomark _)) (pv 2) (pe_op op_sub pe_int (pv 2)))))))), ?_⟩
  refine ⟨_, rfl, p, c, 7, rfl, PP, by decide, by decide, fun k H1 k0 k7 t1 P1 => ?_⟩
  refine ⟨_, rfl, _, _, rfl, rfl, _, rfl, ?_⟩
  refine ite2 (fun _ => ?_) (fun _ => ?_)
  · refine ⟨_, rfl, _, rfl, _, rfl, _, rfl, Nat.le_of_lt (len_line (by show 11 ≤ 2000000; decide)), fun l hl0 => ?_⟩
    have s1 := same_new hl0 (.lst (iv eleven))
    obtain ⟨n1, n2⟩ := bt_ne (o := .lst []) P1 hl0
    refine ⟨_, rfl, p, c, 11, rfl, P1.same s1, by decide, by decide, fun i H2 i0 i11 t2 P2 => ?_⟩
    have hL2 : H2 l = some (.lst (iv eleven)) := t2 _ _ upd_same n1 n2
    have hi : i.toNat < eleven.length := by show i.toNat < 11; omega
    have hx : eleven[i.toNat]? = some eleven[i.toNat] := List.getElem?_eq_getElem hi
    obtain ⟨g1, g2⟩ := eleven_all eleven[i.toNat] (List.getElem_mem hi)
    refine ⟨l, _, i, .int eleven[i.toNat], rfl, rfl, SqL.of hL2, at_of (show i = ((i.toNat : Nat) : Int) by omega) (by unfold iv; rw [List.getElem?_map, hx]; rfl), q _ H2 g1 g2 ((t1.trans (Bt.of s1)).trans t2) P2⟩
  · refine ⟨_, rfl, p, c, 1000, rfl, P1, by decide, by decide, fun fo H2 f0 f1 t2 P2 => ?_⟩
    refine ⟨_, rfl, p, c, 5, rfl, P2, by decide, by decide, fun tn H3 tn0 tn5 t3 P3 => ?_⟩
    refine ⟨tn, rfl, by omega, by omega, ?_⟩
    refine for_range (n := tn.toNat) (fun i σ H4 => ∃ (y : Int) (v : Option V), σ = [some (.ref p), some (.int k), some (.int y), v] ∧ 0 ≤ y ∧ y < 1000 ^ (i + 1) ∧ Bt p c H H4 ∧ Pool H4 p c)
      ⟨fo, none, rfl, f0, by show fo < 1000; exact f1, (t1.trans t2).trans t3, P3⟩ ?_ ?_
    · rintro i σ H4 hi ⟨y, v, rfl, y0, y1, t4, P4⟩
      have hy : (1000 : Int) ^ (i + 1) ≤ 1000 ^ 4 := by
        have : i + 1 ≤ 4 := by omega
        match i, this with
        | 0, _ => decide
        | 1, _ => decide
        | 2, _ => decide
        | 3, _ => decide
      refine ⟨_, rfl, _, _, rfl, rfl, .inr ⟨by decide, by decide⟩, _, rfl, p, c, 1000, rfl, P4, by decide, by decide, fun x H5 x0 x1 t5 P5 => ?_⟩
      refine ⟨_, _, rfl, rfl, y * 1000 + x, _, rfl, by omega, ?_, t4.trans t5, P5⟩
      rw [Int.pow_succ]
      omega
    · rintro σ H4 ⟨y, v, rfl, y0, y1, t4, P4⟩
      have hy : y < 10 ^ 15 := by
        have h5 : tn.toNat ≤ 4 := by omega
        have : (1000 : Int) ^ (tn.toNat + 1) ≤ 10 ^ 15 := by
          match tn.toNat, h5 with
          | 0, _ => decide
          | 1, _ => decide
          | 2, _ => decide
          | 3, _ => decide
          | 4, _ => decide
        omega
      refine ⟨_, rfl, _, _, rfl, rfl, _, rfl, ?_⟩
      refine ite2 (fun _ => ?_) (fun _ => ?_)
      · exact ⟨_, rfl, q _ H4 (by omega) (by omega) t4 P4⟩
      · exact ⟨_, rfl, _, _, rfl, rfl, q _ H4 (by omega) (by omega) t4 P4⟩
end
end KQ
namespace KQ
open PySem PySem.Spec PyProof.Rows L2
/-- what data lean on stands: tuples as they are, lists and dicts as some list, some dict -/
structure Kp (H H' : Hp) : Prop where
  tup : ∀ b xs, H b = some (.tup xs) → H' b = some (.tup xs)
  lst : ∀ b xs, H b = some (.lst xs) → ∃ ys, H' b = some (.lst ys)
  dk : ∀ b kvs, H b = some (.dK kvs) → ∃ kvs', H' b = some (.dK kvs')
theorem Kp.of {H H' : Hp} (s : Same H H') : Kp H H' := ⟨fun b xs h => s _ _ h, fun b xs h => ⟨xs, s _ _ h⟩, fun b xs h => ⟨xs, s _ _ h⟩⟩
theorem Kp.trans {H H1 H2 : Hp} (a : Kp H H1) (b : Kp H1 H2) : Kp H H2 :=
  ⟨fun c xs h => b.tup c xs (a.tup c xs h), fun c xs h => let ⟨ys, h1⟩ := a.lst c xs h; b.lst c ys h1, fun c xs h => let ⟨ys, h1⟩ := a.dk c xs h; b.dk c ys h1⟩
theorem Kp.updL {H : Hp} {l : Addr} {xs ys : List V} (hl : H l = some (.lst xs)) : Kp H (upd H l (.lst ys)) := by
  refine ⟨tups_updL hl, fun b zs h => ?_, fun b zs h => ⟨zs, by rw [upd_ne (ne_of h hl (by intro z; cases z))]; exact h⟩⟩
  by_cases e : b = l
  · subst e; exact ⟨ys, upd_same⟩
  · exact ⟨zs, by rw [upd_ne e]; exact h⟩
theorem Kp.bt {H H' : Hp} {p c : Addr} (P : Pool H p c) (t : Bt p c H H') (P' : Pool H' p c) : Kp H H' := by
  obtain ⟨⟨a, n, h1⟩, ⟨cs, h2, _⟩, _⟩ := P
  obtain ⟨⟨a', n', h1'⟩, ⟨cs', h2', _⟩, _⟩ := P'
  refine ⟨fun b xs h => t _ _ h (ne_of h h1 (by intro z; cases z)) (ne_of h h2 (by intro z; cases z)), fun b xs h => ?_, fun b xs h => ⟨xs, t _ _ h (ne_of h h1 (by intro z; cases z)) (ne_of h h2 (by intro z; cases z))⟩⟩
  by_cases e1 : b = p
  · subst e1; exact ⟨_, h1'⟩
  · by_cases e2 : b = c
    · subst e2; exact ⟨_, h2'⟩
    · exact ⟨xs, t _ _ h e1 e2⟩
mutual
theorem At.kp {H H' : Hp} (s : Kp H H') : ∀ (d : D) (v : V), At H d v → At H' d v
  | .non, _, h => by rw [At] at h ⊢; exact h
  | .bl _, _, h => by rw [At] at h ⊢; exact h
  | .int _, _, h => by rw [At] at h ⊢; exact h
  | .str _, _, h => by rw [At] at h ⊢; exact h
  | .odd, v, h => by
    rw [At] at h ⊢
    obtain ⟨a, e, h⟩ := h
    refine ⟨a, e, ?_⟩
    rcases h with ⟨xs, h⟩ | ⟨kvs, h⟩
    · exact .inl (s.lst _ _ h)
    · exact .inr (s.dk _ _ h)
  | .tup ds, v, h => by
    rw [At] at h ⊢
    obtain ⟨a, vs, e, h, l, q⟩ := h
    exact ⟨a, vs, e, s.tup _ _ h, l, AtL.kp s ds vs q⟩
theorem AtL.kp {H H' : Hp} (s : Kp H H') : ∀ (ds : List D) (vs : List V), AtL H ds vs → AtL H' ds vs
  | [], _, h => by rw [AtL] at h ⊢; exact h
  | d :: r, vs, h => by
    rw [AtL] at h ⊢
    obtain ⟨v, us, e, h1, h2⟩ := h
    exact ⟨v, us, e, At.kp s d v h1, AtL.kp s r us h2⟩
end
theorem glue_all : ∀ (r : List Nat) (acc : Array Nat), ((r.map fun c => (⟨#[c]⟩ : Str)).foldl (fun acc p => acc ++ (Str.ofString "").cps ++ p.cps) acc).toList = acc.toList ++ r
  | [], acc => by simp
  | c :: r, acc => by
    rw [List.map_cons, List.foldl_cons, glue_all r]
    have e : (Str.ofString "").cps = #[] := by decide +kernel
    rw [e]
    simp
theorem join_one {cs : List Nat} (h : cs ≠ []) : (Builtin.Str.glued (Str.ofString "") (cs.map fun c => (⟨#[c]⟩ : Str))).cps.toList = cs := by
  cases cs with
  | nil => exact absurd rfl h
  | cons c r =>
    unfold Builtin.Str.glued
    rw [List.map_cons]
    show (((r.map fun c => (⟨#[c]⟩ : Str)).foldl (fun acc p => acc ++ (Str.ofString "").cps ++ p.cps) #[c])).toList = c :: r
    rw [glue_all]
    rfl
theorem sum_one : ∀ cs : List Nat, ((cs.map fun x => (⟨#[x]⟩ : Str)).map (·.length)).sum = cs.length
  | [] => rfl
  | c :: r => by
    rw [List.map_cons, List.map_cons, List.sum_cons, sum_one r, List.length_cons]
    show 1 + r.length = r.length + 1
    omega
theorem Pool.updO {H : Hp} {p c D : Addr} {o : HO} (P : Pool H p c) (n1 : D ≠ p) (n2 : D ≠ c) : Pool (upd H D o) p c := by
  obtain ⟨⟨a, n, h⟩, ⟨cs, h2, l⟩, ne⟩ := P
  exact ⟨⟨a, n, by rw [upd_ne (Ne.symm n1)]; exact h⟩, ⟨cs, by rw [upd_ne (Ne.symm n2)]; exact h2, l⟩, ne⟩
def alpha : Str := " ~a0Zb'"
theorem alpha_at : ∀ i : Nat, i < 7 → alpha.cps[i]? = some (alpha.cps.getD i 0) ∧ sgn (alpha.cps.getD i 0) = true := by decide +kernel
theorem alpha_len : alpha.length = 7 := by decide +kernel
section
variable {P : Program} {w : World} {K : PySem.W.Frag} {mg : Str → Option Value} {base : Heap} {R N Qe : Addr}
abbrev sParL : Stmt := topS 46
abbrev nParL : List Str := ["_law_pool_here", "_law_deep_here", "_law_kind", "_law_many", "_law_at", "_law_turn"]
theorem scParL : FnScope nParL ["_law_pool_here", "_law_deep_here"] (defScope sParL) := ⟨rfl, rfl, rfl, by decide +kernel, rfl, by decide +kernel, by decide +kernel⟩
def spParL (n : Nat) : Sp := fun vs H Q _ => ∃ (p c : Addr) (k : Int), vs = [.ref p, .int k] ∧ Pool H p c ∧ 0 ≤ k ∧ k.toNat + 1 ≤ n ∧ ∀ v d H', Bt p c H H' → Pool H' p c → Drawn k.toNat d → At H' d v → Q v H'
theorem ok_parL {n : Nat} (A : DefAt K mg "_law_parcel" sParL ["_law_pool_here", "_law_deep_here"]) (b : Bu mg) (CD : Cal P w K mg base CX0 1 "_law_draw" ["_law_pool_here", "_law_many"] spDrawL) (CN : Cal P w K mg base CX0 2 "_law_number" ["_law_pool_here"] spNumL)
    (C : Cal P w K mg base CX0 (n + 2) "_law_parcel" ["_law_pool_here", "_law_deep_here"] (spParL n)) : Cal P w K mg base CX0 (n + 2 + 1) "_law_parcel" ["_law_pool_here", "_law_deep_here"] (spParL (n + 1)) := by
  refine cal_of A scParL (fun vs H Q E h => ?_) (fun f cdv A outer s H vs Q E hr h => ?_)
  · obtain ⟨p, c, k, rfl, _⟩ := h
    rfl
  obtain ⟨p, c, k, rfl, PP, hk, hn, q⟩ := h
  have lv1 : 1 ≤ n + 2 := by omega
  have lv2 : 2 ≤ n + 2 := by omega
  refine ⟨_, pss_cons (ps_set (i := 2) scParL.nd rfl (Or.inl rfl) (pe_c CD hr lv1 rfl pass0 (pa_cons (pv 0) (pa_cons pe_int pa_nil))))
    (pss_cons (ps_if (pt_cmpR op_lt (pv 2) pe_int (nomark _)) (pss_one (ps_ret (pe_ix ix_list (pe_lst (pa_cons pe_non (pa_cons pe_bl (pa_cons pe_bl pa_nil)))) (pv 2) (fun _ _ => rfl)))) pss_nil)
    (pss_cons (ps_if (pt_cmpR op_lt (pv 2) pe_int (nomark _)) (pss_one (ps_ret (pe_c CN hr lv2 rfl pass0 (pa_cons (pv 0) pa_nil)))) pss_nil)
    (pss_cons (ps_if (pt_cmpR op_lt (pv 2) pe_int (nomark _))
      (pss_cons (ps_set (i := 3) scParL.nd rfl (Or.inl rfl) (pe_ifExp (pt_cmpR op_eq (pe_c CD hr lv1 rfl pass0 (pa_cons (pv 0) (pa_cons pe_int pa_nil))) pe_int (nomark _)) pe_int (pe_op op_add pe_int (pe_c CD hr lv1 rfl pass0 (pa_cons (pv 0) (pa_cons pe_int pa_nil))))))
      (pss_one (ps_ret (pe_join pe_str (pe_lc (own := [("_law_at", 4)]) (g := gName 4) (tt := tYes) rfl scParL.nd (pi_range1 rfl b.range (pa_cons (pv 3) pa_nil)) (blkOk_by (N := nParL) (sc := defScope sParL) (by decide +kernel))
        (fun _ _ _ _ _ => pg_name (i := 4) scParL.nd rfl (Or.inl rfl)) (fun _ _ _ _ _ => pts_nil)
        (fun _ _ _ _ _ => pe_item_str pe_str (pe_c CD hr lv1 rfl pass0 (pa_cons (pv 0) (pa_cons pe_int pa_nil))) (fun _ _ => rfl))))))) pss_nil)
    (pss_cons (ps_if (pt_cmpR op_eq (pv 1) pe_int (nomark _)) (pss_one (ps_ret pe_int)) pss_nil)
    (pss_one (ps_ret (pe_callTy call_tuple_of rfl b.tup (by decide +kernel) (pa_cons (pe_lc (own := [("_law_turn", 5)]) (g := gName 5) (tt := tYes) rfl scParL.nd (pi_range1 rfl b.range (pa_cons (pe_c CD hr lv1 rfl pass0 (pa_cons (pv 0) (pa_cons pe_int pa_nil))) pa_nil))
      (blkOk_by (N := nParL) (sc := defScope sParL) (by decide +kernel)) (fun _ _ _ _ _ => pg_name (i := 5) scParL.nd rfl (Or.inl rfl)) (fun _ _ _ _ _ => pts_nil)
      (fun _ _ _ _ _ => pe_c C hr (Nat.le_refl _) rfl pass0 (pa_cons (pv 0) (pa_cons (pe_op op_sub (pv 1) pe_int) pa_nil)))) pa_nil)))))))), ?_⟩
  refine ⟨_, rfl, p, c, 10, rfl, PP, by decide, by decide, fun kd H1 kd0 kd1 t1 P1 => ?_⟩
  refine ⟨_, rfl, _, _, rfl, rfl, _, rfl, ?_⟩
  refine ite2 (fun c3 => ?_) (fun c3 => ?_)
  · have c3' : kd < 3 := of_decide_eq_true c3
    refine ⟨Nat.le_of_lt (len_line (by show 3 ≤ 2000000; decide)), fun l hl0 => ?_⟩
    have s1 := same_new hl0 (.lst [.non, .bl true, .bl false])
    rcases (show kd = 0 ∨ kd = 1 ∨ kd = 2 by omega) with rfl | rfl | rfl
    · exact ⟨_, rfl, l, _, _, .non, rfl, rfl, SqL.of upd_same, (atI_nat (j := 0) rfl), q _ .non _ (t1.trans (Bt.of s1)) (P1.same s1) (drawn_non _) (by rw [At])⟩
    · exact ⟨_, rfl, l, _, _, .bl true, rfl, rfl, SqL.of upd_same, (atI_nat (j := 1) rfl), q _ (.bl true) _ (t1.trans (Bt.of s1)) (P1.same s1) (drawn_bl _ _) (by rw [At])⟩
    · exact ⟨_, rfl, l, _, _, .bl false, rfl, rfl, SqL.of upd_same, (atI_nat (j := 2) rfl), q _ (.bl false) _ (t1.trans (Bt.of s1)) (P1.same s1) (drawn_bl _ _) (by rw [At])⟩
  refine ⟨_, rfl, _, _, rfl, rfl, _, rfl, ?_⟩
  refine ite2 (fun c5 => ?_) (fun c5 => ?_)
  · exact ⟨_, rfl, p, c, rfl, P1, fun z H2 z0 z1 t2 P2 => q _ (.int z) H2 (t1.trans t2) P2 (drawn_int _ z0 z1) (by rw [At])⟩
  refine ⟨_, rfl, _, _, rfl, rfl, _, rfl, ?_⟩
  refine ite2 (fun c7 => ?_) (fun c7 => ?_)
  · -- a text
    have text : ∀ (m : Int) (H2 : Hp) (t : Option V), 1 ≤ m → m ≤ 20 → Bt p c H H2 → Pool H2 p c →
        tRet (tM1 (fun x xs H Q => ∃ a p, ∃ ys : List Str, x = .str a ∧ xs = [.ref p] ∧ (SqL K H p (ys.map V.str) ∨ SqT K H p (ys.map V.str)) ∧ (ys.map (·.length)).sum + ys.length * a.length ≤ 16777216 ∧ Q (.str (Txt.join a ys)) H) (tC (.str "")) (tLc (iRng1 (tCons (tVar 3) tNil)) (gName 4) tYes (tOp (fun x y H Q => ∃ z i c, x = .str z ∧ y = .int i ∧ 0 ≤ i ∧ i < 2 ^ 63 ∧ i < z.length ∧ z.cps[i.toNat]? = some c ∧ Q (.str ⟨#[c]⟩) H) (tC (.str " ~a0Zb'")) (tCall spDrawL [] E0 (tCons (tVar 0) (tCons (tC (.int 7)) tNil)))) [4]))
          { nx := fun _ H' => Q .non H', rt := Q } [some (.ref p), some (.int k), some (.int kd), some (.int m), none, t] H2 := by
      intro m H2 t hm1 hm2 t2 P2
      refine ⟨⟨_, rfl⟩, _, rfl, m, rfl, by omega, by omega, fun D hD => ?_⟩
      obtain ⟨nD1, nD2⟩ := bt_ne (o := .lst []) P2 hD
      refine lc_range (n := m.toNat) (fun i H3 => Bt p c H H3 ∧ Pool H3 p c ∧ ∃ cs : List Nat, cs.length = i ∧ (∀ x ∈ cs, sgn x = true) ∧ H3 D = some (.lst ((cs.map fun x => (⟨#[x]⟩ : Str)).map V.str)))
        ⟨t2.trans (Bt.of (same_new hD _)), P2.same (same_new hD _), [], rfl, (fun _ h => (nomatch h)), upd_same⟩ ?_ ?_
      · rintro i H3 hi ⟨t3, P3, cs, hc, hs, hD3⟩
        refine ⟨rfl, ?_⟩
        refine ⟨_, rfl, p, c, 7, rfl, P3, by decide, by decide, fun z H4 z0 z7 t4 P4 => ?_⟩
        obtain ⟨g1, g2⟩ := alpha_at z.toNat (by omega)
        have hD4 := t4 _ _ hD3 nD1 nD2
        refine ⟨alpha, z, _, rfl, rfl, z0, by omega, by rw [alpha_len]; omega, g1, _, hD4, len_line (by rw [List.length_map, List.length_map, hc]; omega), ?_, ?_, cs ++ [alpha.cps.getD z.toNat 0], by rw [List.length_append, hc, List.length_singleton], fun x hx => ?_, ?_⟩
        · intro b o hb n1 n2
          have h4 := t4 _ _ (t3 _ _ hb n1 n2) n1 n2
          by_cases e : b = D
          · subst e
            rw [t2 _ _ hb n1 n2] at hD
            cases hD
          · rw [upd_ne e]; exact h4
        · exact P4.updO nD1 nD2
        · rcases List.mem_append.mp hx with h | h
          · exact hs x h
          · rw [List.mem_singleton.mp h]; exact g2
        · rw [upd_same, List.map_append, List.map_append]
          rfl
      · rintro H3 ⟨t3, P3, cs, hc, hs, hD3⟩
        have hne : cs ≠ [] := fun e => by rw [e] at hc; simp at hc; omega
        have hj := join_one hne
        have hlen : (Txt.join (Str.ofString "") (cs.map fun x => (⟨#[x]⟩ : Str))).length = cs.length := by
          show (Builtin.Str.glued (Str.ofString "") (cs.map fun c => (⟨#[c]⟩ : Str))).cps.size = cs.length
          rw [← Array.length_toList, hj]
        have e0 : (Str.ofString "").length = 0 := by decide +kernel
        refine ⟨_, D, cs.map fun x => (⟨#[x]⟩ : Str), rfl, rfl, .inl (SqL.of hD3), ?_, ?_⟩
        · rw [sum_one, List.length_map]
          show cs.length + cs.length * (Str.ofString "").length ≤ _
          rw [e0, hc]
          omega
        · refine q _ (.str (Txt.join (Str.ofString "") (cs.map fun x => (⟨#[x]⟩ : Str)))) H3 t3 P3 (drawn_str _ ?_) ?_
          · unfold shortBy
            rw [hlen]
            show (decide (1 ≤ cs.length) && decide (cs.length ≤ 20) && (Builtin.Str.glued (Str.ofString "") (cs.map fun c => (⟨#[c]⟩ : Str))).cps.toList.all sgn) = true
            rw [hj, decide_eq_true (show 1 ≤ cs.length by omega), decide_eq_true (show cs.length ≤ 20 by omega)]
            exact List.all_eq_true.mpr hs
          · rw [At]
            exact ⟨rfl, by rw [hlen]; omega⟩
    refine ⟨_, rfl, p, c, 8, rfl, P1, by decide, by decide, fun z H2 z0 z8 t2 P2 => ⟨rfl, _, rfl, ?_⟩⟩
    refine ite2 (fun _ => ?_) (fun _ => ?_)
    · exact text 20 H2 none (by decide) (by decide) (t1.trans t2) P2
    · exact ⟨_, rfl, p, c, 6, rfl, P2, by decide, by decide, fun y H3 y0 y6 t3 P3 => ⟨_, _, rfl, rfl, text (1 + y) H3 none (by omega) (by omega) ((t1.trans t2).trans t3) P3⟩⟩
  refine ⟨_, rfl, rfl, _, rfl, ?_⟩
  refine ite2 (fun _ => ?_) (fun c0 => ?_)
  · exact q _ (.int 7) H1 t1 P1 (drawn_int _ (by decide) (by decide)) (by rw [At])
  · have hk1 : k ≠ 0 := fun e => by
      rw [e] at c0
      exact c0 (decide_eq_true rfl)
    refine ⟨_, rfl, p, c, 5, rfl, P1, by decide, by decide, fun tn H2 tn0 tn5 t2 P2 => ⟨tn, rfl, by omega, by omega, fun D hD => ?_⟩⟩
    obtain ⟨nD1, nD2⟩ := bt_ne (o := .lst []) P2 hD
    have t12 := t1.trans t2
    refine lc_range (n := tn.toNat) (fun i H3 => Bt p c H H3 ∧ Pool H3 p c ∧ ∃ (ds : List KQ.D) (vs : List V), ds.length = i ∧ (∀ d ∈ ds, Drawn (k.toNat - 1) d) ∧ H3 D = some (.lst vs) ∧ AtL H3 ds vs)
      ⟨t12.trans (Bt.of (same_new hD _)), P2.same (same_new hD _), [], [], rfl, (fun _ h => (nomatch h)), upd_same, AtL.nil⟩ ?_ ?_
    · rintro i H3 hi ⟨t3, P3, ds, vs, hc, hs, hD3, hA⟩
      refine ⟨rfl, ?_⟩
      have hvl := hA.length
      refine ⟨_, rfl, _, rfl, _, _, rfl, rfl, p, c, k - 1, rfl, P3, by omega, by omega, fun v d H4 t4 P4 hd hat => ?_⟩
      have hD4 := t4 _ _ hD3 nD1 nD2
      have k4 : Kp H4 (upd H4 D (.lst (vs ++ [v]))) := Kp.updL hD4
      refine ⟨vs, hD4, len_line (by omega), ?_, P4.updO nD1 nD2, ds ++ [d], vs ++ [v], by rw [List.length_append, hc, List.length_singleton], fun x hx => ?_, upd_same, AtL.snoc (AtL.kp ((Kp.bt P3 t4 P4).trans k4) _ _ hA) (At.kp k4 _ _ hat)⟩
      · intro b o hb n1 n2
        have h4 := t4 _ _ (t3 _ _ hb n1 n2) n1 n2
        by_cases e : b = D
        · subst e
          rw [t12 _ _ hb n1 n2] at hD
          cases hD
        · rw [upd_ne e]; exact h4
      · rcases List.mem_append.mp hx with h | h
        · exact hs x h
        · rw [List.mem_singleton.mp h]
          rw [show k.toNat - 1 = (k - 1).toNat by omega]
          exact hd
    · rintro H3 ⟨t3, P3, ds, vs, hc, hs, hD3, hA⟩
      refine ⟨D, vs, rfl, .inl ⟨SqL.of hD3, fun t ht0 => ?_⟩⟩
      have s4 := same_new ht0 (.tup vs)
      refine q _ (.tup ds) _ (t3.trans (Bt.of s4)) (P3.same s4) ?_ (At.tup_mk upd_same (by omega) (AtL.kp (Kp.of s4) _ _ hA))
      rw [show k.toNat = (k.toNat - 1) + 1 by omega]
      exact drawn_tup _ (by omega) hs
theorem all_parL (A : DefAt K mg "_law_parcel" sParL ["_law_pool_here", "_law_deep_here"]) (b : Bu mg) (CD : Cal P w K mg base CX0 1 "_law_draw" ["_law_pool_here", "_law_many"] spDrawL) (CN : Cal P w K mg base CX0 2 "_law_number" ["_law_pool_here"] spNumL) :
    ∀ n : Nat, Cal P w K mg base CX0 (n + 2) "_law_parcel" ["_law_pool_here", "_law_deep_here"] (spParL n)
  | 0 => cal_none A _ fun vs H Q E h => by
    obtain ⟨_, _, _, _, _, _, hn, _⟩ := h
    omega
  | n + 1 => ok_parL A b CD CN (all_parL A b CD CN n)
end
end KQ
namespace KQ
open PySem PySem.Spec PyProof.Rows L2
/-! ### rows compared -/
def pd (l : List Int) : List PyData := l.map PyData.int
theorem dp_ints {K : PySem.W.Frag} {H : Hp} : ∀ l : List Int, DpAll K H (iv l) (pd l)
  | [] => .nil
  | z :: r => .cons (.int z) (dp_ints r)
theorem canLay_ints : ∀ l : List Int, PyData.canLayAll0 (pd l) = true
  | [] => rfl
  | z :: r => by
    show PyData.canLayAll0 (PyData.int z :: pd r) = true
    simp only [PyData.canLayAll0, PyData.canLay0, canLay_ints r, Bool.and_self]
theorem depth_ints : ∀ l : List Int, PyData.depthAll (pd l) = 0
  | [] => rfl
  | z :: r => by
    show PyData.depthAll (PyData.int z :: pd r) = 0
    rw [PyData.depthAll, PyData.depth, depth_ints r]
    rfl
theorem shaped_row (l : List Int) : SeqAt.shaped (.tuple (pd l)) = true := by
  unfold SeqAt.shaped
  rw [PyData.depth, depth_ints]
  have e : (PyData.tuple (pd l)).canLay0 = true := by
    show PyData.canLayAll0 (pd l) = true
    exact canLay_ints l
  rw [e]
  rfl
theorem row_eqv (l : List Int) : PyData.eqv (.tuple (pd l)) (.tuple (pd l)) = true := SeqAt.eqv_refl _ (SeqAt.canLay_of_shaped (shaped_row l))
theorem shaped_two (x : Bool) : SeqAt.shaped (.list [.str (wordOf x), .str (wordOf x)]) = true := by
  cases x <;> decide +kernel
theorem two_eqv (x : Bool) : PyData.eqv (.list [.str (wordOf x), .str (wordOf x)]) (.list [.str (wordOf x), .str (wordOf x)]) = true := SeqAt.eqv_refl _ (SeqAt.canLay_of_shaped (shaped_two x))

/-! ### the law's odd things -/
def many (n : Nat) : Str := ⟨(List.replicate n (Str.ofString "a").cps).foldl (· ++ ·) #[]⟩
def things : List D := [.str "", .str (many 21), .str (many 20), .str "a\n", .odd, .odd, .odd, .odd, nest 21 (.int 0), nest 20 (.tup []), nest 20 (.int 0), .tup [.int 1, .odd], .tup [.str "", .int 1]]
structure Thing (t : D) : Prop where
  np : noPct t = true
  len : parBy sgn t 20 = true → (row t).length ≤ 100
theorem nest_over (p : Nat → Bool) (d : D) : ∀ n : Nat, parBy p (nest (n + 1) d) n = false
  | 0 => by rw [nest, parBy]
  | n + 1 => by
    rw [nest, parBy, parsBy, parsBy, nest_over p d n]
    rfl
theorem thing_str {s : Str} (h1 : s.cps.toList.all clean = true) (h2 : s.length ≤ 30) : Thing (.str s) := ⟨by rw [noPct]; exact h1, fun _ => by
  rw [row, whole_lt (by omega)]
  simp only [List.length_cons, List.length_append, List.length_nil, codes_len]
  omega⟩
theorem thing_odd : Thing .odd := ⟨by rw [noPct], fun h => by rw [parBy] at h; cases h⟩
theorem np_int (i : Int) : noPct (.int i) = true := by rw [noPct]
theorem things_ok : ∀ t ∈ things, Thing t := by
  intro t ht
  unfold things at ht
  simp only [List.mem_cons, List.not_mem_nil, or_false] at ht
  rcases ht with rfl | rfl | rfl | rfl | rfl | rfl | rfl | rfl | rfl | rfl | rfl | rfl | rfl
  · exact thing_str (by decide +kernel) (by decide +kernel)
  · exact thing_str (by decide +kernel) (by decide +kernel)
  · exact thing_str (by decide +kernel) (by decide +kernel)
  · exact thing_str (by decide +kernel) (by decide +kernel)
  · exact thing_odd
  · exact thing_odd
  · exact thing_odd
  · exact thing_odd
  · exact ⟨nest_noPct _ (np_int 0) 21, fun h => by rw [nest_over] at h; cases h⟩
  · refine ⟨nest_noPct _ (by rw [noPct, noPcts]) 20, fun h => ?_⟩
    rw [show (20 : Nat) = 20 + 0 from rfl, nest_par, parBy] at h
    cases h
  · refine ⟨nest_noPct _ (np_int 0) 20, fun _ => ?_⟩
    rw [nest_len, row, if_pos (by decide), List.length_cons]
    have := whole_len 0 (Int.toNat 0) (by decide)
    omega
  · refine ⟨by rw [noPct, noPcts, noPcts, noPcts, noPct, noPct]; rfl, fun h => ?_⟩
    rw [parBy, parsBy, parsBy, parsBy, parBy, parBy] at h
    cases h
  · refine ⟨by rw [noPct, noPcts, noPcts, noPcts, noPct, noPct]; decide +kernel, fun h => ?_⟩
    rw [parBy, parsBy, parsBy, parsBy, parBy, parBy] at h
    exact absurd h (by decide +kernel)
/-- what each of the three things that are looked at keeps -/
structure OneOk (d : D) : Prop where
  eq : parBy sgl d 20 = parBy sgn d 20
  len : parBy sgn d 20 = true → (row d).length ≤ 1000000
theorem one_parc {d : D} (h : Parc d) : OneOk d := ⟨par_sgl _ _ (par_noPct _ _ h.par), fun _ => by have := h.len; omega⟩
theorem one_thing {d : D} (h : Thing d) : OneOk d := ⟨par_sgl _ _ h.np, fun e => by have := h.len e; omega⟩
theorem one_pair {t d : D} (ht : Thing t) (hd : Parc d) : OneOk (.tup [t, d]) := by
  refine ⟨par_sgl _ _ (by rw [noPct, noPcts, noPcts, noPcts, ht.np, par_noPct _ _ hd.par]; rfl), fun e => ?_⟩
  rw [parBy, parsBy, parsBy, parsBy, Bool.and_eq_true] at e
  have h1 := ht.len (par_mono _ _ 19 20 (by decide) e.1)
  have h2 := hd.len
  rw [row, rows, rows, rows, List.append_nil, List.length_cons, List.length_append, List.length_append]
  have h3 := whole_len 0 2 (by decide)
  show (whole 2).length + ((row t).length + (row d).length) + 1 ≤ 1000000
  omega
end KQ
namespace KQ
open PySem PySem.Spec PyProof.Rows L2
abbrev sLaw : Stmt := topS 51
abbrev nLaw : List Str := ["_law_script", "_law_pool_here", "_law_turn", "_law_parcel_here", "_law_row", "_law_odd", "_law_thing", "_law_one", "_law_due", "_law_which"]
theorem scLaw : FnScope nLaw ["_law_script"] (defScope sLaw) := ⟨rfl, rfl, rfl, by decide +kernel, rfl, by decide +kernel, by decide +kernel⟩
/-- between the turns -/
def St0 (a p c : Addr) : L2.St → Hp → Prop := fun σ H => ∃ t2 t3 t4 t5 t6 t7 t8 : Option V, σ = [some (.ref a), some (.ref p), t2, t3, t4, t5, t6, t7, t8, none] ∧ Pool H p c
/-- a parcel stands in its slot -/
def StA (a p c : Addr) : L2.St → Hp → Prop := fun σ H => ∃ (v : V) (d : D) (t2 t4 t5 t6 t7 t8 : Option V), σ = [some (.ref a), some (.ref p), t2, some v, t4, t5, t6, t7, t8, none] ∧ Pool H p c ∧ Parc d ∧ At H d v
/-- a parcel and a thing -/
def StC (a p c : Addr) : L2.St → Hp → Prop := fun σ H => ∃ (v : V) (d : D) (tv : V) (td : D) (t2 t4 t5 t7 t8 : Option V), σ = [some (.ref a), some (.ref p), t2, some v, t4, t5, some tv, t7, t8, none] ∧ Pool H p c ∧ Parc d ∧ At H d v ∧ Thing td ∧ At H td tv
def spLaw (K : PySem.W.Frag) : Sp := fun vs H Q _ => ∃ (a : Addr) (ns : List Int), vs = [.ref a] ∧ SqL K H a (ns.map V.int) ∧ ns.length ≤ 63 ∧ ∀ H', Q (.bl true) H'
theorem fold_sub (x : Int) (t : Bool) (h : x = 20 ∨ x = 19 ∨ x = 5) : (0 : Int) ≤ x - (if t = true then 1 else 0) * 4 ∧ (x - (if t = true then 1 else 0) * 4).toNat + (if (!t) = true then 0 else 4) ≤ 20 := by
  cases t <;> rcases h with rfl | rfl | rfl <;> decide
theorem three_at (x : Int) (h0 : 0 ≤ x) (h3 : x < 3) : ∃ y : Int, (iv [20, 19, 5])[x.toNat]? = some (.int y) ∧ (y = 20 ∨ y = 19 ∨ y = 5) := by
  rcases (show x = 0 ∨ x = 1 ∨ x = 2 by omega) with rfl | rfl | rfl
  · exact ⟨20, rfl, .inl rfl⟩
  · exact ⟨19, rfl, .inr (.inl rfl)⟩
  · exact ⟨5, rfl, .inr (.inr rfl)⟩
theorem all_things {G : Hp} {l1 l2 l3 u1 u2 e1 : Addr} {v7 v8 v9 v10 : V} (h1 : ∃ xs, G l1 = some (.lst xs)) (h2 : ∃ xs, G l2 = some (.lst xs)) (h3 : ∃ kvs, G l3 = some (.dK kvs)) (a7 : At G .odd v7) (a8 : At G (nest 21 (.int 0)) v8) (a9 : At G (nest 20 (.tup [])) v9) (a10 : At G (nest 20 (.int 0)) v10)
    (hu1 : G u1 = some (.tup [.int 1, .ref e1])) (he : ∃ xs, G e1 = some (.lst xs)) (hu2 : G u2 = some (.tup [.str (Str.ofString ""), .int 1])) :
    AtL G things [.str (Str.ofString ""), .str (many 21), .str (many 20), .str (Str.ofString "a\n"), .ref l1, .ref l2, .ref l3, v7, v8, v9, v10, .ref u1, .ref u2] := by
  obtain ⟨x1, h1⟩ := h1
  obtain ⟨x2, h2⟩ := h2
  obtain ⟨x3, h3⟩ := h3
  obtain ⟨x4, he⟩ := he
  unfold things
  refine AtL.cons (by rw [At]; exact ⟨rfl, by decide +kernel⟩) (AtL.cons (by rw [At]; exact ⟨rfl, by decide +kernel⟩) (AtL.cons (by rw [At]; exact ⟨rfl, by decide +kernel⟩) (AtL.cons (by rw [At]; exact ⟨rfl, by decide +kernel⟩) ?_)))
  refine AtL.cons (by rw [At]; exact ⟨l1, rfl, .inl ⟨_, h1⟩⟩) (AtL.cons (by rw [At]; exact ⟨l2, rfl, .inl ⟨_, h2⟩⟩) (AtL.cons (by rw [At]; exact ⟨l3, rfl, .inr ⟨_, h3⟩⟩) ?_))
  refine AtL.cons a7 (AtL.cons a8 (AtL.cons a9 (AtL.cons a10 ?_)))
  exact AtL.cons (At.tup_mk hu1 (by decide) (AtL.cons (by rw [At]) (AtL.cons (by rw [At]; exact ⟨e1, rfl, .inl ⟨_, he⟩⟩) AtL.nil))) (AtL.cons (At.tup_mk hu2 (by decide) (AtL.cons (by rw [At]; exact ⟨rfl, by decide +kernel⟩) (AtL.cons (by rw [At]) AtL.nil))) AtL.nil)
theorem flat_tup (d : D) : flat d = !isTup d := by cases d <;> rfl
section
variable {P : Program} {w : World} {K : PySem.W.Frag} {mg : Str → Option Value} {base : Heap} {R N Qe : Addr}
theorem ok_law {fa : Addr} {fda : FuncData} (F : Fun K "law" "law" sLaw fa fda) (b : Bu mg)
    (CPool : Cal P w K mg base CX0 1 "_law_pool" ["_law_script"] (spPoolL K)) (CPar : Cal P w K mg base CX0 6 "_law_parcel" ["_law_pool_here", "_law_deep_here"] (spParL 4)) (CD : Cal P w K mg base CX0 1 "_law_draw" ["_law_pool_here", "_law_many"] spDrawL)
    (CNest : Cal P w K mg base CX0 1 "_law_nested" ["_law_many", "_law_inner"] spNestL) (CRow : Cal P w K mg base (L2.CX P w) 25 "row_of" ["parcel"] (spRowOf N)) (CBL : Cal P w K mg base CX0 22 "_law_bytes" ["_law_parcel_here"] (spBytes 21))
    (CSame : Cal P w K mg base CX0 21 "_law_same" ["_law_one", "_law_other"] (spSameL 21)) (CPO : Cal P w K mg base CX0 45 "parcel_of" ["row"] spParcelOf) (CDeep : Cal P w K mg base CX0 1 "_law_deep" [] spDeepL)
    (CIsPL : Cal P w K mg base CX0 21 "_law_is_parcel" ["_law_thing", "_law_left"] (spIsPL 21)) (CFlag : Cal P w K mg base CX0 1 "_law_flag" ["_law_thing", "_law_due"] spFlagL) (CIsP : Cal P w K mg base CX0 24 "is_parcel" ["thing"] spIsParcel)
    (CWord : Cal P w K mg base CX0 27 "_law_word" ["_law_which", "_law_thing"] spWordL) : FnOk P w K mg base CX0 46 fa fda ["_law_script"] (spLaw K) := by
  refine F.ok scLaw (fun vs H Q E h => ?_) (fun cdv A outer s H vs Q E hr h => ?_)
  · obtain ⟨a, ns, rfl, _⟩ := h
    rfl
  obtain ⟨a, ns, rfl, hS, h63, q⟩ := h
  refine ⟨_, pss_cons (ps_set (i := 1) scLaw.nd rfl (Or.inl rfl) (pe_c CPool hr (by decide) rfl pass0 (pa_cons (pv 0) pa_nil)))
    (pss_cons (ps_for PassesOwn.never rfl (pi_range1 rfl b.range (pa_cons pe_int pa_nil)) (pg_name (i := 2) scLaw.nd rfl (Or.inl rfl))
      (pss_cons (ps_set (i := 3) scLaw.nd rfl (Or.inl rfl) (pe_c CPar hr (by decide) rfl pass0 (pa_cons (pv 1) (pa_cons pe_int pa_nil))))
      (C8.pss_cut (ps_if (pt_cmpR op_eq (pe_c CD hr (by decide) rfl pass0 (pa_cons (pv 1) (pa_cons pe_int pa_nil))) pe_int (nomark _))
        (pss_one (ps_set (i := 3) scLaw.nd rfl (Or.inl rfl) (pe_c CNest hr (by decide) rfl pass0 (pa_cons (pe_op op_sub (pe_ix ix_list (pe_lst (pa_cons pe_int (pa_cons pe_int (pa_cons pe_int pa_nil)))) (pe_c CD hr (by decide) rfl pass0 (pa_cons (pv 1) (pa_cons pe_int pa_nil))) (fun _ _ => rfl))
          (pe_op op_mul (pe_callTy call_int1 rfl b.int (by decide +kernel) (pa_cons (pe_isi "tuple" (pv 3) rfl b.isi rfl b.tup (by decide +kernel)) pa_nil)) pe_int)) (pa_cons (pv 3) pa_nil))))) pss_nil)
      (pss_cons (ps_set (i := 4) scLaw.nd rfl (Or.inl rfl) (pe_c CRow hr (by decide) rfl passL (pa_cons (pv 3) pa_nil)))
      (C8.pss_cut (ps_if (PW.pt (pw_or (pt_cmpR (op_neD hr.units) (pv 4) (pe_callTy call_tuple_of rfl b.tup (by decide +kernel) (pa_cons (pe_c CBL hr (by decide) rfl pass0 (pa_cons (pv 3) pa_nil)) pa_nil)) (nomark _))
          (pw_or (pt_not (pt_val (pe_isi "tuple" (pv 4) rfl b.isi rfl b.tup (by decide +kernel)))) (pw_or1 (pt_not (pt_val (pe_c CSame hr (by decide) rfl pass0 (pa_cons (pe_c CPO hr (Nat.le_refl _) rfl pass0 (pa_cons (pv 4) pa_nil)) (pa_cons (pv 3) pa_nil))))))))) (pss_one (ps_ret pe_bl)) pss_nil)
      (pss_cons (ps_set (i := 5) scLaw.nd rfl (Or.inl rfl) (pe_lst (pa_cons pe_str (pa_cons (pe_op op_mul_str pe_str pe_int) (pa_cons (pe_op op_mul_str pe_str pe_int) (pa_cons pe_str (pa_cons (pe_lst pa_nil) (pa_cons (pe_lst (pa_cons pe_int pa_nil)) (pa_cons pe_dnewK
          (pa_cons (pe_c0 CDeep hr (by decide) rfl pass0) (pa_cons (pe_c CNest hr (by decide) rfl pass0 (pa_cons pe_int (pa_cons pe_int pa_nil))) (pa_cons (pe_c CNest hr (by decide) rfl pass0 (pa_cons pe_int (pa_cons (pe_tup pa_nil) pa_nil)))
          (pa_cons (pe_c CNest hr (by decide) rfl pass0 (pa_cons pe_int (pa_cons pe_int pa_nil))) pa_nil)))))))))))))
      (pss_cons (ps_set (i := 5) scLaw.nd rfl (Or.inl rfl) (pe_op op_cat (pv 5) (pe_lst (pa_cons (pe_tup (pa_cons pe_int (pa_cons (pe_lst pa_nil) pa_nil))) (pa_cons (pe_tup (pa_cons pe_str (pa_cons pe_int pa_nil))) pa_nil)))))
      (C8.pss_cut (ps_set (i := 6) scLaw.nd rfl (Or.inl rfl) (pe_ix ix_list (pv 5) (pe_c CD hr (by decide) rfl pass0 (pa_cons (pv 1) (pa_cons pe_int pa_nil))) (fun _ _ => rfl)))
      (pss_one (ps_for PassesOwn.never rfl (pi_list (pe_lst (pa_cons (pv 3) (pa_cons (pv 6) (pa_cons (pe_tup (pa_cons (pv 6) (pa_cons (pv 3) pa_nil))) pa_nil))))) (pg_name (i := 7) scLaw.nd rfl (Or.inr rfl))
        (pss_cons (ps_set (i := 8) scLaw.nd rfl (Or.inl rfl) (pe_c CIsPL hr (by decide) rfl pass0 (pa_cons (pv 7) (pa_cons pe_int pa_nil))))
        (pss_one (ps_if (PW.pt (pw_or (pt_not (pt_val (pe_c CFlag hr (by decide) rfl pass0 (pa_cons (pe_c CIsP hr (by decide) rfl pass0 (pa_cons (pv 7) pa_nil)) (pa_cons (pv 8) pa_nil)))))
          (pw_or1 (pt_cmpR (op_neD hr.units) (pe_lc (own := [("_law_which", 9)]) (g := gName 9) (tt := tYes) rfl scLaw.nd (pi_range1 rfl b.range (pa_cons pe_int pa_nil)) (blkOk_by (N := nLaw) (sc := defScope sLaw) (by decide +kernel))
              (fun _ _ _ _ _ => pg_name (i := 9) scLaw.nd rfl (Or.inl rfl)) (fun _ _ _ _ _ => pts_nil) (fun _ _ _ _ _ => pe_c CWord hr (by decide) rfl pass0 (pa_cons (pv 9) (pa_cons (pv 7) pa_nil))))
            (pe_op op_rep (pe_lst (pa_cons (pe_ix ix_list (pe_lst (pa_cons pe_str (pa_cons pe_str pa_nil))) (pe_callTy call_int1 rfl b.int (by decide +kernel) (pa_cons (pv 8) pa_nil)) (fun _ _ => rfl)) pa_nil)) pe_int) (nomark _)))))
          (pss_one (ps_ret pe_bl)) pss_nil)))))))))))))
    (pss_one (ps_ret pe_bl))), ?_⟩
  refine ⟨_, rfl, a, ns, rfl, hS, h63, fun p c H1 P1 => ?_⟩
  refine ⟨4, rfl, by decide, by decide, ?_⟩
  refine for_range (n := 4) (fun i σ H2 => St0 a p c σ H2) ⟨none, none, none, none, none, none, none, rfl, P1⟩ ?_ (fun σ H2 _ => q H2)
  rintro i σ H2 hi ⟨t2, t3, t4, t5, t6, t7, t8, rfl, P2⟩
  refine ⟨_, rfl, p, c, 3, rfl, P2, by decide, by decide, fun v0 d0 H3 bt3 P3 hdr hat0 => ?_⟩
  refine ⟨StA a p c, ?_, ?_⟩
  · refine ⟨_, rfl, p, c, 6, rfl, P3, by decide, by decide, fun z H4 z0 z6 bt4 P4 => ⟨rfl, _, rfl, ?_⟩⟩
    have hat4 := At.kp (Kp.bt P3 bt4 P4) _ _ hat0
    refine ite2 (fun _ => ?_) (fun _ => ?_)
    · refine ⟨Nat.le_of_lt (len_line (by show 3 ≤ 2000000; decide)), fun l hl0 => ?_⟩
      have s5 := same_new hl0 (.lst (iv [20, 19, 5]))
      obtain ⟨n1, n2⟩ := bt_ne (o := .lst []) P4 hl0
      refine ⟨_, rfl, p, c, 3, rfl, P4.same s5, by decide, by decide, fun x H5 x0 x3 bt5 P5 => ?_⟩
      obtain ⟨y, hy, hy'⟩ := three_at x x0 x3
      have hat5 := At.kp ((Kp.of s5).trans (Kp.bt (P4.same s5) bt5 P5)) _ _ hat4
      obtain ⟨nm, ty, kd⟩ := At.ty (K := K) hat5
      obtain ⟨f1, f2⟩ := fold_sub y (isTup d0) hy'
      refine ⟨l, _, x, .int y, rfl, rfl, SqL.of (bt5 _ _ upd_same n1 n2), at_of (show x = ((x.toNat : Nat) : Int) by omega) hy, ?_⟩
      refine ⟨_, rfl, rfl, _, _, ty, kd.tup, .inr ⟨_, rfl, _, _, rfl, rfl, .inr ⟨by decide, by decide⟩, _, _, rfl, rfl, _, rfl, ?_⟩⟩
      refine ⟨(y - (if isTup d0 = true then 1 else 0) * 4).toNat, v0, d0, by rw [Int.toNat_of_nonneg f1]; rfl, by omega, hat5, fun v' H6 s6 hat6 => ?_⟩
      exact ⟨v', _, _, _, _, _, _, _, rfl, P5.same s6, parc_nest hdr (by rw [flat_tup]; exact f2), hat6⟩
    · exact ⟨v0, d0, _, _, _, _, _, _, rfl, P4, parc_of hdr, hat4⟩
  rintro σ H4 ⟨v, d, t2, t4, t5, t6, t7, t8, rfl, P4, hp, hat⟩
  have hlen := hp.len
  refine ⟨_, rfl, v, d, rfl, hat, fun _ => ⟨by omega, fun tr H5 s5 ht5 => ?_⟩, fun e => by rw [hp.par] at e; cases e⟩
  refine ⟨StA a p c, ?_, ?_⟩
  · refine ⟨_, rfl, _, rfl, v, d, 20, rfl, At.same s5 _ _ hat, hp.par, by decide, by omega, fun r H6 s6 hr6 => ⟨r, _, rfl, .inl ⟨SqL.of hr6, fun l hl0 => ?_⟩⟩⟩
    have s7 := same_new hl0 (.tup (iv (row d)))
    have ht7 := s7 _ _ (s6 _ _ ht5)
    refine ⟨_, _, .tup (SqT.of ht7) (dp_ints _), .tup (SqT.of upd_same) (dp_ints _), shaped_row _, shaped_row _, _, rfl, ?_⟩
    rw [row_eqv]
    refine ⟨_, rfl, rfl, _, _, .base (.tup ht7), (show kitB "tuple" "tuple" = some true from by decide +kernel), _, rfl, ?_⟩
    have s57 := s5.trans (s6.trans s7)
    refine ⟨_, rfl, tr, d, rfl, ht7, by omega, hp.par, fun v2 H8 s8 hat8 => ⟨_, rfl, v2, v, d, 20, rfl, hat8, At.same (s57.trans s8) _ _ hat, hp.par, by decide, fun H9 s9 => ⟨_, rfl, ?_⟩⟩⟩
    exact ⟨v, d, _, _, _, _, _, _, rfl, P4.same ((s57.trans s8).trans s9), hp, At.same ((s57.trans s8).trans s9) _ _ hat⟩
  clear P4 hat hlen s5 ht5 hp
  rintro σ H4 ⟨v, d, t2, t4, t5, t6, t7, t8, rfl, P4, hp, hat⟩
  have len11 : (11 : Nat) ≤ sizeLine := Nat.le_of_lt (len_line (by decide))
  have len2 : (2 : Nat) ≤ sizeLine := Nat.le_of_lt (len_line (by decide))
  have len1 : (1 : Nat) ≤ sizeLine := Nat.le_of_lt (len_line (by decide))
  have la : (Str.ofString "a").length = 1 := by decide +kernel
  refine ⟨Str.ofString "a", 21, rfl, rfl, by decide, by rw [la]; decide, by rw [la]; decide, ?_⟩
  refine ⟨Str.ofString "a", 20, rfl, rfl, by decide, by rw [la]; decide, by rw [la]; decide, ?_⟩
  refine ⟨Nat.zero_le _, fun l1 h1 => ⟨len1, fun l2 h2 => fun l3 h3 => ⟨rfl, fun v7 H7 s7 a7 => ?_⟩⟩⟩
  have g1 := same_new h1 (.lst [])
  have g2 := same_new h2 (.lst [.int 1])
  have g3 := same_new h3 (.dK [])
  refine ⟨21, .int 0, .int 0, rfl, by decide, (by rw [At]), fun v8 H8 s8 a8 => ⟨Nat.zero_le _, fun q1 hq1 => ⟨20, .ref q1, .tup [], rfl, by decide, At.tup_mk upd_same (Nat.zero_le _) AtL.nil, fun v9 H9 s9 a9 => ?_⟩⟩⟩
  have g9 := same_new hq1 (.tup [])
  refine ⟨20, .int 0, .int 0, rfl, by decide, (by rw [At]), fun v10 H10 s10 a10 => ⟨len11, fun L hL => ?_⟩⟩
  have g11 := same_new hL (.lst [.str (Str.ofString ""), .str (many 21), .str (many 20), .str (Str.ofString "a\n"), .ref l1, .ref l2, .ref l3, v7, v8, v9, v10])
  refine ⟨_, rfl, Nat.zero_le _, fun e1 he1 => ⟨len2, fun u1 hu1 => ⟨len2, fun u2 hu2 => ⟨len2, fun L2 hL2 => ?_⟩⟩⟩⟩
  have g12 := same_new he1 (.lst [])
  have g13 := same_new hu1 (.tup [.int 1, .ref e1])
  have g14 := same_new hu2 (.tup [.str (Str.ofString ""), .int 1])
  have g15 := same_new hL2 (.lst [.ref u1, .ref u2])
  have x11 := g12.trans (g13.trans (g14.trans g15))
  refine ⟨L, L2, _, _, rfl, rfl, x11 _ _ upd_same, upd_same, Nat.le_of_lt (len_line (by show 11 + 2 ≤ 2000000; decide)), fun L3 hL3 => ?_⟩
  have g16 := same_new hL3 (.lst [.str (Str.ofString ""), .str (many 21), .str (many 20), .str (Str.ofString "a\n"), .ref l1, .ref l2, .ref l3, v7, v8, v9, v10, .ref u1, .ref u2])
  have y15 := g15.trans g16
  have y14 := g14.trans y15
  have y13 := g13.trans y14
  have y12 := g12.trans y13
  have y11 := g11.trans y12
  have y10 := s10.trans y11
  have y9 := s9.trans y10
  have yg9 := g9.trans y9
  have y8 := s8.trans yg9
  have y7 := s7.trans y8
  have y3 := g3.trans y7
  have y2 := g2.trans y3
  have y1 := g1.trans y2
  have hall := all_things ⟨_, y2 _ _ upd_same⟩ ⟨_, y3 _ _ upd_same⟩ ⟨_, y7 _ _ upd_same⟩ (At.same y8 _ _ a7) (At.same yg9 _ _ a8) (At.same y10 _ _ a9) (At.same y11 _ _ a10) (y14 _ _ upd_same) ⟨_, y13 _ _ upd_same⟩ (y15 _ _ upd_same)
  have hat1 := At.same y1 _ _ hat
  have PP := P4.same y1
  obtain ⟨nL1, nL2⟩ := bt_ne (o := .lst []) (P4.same (g1.trans (g2.trans (g3.trans (s7.trans (s8.trans (g9.trans (s9.trans (s10.trans (g11.trans x11)))))))))) hL3
  refine ⟨StC a p c, ?_, ?_⟩
  · refine ⟨_, rfl, _, rfl, p, c, 13, rfl, PP, by decide, by decide, fun x H17 x0 x13 bt17 P17 => ?_⟩
    have hx : x.toNat < 13 := by omega
    obtain ⟨tv, htv⟩ : ∃ tv, ([.str (Str.ofString ""), .str (many 21), .str (many 20), .str (Str.ofString "a\n"), .ref l1, .ref l2, .ref l3, v7, v8, v9, v10, .ref u1, .ref u2] : List V)[x.toNat]? = some tv := ⟨_, List.getElem?_eq_getElem hx⟩
    obtain ⟨td, htd, hta⟩ := hall.get htv
    have k17 := Kp.bt PP bt17 P17
    refine ⟨L3, _, x, tv, rfl, rfl, SqL.of (bt17 _ _ upd_same nL1 nL2), at_of (show x = ((x.toNat : Nat) : Int) by omega) htv, ?_⟩
    exact ⟨v, d, tv, td, _, _, _, _, _, rfl, P17, hp, At.kp k17 _ _ hat1, things_ok _ (List.mem_of_getElem? htd), At.kp k17 _ _ hta⟩
  clear hall hat1 PP nL1 nL2 y1 y2 y3 y7 y8 yg9 y9 y10 y11 y12 y13 y14 y15 x11 g1 g2 g3 g9 g11 g12 g13 g14 g15 g16 s7 s8 s9 s10 a7 a8 a9 a10 P4 hat hp
  rintro σ H5 ⟨v, d, tv, td, t2, t4, t5, t7, t8, rfl, P5, hp, hat, hth, hat2⟩
  refine ⟨_, rfl, _, rfl, _, rfl, _, rfl, len2, fun tp htp => ⟨Nat.le_of_lt (len_line (by show 3 ≤ 2000000; decide)), fun LL hLL => ?_⟩⟩
  have s6 := same_new htp (.tup [tv, v])
  have s7 := same_new hLL (.lst [v, tv, .ref tp])
  have s67 := s6.trans s7
  have hpair : At (upd (upd H5 tp (.tup [tv, v])) LL (.lst [v, tv, .ref tp])) (.tup [td, d]) (.ref tp) :=
    At.tup_mk (s7 _ _ upd_same) (by show 2 ≤ 1000000; decide) (AtL.cons (At.same s67 _ _ hat2) (AtL.cons (At.same s67 _ _ hat) AtL.nil))
  refine ⟨LL, rfl, ⟨_, SqL.of upd_same⟩, ?_⟩
  refine for_list (K := K) (a := LL) (xs := [v, tv, .ref tp]) (fun j σ H6 => ∃ t7 t8 : Option V, σ = [some (.ref a), some (.ref p), t2, some v, t4, t5, some tv, t7, t8, none] ∧ Same (upd (upd H5 tp (.tup [tv, v])) LL (.lst [v, tv, .ref tp])) H6)
    ⟨t7, t8, rfl, Same.refl _⟩ (fun j σ H6 _ ⟨_, _, _, s8⟩ => SqL.of (s8 _ _ upd_same)) ?_ ?_
  · rintro j x σ H6 hx ⟨t7, t8, rfl, s8⟩
    obtain ⟨dx, hdx, hok⟩ : ∃ dx, At H6 dx x ∧ OneOk dx := by
      have hj : j < 3 := (List.getElem?_eq_some_iff.mp hx).1
      match j, hj, hx with
      | 0, _, hx =>
        have e : v = x := Option.some.inj hx
        subst e
        exact ⟨d, At.same (s67.trans s8) _ _ hat, one_parc hp⟩
      | 1, _, hx =>
        have e : tv = x := Option.some.inj hx
        subst e
        exact ⟨td, At.same (s67.trans s8) _ _ hat2, one_thing hth⟩
      | 2, _, hx =>
        have e : V.ref tp = x := Option.some.inj hx
        subst e
        exact ⟨.tup [td, d], At.same s8 _ _ hpair, one_pair hth hp⟩
    refine ⟨_, rfl, x, dx, 20, rfl, hdx, by decide, by decide, fun H7 s9 => ?_⟩
    have e20 : parBy sgl dx (20 : Int).toNat = parBy sgn dx 20 := hok.eq
    rw [e20]
    refine ⟨_, rfl, x, dx, rfl, At.same s9 _ _ hdx, fun H8 s10 => ⟨_, rfl, _, rfl, _, rfl, ?_⟩⟩
    have hdx8 := At.same (s9.trans s10) _ _ hdx
    refine ⟨2, rfl, by decide, by decide, fun D hD => ?_⟩
    refine lc_one (zs := [.str (wordOf (parBy sgn dx 20)), .str (wordOf (parBy sgn dx 20))]) (walk_range (lo := 0) (n := 2)) rfl (by decide) hD (fun _ _ => trivial) (fun m H x H' y => by rw [y.1]; exact Same.refl _) (fun m y H9 H10 zz k hz s11 yy kk => ?_) (fun H9 s11 hD9 => ?_)
    · obtain ⟨rfl, rfl⟩ := yy
      have hz' : zz = .str (wordOf (parBy sgn dx 20)) := by
        have hm : m < 2 := (List.getElem?_eq_some_iff.mp hz).1
        match m, hm, hz with
        | 0, _, hz => exact (Option.some.inj hz).symm
        | 1, _, hz => exact (Option.some.inj hz).symm
      subst hz'
      exact ⟨_, rfl, _, rfl, _, x, dx, rfl, At.same s11 _ _ hdx8, hok.len, fun H11 s12 => kk H11 s12⟩
    · refine ⟨len2, fun k1 hk1 => ⟨_, rfl, .inr ⟨_, rfl, k1, _, _, .str (wordOf (parBy sgn dx 20)), rfl, rfl, SqL.of upd_same, ?_, len1, fun k2 hk2 => ?_⟩⟩⟩
      · cases parBy sgn dx 20
        · exact atI_nat (j := 0) rfl
        · exact atI_nat (j := 1) rfl
      refine ⟨k2, 2, _, rfl, rfl, upd_same, by decide, by decide, len2, fun k3 hk3 => ?_⟩
      have z1 := same_new hk1 (.lst [.str (Str.ofString "parcel"), .str (Str.ofString "let")])
      have z2 := same_new hk2 (.lst [.str (wordOf (parBy sgn dx 20))])
      have z3 := same_new hk3 (.lst [.str (wordOf (parBy sgn dx 20)), .str (wordOf (parBy sgn dx 20))])
      refine ⟨.list [.str (wordOf (parBy sgn dx 20)), .str (wordOf (parBy sgn dx 20))], .list [.str (wordOf (parBy sgn dx 20)), .str (wordOf (parBy sgn dx 20))], .lst (SqL.of (z3 _ _ (z2 _ _ (z1 _ _ hD9)))) (.cons (.str _) (.cons (.str _) .nil)), .lst (SqL.of upd_same) (.cons (.str _) (.cons (.str _) .nil)), shaped_two _, shaped_two _, _, rfl, ?_⟩
      rw [two_eqv]
      exact ⟨_, _, rfl, s8.trans (s9.trans (s10.trans (s11.trans (z1.trans (z2.trans z3)))))⟩
  · rintro σ H6 ⟨t7, t8, rfl, s8⟩
    exact ⟨_, _, _, _, _, _, _, rfl, P5.same (s67.trans s8)⟩
end
end KQ
namespace KQ
open PySem PySem.Spec PyProof.Rows L2
/-- the defs as the top has left them -/
structure Defs (K : PySem.W.Frag) (mg : Str → Option Value) : Prop where
  d24 : DefAt K mg "is_row" sIsRow ["thing"]
  d25 : DefAt K mg "check_row" sCheckRow ["thing"]
  d26 : DefAt K mg "is_sign" sIsSign ["number"]
  d27 : DefAt K mg "is_short_string" sShort ["thing"]
  d28 : DefAt K mg "is_parcel_deep" sDeep ["thing", "left"]
  d29 : DefAt K mg "is_parcel" sIsParcel ["thing"]
  d30 : DefAt K mg "whole" sWhole ["number"]
  d31 : DefAt K mg "bytes_of" sBytes ["parcel"]
  d32 : DefAt K mg "row_of" sRowOf ["parcel"]
  d34 : DefAt K mg "parcel_of" sParcelOf ["row"]
  d35 : DefAt K mg "raw_mark" sRaw ["row"]
  d36 : DefAt K mg "seal_of" sSeal ["row"]
  d37 : DefAt K mg "sealed" sSealed ["parcel"]
  d39 : DefAt K mg "_law_pool" sPoolL ["_law_script"]
  d40 : DefAt K mg "_law_draw" sDrawL ["_law_pool_here", "_law_many"]
  d41 : DefAt K mg "_law_deep" sDeepL []
  d42 : DefAt K mg "_law_flag" sFlagL ["_law_thing", "_law_due"]
  d43 : DefAt K mg "_law_whole" sWholeL ["_law_number_here"]
  d44 : DefAt K mg "_law_bytes" sBytesL ["_law_parcel_here"]
  d45 : DefAt K mg "_law_number" sNumL ["_law_pool_here"]
  d46 : DefAt K mg "_law_parcel" sParL ["_law_pool_here", "_law_deep_here"]
  d47 : DefAt K mg "_law_nested" sNestL ["_law_many", "_law_inner"]
  d48 : DefAt K mg "_law_same" sSameL ["_law_one", "_law_other"]
  d49 : DefAt K mg "_law_is_parcel" sIsPL ["_law_thing", "_law_left"]
  d50 : DefAt K mg "_law_word" sWordL ["_law_which", "_law_thing"]
section
variable {P : Program} {w : World} {K : PySem.W.Frag} {mg : Str → Option Value} {base : Heap} {R N Qe : Addr}
theorem law_ok {fa : Addr} {fda : FuncData} (F : Fun K "law" "law" sLaw fa fda) (b : Bu mg) (k : Cn mg) (T : Cl K mg R N Qe) (d : Defs K mg) : FnOk P w K mg base CX0 46 fa fda ["_law_script"] (spLaw K) := by
  have c26 : Cal P w K mg base CX0 1 "is_sign" ["number"] spIsSign := ok_isSign d.d26 k
  have c27 := ok_short d.d27 b k c26
  have c28 := all_deep d.d28 b c27 21
  have c29 := ok_isParcel d.d29 k c28
  have c30 : Cal P w K mg base CX0 1 "whole" ["number"] spWhole := ok_whole d.d30 k
  have c31 := all_bytes d.d31 b k c30 21
  have c32 := ok_rowOf d.d32 b T c29 c31
  have c35 : Cal P w K mg base CX0 1 "raw_mark" ["row"] spRaw := ok_raw d.d35 k
  have c36 := ok_seal d.d36 b k c35
  have c37 := ok_sealed d.d37 c32 c36
  have c24 : Cal P w K mg base CX0 1 "is_row" ["thing"] spIsRow := ok_isRow d.d24 b k
  have c25 := ok_checkRow d.d25 c24
  have mN : Met P w K mg base CX0 1 R "next_byte" ["self"] (spNext R) := ok_next T.mNext b T
  have mW : Met P w K mg base CX0 1 R "read_whole" ["self"] (spReadW R) := ok_readW T.mWhole b k T
  have mS := ok_readS T.mString b k T mN mW c26
  have mP := all_readP T.mSeveral T.mParcel b k T mN mW mS 21
  have c34 := ok_parcelOf d.d34 b k T c25 mP
  have c39 : Cal P w K mg base CX0 1 "_law_pool" ["_law_script"] (spPoolL K) := ok_poolL d.d39 b
  have c40 : Cal P w K mg base CX0 1 "_law_draw" ["_law_pool_here", "_law_many"] spDrawL := ok_drawL d.d40 b
  have c41 : Cal P w K mg base CX0 1 "_law_deep" [] spDeepL := ok_deepL d.d41 b
  have c42 : Cal P w K mg base CX0 1 "_law_flag" ["_law_thing", "_law_due"] spFlagL := ok_flagL d.d42 b
  have c43 : Cal P w K mg base CX0 1 "_law_whole" ["_law_number_here"] spWhole := ok_wholeL d.d43
  have c44 := all_bytesL d.d44 b c43 21
  have c45 := ok_numL d.d45 b c40
  have c46 := all_parL d.d46 b c40 c45 4
  have c47 : Cal P w K mg base CX0 1 "_law_nested" ["_law_many", "_law_inner"] spNestL := ok_nestL d.d47 b
  have c48 : Cal P w K mg base CX0 21 "_law_same" ["_law_one", "_law_other"] (spSameL 21) := all_sameL d.d48 b 21
  have c49 : Cal P w K mg base CX0 21 "_law_is_parcel" ["_law_thing", "_law_left"] (spIsPL 21) := all_isPL d.d49 b 21
  have c50 := ok_wordL d.d50 b T c32 c37
  exact ok_law F b c39 c46 c40 c47 c32 c44 c48 c34 c41 c49 c42 c29 c50
end
theorem retr_mk {K : PySem.W.Frag} {R f : Addr} {oc : Value} {od an : Option Addr} {osl : Array (Option Value)} {kV doc pm cdv ct : Value}
    (a : PySem.W.findIn K (.ref R) "__init__" = some (some (.ref f))) (i : PySem.W.isFn K (.ref f) = true) (l : K.lookup f = some ⟨oc, od, .func (PySem.W.fnOf "__init__" "RowReader.__init__" (defArgs sInit) (defBody sInit) (defScope sInit) .none kV doc pm an cdv ct), osl⟩)
    (c : PySem.W.codeIn K cdv "RowReader.__init__" = true) (k : PySem.W.keepIn K (.ref f) = true) (mk : PySem.W.makesIn K R = true) (kc : PySem.W.keepIn K (.ref R) = true) :
    ∃ f fd, Fun K "__init__" "RowReader.__init__" (inClass (topS 33) 0) f fd ∧ Mk K R f ∧ Binds K fd ["self", "row"] [] :=
  ⟨f, _, fun_mk l c k, ⟨mk, a, i, kc⟩, (fun_mk (st := sInit) l c k).binds fun _ _ _ _ _ _ us hl => match us, hl with | [_, _], _ => rfl⟩
theorem cl_mk {K : PySem.W.Frag} {h : Heap} {mg : Str → Option Value} (X : K.In h) (G : h.Ns mainGlobals mg) {R N Q : Addr}
    (gR : PySem.W.nsIn K mainGlobals "RowReader" = some (some (.ref R))) (gN : PySem.W.nsIn K mainGlobals "NoParcel" = some (some (.ref N))) (gQ : PySem.W.nsIn K mainGlobals "QuietError" = some (some (.ref Q)))
    (pg : PySem.W.plainGet K R Str.empty = true) (hd : PySem.W.hasDictIn K R = true) (po : PySem.W.plainOver K R = true) (sa : PySem.W.findIn K (.ref R) "__setattr__" = some (some (.builtin "object.__setattr__")))
    (nRow : PySem.W.findIn K (.ref R) "row" = some none) (nAt : PySem.W.findIn K (.ref R) "at" = some none) (mkR : PySem.W.makesIn K R = true) (kR : PySem.W.keepIn K (.ref R) = true)
    (exN : PySem.W.excIn K N bmVE "ValueError.__new__" = true) (kN : PySem.W.keepIn K (.ref N) = true) (bN : PySem.W.subIn K (.ref N) (.type "BaseException") = some true) (tN : PySem.W.typeIn K (.ref N) = some (.type "type"))
    (bQ : PySem.W.subIn K (.ref Q) (.type "BaseException") = some true) (dQ : PySem.W.hasDictIn K Q = true) (tQ : PySem.W.typeIn K (.ref Q) = some (.type "type")) (sNQ : PySem.W.subIn K (.ref N) (.ref Q) = some true)
    (e1 : PySem.W.findIn K (.ref N) "__getattribute__" = some (some (.builtin "BaseException.__getattribute__"))) (e2 : PySem.W.findIn K (.ref N) "__getattr__" = some none) (e4 : PySem.W.hasDictIn K N = true)
    (e5 : PySem.W.findIn K (.ref N) "__class__" = some (some (.builtin "object.__class__"))) (e6 : PySem.W.specialIn K (.builtin "object.__class__") "__get__" = some (some (.builtin "getset_descriptor.__get__")))
    (e7 : PySem.W.takesIn K (.builtin "object.__class__") = some true) (e8 : PySem.W.mroIn K N (.type "object") = some true)
    (oneN : PySem.W.kitOne K (.ref N) (.ref N) = some true) (oneV : PySem.W.kitOne K (.ref N) (.type "ValueError") = some true)
    (retr : ∃ f fd, Fun K "__init__" "RowReader.__init__" (inClass (topS 33) 0) f fd ∧ Mk K R f ∧ Binds K fd ["self", "row"] [])
    (mNext : MetAt K R "next_byte" "RowReader.next_byte" (inClass (topS 33) 1) ["self"]) (mWhole : MetAt K R "read_whole" "RowReader.read_whole" (inClass (topS 33) 2) ["self"]) (mString : MetAt K R "read_string" "RowReader.read_string" (inClass (topS 33) 3) ["self"])
    (mSeveral : MetAt K R "read_several" "RowReader.read_several" (inClass (topS 33) 4) ["self", "left"]) (mParcel : MetAt K R "read_parcel" "RowReader.read_parcel" (inClass (topS 33) 5) ["self", "left"]) : Cl K mg R N Q :=
  { cl := ⟨pg, hd, po, sa⟩, nRow := nRow, nAt := nAt, gR := PySem.W.mg_of X G gR, mkR := mkR, kR := kR, gN := PySem.W.mg_of X G gN, gQ := PySem.W.mg_of X G gQ, exN := exN, kN := kN, bN := bN, tN := tN, bQ := bQ, dQ := dQ, tQ := tQ, sNQ := sNQ,
    ec := ⟨e1, e2, bN, e4, e5, e6, e7, e8⟩, oneN := oneN, oneV := oneV, retr := retr, mNext := mNext, mWhole := mWhole, mString := mString, mSeveral := mSeveral, mParcel := mParcel }
theorem final_mk {P : Program} {w : World} {K : PySem.W.Frag} {h : Heap} {mg : Str → Option Value} {fa : Addr} (X : K.In h) (G : h.Ns mainGlobals mg) (hfa : mg "law" = some (.ref fa)) {R N Q f : Addr} (b : Bu mg) (k : Cn mg) (T : Cl K mg R N Q) (d : Defs K mg)
    {oc : Value} {od an : Option Addr} {osl : Array (Option Value)} {kV doc pm cdv ct : Value} (a : PySem.W.nsIn K mainGlobals "law" = some (some (.ref f)))
    (l : K.lookup f = some ⟨oc, od, .func (PySem.W.fnOf "law" "law" (defArgs sLaw) (defBody sLaw) (defScope sLaw) .none kV doc pm an cdv ct), osl⟩) (c : PySem.W.codeIn K cdv "law" = true) (kk : PySem.W.keepIn K (.ref f) = true) :
    ∃ fd : FuncData, (∀ (s : Shared) (u : Value), BindsTo s fd ⟨[u], []⟩ [("_law_script", u)]) ∧ ∀ base : Heap, K.In base → base.Ns mainGlobals mg → FnOk P w K mg base CX0 46 fa fd ["_law_script"] (spLaw K) := by
  have e := hfa.symm.trans (PySem.W.mg_of X G a)
  cases e
  exact ⟨_, fun s u => .of_eq rfl, fun base _ _ => law_ok (fun_mk (st := sLaw) l c kk) b k T d⟩
/-- the end: the law's promise, from what the top has left; the loose constants are told, too -/
theorem walkX {l : PySem.W.OpenLaw} {q : Program} {loose : List Str} {lv : List (Str × PySem.W.WData)} {YP : World → Heap → Prop} {d : DefRec} {K : Params → PySem.W.Frag} (hn : l.most = some 63) (hdf : d.params.defaults = [])
    (hY : ∀ (w : World) (h : Heap), YP w h → (K w.params).In h)
    (F : ∀ (w : World) (mg : Str → Option Value) (fa : Addr) (h : Heap), (K w.params).In h → h.Ns mainGlobals mg → PySem.W.LooseAre lv mg h → mg d.name = some (.ref fa) →
      ∃ fd : FuncData, (∀ (s : Shared) (u : Value), BindsTo s fd ⟨[u], []⟩ [("_law_script", u)]) ∧ ∀ base : Heap, (K w.params).In base → base.Ns mainGlobals mg → FnOk l.prog w (K w.params) mg base CX0 46 fa fd ["_law_script"] (spLaw (K w.params))) :
    PySem.W.WalkO q loose (PySem.W.XL q lv) YP l.row.toRowW d [] (fun f vs => PySem.call f vs) := by
  refine Att.attach_call hn hdf fun w s₀ s₁ mg mb fa o pm cd doc a vs ns G Y ho hd hcd hmg hobj hints hlen hg => ?_
  have KX := hY w _ Y
  obtain ⟨fd, hb, hF⟩ := F w mg fa _ KX G.T.g G.X.2 hmg
  exact law_call (CX := CX0) (sp := spLaw (K w.params)) KX G.T.g G.T.b G.T.builtins G.T.nolimit hg hobj hints (Nat.le_trans hlen (by rw [sizeLine_eq]; decide)) ⟨rfl, by decide, by decide⟩ hF hb (fun H hO hS => ⟨a, ns, rfl, hS, hlen, fun _ => rfl⟩) fun H e s' z => z
end KQ
open PySem PySem.W PyProof.Rows
set_option maxRecDepth 100000 in
set_option maxHeartbeats 0 in
theorem PySem.Challenge.cw_knownquiet_k42_whole_rows_of_parcels_holds : PySem.Challenge.rw_knownquiet_k42_whole_rows_of_parcels.Holds := by
  w_on; o_law; k_head; (case hw => w_witness2)
  k_fill
  refine KQ.walkX (l := PySem.Challenge.rw_knownquiet_k42_whole_rows_of_parcels) rfl rfl (fun w h Y => PySem.W.kIn_of Y) ?F
  case F =>
    intro w mg fa h KX G HX hmg
    have b : KQ.Bu mg := {
      isi := PySem.W.mg_none_of KX G (by k_is),
      tup := PySem.W.mg_none_of KX G (by k_is),
      all := PySem.W.mg_none_of KX G (by k_is),
      int := PySem.W.mg_none_of KX G (by k_is),
      bool := PySem.W.mg_none_of KX G (by k_is),
      str := PySem.W.mg_none_of KX G (by k_is),
      ord := PySem.W.mg_none_of KX G (by k_is),
      len := PySem.W.mg_none_of KX G (by k_is),
      range := PySem.W.mg_none_of KX G (by k_is),
      sum := PySem.W.mg_none_of KX G (by k_is),
      abs := PySem.W.mg_none_of KX G (by k_is),
      zip := PySem.W.mg_none_of KX G (by k_is),
      ve := PySem.W.mg_none_of KX G (by k_is) }
    have hmod : ∃ m t, 0 < m ∧ mg "MODULUS" = some (.int m t) := by
      obtain ⟨v, h1, h2⟩ := HX.val _ List.mem_cons_self
      obtain ⟨t, rfl, _⟩ := PySem.W.readsW_int_inv h2
      exact ⟨_, t, by decide, h1⟩
    have k_nothing : ∃ t, mg "NOTHING" = some (.int 0 t) := by
      have y : ∃ v, mg "NOTHING" = some v ∧ ∃ t, v = Value.int 0 t := by
        refine' ⟨_, PySem.W.mg_of KX G ?a, ?b⟩
        (case a => k_is)
        (case b => exact ⟨_, rfl⟩)
      obtain ⟨v, hv, t, ht⟩ := y
      exact ⟨t, ht ▸ hv⟩
    have k_no : ∃ t, mg "NO" = some (.int 1 t) := by
      have y : ∃ v, mg "NO" = some v ∧ ∃ t, v = Value.int 1 t := by
        refine' ⟨_, PySem.W.mg_of KX G ?a, ?b⟩
        (case a => k_is)
        (case b => exact ⟨_, rfl⟩)
      obtain ⟨v, hv, t, ht⟩ := y
      exact ⟨t, ht ▸ hv⟩
    have k_yes : ∃ t, mg "YES" = some (.int 2 t) := by
      have y : ∃ v, mg "YES" = some v ∧ ∃ t, v = Value.int 2 t := by
        refine' ⟨_, PySem.W.mg_of KX G ?a, ?b⟩
        (case a => k_is)
        (case b => exact ⟨_, rfl⟩)
      obtain ⟨v, hv, t, ht⟩ := y
      exact ⟨t, ht ▸ hv⟩
    have k_number : ∃ t, mg "NUMBER" = some (.int 3 t) := by
      have y : ∃ v, mg "NUMBER" = some v ∧ ∃ t, v = Value.int 3 t := by
        refine' ⟨_, PySem.W.mg_of KX G ?a, ?b⟩
        (case a => k_is)
        (case b => exact ⟨_, rfl⟩)
      obtain ⟨v, hv, t, ht⟩ := y
      exact ⟨t, ht ▸ hv⟩
    have k_below : ∃ t, mg "BELOW" = some (.int 4 t) := by
      have y : ∃ v, mg "BELOW" = some v ∧ ∃ t, v = Value.int 4 t := by
        refine' ⟨_, PySem.W.mg_of KX G ?a, ?b⟩
        (case a => k_is)
        (case b => exact ⟨_, rfl⟩)
      obtain ⟨v, hv, t, ht⟩ := y
      exact ⟨t, ht ▸ hv⟩
    have k_string : ∃ t, mg "STRING" = some (.int 5 t) := by
      have y : ∃ v, mg "STRING" = some v ∧ ∃ t, v = Value.int 5 t := by
        refine' ⟨_, PySem.W.mg_of KX G ?a, ?b⟩
        (case a => k_is)
        (case b => exact ⟨_, rfl⟩)
      obtain ⟨v, hv, t, ht⟩ := y
      exact ⟨t, ht ▸ hv⟩
    have k_several : ∃ t, mg "SEVERAL" = some (.int 6 t) := by
      have y : ∃ v, mg "SEVERAL" = some v ∧ ∃ t, v = Value.int 6 t := by
        refine' ⟨_, PySem.W.mg_of KX G ?a, ?b⟩
        (case a => k_is)
        (case b => exact ⟨_, rfl⟩)
      obtain ⟨v, hv, t, ht⟩ := y
      exact ⟨t, ht ▸ hv⟩
    have k_deep : ∃ t, mg "MOST_DEEP" = some (.int 20 t) := by
      have y : ∃ v, mg "MOST_DEEP" = some v ∧ ∃ t, v = Value.int 20 t := by
        refine' ⟨_, PySem.W.mg_of KX G ?a, ?b⟩
        (case a => k_is)
        (case b => exact ⟨_, rfl⟩)
      obtain ⟨v, hv, t, ht⟩ := y
      exact ⟨t, ht ▸ hv⟩
    have k_most : ∃ t, mg "MOST_SIGNS" = some (.int 20 t) := by
      have y : ∃ v, mg "MOST_SIGNS" = some v ∧ ∃ t, v = Value.int 20 t := by
        refine' ⟨_, PySem.W.mg_of KX G ?a, ?b⟩
        (case a => k_is)
        (case b => exact ⟨_, rfl⟩)
      obtain ⟨v, hv, t, ht⟩ := y
      exact ⟨t, ht ▸ hv⟩
    have k_first : ∃ t, mg "FIRST_SIGN" = some (.int 32 t) := by
      have y : ∃ v, mg "FIRST_SIGN" = some v ∧ ∃ t, v = Value.int 32 t := by
        refine' ⟨_, PySem.W.mg_of KX G ?a, ?b⟩
        (case a => k_is)
        (case b => exact ⟨_, rfl⟩)
      obtain ⟨v, hv, t, ht⟩ := y
      exact ⟨t, ht ▸ hv⟩
    have k_last : ∃ t, mg "LAST_SIGN" = some (.int 126 t) := by
      have y : ∃ v, mg "LAST_SIGN" = some v ∧ ∃ t, v = Value.int 126 t := by
        refine' ⟨_, PySem.W.mg_of KX G ?a, ?b⟩
        (case a => k_is)
        (case b => exact ⟨_, rfl⟩)
      obtain ⟨v, hv, t, ht⟩ := y
      exact ⟨t, ht ▸ hv⟩
    have k_nosign : ∃ t, mg "NO_SIGN" = some (.int 37 t) := by
      have y : ∃ v, mg "NO_SIGN" = some v ∧ ∃ t, v = Value.int 37 t := by
        refine' ⟨_, PySem.W.mg_of KX G ?a, ?b⟩
        (case a => k_is)
        (case b => exact ⟨_, rfl⟩)
      obtain ⟨v, hv, t, ht⟩ := y
      exact ⟨t, ht ▸ hv⟩
    have k_signs : ∃ t, mg "SIGNS" = some (.str KQ.signs t) := by
      have y : ∃ v, mg "SIGNS" = some v ∧ ∃ t, v = Value.str KQ.signs t := by
        refine' ⟨_, PySem.W.mg_of KX G ?a, ?b⟩
        (case a => k_is)
        (case b => exact ⟨_, rfl⟩)
      obtain ⟨v, hv, t, ht⟩ := y
      exact ⟨t, ht ▸ hv⟩
    have k_base : ∃ t, mg "BASE" = some (.int 128 t) := by
      have y : ∃ v, mg "BASE" = some v ∧ ∃ t, v = Value.int 128 t := by
        refine' ⟨_, PySem.W.mg_of KX G ?a, ?b⟩
        (case a => k_is)
        (case b => exact ⟨_, rfl⟩)
      obtain ⟨v, hv, t, ht⟩ := y
      exact ⟨t, ht ▸ hv⟩
    have k_bytes : ∃ t, mg "BYTES" = some (.int 256 t) := by
      have y : ∃ v, mg "BYTES" = some v ∧ ∃ t, v = Value.int 256 t := by
        refine' ⟨_, PySem.W.mg_of KX G ?a, ?b⟩
        (case a => k_is)
        (case b => exact ⟨_, rfl⟩)
      obtain ⟨v, hv, t, ht⟩ := y
      exact ⟨t, ht ▸ hv⟩
    have k_mult : ∃ t, mg "MULTIPLIER" = some (.int 1000003 t) := by
      have y : ∃ v, mg "MULTIPLIER" = some v ∧ ∃ t, v = Value.int 1000003 t := by
        refine' ⟨_, PySem.W.mg_of KX G ?a, ?b⟩
        (case a => k_is)
        (case b => exact ⟨_, rfl⟩)
      obtain ⟨v, hv, t, ht⟩ := y
      exact ⟨t, ht ▸ hv⟩
    have k_sealb : ∃ t, mg "SEAL_BYTES" = some (.int 4 t) := by
      have y : ∃ v, mg "SEAL_BYTES" = some v ∧ ∃ t, v = Value.int 4 t := by
        refine' ⟨_, PySem.W.mg_of KX G ?a, ?b⟩
        (case a => k_is)
        (case b => exact ⟨_, rfl⟩)
      obtain ⟨v, hv, t, ht⟩ := y
      exact ⟨t, ht ▸ hv⟩
    have k : KQ.Cn mg := { nothing := k_nothing, no := k_no, yes := k_yes, number := k_number, below := k_below, string := k_string, several := k_several, deep := k_deep, most := k_most, first := k_first, last := k_last, nosign := k_nosign, signs := k_signs, base := k_base, bytes := k_bytes, mult := k_mult, sealb := k_sealb, modulus := hmod }
    have d24 : KQ.DefAt (L2.KOf KX) mg "is_row" KQ.sIsRow ["thing"] := by
      refine' KQ.defAt_mk KX G ?a ?l ?c ?k ?b
      (case a => k_is); (case l => k_is); (case c => k_is); (case k => k_is)
      (case b => exact fun _ _ _ _ _ _ us hl => match us, hl with | [_], _ => rfl)
    have d25 : KQ.DefAt (L2.KOf KX) mg "check_row" KQ.sCheckRow ["thing"] := by
      refine' KQ.defAt_mk KX G ?a ?l ?c ?k ?b
      (case a => k_is); (case l => k_is); (case c => k_is); (case k => k_is)
      (case b => exact fun _ _ _ _ _ _ us hl => match us, hl with | [_], _ => rfl)
    have d26 : KQ.DefAt (L2.KOf KX) mg "is_sign" KQ.sIsSign ["number"] := by
      refine' KQ.defAt_mk KX G ?a ?l ?c ?k ?b
      (case a => k_is); (case l => k_is); (case c => k_is); (case k => k_is)
      (case b => exact fun _ _ _ _ _ _ us hl => match us, hl with | [_], _ => rfl)
    have d27 : KQ.DefAt (L2.KOf KX) mg "is_short_string" KQ.sShort ["thing"] := by
      refine' KQ.defAt_mk KX G ?a ?l ?c ?k ?b
      (case a => k_is); (case l => k_is); (case c => k_is); (case k => k_is)
      (case b => exact fun _ _ _ _ _ _ us hl => match us, hl with | [_], _ => rfl)
    have d28 : KQ.DefAt (L2.KOf KX) mg "is_parcel_deep" KQ.sDeep ["thing", "left"] := by
      refine' KQ.defAt_mk KX G ?a ?l ?c ?k ?b
      (case a => k_is); (case l => k_is); (case c => k_is); (case k => k_is)
      (case b => exact fun _ _ _ _ _ _ us hl => match us, hl with | [_, _], _ => rfl)
    have d29 : KQ.DefAt (L2.KOf KX) mg "is_parcel" KQ.sIsParcel ["thing"] := by
      refine' KQ.defAt_mk KX G ?a ?l ?c ?k ?b
      (case a => k_is); (case l => k_is); (case c => k_is); (case k => k_is)
      (case b => exact fun _ _ _ _ _ _ us hl => match us, hl with | [_], _ => rfl)
    have d30 : KQ.DefAt (L2.KOf KX) mg "whole" KQ.sWhole ["number"] := by
      refine' KQ.defAt_mk KX G ?a ?l ?c ?k ?b
      (case a => k_is); (case l => k_is); (case c => k_is); (case k => k_is)
      (case b => exact fun _ _ _ _ _ _ us hl => match us, hl with | [_], _ => rfl)
    have d31 : KQ.DefAt (L2.KOf KX) mg "bytes_of" KQ.sBytes ["parcel"] := by
      refine' KQ.defAt_mk KX G ?a ?l ?c ?k ?b
      (case a => k_is); (case l => k_is); (case c => k_is); (case k => k_is)
      (case b => exact fun _ _ _ _ _ _ us hl => match us, hl with | [_], _ => rfl)
    have d32 : KQ.DefAt (L2.KOf KX) mg "row_of" KQ.sRowOf ["parcel"] := by
      refine' KQ.defAt_mk KX G ?a ?l ?c ?k ?b
      (case a => k_is); (case l => k_is); (case c => k_is); (case k => k_is)
      (case b => exact fun _ _ _ _ _ _ us hl => match us, hl with | [_], _ => rfl)
    have d34 : KQ.DefAt (L2.KOf KX) mg "parcel_of" KQ.sParcelOf ["row"] := by
      refine' KQ.defAt_mk KX G ?a ?l ?c ?k ?b
      (case a => k_is); (case l => k_is); (case c => k_is); (case k => k_is)
      (case b => exact fun _ _ _ _ _ _ us hl => match us, hl with | [_], _ => rfl)
    have d35 : KQ.DefAt (L2.KOf KX) mg "raw_mark" KQ.sRaw ["row"] := by
      refine' KQ.defAt_mk KX G ?a ?l ?c ?k ?b
      (case a => k_is); (case l => k_is); (case c => k_is); (case k => k_is)
      (case b => exact fun _ _ _ _ _ _ us hl => match us, hl with | [_], _ => rfl)
    have d36 : KQ.DefAt (L2.KOf KX) mg "seal_of" KQ.sSeal ["row"] := by
      refine' KQ.defAt_mk KX G ?a ?l ?c ?k ?b
      (case a => k_is); (case l => k_is); (case c => k_is); (case k => k_is)
      (case b => exact fun _ _ _ _ _ _ us hl => match us, hl with | [_], _ => rfl)
    have d37 : KQ.DefAt (L2.KOf KX) mg "sealed" KQ.sSealed ["parcel"] := by
      refine' KQ.defAt_mk KX G ?a ?l ?c ?k ?b
      (case a => k_is); (case l => k_is); (case c => k_is); (case k => k_is)
      (case b => exact fun _ _ _ _ _ _ us hl => match us, hl with | [_], _ => rfl)
    have d39 : KQ.DefAt (L2.KOf KX) mg "_law_pool" KQ.sPoolL ["_law_script"] := by
      refine' KQ.defAt_mk KX G ?a ?l ?c ?k ?b
      (case a => k_is); (case l => k_is); (case c => k_is); (case k => k_is)
      (case b => exact fun _ _ _ _ _ _ us hl => match us, hl with | [_], _ => rfl)
    have d40 : KQ.DefAt (L2.KOf KX) mg "_law_draw" KQ.sDrawL ["_law_pool_here", "_law_many"] := by
      refine' KQ.defAt_mk KX G ?a ?l ?c ?k ?b
      (case a => k_is); (case l => k_is); (case c => k_is); (case k => k_is)
      (case b => exact fun _ _ _ _ _ _ us hl => match us, hl with | [_, _], _ => rfl)
    have d41 : KQ.DefAt (L2.KOf KX) mg "_law_deep" KQ.sDeepL [] := by
      refine' KQ.defAt_mk KX G ?a ?l ?c ?k ?b
      (case a => k_is); (case l => k_is); (case c => k_is); (case k => k_is)
      (case b => exact fun _ _ _ _ _ _ us hl => match us, hl with | [], _ => rfl)
    have d42 : KQ.DefAt (L2.KOf KX) mg "_law_flag" KQ.sFlagL ["_law_thing", "_law_due"] := by
      refine' KQ.defAt_mk KX G ?a ?l ?c ?k ?b
      (case a => k_is); (case l => k_is); (case c => k_is); (case k => k_is)
      (case b => exact fun _ _ _ _ _ _ us hl => match us, hl with | [_, _], _ => rfl)
    have d43 : KQ.DefAt (L2.KOf KX) mg "_law_whole" KQ.sWholeL ["_law_number_here"] := by
      refine' KQ.defAt_mk KX G ?a ?l ?c ?k ?b
      (case a => k_is); (case l => k_is); (case c => k_is); (case k => k_is)
      (case b => exact fun _ _ _ _ _ _ us hl => match us, hl with | [_], _ => rfl)
    have d44 : KQ.DefAt (L2.KOf KX) mg "_law_bytes" KQ.sBytesL ["_law_parcel_here"] := by
      refine' KQ.defAt_mk KX G ?a ?l ?c ?k ?b
      (case a => k_is); (case l => k_is); (case c => k_is); (case k => k_is)
      (case b => exact fun _ _ _ _ _ _ us hl => match us, hl with | [_], _ => rfl)
    have d45 : KQ.DefAt (L2.KOf KX) mg "_law_number" KQ.sNumL ["_law_pool_here"] := by
      refine' KQ.defAt_mk KX G ?a ?l ?c ?k ?b
      (case a => k_is); (case l => k_is); (case c => k_is); (case k => k_is)
      (case b => exact fun _ _ _ _ _ _ us hl => match us, hl with | [_], _ => rfl)
    have d46 : KQ.DefAt (L2.KOf KX) mg "_law_parcel" KQ.sParL ["_law_pool_here", "_law_deep_here"] := by
      refine' KQ.defAt_mk KX G ?a ?l ?c ?k ?b
      (case a => k_is); (case l => k_is); (case c => k_is); (case k => k_is)
      (case b => exact fun _ _ _ _ _ _ us hl => match us, hl with | [_, _], _ => rfl)
    have d47 : KQ.DefAt (L2.KOf KX) mg "_law_nested" KQ.sNestL ["_law_many", "_law_inner"] := by
      refine' KQ.defAt_mk KX G ?a ?l ?c ?k ?b
      (case a => k_is); (case l => k_is); (case c => k_is); (case k => k_is)
      (case b => exact fun _ _ _ _ _ _ us hl => match us, hl with | [_, _], _ => rfl)
    have d48 : KQ.DefAt (L2.KOf KX) mg "_law_same" KQ.sSameL ["_law_one", "_law_other"] := by
      refine' KQ.defAt_mk KX G ?a ?l ?c ?k ?b
      (case a => k_is); (case l => k_is); (case c => k_is); (case k => k_is)
      (case b => exact fun _ _ _ _ _ _ us hl => match us, hl with | [_, _], _ => rfl)
    have d49 : KQ.DefAt (L2.KOf KX) mg "_law_is_parcel" KQ.sIsPL ["_law_thing", "_law_left"] := by
      refine' KQ.defAt_mk KX G ?a ?l ?c ?k ?b
      (case a => k_is); (case l => k_is); (case c => k_is); (case k => k_is)
      (case b => exact fun _ _ _ _ _ _ us hl => match us, hl with | [_, _], _ => rfl)
    have d50 : KQ.DefAt (L2.KOf KX) mg "_law_word" KQ.sWordL ["_law_which", "_law_thing"] := by
      refine' KQ.defAt_mk KX G ?a ?l ?c ?k ?b
      (case a => k_is); (case l => k_is); (case c => k_is); (case k => k_is)
      (case b => exact fun _ _ _ _ _ _ us hl => match us, hl with | [_, _], _ => rfl)
    have d : KQ.Defs (L2.KOf KX) mg := ⟨d24, d25, d26, d27, d28, d29, d30, d31, d32, d34, d35, d36, d37, d39, d40, d41, d42, d43, d44, d45, d46, d47, d48, d49, d50⟩
    have T : ∃ R N Q, KQ.Cl (L2.KOf KX) mg R N Q := by
      refine' ⟨_, _, _, KQ.cl_mk KX G ?gR ?gN ?gQ ?pg ?hd ?po ?sa ?nRow ?nAt ?mkR ?kR ?exN ?kN ?bN ?tN ?bQ ?dQ ?tQ ?sNQ ?e1 ?e2 ?e4 ?e5 ?e6 ?e7 ?e8 ?oneN ?oneV ?retr ?mNext ?mWhole ?mString ?mSeveral ?mParcel⟩
      (case gR => k_is)
      (case gN => k_is)
      (case gQ => k_is)
      (case pg => k_is)
      (case hd => k_is)
      (case po => k_is)
      (case sa => k_is)
      (case nRow => k_is)
      (case nAt => k_is)
      (case mkR => k_is)
      (case kR => k_is)
      (case exN => k_exc)
      (case kN => k_is)
      (case bN => k_is)
      (case tN => k_is)
      (case bQ => k_is)
      (case dQ => k_is)
      (case tQ => k_is)
      (case sNQ => first | k_is | rfl | (with_unfolding_all rfl))
      (case e1 => k_is)
      (case e2 => k_is)
      (case e4 => k_is)
      (case e5 => k_is)
      (case e6 => k_is)
      (case e7 => k_is)
      (case e8 => k_is)
      (case oneN => first | k_is | rfl | (with_unfolding_all rfl))
      (case oneV => first | k_is | rfl | (with_unfolding_all rfl))
      (case retr =>
        refine' KQ.retr_mk ?a ?i ?l ?c ?k ?mk ?kc
        (case a => k_is); (case i => k_is); (case l => k_is); (case c => k_is); (case k => k_is); (case mk => k_is); (case kc => k_is))
      (case mNext =>
        refine' KQ.metAt_mk ?a ?i ?l ?c ?k ?b
        (case a => k_is); (case i => k_is); (case l => k_is); (case c => k_is); (case k => k_is)
        (case b => exact fun _ _ _ _ _ _ us hl => match us, hl with | [_], _ => rfl))
      (case mWhole =>
        refine' KQ.metAt_mk ?a ?i ?l ?c ?k ?b
        (case a => k_is); (case i => k_is); (case l => k_is); (case c => k_is); (case k => k_is)
        (case b => exact fun _ _ _ _ _ _ us hl => match us, hl with | [_], _ => rfl))
      (case mString =>
        refine' KQ.metAt_mk ?a ?i ?l ?c ?k ?b
        (case a => k_is); (case i => k_is); (case l => k_is); (case c => k_is); (case k => k_is)
        (case b => exact fun _ _ _ _ _ _ us hl => match us, hl with | [_], _ => rfl))
      (case mSeveral =>
        refine' KQ.metAt_mk ?a ?i ?l ?c ?k ?b
        (case a => k_is); (case i => k_is); (case l => k_is); (case c => k_is); (case k => k_is)
        (case b => exact fun _ _ _ _ _ _ us hl => match us, hl with | [_, _], _ => rfl))
      (case mParcel =>
        refine' KQ.metAt_mk ?a ?i ?l ?c ?k ?b
        (case a => k_is); (case i => k_is); (case l => k_is); (case c => k_is); (case k => k_is)
        (case b => exact fun _ _ _ _ _ _ us hl => match us, hl with | [_, _], _ => rfl))
    obtain ⟨R, N, Q, T⟩ := T
    refine' KQ.final_mk KX G hmg b k T d ?a ?l ?c ?k
    (case a => k_is); (case l => k_is); (case c => k_is); (case k => k_is)
#print axioms PySem.Challenge.cw_knownquiet_k42_whole_rows_of_parcels_holds
