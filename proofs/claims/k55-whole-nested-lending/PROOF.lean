import PyProof.Rows.All
import Wide.All
import OpenK.AllK
import Wide.FinOn
import PyProof.EqAt
import PyProof.EqKinds
import PyProof.TupleCall
import KE.GoesMore
import HandS.ForMost
import HandS.Walk
import HandS.Zip
import HandS.More
import HandS.Style
import HandS.TupAny
import HandS.IsInst
import HandS.Defaults
import HandS.Property
import HandS.HeadHook1
import HandS.HeadHook2
import PySem.Challenge.RW_brimful_k55_whole_nested_lending
import HandS.HeadHook3
import KE.KStateDown
import HandS.Ends
import HandS.Head0
import HandS.Head1
import HandS.Head2
import HandS.HeadEnd
import HandS.Head3
import Lean
import HandS.Words
import HandS.WordsExc
set_option Elab.async false
set_option linter.all false
set_option maxRecDepth 100000
set_option maxHeartbeats 4000000
namespace BF
/-! ### congruence -/
def Cg (m a b : Int) : Prop := a % m = b % m
theorem Cg.rfl' {m a : Int} : Cg m a a := Eq.refl _
theorem Cg.symm {m a b : Int} (h : Cg m a b) : Cg m b a := Eq.symm h
theorem Cg.trans {m a b c : Int} (h : Cg m a b) (k : Cg m b c) : Cg m a c := Eq.trans h k
theorem Cg.add {m a b c d : Int} (h : Cg m a b) (k : Cg m c d) : Cg m (a + c) (b + d) := by
  unfold Cg at *
  rw [Int.add_emod, h, k, ← Int.add_emod]
theorem Cg.mul {m a b c d : Int} (h : Cg m a b) (k : Cg m c d) : Cg m (a * c) (b * d) := by
  unfold Cg at *
  rw [Int.mul_emod, h, k, ← Int.mul_emod]
theorem Cg.neg {m a b : Int} (h : Cg m a b) : Cg m (-a) (-b) := by
  have := Cg.mul (m := m) (a := -1) (b := -1) Cg.rfl' h
  simpa using this
theorem Cg.sub {m a b c d : Int} (h : Cg m a b) (k : Cg m c d) : Cg m (a - c) (b - d) := by
  have := h.add k.neg
  simpa [Int.sub_eq_add_neg] using this
theorem Cg.mod {m a : Int} : Cg m (a % m) a := Int.emod_emod _ _
theorem Cg.of {m a b : Int} (h : a = b) : Cg m a b := by rw [h]; exact Cg.rfl'
theorem Cg.emod {m a b : Int} (h : Cg m a b) : a % m = b % m := h
theorem Cg.lt {m a b : Int} (h : Cg m a b) (ha : 0 ≤ a) (ha2 : a < m) (hb : 0 ≤ b) (hb2 : b < m) : a = b := by
  have h' : a % m = b % m := h
  rwa [Int.emod_eq_of_lt ha ha2, Int.emod_eq_of_lt hb hb2] at h'
theorem mod_rng {m : Int} (hm : 2 ≤ m) (a : Int) : 0 ≤ a % m ∧ a % m < m := ⟨Int.emod_nonneg _ (by omega), Int.emod_lt_of_pos _ (by omega)⟩

/-! ### scans -/
def scan {α β : Type} (f : List β → α → β) (l : List α) : List β := l.foldl (fun acc x => acc ++ [f acc x]) []
theorem scan_nil {α β : Type} (f : List β → α → β) : scan f [] = [] := rfl
theorem scan_snoc {α β : Type} (f : List β → α → β) (l : List α) (x : α) : scan f (l ++ [x]) = scan f l ++ [f (scan f l) x] := by
  unfold scan
  rw [List.foldl_append]
  rfl
theorem scan_length {α β : Type} (f : List β → α → β) : ∀ n (l : List α), l.length = n → (scan f l).length = n := by
  intro n
  induction n with
  | zero => intro l h; rw [List.length_eq_zero_iff.mp h]; rfl
  | succ n ih =>
    intro l h
    have hne : l ≠ [] := by intro e; rw [e] at h; cases h
    rw [← List.dropLast_concat_getLast hne, scan_snoc, List.length_append, ih _ (by rw [List.length_dropLast, h]; rfl)]
    rfl
theorem scan_len {α β : Type} (f : List β → α → β) (l : List α) : (scan f l).length = l.length := scan_length f _ l rfl
theorem scan_pre {α β : Type} (f : List β → α → β) (a : List α) : ∀ n (b : List α), b.length = n → ∃ c, scan f (a ++ b) = scan f a ++ c := by
  intro n
  induction n with
  | zero => intro b h; rw [List.length_eq_zero_iff.mp h, List.append_nil]; exact ⟨[], by simp⟩
  | succ n ih =>
    intro b h
    have hne : b ≠ [] := by intro e; rw [e] at h; cases h
    obtain ⟨c, hc⟩ := ih b.dropLast (by rw [List.length_dropLast, h]; rfl)
    rw [← List.dropLast_concat_getLast hne, ← List.append_assoc, scan_snoc, hc, List.append_assoc]
    exact ⟨_, rfl⟩
theorem scan_take {α β : Type} (f : List β → α → β) (l : List α) (k : Nat) (hk : k ≤ l.length) : (scan f l).take k = scan f (l.take k) := by
  obtain ⟨c, hc⟩ := scan_pre f (l.take k) _ (l.drop k) rfl
  rw [List.take_append_drop] at hc
  rw [hc]
  have e : (scan f (l.take k)).length = k := by rw [scan_len, List.length_take]; omega
  exact List.take_left' e
theorem scan_get {α β : Type} (f : List β → α → β) (l : List α) (k : Nat) (x : α) (h : l[k]? = some x) : (scan f l)[k]? = some (f (scan f (l.take k)) x) := by
  obtain ⟨hk, e⟩ := List.getElem?_eq_some_iff.mp h
  have e2 : l.take (k + 1) = l.take k ++ [x] := by rw [List.take_add_one, h]; rfl
  have e3 := scan_take f l (k + 1) hk
  rw [e2, scan_snoc] at e3
  have e4 : ((scan f l).take (k + 1))[k]? = some (f (scan f (l.take k)) x) := by
    rw [e3, List.getElem?_append_right (by rw [scan_len, List.length_take]; omega)]
    have : k - (scan f (l.take k)).length = 0 := by rw [scan_len, List.length_take]; omega
    rw [this]; rfl
  rwa [List.getElem?_take_of_lt (by omega)] at e4
theorem scan_getD_take {α β : Type} (f : List β → α → β) (l : List α) (k i : Nat) (d : β) (hk : k ≤ l.length) (hi : i < k) : (scan f (l.take k)).getD i d = (scan f l).getD i d := by
  rw [← scan_take f l k hk, List.getD_eq_getElem?_getD, List.getD_eq_getElem?_getD, List.getElem?_take_of_lt hi]

/-! ### sources -/
inductive Nd where
  | const (c : Int) | inp (k : Nat) | sum (i j : Nat) | prod (i j : Nat) | scaled (c : Int) (i : Nat) | choose (i j l : Nat)
def Nd.ok (a : Nat) : Nd → Prop
  | .const c => 0 ≤ c ∧ c < 1000000000
  | .inp k => k < 60
  | .sum i j => i < a ∧ j < a
  | .prod i j => i < a ∧ j < a
  | .scaled c i => (0 ≤ c ∧ c < 1000000000) ∧ i < a
  | .choose i j l => i < a ∧ j < a ∧ l < a
structure SrcOk (ns : List Nd) : Prop where
  ne : 1 ≤ ns.length
  le : ns.length ≤ 200
  ok : ∀ (k : Nat) (nd : Nd), ns[k]? = some nd → nd.ok k
def Nd.cst (acc : List Int) : Nd → Int
  | .const _ => 1
  | .inp _ => 1
  | .sum i j => acc.getD i 0 + acc.getD j 0
  | .prod i j => 2 * (acc.getD i 0 + acc.getD j 0)
  | .scaled _ i => acc.getD i 0
  | .choose i j l => acc.getD l 0 + 2 * (acc.getD i 0 + acc.getD j 0 + acc.getD l 0)
def costs (ns : List Nd) : List Int := scan Nd.cst ns
def Nd.nval (m : Int) (g : List Int) (acc : List Int) : Nd → Int
  | .const c => c % m
  | .inp k => g.getD k 0
  | .sum i j => (acc.getD i 0 + acc.getD j 0) % m
  | .prod i j => acc.getD i 0 * acc.getD j 0 % m
  | .scaled c i => c * acc.getD i 0 % m
  | .choose i j l => (acc.getD l 0 + acc.getD i 0 * acc.getD j 0 - acc.getD i 0 * acc.getD l 0) % m
def vals (m : Int) (g : List Int) (ns : List Nd) : List Int := scan (Nd.nval m g) ns
def Nd.wt (acc : List Nat) : Nd → Nat
  | .const _ => 1
  | .inp _ => 1
  | .sum i j => 1 + (acc.getD i 0 + acc.getD j 0)
  | .prod i j => 1 + 2 * (acc.getD i 0 + acc.getD j 0)
  | .scaled _ i => 1 + acc.getD i 0
  | .choose i j l => 1 + (acc.getD l 0 + 2 * (acc.getD i 0 + acc.getD j 0 + acc.getD l 0))
def wts (ns : List Nd) : List Nat := scan Nd.wt ns
def Nd.need : Nd → Nat
  | .inp k => k + 1
  | _ => 0
def needs (ns : List Nd) : Nat := ns.foldl (fun a nd => max a nd.need) 0
theorem le_foldl_max : ∀ (l : List Nd) (a : Nat), a ≤ l.foldl (fun a nd => max a nd.need) a
  | [], a => Nat.le_refl _
  | x :: r, a => Nat.le_trans (Nat.le_max_left _ _) (le_foldl_max r _)
theorem need_le_foldl : ∀ (l : List Nd) (a : Nat) (nd : Nd), nd ∈ l → nd.need ≤ l.foldl (fun a nd => max a nd.need) a
  | x :: r, a, nd, h => by
    rcases List.mem_cons.mp h with e | h
    · subst e
      exact Nat.le_trans (Nat.le_max_right _ _) (le_foldl_max r _)
    · exact need_le_foldl r _ nd h
theorem need_le {ns : List Nd} {nd : Nd} (h : nd ∈ ns) : nd.need ≤ needs ns := need_le_foldl ns 0 nd h
theorem foldl_max_le : ∀ (l : List Nd) (a b : Nat), a ≤ b → (∀ nd ∈ l, nd.need ≤ b) → l.foldl (fun a nd => max a nd.need) a ≤ b
  | [], a, b, h, _ => h
  | x :: r, a, b, h, k => foldl_max_le r _ b (Nat.max_le.mpr ⟨h, k x (List.mem_cons_self ..)⟩) fun nd hn => k nd (List.mem_cons_of_mem _ hn)
theorem needs_le {ns : List Nd} {b : Nat} (k : ∀ nd ∈ ns, nd.need ≤ b) : needs ns ≤ b := foldl_max_le ns 0 b (Nat.zero_le _) k
theorem needs_snoc (ns : List Nd) (nd : Nd) : needs (ns ++ [nd]) = max (needs ns) nd.need := by
  unfold needs
  rw [List.foldl_append]
  rfl
theorem needs_60 {ns : List Nd} (h : SrcOk ns) : needs ns ≤ 60 := needs_le fun nd hn => by
  obtain ⟨k, hk, e⟩ := List.mem_iff_getElem.mp hn
  have := h.ok k nd (by rw [List.getElem?_eq_getElem hk, e])
  cases nd <;> simp [Nd.need, Nd.ok] at * ; omega

section
variable {ns : List Nd} {k : Nat} {nd : Nd} (hs : SrcOk ns) (hk : ns[k]? = some nd)
theorem lt_of_get (hk : ns[k]? = some nd) : k < ns.length := (List.getElem?_eq_some_iff.mp hk).1
def cst (ns : List Nd) (k : Nat) : Int := (costs ns).getD k 0
def wt (ns : List Nd) (k : Nat) : Nat := (wts ns).getD k 0
def val (m : Int) (g : List Int) (ns : List Nd) (k : Nat) : Int := (vals m g ns).getD k 0
/-- the cost of a node, by those of the nodes it names -/
def Nd.cst' (c : Nat → Int) : Nd → Int
  | .const _ => 1
  | .inp _ => 1
  | .sum i j => c i + c j
  | .prod i j => 2 * (c i + c j)
  | .scaled _ i => c i
  | .choose i j l => c l + 2 * (c i + c j + c l)
def Nd.wt' (c : Nat → Nat) : Nd → Nat
  | .const _ => 1
  | .inp _ => 1
  | .sum i j => 1 + (c i + c j)
  | .prod i j => 1 + 2 * (c i + c j)
  | .scaled _ i => 1 + c i
  | .choose i j l => 1 + (c l + 2 * (c i + c j + c l))
def Nd.val' (m : Int) (g : List Int) (c : Nat → Int) : Nd → Int
  | .const x => x % m
  | .inp k => g.getD k 0
  | .sum i j => (c i + c j) % m
  | .prod i j => c i * c j % m
  | .scaled x i => x * c i % m
  | .choose i j l => (c l + c i * c j - c i * c l) % m
theorem cst_eq (hs : SrcOk ns) (hk : ns[k]? = some nd) : cst ns k = nd.cst' (cst ns) := by
  have hl := lt_of_get hk
  have ho := hs.ok k nd hk
  have hg : ∀ i, i < k → (scan Nd.cst (ns.take k)).getD i 0 = cst ns i := fun i hi => scan_getD_take _ ns k i 0 (Nat.le_of_lt hl) hi
  unfold cst costs at *
  rw [List.getD_eq_getElem?_getD, scan_get Nd.cst ns k nd hk]
  show Nd.cst _ nd = _
  cases nd with
  | const c => rfl
  | inp k => rfl
  | sum i j => simp only [Nd.cst, Nd.cst', hg i ho.1, hg j ho.2]
  | prod i j => simp only [Nd.cst, Nd.cst', hg i ho.1, hg j ho.2]
  | scaled c i => simp only [Nd.cst, Nd.cst', hg i ho.2]
  | choose i j l => simp only [Nd.cst, Nd.cst', hg i ho.1, hg j ho.2.1, hg l ho.2.2]
theorem wt_eq (hs : SrcOk ns) (hk : ns[k]? = some nd) : wt ns k = nd.wt' (wt ns) := by
  have hl := lt_of_get hk
  have ho := hs.ok k nd hk
  have hg : ∀ i, i < k → (scan Nd.wt (ns.take k)).getD i 0 = wt ns i := fun i hi => scan_getD_take _ ns k i 0 (Nat.le_of_lt hl) hi
  unfold wt wts at *
  rw [List.getD_eq_getElem?_getD, scan_get Nd.wt ns k nd hk]
  show Nd.wt _ nd = _
  cases nd with
  | const c => rfl
  | inp k => rfl
  | sum i j => simp only [Nd.wt, Nd.wt', hg i ho.1, hg j ho.2]
  | prod i j => simp only [Nd.wt, Nd.wt', hg i ho.1, hg j ho.2]
  | scaled c i => simp only [Nd.wt, Nd.wt', hg i ho.2]
  | choose i j l => simp only [Nd.wt, Nd.wt', hg i ho.1, hg j ho.2.1, hg l ho.2.2]
theorem val_eq {m : Int} {g : List Int} (hs : SrcOk ns) (hk : ns[k]? = some nd) : val m g ns k = nd.val' m g (val m g ns) := by
  have hl := lt_of_get hk
  have ho := hs.ok k nd hk
  have hg : ∀ i, i < k → (scan (Nd.nval m g) (ns.take k)).getD i 0 = val m g ns i := fun i hi => scan_getD_take _ ns k i 0 (Nat.le_of_lt hl) hi
  unfold val vals at *
  rw [List.getD_eq_getElem?_getD, scan_get (Nd.nval m g) ns k nd hk]
  show Nd.nval m g _ nd = _
  cases nd with
  | const c => rfl
  | inp k => rfl
  | sum i j => simp only [Nd.nval, Nd.val', hg i ho.1, hg j ho.2]
  | prod i j => simp only [Nd.nval, Nd.val', hg i ho.1, hg j ho.2]
  | scaled c i => simp only [Nd.nval, Nd.val', hg i ho.2]
  | choose i j l => simp only [Nd.nval, Nd.val', hg i ho.1, hg j ho.2.1, hg l ho.2.2]
end
end BF

namespace BF
/-! ### steps on cells -/
inductive Fac where
  | cell (i : Nat) | inp (k : Nat)
def Fac.val (mem g : List Int) : Fac → Int
  | .cell i => mem.getD i 0
  | .inp k => g.getD k 0
structure Stp where
  tgt : Nat
  co : Int
  fs : List Fac
def tot (m : Int) (mem g : List Int) (co : Int) (fs : List Fac) : Int := fs.foldl (fun t f => t * f.val mem g % m) co
def Stp.run (m : Int) (g mem : List Int) (s : Stp) : List Int := mem.set s.tgt ((mem.getD s.tgt 0 + tot m mem g s.co s.fs) % m)
def runs (m : Int) (g mem : List Int) (ss : List Stp) : List Int := ss.foldl (Stp.run m g) mem
def Fac.ok (n : Nat) (tgt : Nat) : Fac → Prop
  | .cell i => i < 3 ∧ i ≠ tgt
  | .inp k => k < n
structure Stp.Ok (m : Int) (n : Nat) (s : Stp) : Prop where
  t : s.tgt < 3
  c0 : 0 ≤ s.co
  c1 : s.co < m
  fl : s.fs.length ≤ 3
  f : ∀ f ∈ s.fs, f.ok n s.tgt
/-- three cells of numbers -/
structure Mem3 (m : Int) (mem : List Int) : Prop where
  len : mem.length = 3
  rng : ∀ x ∈ mem, 0 ≤ x ∧ x < m
theorem getD_rng {m : Int} {l : List Int} (h : ∀ x ∈ l, 0 ≤ x ∧ x < m) {i : Nat} (hi : i < l.length) : 0 ≤ l.getD i 0 ∧ l.getD i 0 < m := by
  have e : l.getD i 0 = l[i] := by rw [List.getD_eq_getElem?_getD, List.getElem?_eq_getElem hi]; rfl
  rw [e]
  exact h _ (List.getElem_mem hi)
theorem getD_set_eq {l : List Int} {i : Nat} {x : Int} (hi : i < l.length) : (l.set i x).getD i 0 = x := by
  rw [List.getD_eq_getElem?_getD, List.getElem?_set_self hi]; rfl
theorem getD_set_ne {l : List Int} {i j : Nat} {x : Int} (h : i ≠ j) : (l.set i x).getD j 0 = l.getD j 0 := by
  rw [List.getD_eq_getElem?_getD, List.getD_eq_getElem?_getD, List.getElem?_set_ne h]
theorem set_rng {m : Int} {l : List Int} (h : ∀ x ∈ l, 0 ≤ x ∧ x < m) {i : Nat} {y : Int} (hy : 0 ≤ y ∧ y < m) : ∀ x ∈ l.set i y, 0 ≤ x ∧ x < m := fun x hx => by
  rcases List.mem_or_eq_of_mem_set hx with h1 | h1
  · exact h x h1
  · rw [h1]; exact hy
theorem set_getD_self {l : List Int} {i : Nat} : l.set i (l.getD i 0) = l := by
  by_cases hi : i < l.length
  · have e : l.getD i 0 = l[i] := by rw [List.getD_eq_getElem?_getD, List.getElem?_eq_getElem hi]; rfl
    rw [e, List.set_getElem_self]
  · rw [List.set_eq_of_length_le (by omega)]
theorem Stp.run_len {m : Int} {g mem : List Int} {s : Stp} : (s.run m g mem).length = mem.length := by
  unfold Stp.run; rw [List.length_set]
theorem Stp.run_rng {m : Int} (hm : 2 ≤ m) {g mem : List Int} {s : Stp} (h : ∀ x ∈ mem, 0 ≤ x ∧ x < m) : ∀ x ∈ s.run m g mem, 0 ≤ x ∧ x < m := set_rng h (mod_rng hm _)
theorem runs_len {m : Int} {g : List Int} : ∀ (ss : List Stp) (mem : List Int), (runs m g mem ss).length = mem.length
  | [], _ => rfl
  | s :: r, mem => by
    show (runs m g (s.run m g mem) r).length = _
    rw [runs_len r, Stp.run_len]
theorem runs_rng {m : Int} (hm : 2 ≤ m) {g : List Int} : ∀ (ss : List Stp) (mem : List Int), (∀ x ∈ mem, 0 ≤ x ∧ x < m) → ∀ x ∈ runs m g mem ss, 0 ≤ x ∧ x < m
  | [], _, h => h
  | s :: r, mem, h => runs_rng hm r _ (s.run_rng hm h)
theorem runs_app {m : Int} {g mem : List Int} (a b : List Stp) : runs m g mem (a ++ b) = runs m g (runs m g mem a) b := by
  unfold runs; rw [List.foldl_append]
theorem Mem3.run {m : Int} (hm : 2 ≤ m) {g mem : List Int} (h : Mem3 m mem) (s : Stp) : Mem3 m (s.run m g mem) := ⟨by rw [Stp.run_len, h.len], s.run_rng hm h.rng⟩
theorem Mem3.runs {m : Int} (hm : 2 ≤ m) {g mem : List Int} (h : Mem3 m mem) (ss : List Stp) : Mem3 m (runs m g mem ss) := ⟨by rw [runs_len, h.len], runs_rng hm ss _ h.rng⟩

/-! ### the inverse -/
def Stp.inv (m : Int) (s : Stp) : Stp := ⟨s.tgt, (-s.co) % m, s.fs⟩
theorem tot_congr {m : Int} {mem mem' g : List Int} : ∀ (fs : List Fac) (co : Int), (∀ f ∈ fs, f.val mem g = f.val mem' g) → tot m mem g co fs = tot m mem' g co fs
  | [], _, _ => rfl
  | f :: r, co, h => by
    show tot m mem g (co * f.val mem g % m) r = tot m mem' g (co * f.val mem' g % m) r
    rw [h f (List.mem_cons_self ..)]
    exact tot_congr r _ fun x hx => h x (List.mem_cons_of_mem _ hx)
theorem tot_cg {m : Int} {mem g : List Int} : ∀ (fs : List Fac) (a b : Int), Cg m a b → Cg m (tot m mem g a fs) (tot m mem g b fs)
  | [], _, _, h => h
  | f :: r, a, b, h => by
    show Cg m (tot m mem g (a * f.val mem g % m) r) (tot m mem g (b * f.val mem g % m) r)
    exact tot_cg r _ _ (Cg.mod.trans ((h.mul Cg.rfl').trans Cg.mod.symm))
theorem tot_neg {m : Int} {mem g : List Int} : ∀ (fs : List Fac) (a : Int), Cg m (tot m mem g (-a) fs) (-(tot m mem g a fs))
  | [], _ => Cg.rfl'
  | f :: r, a => by
    show Cg m (tot m mem g (-a * f.val mem g % m) r) (-(tot m mem g (a * f.val mem g % m) r))
    refine Cg.trans (tot_cg r _ (-(a * f.val mem g % m)) ?_) (tot_neg r _)
    refine Cg.mod.trans (Cg.trans (Cg.of (by rw [Int.neg_mul])) Cg.mod.symm.neg)
theorem val_set {mem g : List Int} {n t : Nat} {x : Int} {f : Fac} (h : f.ok n t) : f.val (mem.set t x) g = f.val mem g := by
  cases f with
  | cell i => exact getD_set_ne (Ne.symm h.2)
  | inp k => rfl
theorem Stp.inv_run {m : Int} (hm : 2 ≤ m) {n : Nat} {g mem : List Int} {s : Stp} (ho : s.Ok m n) (h : Mem3 m mem) : (s.inv m).run m g (s.run m g mem) = mem := by
  have ht : s.tgt < mem.length := by rw [h.len]; exact ho.t
  unfold Stp.run Stp.inv
  simp only
  rw [getD_set_eq ht, List.set_set, tot_congr (mem' := mem) s.fs _ fun f hf => val_set (ho.f f hf)]
  have e : ((mem.getD s.tgt 0 + tot m mem g s.co s.fs) % m + tot m mem g (-s.co % m) s.fs) % m = mem.getD s.tgt 0 := by
    have r := getD_rng h.rng ht
    refine Cg.lt (m := m) ?_ (mod_rng hm _).1 (mod_rng hm _).2 r.1 r.2
    refine Cg.mod.trans ?_
    refine Cg.trans (Cg.add Cg.mod ((tot_cg s.fs _ _ Cg.mod).trans (tot_neg s.fs _))) (Cg.of (by omega))
  rw [e, set_getD_self]
theorem runs_inv {m : Int} (hm : 2 ≤ m) {n : Nat} {g : List Int} : ∀ (ss : List Stp) (mem : List Int), (∀ s ∈ ss, s.Ok m n) → Mem3 m mem → runs m g (runs m g mem ss) (ss.reverse.map (Stp.inv m)) = mem
  | [], _, _, _ => rfl
  | s :: r, mem, ho, h => by
    have h1 := runs_inv hm (g := g) r (s.run m g mem) (fun x hx => ho x (List.mem_cons_of_mem _ hx)) (h.run hm s)
    rw [List.reverse_cons, List.map_append, runs_app]
    show runs m g (runs m g (runs m g (s.run m g mem) r) (r.reverse.map (Stp.inv m))) [s.inv m] = mem
    rw [h1]
    exact s.inv_run hm (ho s (List.mem_cons_self ..)) h
theorem Stp.inv_ok {m : Int} (hm : 2 ≤ m) {n : Nat} {s : Stp} (ho : s.Ok m n) : (s.inv m).Ok m n := ⟨ho.t, (mod_rng hm _).1, (mod_rng hm _).2, ho.fl, ho.f⟩

/-! ### tasks -/
structure Task where
  node : Nat
  tgt : Nat
  co : Int
  fac : Option Nat
  spare : Nat
structure Task.Ok (m : Int) (k : Nat) (t : Task) : Prop where
  nd : t.node < k
  tl : t.tgt < 3
  s : t.spare < 3
  ts : t.tgt ≠ t.spare
  c0 : 0 ≤ t.co
  c1 : t.co < m
  f : ∀ u, t.fac = some u → u < 3 ∧ u ≠ t.tgt ∧ u ≠ t.spare
def fv (mem : List Int) : Option Nat → Int
  | none => 1
  | some u => mem.getD u 0
def Task.facs (t : Task) : List Fac := match t.fac with
  | none => []
  | some u => [.cell u]
/-- what a task is to do -/
def Task.eff (m : Int) (v : Nat → Int) (mem : List Int) (t : Task) : List Int := mem.set t.tgt ((mem.getD t.tgt 0 + t.co * v t.node * fv mem t.fac) % m)
def effs (m : Int) (v : Nat → Int) (mem : List Int) (ts : List Task) : List Int := ts.foldl (Task.eff m v) mem
theorem effs_app {m : Int} {v : Nat → Int} {mem : List Int} (a b : List Task) : effs m v mem (a ++ b) = effs m v (effs m v mem a) b := by
  unfold effs; rw [List.foldl_append]
theorem Mem3.eff {m : Int} (hm : 2 ≤ m) {v : Nat → Int} {mem : List Int} (h : Mem3 m mem) (t : Task) : Mem3 m (t.eff m v mem) := ⟨by unfold Task.eff; rw [List.length_set, h.len], set_rng h.rng (mod_rng hm _)⟩
theorem Mem3.effs {m : Int} (hm : 2 ≤ m) {v : Nat → Int} : ∀ (ts : List Task) (mem : List Int), Mem3 m mem → Mem3 m (effs m v mem ts)
  | [], _, h => h
  | t :: r, mem, h => Mem3.effs hm r _ (h.eff hm t)
/-- the leaf's step -/
def leaf (m : Int) (t : Task) : Nd → Stp
  | .const c => ⟨t.tgt, t.co * c % m, t.facs⟩
  | .inp k => ⟨t.tgt, t.co, t.facs ++ [.inp k]⟩
  | _ => ⟨0, 0, []⟩
def Task.used (t : Task) : Nat := match t.fac with
  | none => 3 - t.tgt - t.spare
  | some u => u
/-- the tasks of one pass, as product_tasks makes them -/
def pass (m : Int) (sg : Int) (first second : List (Int × Nat)) (t : Task) : List Task :=
  first.map (fun p => ⟨p.2, t.tgt, sg * p.1 * t.co % m, some t.spare, t.used⟩) ++ second.map (fun p => ⟨p.2, t.spare, -sg * p.1 % m, t.fac, t.tgt⟩)
def prodTasks (m : Int) (first second : List (Int × Nat)) (t : Task) : List Task := pass m (-1) first second t ++ pass m 1 first second t
def inner (m : Int) (t : Task) : Nd → List Task
  | .scaled c i => [⟨i, t.tgt, t.co * c % m, t.fac, t.spare⟩]
  | .sum i j => [⟨i, t.tgt, t.co, t.fac, t.spare⟩, ⟨j, t.tgt, t.co, t.fac, t.spare⟩]
  | .prod i j => prodTasks m [(1, i)] [(1, j)] t
  | .choose i j l => ⟨l, t.tgt, t.co, t.fac, t.spare⟩ :: prodTasks m [(1, i)] [(1, j), (-1, l)] t
  | _ => []
theorem used_ok {m : Int} {k : Nat} {t : Task} (h : t.Ok m k) : t.used < 3 ∧ t.used ≠ t.tgt ∧ t.used ≠ t.spare := by
  unfold Task.used
  have h1 := h.tl
  have h2 := h.s
  have h3 := h.ts
  cases e : t.fac with
  | none => simp only; omega
  | some u => exact h.f u e
theorem fv_set {mem : List Int} {m : Int} {k : Nat} {t : Task} (h : t.Ok m k) {i : Nat} {x : Int} (hi : i = t.tgt ∨ i = t.spare) : fv (mem.set i x) t.fac = fv mem t.fac := by
  cases e : t.fac with
  | none => rfl
  | some u =>
    have := h.f u e
    rcases hi with rfl | rfl
    · exact getD_set_ne (Ne.symm this.2.1)
    · exact getD_set_ne (Ne.symm this.2.2)
theorem pass_ok {m : Int} (hm : 2 ≤ m) {sg : Int} {k k' : Nat} {first second : List (Int × Nat)} {t : Task} (h : t.Ok m k) (h1 : ∀ p ∈ first, p.2 < k') (h2 : ∀ p ∈ second, p.2 < k') : ∀ x ∈ pass m sg first second t, x.Ok m k' := fun x hx => by
  have hu := used_ok h
  rcases List.mem_append.mp hx with hx | hx
  · obtain ⟨p, hp, rfl⟩ := List.mem_map.mp hx
    exact ⟨h1 p hp, h.tl, hu.1, Ne.symm hu.2.1, (mod_rng hm _).1, (mod_rng hm _).2, fun u e => by
      cases e
      exact ⟨h.s, Ne.symm h.ts, Ne.symm hu.2.2⟩⟩
  · obtain ⟨p, hp, rfl⟩ := List.mem_map.mp hx
    exact ⟨h2 p hp, h.s, h.tl, Ne.symm h.ts, (mod_rng hm _).1, (mod_rng hm _).2, fun u e => let ⟨a, b, c⟩ := h.f u e; ⟨a, c, b⟩⟩
theorem prodTasks_ok {m : Int} (hm : 2 ≤ m) {k k' : Nat} {first second : List (Int × Nat)} {t : Task} (h : t.Ok m k) (h1 : ∀ p ∈ first, p.2 < k') (h2 : ∀ p ∈ second, p.2 < k') : ∀ x ∈ prodTasks m first second t, x.Ok m k' := fun x hx => by
  rcases List.mem_append.mp hx with hx | hx
  · exact pass_ok hm h h1 h2 x hx
  · exact pass_ok hm h h1 h2 x hx
theorem Task.Ok.mono {m : Int} {k k' : Nat} {t : Task} (h : t.Ok m k) (hk : k ≤ k') : t.Ok m k' := ⟨Nat.lt_of_lt_of_le h.nd hk, h.tl, h.s, h.ts, h.c0, h.c1, h.f⟩
theorem inner_ok {m : Int} (hm : 2 ≤ m) {k a : Nat} {t : Task} {nd : Nd} (h : t.Ok m k) (hn : nd.ok a) : ∀ x ∈ inner m t nd, x.Ok m a := fun x hx => by
  cases nd with
  | const c => cases hx
  | inp k => cases hx
  | scaled c i =>
    have e : x = ⟨i, t.tgt, t.co * c % m, t.fac, t.spare⟩ := List.mem_singleton.mp hx
    subst e
    exact ⟨hn.2, h.tl, h.s, h.ts, (mod_rng hm _).1, (mod_rng hm _).2, h.f⟩
  | sum i j =>
    rcases List.mem_cons.mp hx with rfl | hx
    · exact ⟨hn.1, h.tl, h.s, h.ts, h.c0, h.c1, h.f⟩
    · have e := List.mem_singleton.mp hx
      subst e
      exact ⟨hn.2, h.tl, h.s, h.ts, h.c0, h.c1, h.f⟩
  | prod i j =>
    refine prodTasks_ok hm h (fun p hp => ?_) (fun p hp => ?_) x hx
    · rw [List.mem_singleton.mp hp]; exact hn.1
    · rw [List.mem_singleton.mp hp]; exact hn.2
  | choose i j l =>
    rcases List.mem_cons.mp hx with rfl | hx
    · exact ⟨hn.2.2, h.tl, h.s, h.ts, h.c0, h.c1, h.f⟩
    · refine prodTasks_ok hm h (fun p hp => ?_) (fun p hp => ?_) x hx
      · rw [List.mem_singleton.mp hp]; exact hn.1
      · rcases List.mem_cons.mp hp with rfl | hp
        · exact hn.2.1
        · rw [List.mem_singleton.mp hp]; exact hn.2.2
end BF

namespace BF
theorem leaf_const {m : Int} {k : Nat} {t : Task} {g mem : List Int} {v : Nat → Int} {c : Int} (h : t.Ok m k) (hv : v t.node = c % m) : (leaf m t (.const c)).run m g mem = t.eff m v mem := by
  unfold leaf Stp.run Task.eff Task.facs
  cases e : t.fac with
  | none =>
    simp only [tot, List.foldl_nil, fv]
    congr 1
    show Cg m _ _
    rw [hv]
    refine Cg.add Cg.rfl' (Cg.mod.trans ?_)
    rw [Int.mul_one]
    exact Cg.rfl'.mul Cg.mod.symm
  | some u =>
    simp only [tot, List.foldl_cons, List.foldl_nil, fv, Fac.val]
    congr 1
    show Cg m _ _
    rw [hv]
    refine Cg.add Cg.rfl' (Cg.mod.trans ?_)
    exact (Cg.mod.trans (Cg.rfl'.mul Cg.mod.symm)).mul Cg.rfl'
theorem leaf_inp {m : Int} {k : Nat} {t : Task} {g mem : List Int} {v : Nat → Int} {i : Nat} (h : t.Ok m k) (hv : v t.node = g.getD i 0) : (leaf m t (.inp i)).run m g mem = t.eff m v mem := by
  unfold leaf Stp.run Task.eff Task.facs
  cases e : t.fac with
  | none =>
    simp only [tot, List.nil_append, List.foldl_cons, List.foldl_nil, fv, Fac.val]
    congr 1
    show Cg m _ _
    rw [hv]
    refine Cg.add Cg.rfl' (Cg.mod.trans ?_)
    rw [Int.mul_one]
    exact Cg.rfl'
  | some u =>
    simp only [tot, List.cons_append, List.nil_append, List.foldl_cons, List.foldl_nil, fv, Fac.val]
    congr 1
    show Cg m _ _
    rw [hv]
    refine Cg.add Cg.rfl' (Cg.mod.trans ?_)
    refine (Cg.mod.mul Cg.rfl').trans (Cg.of ?_)
    rw [Int.mul_assoc, Int.mul_assoc, Int.mul_comm (mem.getD u 0)]
theorem inner_scaled {m : Int} {k : Nat} {t : Task} {mem : List Int} {v : Nat → Int} {c : Int} {i : Nat} (hv : v t.node = c * v i % m) : effs m v mem (inner m t (.scaled c i)) = t.eff m v mem := by
  unfold inner effs
  simp only [List.foldl_cons, List.foldl_nil]
  unfold Task.eff
  simp only
  congr 1
  show Cg m _ _
  rw [hv]
  refine Cg.add Cg.rfl' (Cg.mul ?_ Cg.rfl')
  refine (Cg.mod.mul Cg.rfl').trans (Cg.trans (Cg.of (Int.mul_assoc _ _ _)) (Cg.rfl'.mul Cg.mod.symm))
theorem inner_sum {m : Int} {k : Nat} {t : Task} {mem : List Int} {v : Nat → Int} {i j : Nat} (h : t.Ok m k) (hm : Mem3 m mem) (hv : v t.node = (v i + v j) % m) : effs m v mem (inner m t (.sum i j)) = t.eff m v mem := by
  have ht : t.tgt < mem.length := by rw [hm.len]; exact h.tl
  unfold inner effs
  simp only [List.foldl_cons, List.foldl_nil]
  unfold Task.eff
  simp only
  rw [getD_set_eq ht, List.set_set, fv_set h (.inl rfl)]
  congr 1
  show Cg m _ _
  rw [hv]
  refine (Cg.mod.add Cg.rfl').trans ?_
  refine Cg.trans (Cg.of ?_) (Cg.add Cg.rfl' (Cg.mul (Cg.rfl'.mul Cg.mod.symm) Cg.rfl'))
  rw [Int.mul_add, Int.add_mul]
  omega
theorem fv_some {mem : List Int} {u : Nat} : fv mem (some u) = mem.getD u 0 := rfl
/-- what the second list adds to the spare cell -/
def sumOf (v : Nat → Int) : List (Int × Nat) → Int
  | [] => 0
  | p :: r => p.1 * v p.2 + sumOf v r
theorem second_eff {m : Int} (h2 : 2 ≤ m) {k : Nat} {t : Task} {v : Nat → Int} (a : Int) (h : t.Ok m k) : ∀ (second : List (Int × Nat)) (mem : List Int), Mem3 m mem →
    effs m v mem (second.map fun p => ⟨p.2, t.spare, a * p.1 % m, t.fac, t.tgt⟩) = mem.set t.spare ((mem.getD t.spare 0 + a * sumOf v second * fv mem t.fac) % m)
  | [], mem, hm => by
    have hs : t.spare < mem.length := by rw [hm.len]; exact h.s
    have r := getD_rng hm.rng hs
    show mem = _
    rw [sumOf, Int.mul_zero, Int.zero_mul, Int.add_zero, Int.emod_eq_of_lt r.1 r.2, set_getD_self]
  | p :: r, mem, hm => by
    have hs : t.spare < mem.length := by rw [hm.len]; exact h.s
    show effs m v (Task.eff m v mem ⟨p.2, t.spare, a * p.1 % m, t.fac, t.tgt⟩) (r.map fun p => ⟨p.2, t.spare, a * p.1 % m, t.fac, t.tgt⟩) = _
    rw [second_eff h2 a h r _ (hm.eff h2 _)]
    unfold Task.eff
    simp only
    rw [getD_set_eq hs, List.set_set, fv_set h (.inr rfl)]
    congr 1
    show Cg m _ _
    refine (Cg.mod.add Cg.rfl').trans ?_
    refine Cg.trans (Cg.add (Cg.add Cg.rfl' (Cg.mul (Cg.mul Cg.mod Cg.rfl') Cg.rfl')) Cg.rfl') (Cg.of ?_)
    rw [sumOf, Int.mul_add, Int.add_mul, Int.mul_assoc a p.1]
    omega
theorem prod_eff {m : Int} (h2 : 2 ≤ m) {k : Nat} {t : Task} {v : Nat → Int} {i : Nat} {second : List (Int × Nat)} {mem : List Int} (h : t.Ok m k) (hm : Mem3 m mem) :
    effs m v mem (prodTasks m [(1, i)] second t) = mem.set t.tgt ((mem.getD t.tgt 0 + t.co * (v i * sumOf v second) * fv mem t.fac) % m) := by
  have ht : t.tgt < mem.length := by rw [hm.len]; exact h.tl
  have hs : t.spare < mem.length := by rw [hm.len]; exact h.s
  have rs := getD_rng hm.rng hs
  have hts := h.ts
  have hst := Ne.symm h.ts
  have p1 : ∀ (sg : Int) (mem : List Int), Mem3 m mem → effs m v mem (pass m sg [(1, i)] second t) =
      (mem.set t.tgt ((mem.getD t.tgt 0 + (sg * 1 * t.co % m) * v i * mem.getD t.spare 0) % m)).set t.spare ((mem.getD t.spare 0 + -sg * sumOf v second * fv mem t.fac) % m) := fun sg mem hm => by
    unfold pass
    rw [effs_app, second_eff h2 (-sg) h second _ (hm.effs h2 _ _)]
    show (Task.eff m v mem ⟨i, t.tgt, sg * 1 * t.co % m, some t.spare, t.used⟩).set _ _ = _
    unfold Task.eff
    simp only [List.map_cons, List.map_nil, effs, List.foldl_cons, List.foldl_nil, Task.eff, fv_some]
    rw [getD_set_ne hts, fv_set h (.inl rfl)]
  unfold prodTasks
  rw [effs_app, p1 (-1) mem hm, p1 1 _ ⟨by rw [List.length_set, List.length_set, hm.len], set_rng (set_rng hm.rng (mod_rng h2 _)) (mod_rng h2 _)⟩]
  have hs' : t.spare < (mem.set t.tgt ((mem.getD t.tgt 0 + (-1 * 1 * t.co % m) * v i * mem.getD t.spare 0) % m)).length := by rw [List.length_set]; exact hs
  rw [fv_set h (.inr rfl), fv_set h (.inl rfl), getD_set_eq hs', getD_set_ne hst, getD_set_eq ht, List.set_comm _ _ hst, List.set_set, List.set_set]
  have e1 : ((mem.getD t.spare 0 + - -1 * sumOf v second * fv mem t.fac) % m + -1 * sumOf v second * fv mem t.fac) % m = mem.getD t.spare 0 := by
    refine Cg.lt (m := m) ?_ (mod_rng h2 _).1 (mod_rng h2 _).2 rs.1 rs.2
    refine Cg.mod.trans ((Cg.mod.add Cg.rfl').trans (Cg.of ?_))
    grind
  rw [e1]
  have e2 : ∀ x, (mem.set t.tgt x).set t.spare (mem.getD t.spare 0) = mem.set t.tgt x := fun x => by
    have q : mem.getD t.spare 0 = (mem.set t.tgt x).getD t.spare 0 := (getD_set_ne hts).symm
    rw [q, set_getD_self]
  rw [e2]
  congr 1
  show Cg m _ _
  refine Cg.trans (Cg.add (Cg.mod.trans (Cg.add Cg.rfl' (Cg.mul (Cg.mul Cg.mod Cg.rfl') Cg.rfl'))) (Cg.mul (Cg.mul Cg.mod Cg.rfl') Cg.mod)) (Cg.of ?_)
  grind
theorem inner_prod {m : Int} (h2 : 2 ≤ m) {k : Nat} {t : Task} {mem : List Int} {v : Nat → Int} {i j : Nat} (h : t.Ok m k) (hm : Mem3 m mem) (hv : v t.node = v i * v j % m) : effs m v mem (inner m t (.prod i j)) = t.eff m v mem := by
  show effs m v mem (prodTasks m [(1, i)] [(1, j)] t) = _
  rw [prod_eff h2 h hm]
  unfold Task.eff
  congr 1
  show Cg m _ _
  rw [hv, sumOf, sumOf]
  refine Cg.add Cg.rfl' (Cg.mul (Cg.trans (Cg.of ?_) (Cg.rfl'.mul Cg.mod.symm)) Cg.rfl')
  grind
theorem inner_choose {m : Int} (h2 : 2 ≤ m) {k : Nat} {t : Task} {mem : List Int} {v : Nat → Int} {i j l : Nat} (h : t.Ok m k) (hm : Mem3 m mem) (hv : v t.node = (v l + v i * v j - v i * v l) % m) : effs m v mem (inner m t (.choose i j l)) = t.eff m v mem := by
  have ht : t.tgt < mem.length := by rw [hm.len]; exact h.tl
  show effs m v (Task.eff m v mem ⟨l, t.tgt, t.co, t.fac, t.spare⟩) (prodTasks m [(1, i)] [(1, j), (-1, l)] t) = _
  rw [prod_eff h2 h (hm.eff h2 _)]
  unfold Task.eff
  simp only
  rw [getD_set_eq ht, List.set_set, fv_set h (.inl rfl)]
  congr 1
  show Cg m _ _
  rw [hv]
  simp only [sumOf]
  refine (Cg.mod.add Cg.rfl').trans (Cg.trans (Cg.of ?_) (Cg.add Cg.rfl' (Cg.mul (Cg.rfl'.mul Cg.mod.symm) Cg.rfl')))
  grind
/-- a leaf -/
def Nd.isLeaf : Nd → Bool
  | .const _ => true
  | .inp _ => true
  | _ => false
section
variable {m : Int} {ns : List Nd} {g mem : List Int} {t : Task} {nd : Nd}
theorem leaf_eff (h2 : 2 ≤ m) (hs : SrcOk ns) (hk : ns[t.node]? = some nd) (hl : nd.isLeaf = true) (h : t.Ok m ns.length) : (leaf m t nd).run m g mem = t.eff m (val m g ns) mem := by
  have hv := val_eq (m := m) (g := g) hs hk
  cases nd with
  | const c => exact leaf_const h hv
  | inp k => exact leaf_inp h hv
  | _ => cases hl
theorem inner_eff (h2 : 2 ≤ m) (hs : SrcOk ns) (hk : ns[t.node]? = some nd) (hl : nd.isLeaf = false) (h : t.Ok m ns.length) (hm : Mem3 m mem) : effs m (val m g ns) mem (inner m t nd) = t.eff m (val m g ns) mem := by
  have hv := val_eq (m := m) (g := g) hs hk
  cases nd with
  | const c => cases hl
  | inp k => cases hl
  | sum i j => exact inner_sum h hm hv
  | prod i j => exact inner_prod h2 h hm hv
  | scaled c i => exact inner_scaled (k := 0) hv
  | choose i j l => exact inner_choose h2 h hm hv
theorem leaf_ok (h2 : 2 ≤ m) (hk : ns[t.node]? = some nd) (hl : nd.isLeaf = true) (h : t.Ok m ns.length) : (leaf m t nd).Ok m (needs ns) := by
  have hf : t.facs.length ≤ 1 ∧ ∀ f ∈ t.facs, f.ok (needs ns) t.tgt := by
    unfold Task.facs
    cases e : t.fac with
    | none => exact ⟨Nat.zero_le _, fun f hf => nomatch hf⟩
    | some u =>
      refine ⟨Nat.le_refl _, fun f hf => ?_⟩
      rw [List.mem_singleton.mp hf]
      exact ⟨(h.f u e).1, (h.f u e).2.1⟩
  cases nd with
  | const c => exact ⟨h.tl, (mod_rng h2 _).1, (mod_rng h2 _).2, Nat.le_trans hf.1 (by decide), hf.2⟩
  | inp k =>
    refine ⟨h.tl, h.c0, h.c1, ?_, fun f hf' => ?_⟩
    · show (t.facs ++ [Fac.inp k]).length ≤ 3
      rw [List.length_append, List.length_singleton]
      have := hf.1
      omega
    · rcases List.mem_append.mp hf' with q | q
      · exact hf.2 f q
      · rw [List.mem_singleton.mp q]
        exact need_le (List.mem_of_getElem? hk)
  | _ => cases hl
/-! ### costs and weights of tasks -/
def costT (ns : List Nd) (ts : List Task) : Int := (ts.map fun t => cst ns t.node).sum
def wtT (ns : List Nd) (ts : List Task) : Nat := (ts.map fun t => wt ns t.node).sum
theorem costT_app (a b : List Task) : costT ns (a ++ b) = costT ns a + costT ns b := by unfold costT; rw [List.map_append, List.sum_append]
theorem wtT_app (a b : List Task) : wtT ns (a ++ b) = wtT ns a + wtT ns b := by unfold wtT; rw [List.map_append, List.sum_append]
theorem sum_rev_int : ∀ l : List Int, l.reverse.sum = l.sum
  | [] => rfl
  | x :: r => by rw [List.reverse_cons, List.sum_append, sum_rev_int r, List.sum_cons, List.sum_cons, List.sum_nil]; omega
theorem sum_rev_nat : ∀ l : List Nat, l.reverse.sum = l.sum
  | [] => rfl
  | x :: r => by rw [List.reverse_cons, List.sum_append, sum_rev_nat r, List.sum_cons, List.sum_cons, List.sum_nil]; omega
theorem costT_rev (a : List Task) : costT ns a.reverse = costT ns a := by unfold costT; rw [List.map_reverse, sum_rev_int]
theorem wtT_rev (a : List Task) : wtT ns a.reverse = wtT ns a := by unfold wtT; rw [List.map_reverse, sum_rev_nat]
theorem inner_cost (hs : SrcOk ns) (hk : ns[t.node]? = some nd) (hl : nd.isLeaf = false) : costT ns (inner m t nd) = cst ns t.node := by
  rw [cst_eq hs hk]
  cases nd <;> simp [Nd.isLeaf] at hl <;> simp [costT, inner, prodTasks, pass, Nd.cst'] <;> omega
theorem inner_wt (hs : SrcOk ns) (hk : ns[t.node]? = some nd) (hl : nd.isLeaf = false) : wtT ns (inner m t nd) < wt ns t.node := by
  rw [wt_eq hs hk]
  cases nd <;> simp [Nd.isLeaf] at hl <;> simp [wtT, inner, prodTasks, pass, Nd.wt'] <;> omega
theorem leaf_cost (hs : SrcOk ns) (hk : ns[t.node]? = some nd) (hl : nd.isLeaf = true) : cst ns t.node = 1 := by
  rw [cst_eq hs hk]
  cases nd <;> first | rfl | cases hl
theorem wt_pos (hs : SrcOk ns) {k : Nat} (hk : ns[k]? = some nd) : 1 ≤ wt ns k := by
  rw [wt_eq hs hk]
  cases nd <;> simp only [Nd.wt'] <;> omega
theorem cst_pos (hs : SrcOk ns) : ∀ n k, k < n → k < ns.length → 1 ≤ cst ns k := by
  intro n
  induction n with
  | zero => intro k h; omega
  | succ n ih =>
    intro k hk hl
    have e := List.getElem?_eq_getElem hl
    have ho := hs.ok k _ e
    rw [cst_eq hs e]
    cases q : ns[k] with
    | const c => exact Int.le_refl _
    | inp i => exact Int.le_refl _
    | sum i j =>
      rw [q] at ho
      obtain ⟨h1, h2⟩ := ho
      have a := ih i (by omega) (by omega)
      have b := ih j (by omega) (by omega)
      simp only [Nd.cst']; omega
    | prod i j =>
      rw [q] at ho
      obtain ⟨h1, h2⟩ := ho
      have a := ih i (by omega) (by omega)
      have b := ih j (by omega) (by omega)
      simp only [Nd.cst']; omega
    | scaled c i =>
      rw [q] at ho
      obtain ⟨h1, h2⟩ := ho
      have a := ih i (by omega) (by omega)
      simp only [Nd.cst']; omega
    | choose i j l =>
      rw [q] at ho
      obtain ⟨h1, h2, h3⟩ := ho
      have a := ih i (by omega) (by omega)
      have b := ih j (by omega) (by omega)
      have c := ih l (by omega) (by omega)
      simp only [Nd.cst']; omega
theorem costT_len (hs : SrcOk ns) : ∀ ts : List Task, (∀ x ∈ ts, x.node < ns.length) → (ts.length : Int) ≤ costT ns ts
  | [], _ => Int.le_refl _
  | x :: r, h => by
    have a := cst_pos hs (x.node + 1) x.node (by omega) (h x (List.mem_cons_self ..))
    have b := costT_len hs r fun y hy => h y (List.mem_cons_of_mem _ hy)
    unfold costT at *
    rw [List.map_cons, List.sum_cons, List.length_cons]
    omega
end
end BF

namespace BF
/-! ### a program's cells within a memory -/
def getP (pl : List Nat) (mem : List Int) : List Int := pl.map fun i => mem.getD i 0
def putP (pl : List Nat) (cs mem : List Int) : List Int := (pl.zip cs).foldl (fun M q => M.set q.1 q.2) mem
structure PlOk (sz : Nat) (pl : List Nat) : Prop where
  len : pl.length = 3
  nd : pl.Nodup
  lt : ∀ i ∈ pl, i < sz
theorem putP_len : ∀ (pl : List Nat) (cs mem : List Int), (putP pl cs mem).length = mem.length
  | [], _, _ => rfl
  | _ :: _, [], _ => rfl
  | p :: r, c :: cs, mem => by
    show (putP r cs (mem.set p c)).length = _
    rw [putP_len r, List.length_set]
theorem putP_out : ∀ (pl : List Nat) (cs mem : List Int) (i : Nat), i ∉ pl → (putP pl cs mem).getD i 0 = mem.getD i 0
  | [], _, _, _, _ => rfl
  | _ :: _, [], _, _, _ => rfl
  | p :: r, c :: cs, mem, i, h => by
    show (putP r cs (mem.set p c)).getD i 0 = _
    rw [putP_out r cs _ i fun z => h (List.mem_cons_of_mem _ z)]
    exact getD_set_ne fun e => h (by rw [e]; exact List.mem_cons_self ..)
theorem getP_putP : ∀ (pl : List Nat) (cs mem : List Int), pl.Nodup → (∀ i ∈ pl, i < mem.length) → cs.length = pl.length → getP pl (putP pl cs mem) = cs
  | [], cs, _, _, _, h => (List.length_eq_zero_iff.mp h).symm
  | p :: r, [], _, _, _, h => by cases h
  | p :: r, c :: cs, mem, nd, lt, h => by
    obtain ⟨n1, n2⟩ := List.nodup_cons.mp nd
    have hp : p < mem.length := lt p (List.mem_cons_self ..)
    have ih := getP_putP r cs (mem.set p c) n2 (fun i hi => by rw [List.length_set]; exact lt i (List.mem_cons_of_mem _ hi)) (Nat.succ.inj h)
    show (putP r cs (mem.set p c)).getD p 0 :: getP r (putP r cs (mem.set p c)) = _
    rw [ih, putP_out r cs _ p n1, getD_set_eq hp]
theorem ext_getD {a b : List Int} (hl : a.length = b.length) (h : ∀ i, a.getD i 0 = b.getD i 0) : a = b := by
  refine List.ext_getElem hl fun i h1 h2 => ?_
  have := h i
  rw [List.getD_eq_getElem?_getD, List.getD_eq_getElem?_getD, List.getElem?_eq_getElem h1, List.getElem?_eq_getElem h2] at this
  exact this
theorem putP_in : ∀ (pl : List Nat) (cs cs' mem mem' : List Int), cs.length = pl.length → mem.length = mem'.length → pl.Nodup → (∀ i ∈ pl, i < mem.length) → (∀ i, i ∉ pl → mem.getD i 0 = mem'.getD i 0) → putP pl cs mem = putP pl cs mem'
  | pl, cs, _, mem, mem', hl, hm, nd, lt, h => by
    refine ext_getD (by rw [putP_len, putP_len, hm]) fun i => ?_
    by_cases hi : i ∈ pl
    · have h1 := getP_putP pl cs mem nd lt hl
      have h2 := getP_putP pl cs mem' nd (fun j hj => by rw [← hm]; exact lt j hj) hl
      have h3 := h1.trans h2.symm
      have h4 : ∀ x ∈ pl, (putP pl cs mem).getD x 0 = (putP pl cs mem').getD x 0 := List.map_inj_left.mp h3
      exact h4 i hi
    · rw [putP_out pl cs mem i hi, putP_out pl cs mem' i hi, h i hi]
theorem putP_putP {sz : Nat} {pl : List Nat} {cs cs' mem : List Int} (h : PlOk sz pl) (hz : mem.length = sz) (hl : cs'.length = 3) : putP pl cs' (putP pl cs mem) = putP pl cs' mem :=
  putP_in pl cs' cs' _ _ (by rw [hl, h.len]) (putP_len _ _ _) h.nd (fun i hi => by rw [putP_len, hz]; exact h.lt i hi) fun i hi => putP_out pl cs mem i hi
theorem putP_getP {sz : Nat} {pl : List Nat} {mem : List Int} (h : PlOk sz pl) (hz : mem.length = sz) : putP pl (getP pl mem) mem = mem := by
  refine ext_getD (putP_len _ _ _) fun i => ?_
  by_cases hi : i ∈ pl
  · have h1 := getP_putP pl (getP pl mem) mem h.nd (fun j hj => by rw [hz]; exact h.lt j hj) (by unfold getP; rw [List.length_map])
    have h4 : ∀ x ∈ pl, (putP pl (getP pl mem) mem).getD x 0 = mem.getD x 0 := List.map_inj_left.mp h1
    exact h4 i hi
  · exact putP_out pl _ mem i hi
theorem getP_mem3 {m : Int} {sz : Nat} {pl : List Nat} {mem : List Int} (h : PlOk sz pl) (hz : mem.length = sz) (hr : ∀ x ∈ mem, 0 ≤ x ∧ x < m) : Mem3 m (getP pl mem) :=
  ⟨by unfold getP; rw [List.length_map, h.len], fun x hx => by
    obtain ⟨i, hi, rfl⟩ := List.mem_map.mp hx
    exact getD_rng hr (by rw [hz]; exact h.lt i hi)⟩
theorem putP_rng {m : Int} : ∀ (pl : List Nat) (cs mem : List Int), (∀ x ∈ cs, 0 ≤ x ∧ x < m) → (∀ x ∈ mem, 0 ≤ x ∧ x < m) → ∀ x ∈ putP pl cs mem, 0 ≤ x ∧ x < m
  | [], _, _, _, h => h
  | _ :: _, [], _, _, h => h
  | p :: r, c :: cs, mem, hc, h => putP_rng r cs (mem.set p c) (fun x hx => hc x (List.mem_cons_of_mem _ hx)) (set_rng h (hc c (List.mem_cons_self ..)))
/-! ### steps of a loan -/
def vstep (m : Int) (g : List Int) (pl : List Nat) (mem : List Int) (s : Stp) : List Int := putP pl (s.run m g (getP pl mem)) mem
def vruns (m : Int) (g : List Int) (pl : List Nat) (mem : List Int) (ss : List Stp) : List Int := ss.foldl (vstep m g pl) mem
section
variable {m : Int} {sz : Nat} {pl : List Nat} {g mem : List Int}
theorem vstep_len {s : Stp} : (vstep m g pl mem s).length = mem.length := putP_len _ _ _
theorem vruns_len : ∀ (ss : List Stp) (mem : List Int), (vruns m g pl mem ss).length = mem.length
  | [], _ => rfl
  | s :: r, mem => (vruns_len r _).trans vstep_len
theorem vstep_rng (h2 : 2 ≤ m) (h : PlOk sz pl) (hz : mem.length = sz) (hr : ∀ x ∈ mem, 0 ≤ x ∧ x < m) {s : Stp} : ∀ x ∈ vstep m g pl mem s, 0 ≤ x ∧ x < m :=
  putP_rng pl _ mem (s.run_rng h2 (getP_mem3 h hz hr).rng) hr
theorem vruns_rng (h2 : 2 ≤ m) (h : PlOk sz pl) : ∀ (ss : List Stp) (mem : List Int), mem.length = sz → (∀ x ∈ mem, 0 ≤ x ∧ x < m) → ∀ x ∈ vruns m g pl mem ss, 0 ≤ x ∧ x < m
  | [], _, _, hr => hr
  | s :: r, mem, hz, hr => vruns_rng h2 h r _ (vstep_len.trans hz) (vstep_rng h2 h hz hr)
theorem vruns_app (a b : List Stp) : vruns m g pl mem (a ++ b) = vruns m g pl (vruns m g pl mem a) b := by unfold vruns; rw [List.foldl_append]
theorem vruns_eq (h : PlOk sz pl) : ∀ (ss : List Stp) (mem : List Int), mem.length = sz → vruns m g pl mem ss = putP pl (runs m g (getP pl mem) ss) mem
  | [], mem, hz => (putP_getP h hz).symm
  | s :: r, mem, hz => by
    have hl : (s.run m g (getP pl mem)).length = 3 := by rw [Stp.run_len]; unfold getP; rw [List.length_map, h.len]
    show vruns m g pl (vstep m g pl mem s) r = _
    rw [vruns_eq h r _ (vstep_len.trans hz)]
    unfold vstep
    rw [getP_putP pl _ mem h.nd (fun i hi => by rw [hz]; exact h.lt i hi) (by rw [hl, h.len]), putP_putP h hz (by rw [runs_len, hl])]
    rfl
theorem vruns_inv (h2 : 2 ≤ m) (h : PlOk sz pl) {n : Nat} {ss : List Stp} (ho : ∀ s ∈ ss, s.Ok m n) (hz : mem.length = sz) (hr : ∀ x ∈ mem, 0 ≤ x ∧ x < m) : vruns m g pl (vruns m g pl mem ss) (ss.reverse.map (Stp.inv m)) = mem := by
  have h3 := getP_mem3 h hz hr
  have hl : (runs m g (getP pl mem) ss).length = 3 := by rw [runs_len, h3.len]
  rw [vruns_eq h _ _ (by rw [vruns_len, hz]), vruns_eq h ss mem hz, getP_putP pl _ mem h.nd (fun i hi => by rw [hz]; exact h.lt i hi) (by rw [hl, h.len]), runs_inv h2 ss _ ho h3, putP_putP h hz h3.len, putP_getP h hz]
/-- what a whole program does to the first place -/
theorem vruns_first (h2 : 2 ≤ m) (h : PlOk sz pl) {ss : List Stp} {v : Int} (hz : mem.length = sz) (hr : ∀ x ∈ mem, 0 ≤ x ∧ x < m) (hv : 0 ≤ v ∧ v < m)
    (hs : ∀ cs, Mem3 m cs → runs m g cs ss = cs.set 0 ((cs.getD 0 0 + v) % m)) {p : Nat} (hp : pl[0]? = some p) : ((vruns m g pl mem ss).getD p 0 - mem.getD p 0) % m = v := by
  have h3 := getP_mem3 h hz hr
  have hl : (runs m g (getP pl mem) ss).length = 3 := by rw [runs_len, h3.len]
  have e1 : getP pl (vruns m g pl mem ss) = runs m g (getP pl mem) ss := by
    rw [vruns_eq h ss mem hz, getP_putP pl _ mem h.nd (fun i hi => by rw [hz]; exact h.lt i hi) (by rw [hl, h.len])]
  have e2 : ∀ M : List Int, (getP pl M).getD 0 0 = M.getD p 0 := fun M => by
    unfold getP
    rw [List.getD_eq_getElem?_getD, List.getElem?_map, hp]; rfl
  rw [← e2, ← e2, e1, hs _ h3, getD_set_eq (by rw [h3.len]; decide)]
  refine Cg.lt (m := m) (Cg.mod.trans ((Cg.mod.sub Cg.rfl').trans (Cg.of ?_))) (mod_rng h2 _).1 (mod_rng h2 _).2 hv.1 hv.2
  omega
end
end BF

namespace BF
open PySem PySem.Spec PyProof.Rows L2
section
variable {X : Cx}
/-- a test that is never asked -/
theorem pt_never {e : Expr} : PT X e (fun _ _ _ => False) := ⟨fun _ _ _ _ _ _ h => h.elim⟩
theorem pe_never {e : Expr} : PE X e (fun _ _ _ => False) := ⟨fun _ _ _ _ _ _ h => h.elim⟩
/-- an int constant of the module -/
theorem pe_gi {x : Str} {i : Int} {pos : Pos} (hg : Gl X x) (hm : ∃ t, X.mg x = some (.int i t)) (hd : (x == ("__debug__" : Str)) = false := by decide) : PE X (.Name x pos) (tC (.int i)) := by
  obtain ⟨t, e⟩ := hm
  exact pe_glob hg e ⟨t, rfl⟩ hd
/-! ### len of an instance whose class has its own __len__ -/
def rLenOwn (C : Addr) (sp : Sp) : List V → Hp → VK → Prop := fun xs H Q => ∃ a dx fs, xs = [V.ref a] ∧ H a = some (.ins C dx fs) ∧ sp [.ref a] H (fun z H' => ∃ n : Int, z = .int n ∧ 0 ≤ n ∧ n < 2 ^ 63 ∧ Q (.int n) H') E0
theorem call_lenOwn {k : Nat} {C g : Addr} {fd : FuncData} {sp : Sp} (hs : PySem.W.findIn X.K (.ref C) "__len__" = some (some (.ref g))) (hf : PySem.W.isFn X.K (.ref g) = true)
    (F : FnOk X.prog X.w X.K X.mg X.base CX0 k g fd ["self"] sp) (hb : Binds X.K fd ["self"] []) (hr : Room (k + 1) X.A) : CallR X (.builtin "len") (rLenOwn C sp) := by
  intro pins s σ H xs us Q I r h
  obtain ⟨a, dx, fs, rfl, ea, q⟩ := h
  obtain ⟨u, rfl, ru⟩ := r.one
  cases (show u = Value.ref a from ru)
  obtain ⟨mA, O, _⟩ := ins_get I.hok ea
  obtain ⟨od, J, _⟩ := O.look
  obtain ⟨m, hF⟩ := I.fr
  refine PySem.W.len_K hF I.ok.mod.kin J hs hf (wpAny_call ?_)
  refine codeAny_mono (F.run X.A.in1 X.stack s H ⟨[.ref a], []⟩ [.ref a] [.ref a] _ E0 hr.in1 I.env0.in1 (hb s [.ref a] I.kIn rfl) (.cons rfl .nil) q) fun r s' hq => ?_
  cases r with
  | error er => exact False.elim hq
  | ok fl =>
    cases fl with
    | ret u =>
      obtain ⟨v, H', I', rv, n, ev, h0, h1, qn⟩ := I.after hq
      subst ev
      obtain ⟨t, rfl⟩ := rv
      exact ⟨⟨h0, h1⟩, .int n, H', I'.tok _, ⟨_, rfl⟩, qn⟩
    | next => exact False.elim hq
    | brk => exact False.elim hq
    | cont => exact False.elim hq
/-! ### d.get(k), d a dict of the module with text keys -/
def tGetK (K : PySem.W.Frag) (w : World) (td ty : TE) : TE := fun σ H Q => td σ H fun x H1 => ∃ a es n, x = .ref a ∧ KDict K w a es n ∧ ty σ H1 fun y H2 => ∃ z u v, y = .str z ∧ PySem.W.nsIn K a z = some (some u) ∧ RelV v u ∧ Q v H2
theorem pe_getK {o e : Expr} {apos cpos : Pos} {td ty : TE} (ho : PE X o td) (he : PE X e ty) (m : M1 X o "get" apos e cpos) : PE X (.Call (.Attribute o "get" apos) [e] [] cpos) (tGetK X.K X.w td ty) := by
  refine ⟨fun pins s σ H Q I h => ?_⟩
  refine wpAny_Call_method m.base m.few m.line PySem.F.plainAttrs_dict PySem.F.slot_dict_get PySem.F.type_dict_get (thn (ho.run pins s σ H _ I h) fun u s1 ⟨x, H1, I1, rx, a, es, n, ex, D, q1⟩ => ?_)
  subst ex
  obtain rfl : u = Value.ref a := rx
  refine ⟨kd_type D I1, fun b q => ?_, ?_⟩
  · cases q
    exact ⟨_, I1.kIn _ _ D.at_, rfl⟩
  rw [m.trees]
  refine Calls.callWith_builtin rfl (Calls.evalArgs_plain (Calls.spliced_cons (thn (he.run pins s1 σ H1 _ I1 q1) fun iv s2 ⟨y, H2, I2, ry, z, u0, v, ey, e0, r0, q2⟩ => Calls.spliced_nil ?_)))
  subst ey
  obtain ⟨t, rfl⟩ := ry
  have hm := PySem.W.mapOf_K (prog := X.prog) (w := X.w) I2.kIn D.at_ D.lit
  refine call_meetsIn PySem.F.slot_dict_get hm.typeIs PySem.F.entry_dict_get (PySem.F.args_dict_get_2 _ _) (meets_dict_get (strKind X.prog X.w) a (strKind_is X.prog X.w z t) D.low) ⟨_, hm, ?_⟩
  rw [show PySem.findBy Value.isStrOf es z = some u0 from PySem.W.find_K D.at_ e0]
  exact ⟨v, H2, I2.tok _, r0, q2⟩
end
end BF

/-! enumerate of a tuple -/
namespace BF
open PySem PySem.Spec PyProof.Rows L2
open PySem.AutoSeq1 (wpAny_loadPart')
theorem enumNewT (l : Addr) (items : Array Value) (n : Nat) (dct : Option Addr) (sl : Array (Option Value)) :
    Meets (Builtin.«enumerate.__new__» ⟨[.type "enumerate", .ref l], []⟩) (fun _ R s => s.heap.get? l = some { cls := .type "tuple", dict := dct, data := .seq items n, slots := sl } ∧
      R (.ok (.ret (.ref (s.heap.push { cls := .type "tuple_iterator", data := .fields #[.ref l, .int 0 0] }).objs.size)))
        { s with heap := (s.heap.push { cls := .type "tuple_iterator", data := .fields #[.ref l, .int 0 0] }).push { cls := .type "enumerate", data := .fields #[.none, .bool false, .ref s.heap.objs.size, rawInt 0, .none, .none] } }) :=
  .of_wp fun prog w A R s h => by
    obtain ⟨hp, g, d, tk, os⟩ := s; obtain ⟨hl, h⟩ := h
    have hsub := sub_enumerate
    have hL : Heap.IsTuple (Shared.heap ⟨hp, g, d, tk, os⟩) l items := ⟨_, hl, rfl, n, rfl⟩
    wp_walk using wpAny_loadPart' hl
    refine wpAny_stack_any fun st => wpAny_pure ?_
    split
    · rename_i c _ _ _ _ _
      cases (c == Value.type "enumerate") <;> (wp_walk using wpAny_loadPart' hl, wpAny_pyIter_tuple hL; exact ⟨_, rfl, h⟩)
    · wp_walk using wpAny_loadPart' hl, wpAny_pyIter_tuple hL
      exact ⟨_, rfl, h⟩
section
variable {prog : Program} {w : World} {A : Around} {E : Value → Shared → Prop} {s : Shared}
theorem enumCallT {l : Addr} {items : Array Value} {Q : Value → Shared → Prop} (hL : s.heap.IsTuple l items)
    (h : ∀ h', IsEnum h' (s.heap.objs.size + 1) s.heap.objs.size 0 .none → h'.IsTupleIter s.heap.objs.size l 0 → h'.objs.size = s.heap.objs.size + 2 →
      (∀ b o, s.heap.get? b = some o → h'.get? b = some o) → Q (.ref (s.heap.objs.size + 1)) { s with heap := h' }) :
    wpAny (model prog w) A (call (.type "enumerate") [.ref l]) Q E s := by
  obtain ⟨⟨c, dct, dt, sl⟩, hl, hc, n, hd⟩ := hL
  replace hc : c = .type "tuple" := hc
  replace hd : dt = .seq items n := hd
  subst hc hd
  refine callType_new F.called_enumerate (by decide) (F.typeCall_enumerate_1 _) (F.newCall_enumerate_1 _) (fun obj => F.args_object_init_2 obj _) F.entry_enumerate_new
    (enumNewT l items n dct sl) ⟨hl, ?_⟩
  have hz : (s.heap.push { cls := .type "tuple_iterator", data := .fields #[.ref l, .int 0 0] }).objs.size = s.heap.objs.size + 1 := Heap.size_push ..
  show _ ∧ _
  rw [hz]
  have he : IsEnum ((s.heap.push { cls := .type "tuple_iterator", data := .fields #[.ref l, .int 0 0] }).push
      { cls := .type "enumerate", data := .fields #[.none, .bool false, .ref s.heap.objs.size, rawInt 0, .none, .none] }) (s.heap.objs.size + 1) s.heap.objs.size 0 .none := by
    have q := Heap.get?_push_size (s.heap.push { cls := .type "tuple_iterator", data := .fields #[.ref l, .int 0 0] })
      (o := { cls := .type "enumerate", data := .fields #[.none, .bool false, .ref s.heap.objs.size, rawInt 0, .none, .none] }) rfl
    rw [hz] at q
    exact q
  exact ⟨⟨_, he, rfl⟩, h _ he ⟨_, Heap.get?_push_of_some _ (Heap.get?_push_size _ rfl), rfl, rfl⟩ (by rw [Heap.size_push, hz]) fun b o y => Heap.get?_push_of_some _ (Heap.get?_push_of_some _ y)⟩
end
theorem enumEndT {prog : Program} {w : World} {A : Around} {E : Value → Shared → Prop} {s : Shared} {e it l : Addr} {i : Nat} {items : Array Value} {old : Value} {Q : Option Value → Shared → Prop} (hh : A.handled = none)
    (he : IsEnum s.heap e it i old) (hit : s.heap.IsTupleIter it l i) (hl : s.heap.IsTuple l items) (hx : items[i]? = none)
    (hQ : ∀ h', Heap.ExtBut it s.heap h' → Q none { s with heap := h' }) : wpAny (model prog w) A (pyNext (.ref e)) Q E s := by
  have hT : s.TypeIs (.ref e) "enumerate" := ⟨_, he, rfl⟩
  unfold pyNext
  refine wpAny_bind (wpAny_attempt (wpAny_callSpecial?_slot (name := Str.ofString "__next__") hT F.slot_enumerate_next
    (wpAny_call_entry F.slot_enumerate_next hT F.entry_enumerate_next ?_ (F.args_enumerate_next_1 _))))
  show wpAny _ _ (field (.ref e) 2 >>= _) _ _ _
  refine wpAny_bind (wpAny_field he rfl (x := .ref it) rfl ?_)
  refine wpAny_bind (wpAny_nextOf_tuple_end (A := A.in1) (show A.in1.handled = none from hh) hit hl hx fun h' x he' hx' => ?_)
  obtain ⟨o, ho, hc⟩ := hx'
  refine wpAny_bind (wpAny_isInstance (T := "StopIteration") (b := true) ⟨o, ho, hc⟩ isSubtype_stop ?_)
  exact wpAny_pure (hQ _ he')
/-- the tuple at a, each item in a new pair -/
def IteT (K : PySem.W.Frag) (a : Addr) : It :=
  ⟨fun i H => ∃ (xs : List V) (x : V), SqT K H a xs ∧ xs[i]? = some x, fun i H v H' => ∃ T x, v = .ref T ∧ H T = none ∧ H' = upd H T (.tup [.int (i : Nat), x]) ∧ ∀ xs, SqT K H a xs → xs[i]? = some x, fun i H => ∃ xs : List V, SqT K H a xs ∧ xs.length ≤ i⟩
theorem turn_enumT {P : Program} {w : World} {K : PySem.W.Frag} {elts : List Expr} {kk : Nat} {tpos : Pos} (a e it : Addr) :
    Turn P w K (.Tuple elts kk tpos) (IteT K a) [e, it] e (fun i h => (∃ old, IsEnum h e it ((i : Nat) : Int) old) ∧ h.IsTupleIter it a i ∧ e ≠ it ∧ a ≠ e ∧ a ≠ it) where
  mem := by simp
  obj := fun i h st b hb => by
    obtain ⟨⟨old, he⟩, ⟨o, ho, hc, hd⟩, _⟩ := st
    have e' : b = e ∨ b = it := by simpa using hb
    rcases e' with z | z
    · rw [z]; exact ⟨_, he, fun v q => nomatch q⟩
    · rw [z]; exact ⟨o, ho, fun v q => by rw [hd] at q; cases q⟩
  keep := fun i h h' st k => let ⟨⟨old, he⟩, hi, hne⟩ := st; ⟨⟨old, k e (by simp) _ he⟩, hi.at fun o q => k it (by simp) o q, hne⟩
  item := by
    intro X hP hw hK hc i pins s σ H E I hf st hg
    subst hP hw hK
    obtain ⟨⟨old, he⟩, hit, hne, hae, hai⟩ := st
    obtain ⟨xs, x, hq, hx⟩ := hg
    obtain ⟨its, rv, p, hz⟩ := I.tuple hq
    have hT : s.heap.IsTuple a its.toArray := p
    have hel : e < s.heap.objs.size := Heap.lt_size he
    have hil : it < s.heap.objs.size := by obtain ⟨_, q, _⟩ := hit; exact Heap.lt_size q
    have hlt : i < its.toArray.size := by
      have h1 := (List.getElem?_eq_some_iff.mp hx).1
      rw [List.size_toArray, ← rv.length]
      exact h1
    refine wpAny_pyNext_enum_itemD (Draws.tuple (A := X.A.in1) (show X.A.in1.handled = none from I.ok.hd hc) it a hai its.toArray) he ⟨hit, hT⟩ hlt hne (by simp [hne, Ne.symm hae]) fun u h' tk hu ho hst hnew hsz hk => ?_
    refine ⟨_, rfl, wpAny_letOwnedTupleGo_enum (s := { s with heap := h', toks := tk + 1 }) ho fun h'' he' sb => ?_⟩
    obtain ⟨u', hu', ru⟩ := rv.get hx
    have eu : u = u' := by
      have h1 : its.toArray[i]? = some u := hu
      rw [List.getElem?_toArray, hu'] at h1
      exact (Option.some.inj h1).symm
    subst eu
    have hT2 : h''.get? s.heap.objs.size = some { cls := .type "tuple", data := .seq #[.int i tk, u] } := (sb.2 _ (Nat.ne_of_gt hel)).trans hnew
    have new : ObjOk X.prog X.w (upd H s.heap.objs.size (.tup [.int (i : Nat), x])) h'' s.heap.objs.size (.tup [.int (i : Nat), x]) :=
      ⟨by show 2 ≤ sizeLine; decide, [.int i tk, u], .cons ⟨_, rfl⟩ (.cons ru .nil), ⟨_, hT2, rfl, _, rfl⟩⟩
    have I1 : Inv X pins σ (upd H s.heap.objs.size (.tup [.int (i : Nat), x])) { s with heap := h'', toks := tk + 1 } :=
      I.turnedNew (ch := [e, it]) (fun b ob hb q => (sb.2 b (fun z => hb (by simp [z]))).trans (hk b ob (fun z => hb (by simp [z])) (fun z => hb (by simp [z])) q)) hf (Nat.le_refl _) new
    refine ⟨.ref s.heap.objs.size, _, I1, rfl, ⟨_, x, rfl, I.hok.fresh (Nat.le_refl _), rfl, fun ys hy => by rw [I.tuple_inj hy hq]; exact hx⟩, ⟨⟨u, ?_⟩, hst.1.at fun o q => (sb.2 it (Ne.symm hne)).trans q, hne, hae, hai⟩, fun b hb => ?_⟩
    · have e1 : ((i + 1 : Nat) : Int) = (i : Int) + 1 := by omega
      rw [e1]; exact he'
    · have hb' : b < s.heap.objs.size := by
        have e' : b = e ∨ b = it := by simpa using hb
        rcases e' with z | z
        · rw [z]; exact hel
        · rw [z]; exact hil
      rw [upd_ne (Nat.ne_of_lt hb')]
      exact (hf b hb).1
  done := by
    intro X hP hw hK hc i pins s σ H E I hf st hg
    subst hP hw hK
    obtain ⟨⟨old, he⟩, hit, hne, hae, hai⟩ := st
    obtain ⟨xs, hq, hx⟩ := hg
    obtain ⟨its, rv, p, hz⟩ := I.tuple hq
    have hT : s.heap.IsTuple a its.toArray := p
    obtain ⟨f0, f1, f2, f3, f4, f5⟩ := hf it (by simp)
    have hl := rv.length
    refine enumEndT (I.ok.hd hc) he hit hT (by simp; omega) fun h' eb => ⟨rfl, I.turned (t' := s.toks) (fun b o hb q => eb b o hb q) f0 f1 f3 f4 f5⟩
  self := fun A i s Q E st h => let ⟨⟨_, he⟩, _⟩ := st; wpAny_pyIter_enum he h
def iEnumT (K : PySem.W.Frag) (ta : TA) : TI := fun σ H R => ta σ H fun vs H1 => ∃ a xs, vs = [.ref a] ∧ SqT K H1 a xs ∧ R (IteT K a) H1
theorem pi_enumT {X : Cx} {e : Expr} {ta : TA} {p pos tpos : Pos} {elts : List Expr} {kk : Nat} (hg : Gl X "enumerate") (hm : X.mg "enumerate" = none) (ha : PA X [e] ta) (hs : starEach [e] X.env = [(false, eval e X.env)] := by rfl) :
    PI X (.Tuple elts kk tpos) (.Call (.Name "enumerate" p) [e] [] pos) (iEnumT X.K ta) := by
  refine ⟨fun pins s σ H R I h => ?_⟩
  refine Call_ (ld_blt I hg hm boot_enumerate (PyProof.Rows.callWith_type1 (thn (ha.run pos pins s σ H _ I h) fun us s1 ⟨vs, H1, I1, r1, q1⟩ => ?_) hs rfl))
  obtain ⟨a, xs, ex, hq, q⟩ := q1
  subst ex
  cases r1 with
  | cons r rr =>
    cases rr
    cases r
    obtain ⟨its, rv, p', hz⟩ := I1.tuple hq
    have la : a < s1.heap.objs.size := p'.lt
    refine enumCallT (show s1.heap.IsTuple a its.toArray from p') fun h' he hit hsz hk => wpAny_pyIter_enum he ?_
    have I2 : Inv X pins σ H1 { s1 with heap := h' } := I1.kept (t' := s1.toks) hk
    refine ⟨s1.heap.objs.size + 1, [s1.heap.objs.size + 1, s1.heap.objs.size], _, _, H1, rfl, I2, turn_enumT a (s1.heap.objs.size + 1) s1.heap.objs.size, ⟨⟨.none, he⟩, hit, Nat.succ_ne_self _, Nat.ne_of_lt (Nat.lt_succ_of_lt la), Nat.ne_of_lt la⟩, fun b hb => ?_, q⟩
    have e' : b = s1.heap.objs.size + 1 ∨ b = s1.heap.objs.size := by simpa using hb
    have hle : s1.heap.objs.size ≤ b := by
      rcases e' with z | z
      · rw [z]; exact Nat.le_add_right _ _
      · rw [z]; exact Nat.le_refl _
    exact I1.fpOk hle (I1.hok.fresh hle)
theorem walk_enumT {K : PySem.W.Frag} {a : Addr} {xs : List V} : Walk (IteT K a) xs.length (fun H => SqT K H a xs) (YPair (fun i => some (.int (i : Nat))) (fun i => xs[i]?)) := by
  refine ⟨fun i _ hi q => ⟨xs, xs[i], q, by simp [hi]⟩, fun _ q => ⟨xs, q, Nat.le_refl _⟩, fun i H v H' _ q y => ?_⟩
  obtain ⟨T, x, h1, h2, h3, h4⟩ := y
  exact ⟨T, .int (i : Nat), x, h1, h2, h3, rfl, h4 xs q⟩
end BF

namespace BF
open PySem PySem.Spec PyProof.Rows L2
/-! ### the text by places -/
def top (i : Nat) : Stmt := PySem.Challenge.pw_brimful_k55_whole_nested_lending.main.body.getD i (.Pass ⟨0, 0, 0, 0⟩)
abbrev s_is_integer : Stmt := top 10
abbrev N_is_integer : List Str := ["value"]
abbrev P_is_integer : List Str := ["value"]
theorem sc_is_integer : FnScope N_is_integer P_is_integer (defScope s_is_integer) := ⟨rfl, rfl, rfl, by decide +kernel, rfl, by decide +kernel, by decide +kernel⟩
abbrev s_is_number : Stmt := top 11
abbrev N_is_number : List Str := ["value", "modulus"]
abbrev P_is_number : List Str := ["value", "modulus"]
theorem sc_is_number : FnScope N_is_number P_is_number (defScope s_is_number) := ⟨rfl, rfl, rfl, by decide +kernel, rfl, by decide +kernel, by decide +kernel⟩
abbrev s_is_factor : Stmt := top 18
abbrev N_is_factor : List Str := ["factor", "target", "cells", "inputs"]
abbrev P_is_factor : List Str := ["factor", "target", "cells", "inputs"]
theorem sc_is_factor : FnScope N_is_factor P_is_factor (defScope s_is_factor) := ⟨rfl, rfl, rfl, by decide +kernel, rfl, by decide +kernel, by decide +kernel⟩
abbrev s_is_add : Stmt := top 20
abbrev N_is_add : List Str := ["step", "modulus", "cells", "inputs", "_", "target", "coefficient", "factors", "factor"]
abbrev P_is_add : List Str := ["step", "modulus", "cells", "inputs"]
theorem sc_is_add : FnScope N_is_add P_is_add (defScope s_is_add) := ⟨rfl, rfl, rfl, by decide +kernel, rfl, by decide +kernel, by decide +kernel⟩
abbrev s_is_step : Stmt := top 22
abbrev N_is_step : List Str := ["step", "modulus", "cells", "inputs"]
abbrev P_is_step : List Str := ["step", "modulus", "cells", "inputs"]
theorem sc_is_step : FnScope N_is_step P_is_step (defScope s_is_step) := ⟨rfl, rfl, rfl, by decide +kernel, rfl, by decide +kernel, by decide +kernel⟩
abbrev s_inverse_step : Stmt := top 23
abbrev N_inverse_step : List Str := ["step", "modulus"]
abbrev P_inverse_step : List Str := ["step", "modulus"]
theorem sc_inverse_step : FnScope N_inverse_step P_inverse_step (defScope s_inverse_step) := ⟨rfl, rfl, rfl, by decide +kernel, rfl, by decide +kernel, by decide +kernel⟩
abbrev s_perform : Stmt := top 24
abbrev N_perform : List Str := ["step", "memory", "given", "modulus", "total", "kind", "index", "kept", "value"]
abbrev P_perform : List Str := ["step", "memory", "given", "modulus"]
theorem sc_perform : FnScope N_perform P_perform (defScope s_perform) := ⟨rfl, rfl, rfl, by decide +kernel, rfl, by decide +kernel, by decide +kernel⟩
abbrev s_check_steps : Stmt := top 26
abbrev N_check_steps : List Str := ["steps", "modulus", "cells", "inputs", "most", "looks", "step"]
abbrev P_check_steps : List Str := ["steps", "modulus", "cells", "inputs", "most"]
theorem sc_check_steps : FnScope N_check_steps P_check_steps (defScope s_check_steps) := ⟨rfl, rfl, rfl, by decide +kernel, rfl, by decide +kernel, by decide +kernel⟩
abbrev s_check_numbers : Stmt := top 32
abbrev N_check_numbers : List Str := ["values", "many", "modulus", "value"]
abbrev P_check_numbers : List Str := ["values", "many", "modulus"]
theorem sc_check_numbers : FnScope N_check_numbers P_check_numbers (defScope s_check_numbers) := ⟨rfl, rfl, rfl, by decide +kernel, rfl, by decide +kernel, by decide +kernel⟩
abbrev s_Program_init : Stmt := inClass (top 33) 0
abbrev N_Program_init : List Str := ["self", "modulus", "cells", "inputs", "steps"]
abbrev P_Program_init : List Str := ["self", "modulus", "cells", "inputs", "steps"]
theorem sc_Program_init : FnScope N_Program_init P_Program_init (defScope s_Program_init) := ⟨rfl, rfl, rfl, by decide +kernel, rfl, by decide +kernel, by decide +kernel⟩
abbrev s_Program_len : Stmt := inClass (top 33) 1
abbrev N_Program_len : List Str := ["self"]
abbrev P_Program_len : List Str := ["self"]
theorem sc_Program_len : FnScope N_Program_len P_Program_len (defScope s_Program_len) := ⟨rfl, rfl, rfl, by decide +kernel, rfl, by decide +kernel, by decide +kernel⟩
abbrev s_Loan_init : Stmt := inClass (top 36) 0
abbrev N_Loan_init : List Str := ["self", "program", "places", "given", "begun"]
abbrev P_Loan_init : List Str := ["self", "program", "places", "given", "begun"]
theorem sc_Loan_init : FnScope N_Loan_init P_Loan_init (defScope s_Loan_init) := ⟨rfl, rfl, rfl, by decide +kernel, rfl, by decide +kernel, by decide +kernel⟩
abbrev s_Vault_init : Stmt := inClass (top 37) 0
abbrev N_Vault_init : List Str := ["self", "memory", "modulus"]
abbrev P_Vault_init : List Str := ["self", "memory", "modulus"]
theorem sc_Vault_init : FnScope N_Vault_init P_Vault_init (defScope s_Vault_init) := ⟨rfl, rfl, rfl, by decide +kernel, rfl, by decide +kernel, by decide +kernel⟩
abbrev s_Vault_memory : Stmt := inClass (top 37) 1
abbrev N_Vault_memory : List Str := ["self"]
abbrev P_Vault_memory : List Str := ["self"]
theorem sc_Vault_memory : FnScope N_Vault_memory P_Vault_memory (defScope s_Vault_memory) := ⟨rfl, rfl, rfl, by decide +kernel, rfl, by decide +kernel, by decide +kernel⟩
abbrev s_Vault_lend : Stmt := inClass (top 37) 2
abbrev N_Vault_lend : List Str := ["self", "program", "places", "given", "seen", "place", "loan"]
abbrev P_Vault_lend : List Str := ["self", "program", "places", "given"]
theorem sc_Vault_lend : FnScope N_Vault_lend P_Vault_lend (defScope s_Vault_lend) := ⟨rfl, rfl, rfl, by decide +kernel, rfl, by decide +kernel, by decide +kernel⟩
abbrev s_Vault_found : Stmt := inClass (top 37) 3
abbrev N_Vault_found : List Str := ["self", "ticket"]
abbrev P_Vault_found : List Str := ["self", "ticket"]
theorem sc_Vault_found : FnScope N_Vault_found P_Vault_found (defScope s_Vault_found) := ⟨rfl, rfl, rfl, by decide +kernel, rfl, by decide +kernel, by decide +kernel⟩
abbrev s_Vault_blocked : Stmt := inClass (top 37) 4
abbrev N_Vault_blocked : List Str := ["self", "ticket", "places", "loan", "place"]
abbrev P_Vault_blocked : List Str := ["self", "ticket"]
theorem sc_Vault_blocked : FnScope N_Vault_blocked P_Vault_blocked (defScope s_Vault_blocked) := ⟨rfl, rfl, rfl, by decide +kernel, rfl, by decide +kernel, by decide +kernel⟩
abbrev s_Vault_perform : Stmt := inClass (top 37) 5
abbrev N_Vault_perform : List Str := ["self", "loan", "step", "cells", "place", "value"]
abbrev P_Vault_perform : List Str := ["self", "loan", "step"]
theorem sc_Vault_perform : FnScope N_Vault_perform P_Vault_perform (defScope s_Vault_perform) := ⟨rfl, rfl, rfl, by decide +kernel, rfl, by decide +kernel, by decide +kernel⟩
abbrev s_Vault_advance : Stmt := inClass (top 37) 6
abbrev N_Vault_advance : List Str := ["self", "ticket", "most", "loan", "steps", "step"]
abbrev P_Vault_advance : List Str := ["self", "ticket", "most"]
theorem sc_Vault_advance : FnScope N_Vault_advance P_Vault_advance (defScope s_Vault_advance) := ⟨rfl, rfl, rfl, by decide +kernel, rfl, by decide +kernel, by decide +kernel⟩
abbrev s_Vault_answer : Stmt := inClass (top 37) 7
abbrev N_Vault_answer : List Str := ["self", "ticket", "loan"]
abbrev P_Vault_answer : List Str := ["self", "ticket"]
theorem sc_Vault_answer : FnScope N_Vault_answer P_Vault_answer (defScope s_Vault_answer) := ⟨rfl, rfl, rfl, by decide +kernel, rfl, by decide +kernel, by decide +kernel⟩
abbrev s_Vault_recall : Stmt := inClass (top 37) 8
abbrev N_Vault_recall : List Str := ["self", "ticket", "loan", "steps", "step"]
abbrev P_Vault_recall : List Str := ["self", "ticket"]
theorem sc_Vault_recall : FnScope N_Vault_recall P_Vault_recall (defScope s_Vault_recall) := ⟨rfl, rfl, rfl, by decide +kernel, rfl, by decide +kernel, by decide +kernel⟩
abbrev s_Vault_open_loans : Stmt := inClass (top 37) 9
abbrev N_Vault_open_loans : List Str := ["self", "ticket", "loan"]
abbrev P_Vault_open_loans : List Str := ["self"]
theorem sc_Vault_open_loans : FnScope N_Vault_open_loans P_Vault_open_loans (defScope s_Vault_open_loans) := ⟨rfl, rfl, rfl, by decide +kernel, rfl, by decide +kernel, by decide +kernel⟩
abbrev s_is_node : Stmt := top 43
abbrev N_is_node : List Str := ["node", "at", "index"]
abbrev P_is_node : List Str := ["node", "at"]
theorem sc_is_node : FnScope N_is_node P_is_node (defScope s_is_node) := ⟨rfl, rfl, rfl, by decide +kernel, rfl, by decide +kernel, by decide +kernel⟩
abbrev s_check_source : Stmt := top 44
abbrev N_check_source : List Str := ["source", "at", "node"]
abbrev P_check_source : List Str := ["source"]
theorem sc_check_source : FnScope N_check_source P_check_source (defScope s_check_source) := ⟨rfl, rfl, rfl, by decide +kernel, rfl, by decide +kernel, by decide +kernel⟩
abbrev s_needs : Stmt := top 45
abbrev N_needs : List Str := ["source", "many", "node"]
abbrev P_needs : List Str := ["source"]
theorem sc_needs : FnScope N_needs P_needs (defScope s_needs) := ⟨rfl, rfl, rfl, by decide +kernel, rfl, by decide +kernel, by decide +kernel⟩
abbrev s_cost : Stmt := top 46
abbrev N_cost : List Str := ["source", "costs", "node", "third"]
abbrev P_cost : List Str := ["source"]
theorem sc_cost : FnScope N_cost P_cost (defScope s_cost) := ⟨rfl, rfl, rfl, by decide +kernel, rfl, by decide +kernel, by decide +kernel⟩
abbrev s_leaf_step : Stmt := top 49
abbrev N_leaf_step : List Str := ["node", "task", "modulus", "_", "target", "coefficient", "factors"]
abbrev P_leaf_step : List Str := ["node", "task", "modulus"]
theorem sc_leaf_step : FnScope N_leaf_step P_leaf_step (defScope s_leaf_step) := ⟨rfl, rfl, rfl, by decide +kernel, rfl, by decide +kernel, by decide +kernel⟩
abbrev s_product_tasks : Stmt := top 50
abbrev N_product_tasks : List Str := ["first", "second", "task", "modulus", "_", "target", "coefficient", "factors", "spare", "used", "through", "tasks", "passes", "sign", "part", "node"]
abbrev P_product_tasks : List Str := ["first", "second", "task", "modulus"]
theorem sc_product_tasks : FnScope N_product_tasks P_product_tasks (defScope s_product_tasks) := ⟨rfl, rfl, rfl, by decide +kernel, rfl, by decide +kernel, by decide +kernel⟩
abbrev s_inner_tasks : Stmt := top 51
abbrev N_inner_tasks : List Str := ["node", "task", "modulus", "_", "target", "coefficient", "factors", "spare", "part", "alone", "both"]
abbrev P_inner_tasks : List Str := ["node", "task", "modulus"]
theorem sc_inner_tasks : FnScope N_inner_tasks P_inner_tasks (defScope s_inner_tasks) := ⟨rfl, rfl, rfl, by decide +kernel, rfl, by decide +kernel, by decide +kernel⟩
abbrev s_compile_source : Stmt := top 52
abbrev N_compile_source : List Str := ["source", "modulus", "total", "empty", "steps", "tasks", "task", "node"]
abbrev P_compile_source : List Str := ["source", "modulus"]
theorem sc_compile_source : FnScope N_compile_source P_compile_source (defScope s_compile_source) := ⟨rfl, rfl, rfl, by decide +kernel, rfl, by decide +kernel, by decide +kernel⟩
abbrev s_law_mixed : Stmt := top 54
abbrev N_law_mixed : List Str := ["_law_number", "_law_k", "_law_step"]
abbrev P_law_mixed : List Str := ["_law_number", "_law_k"]
theorem sc_law_mixed : FnScope N_law_mixed P_law_mixed (defScope s_law_mixed) := ⟨rfl, rfl, rfl, by decide +kernel, rfl, by decide +kernel, by decide +kernel⟩
abbrev s_law_numbers : Stmt := top 55
abbrev N_law_numbers : List Str := ["_law_script", "_law_numbers_here", "_law_cell", "_law_rest", "_law_k"]
abbrev P_law_numbers : List Str := ["_law_script"]
theorem sc_law_numbers : FnScope N_law_numbers P_law_numbers (defScope s_law_numbers) := ⟨rfl, rfl, rfl, by decide +kernel, rfl, by decide +kernel, by decide +kernel⟩
abbrev s_law_draw : Stmt := top 56
abbrev N_law_draw : List Str := ["_law_draws", "_law_at", "_law_first"]
abbrev P_law_draw : List Str := ["_law_draws"]
theorem sc_law_draw : FnScope N_law_draw P_law_draw (defScope s_law_draw) := ⟨rfl, rfl, rfl, by decide +kernel, rfl, by decide +kernel, by decide +kernel⟩
abbrev s_law_equal : Stmt := top 57
abbrev N_law_equal : List Str := ["_law_actual", "_law_due"]
abbrev P_law_equal : List Str := ["_law_actual", "_law_due"]
theorem sc_law_equal : FnScope N_law_equal P_law_equal (defScope s_law_equal) := ⟨rfl, rfl, rfl, by decide +kernel, rfl, by decide +kernel, by decide +kernel⟩
abbrev s_law_all_equal : Stmt := top 58
abbrev N_law_all_equal : List Str := ["_law_actual", "_law_due", "_law_k"]
abbrev P_law_all_equal : List Str := ["_law_actual", "_law_due"]
theorem sc_law_all_equal : FnScope N_law_all_equal P_law_all_equal (defScope s_law_all_equal) := ⟨rfl, rfl, rfl, by decide +kernel, rfl, by decide +kernel, by decide +kernel⟩
abbrev s_law_source : Stmt := top 59
abbrev N_law_source : List Str := ["_law_draws", "_law_many", "_law_inputs", "_law_nodes", "_law_costs", "_law_k", "_law_pick", "_law_i", "_law_j", "_law_l", "_law_node", "_law_cost"]
abbrev P_law_source : List Str := ["_law_draws", "_law_many", "_law_inputs"]
theorem sc_law_source : FnScope N_law_source P_law_source (defScope s_law_source) := ⟨rfl, rfl, rfl, by decide +kernel, rfl, by decide +kernel, by decide +kernel⟩
abbrev s_law_meaning : Stmt := top 60
abbrev N_law_meaning : List Str := ["_law_source_here", "_law_modulus", "_law_given", "_law_worth", "_law_node", "_law_i"]
abbrev P_law_meaning : List Str := ["_law_source_here", "_law_modulus", "_law_given"]
theorem sc_law_meaning : FnScope N_law_meaning P_law_meaning (defScope s_law_meaning) := ⟨rfl, rfl, rfl, by decide +kernel, rfl, by decide +kernel, by decide +kernel⟩
abbrev s_law_needs : Stmt := top 61
abbrev N_law_needs : List Str := ["_law_source_here", "_law_node"]
abbrev P_law_needs : List Str := ["_law_source_here"]
theorem sc_law_needs : FnScope N_law_needs P_law_needs (defScope s_law_needs) := ⟨rfl, rfl, rfl, by decide +kernel, rfl, by decide +kernel, by decide +kernel⟩
abbrev s_law_places : Stmt := top 62
abbrev N_law_places : List Str := ["_law_draws", "_law_size", "_law_left", "_law_k"]
abbrev P_law_places : List Str := ["_law_draws", "_law_size"]
theorem sc_law_places : FnScope N_law_places P_law_places (defScope s_law_places) := ⟨rfl, rfl, rfl, by decide +kernel, rfl, by decide +kernel, by decide +kernel⟩
abbrev s_law : Stmt := top 63
abbrev N_law : List Str := ["_law_script", "_law_draws", "_law_size", "_law_modulus", "_law_memory", "_law_k", "_law_vault", "_law_due", "_law_costs", "_law_turn", "_law_source_here", "_law_program", "_law_given", "_law_ticket", "_law_part"]
abbrev P_law : List Str := ["_law_script"]
theorem sc_law : FnScope N_law P_law (defScope s_law) := ⟨rfl, rfl, rfl, by decide +kernel, rfl, by decide +kernel, by decide +kernel⟩

/-! ### what the top has left -/
/-- the getter of the property Vault.memory -/
def pM (K : PySem.W.Frag) : Addr := He.ma K (He.ga K "Vault") "memory"
def gM (K : PySem.W.Frag) : Addr := match PySem.W.recIn K (pM K) "property" with
  | some (.ref g :: _) => g
  | _ => 0
structure Txt (K : PySem.W.Frag) (w : World) (mg : Str → Option Value) : Prop where
  f_is_integer : ∃ fd, FunD K "is_integer" "is_integer" (defArgs s_is_integer) (defBody s_is_integer) (defScope s_is_integer) [] [] (He.ga K "is_integer") fd
  f_is_number : ∃ fd, FunD K "is_number" "is_number" (defArgs s_is_number) (defBody s_is_number) (defScope s_is_number) [] [] (He.ga K "is_number") fd
  f_is_factor : ∃ fd, FunD K "is_factor" "is_factor" (defArgs s_is_factor) (defBody s_is_factor) (defScope s_is_factor) [] [] (He.ga K "is_factor") fd
  f_is_add : ∃ fd, FunD K "is_add" "is_add" (defArgs s_is_add) (defBody s_is_add) (defScope s_is_add) [] [] (He.ga K "is_add") fd
  f_is_step : ∃ fd, FunD K "is_step" "is_step" (defArgs s_is_step) (defBody s_is_step) (defScope s_is_step) [] [] (He.ga K "is_step") fd
  f_inverse_step : ∃ fd, FunD K "inverse_step" "inverse_step" (defArgs s_inverse_step) (defBody s_inverse_step) (defScope s_inverse_step) [] [] (He.ga K "inverse_step") fd
  f_perform : ∃ fd, FunD K "perform" "perform" (defArgs s_perform) (defBody s_perform) (defScope s_perform) [] [] (He.ga K "perform") fd
  f_check_steps : ∃ fd, FunD K "check_steps" "check_steps" (defArgs s_check_steps) (defBody s_check_steps) (defScope s_check_steps) [] [] (He.ga K "check_steps") fd
  f_check_numbers : ∃ fd, FunD K "check_numbers" "check_numbers" (defArgs s_check_numbers) (defBody s_check_numbers) (defScope s_check_numbers) [] [] (He.ga K "check_numbers") fd
  f_Program_init : ∃ fd, FunD K "__init__" "Program.__init__" (defArgs s_Program_init) (defBody s_Program_init) (defScope s_Program_init) [] [] (He.ma K (He.ga K "Program") "__init__") fd
  f_Program_len : ∃ fd, FunD K "__len__" "Program.__len__" (defArgs s_Program_len) (defBody s_Program_len) (defScope s_Program_len) [] [] (He.ma K (He.ga K "Program") "__len__") fd
  f_Loan_init : ∃ fd, FunD K "__init__" "Loan.__init__" (defArgs s_Loan_init) (defBody s_Loan_init) (defScope s_Loan_init) [] [] (He.ma K (He.ga K "Loan") "__init__") fd
  f_Vault_init : ∃ fd, FunD K "__init__" "Vault.__init__" (defArgs s_Vault_init) (defBody s_Vault_init) (defScope s_Vault_init) [] [] (He.ma K (He.ga K "Vault") "__init__") fd
  f_Vault_memory : ∃ fd, FunD K "memory" "Vault.memory" (defArgs s_Vault_memory) (defBody s_Vault_memory) (defScope s_Vault_memory) [] [] (gM K) fd
  f_Vault_lend : ∃ fd, FunD K "lend" "Vault.lend" (defArgs s_Vault_lend) (defBody s_Vault_lend) (defScope s_Vault_lend) [] [] (He.ma K (He.ga K "Vault") "lend") fd
  f_Vault_found : ∃ fd, FunD K "found" "Vault.found" (defArgs s_Vault_found) (defBody s_Vault_found) (defScope s_Vault_found) [] [] (He.ma K (He.ga K "Vault") "found") fd
  f_Vault_blocked : ∃ fd, FunD K "blocked" "Vault.blocked" (defArgs s_Vault_blocked) (defBody s_Vault_blocked) (defScope s_Vault_blocked) [] [] (He.ma K (He.ga K "Vault") "blocked") fd
  f_Vault_perform : ∃ fd, FunD K "perform" "Vault.perform" (defArgs s_Vault_perform) (defBody s_Vault_perform) (defScope s_Vault_perform) [] [] (He.ma K (He.ga K "Vault") "perform") fd
  f_Vault_advance : ∃ fd, FunD K "advance" "Vault.advance" (defArgs s_Vault_advance) (defBody s_Vault_advance) (defScope s_Vault_advance) [] [] (He.ma K (He.ga K "Vault") "advance") fd
  f_Vault_answer : ∃ fd, FunD K "answer" "Vault.answer" (defArgs s_Vault_answer) (defBody s_Vault_answer) (defScope s_Vault_answer) [] [] (He.ma K (He.ga K "Vault") "answer") fd
  f_Vault_recall : ∃ fd, FunD K "recall" "Vault.recall" (defArgs s_Vault_recall) (defBody s_Vault_recall) (defScope s_Vault_recall) [] [] (He.ma K (He.ga K "Vault") "recall") fd
  f_Vault_open_loans : ∃ fd, FunD K "open_loans" "Vault.open_loans" (defArgs s_Vault_open_loans) (defBody s_Vault_open_loans) (defScope s_Vault_open_loans) [] [] (He.ma K (He.ga K "Vault") "open_loans") fd
  f_is_node : ∃ fd, FunD K "is_node" "is_node" (defArgs s_is_node) (defBody s_is_node) (defScope s_is_node) [] [] (He.ga K "is_node") fd
  f_check_source : ∃ fd, FunD K "check_source" "check_source" (defArgs s_check_source) (defBody s_check_source) (defScope s_check_source) [] [] (He.ga K "check_source") fd
  f_needs : ∃ fd, FunD K "needs" "needs" (defArgs s_needs) (defBody s_needs) (defScope s_needs) [] [] (He.ga K "needs") fd
  f_cost : ∃ fd, FunD K "cost" "cost" (defArgs s_cost) (defBody s_cost) (defScope s_cost) [] [] (He.ga K "cost") fd
  f_leaf_step : ∃ fd, FunD K "leaf_step" "leaf_step" (defArgs s_leaf_step) (defBody s_leaf_step) (defScope s_leaf_step) [] [] (He.ga K "leaf_step") fd
  f_product_tasks : ∃ fd, FunD K "product_tasks" "product_tasks" (defArgs s_product_tasks) (defBody s_product_tasks) (defScope s_product_tasks) [] [] (He.ga K "product_tasks") fd
  f_inner_tasks : ∃ fd, FunD K "inner_tasks" "inner_tasks" (defArgs s_inner_tasks) (defBody s_inner_tasks) (defScope s_inner_tasks) [] [] (He.ga K "inner_tasks") fd
  f_compile_source : ∃ fd, FunD K "compile_source" "compile_source" (defArgs s_compile_source) (defBody s_compile_source) (defScope s_compile_source) [] [] (He.ga K "compile_source") fd
  f_law_mixed : ∃ fd, FunD K "_law_mixed" "_law_mixed" (defArgs s_law_mixed) (defBody s_law_mixed) (defScope s_law_mixed) [] [] (He.ga K "_law_mixed") fd
  f_law_numbers : ∃ fd, FunD K "_law_numbers" "_law_numbers" (defArgs s_law_numbers) (defBody s_law_numbers) (defScope s_law_numbers) [] [] (He.ga K "_law_numbers") fd
  f_law_draw : ∃ fd, FunD K "_law_draw" "_law_draw" (defArgs s_law_draw) (defBody s_law_draw) (defScope s_law_draw) [] [] (He.ga K "_law_draw") fd
  f_law_equal : ∃ fd, FunD K "_law_equal" "_law_equal" (defArgs s_law_equal) (defBody s_law_equal) (defScope s_law_equal) [] [] (He.ga K "_law_equal") fd
  f_law_all_equal : ∃ fd, FunD K "_law_all_equal" "_law_all_equal" (defArgs s_law_all_equal) (defBody s_law_all_equal) (defScope s_law_all_equal) [] [] (He.ga K "_law_all_equal") fd
  f_law_source : ∃ fd, FunD K "_law_source" "_law_source" (defArgs s_law_source) (defBody s_law_source) (defScope s_law_source) [] [] (He.ga K "_law_source") fd
  f_law_meaning : ∃ fd, FunD K "_law_meaning" "_law_meaning" (defArgs s_law_meaning) (defBody s_law_meaning) (defScope s_law_meaning) [] [] (He.ga K "_law_meaning") fd
  f_law_needs : ∃ fd, FunD K "_law_needs" "_law_needs" (defArgs s_law_needs) (defBody s_law_needs) (defScope s_law_needs) [] [] (He.ga K "_law_needs") fd
  f_law_places : ∃ fd, FunD K "_law_places" "_law_places" (defArgs s_law_places) (defBody s_law_places) (defScope s_law_places) [] [] (He.ga K "_law_places") fd
  f_law : ∃ fd, FunD K "law" "law" (defArgs s_law) (defBody s_law) (defScope s_law) [] [] (He.ga K "law") fd
  g_is_integer : mg "is_integer" = some (.ref (He.ga K "is_integer"))
  g_is_number : mg "is_number" = some (.ref (He.ga K "is_number"))
  g_is_factor : mg "is_factor" = some (.ref (He.ga K "is_factor"))
  g_is_add : mg "is_add" = some (.ref (He.ga K "is_add"))
  g_is_step : mg "is_step" = some (.ref (He.ga K "is_step"))
  g_inverse_step : mg "inverse_step" = some (.ref (He.ga K "inverse_step"))
  g_perform : mg "perform" = some (.ref (He.ga K "perform"))
  g_check_steps : mg "check_steps" = some (.ref (He.ga K "check_steps"))
  g_check_numbers : mg "check_numbers" = some (.ref (He.ga K "check_numbers"))
  g_is_node : mg "is_node" = some (.ref (He.ga K "is_node"))
  g_check_source : mg "check_source" = some (.ref (He.ga K "check_source"))
  g_needs : mg "needs" = some (.ref (He.ga K "needs"))
  g_cost : mg "cost" = some (.ref (He.ga K "cost"))
  g_leaf_step : mg "leaf_step" = some (.ref (He.ga K "leaf_step"))
  g_product_tasks : mg "product_tasks" = some (.ref (He.ga K "product_tasks"))
  g_inner_tasks : mg "inner_tasks" = some (.ref (He.ga K "inner_tasks"))
  g_compile_source : mg "compile_source" = some (.ref (He.ga K "compile_source"))
  g__law_mixed : mg "_law_mixed" = some (.ref (He.ga K "_law_mixed"))
  g__law_numbers : mg "_law_numbers" = some (.ref (He.ga K "_law_numbers"))
  g__law_draw : mg "_law_draw" = some (.ref (He.ga K "_law_draw"))
  g__law_equal : mg "_law_equal" = some (.ref (He.ga K "_law_equal"))
  g__law_all_equal : mg "_law_all_equal" = some (.ref (He.ga K "_law_all_equal"))
  g__law_source : mg "_law_source" = some (.ref (He.ga K "_law_source"))
  g__law_meaning : mg "_law_meaning" = some (.ref (He.ga K "_law_meaning"))
  g__law_needs : mg "_law_needs" = some (.ref (He.ga K "_law_needs"))
  g__law_places : mg "_law_places" = some (.ref (He.ga K "_law_places"))
  g_law : mg "law" = some (.ref (He.ga K "law"))
  g_perform_steps : mg "perform_steps" = some (.ref (He.ga K "perform"))
  g_LENGTHS : mg "LENGTHS" = some (.ref (He.ga K "LENGTHS"))
  g_Loan : mg "Loan" = some (.ref (He.ga K "Loan"))
  c_Loan : Cls K (He.ga K "Loan")
  m_Loan : Mk K (He.ga K "Loan") (He.ma K (He.ga K "Loan") "__init__")
  g_Program : mg "Program" = some (.ref (He.ga K "Program"))
  c_Program : Cls K (He.ga K "Program")
  m_Program : Mk K (He.ga K "Program") (He.ma K (He.ga K "Program") "__init__")
  g_Vault : mg "Vault" = some (.ref (He.ga K "Vault"))
  c_Vault : Cls K (He.ga K "Vault")
  m_Vault : Mk K (He.ga K "Vault") (He.ma K (He.ga K "Vault") "__init__")
  h_Vault_lend : Meth K (He.ga K "Vault") "lend" (He.ma K (He.ga K "Vault") "lend")
  h_Vault_found : Meth K (He.ga K "Vault") "found" (He.ma K (He.ga K "Vault") "found")
  h_Vault_blocked : Meth K (He.ga K "Vault") "blocked" (He.ma K (He.ga K "Vault") "blocked")
  h_Vault_perform : Meth K (He.ga K "Vault") "perform" (He.ma K (He.ga K "Vault") "perform")
  h_Vault_advance : Meth K (He.ga K "Vault") "advance" (He.ma K (He.ga K "Vault") "advance")
  h_Vault_answer : Meth K (He.ga K "Vault") "answer" (He.ma K (He.ga K "Vault") "answer")
  h_Vault_recall : Meth K (He.ga K "Vault") "recall" (He.ma K (He.ga K "Vault") "recall")
  h_Vault_open_loans : Meth K (He.ga K "Vault") "open_loans" (He.ma K (He.ga K "Vault") "open_loans")
  n_Program_modulus : NoAttr K (He.ga K "Program") "modulus"
  n_Program_cells : NoAttr K (He.ga K "Program") "cells"
  n_Program_inputs : NoAttr K (He.ga K "Program") "inputs"
  n_Program_steps : NoAttr K (He.ga K "Program") "steps"
  n_Loan_program : NoAttr K (He.ga K "Loan") "program"
  n_Loan_places : NoAttr K (He.ga K "Loan") "places"
  n_Loan_given : NoAttr K (He.ga K "Loan") "given"
  n_Loan_begun : NoAttr K (He.ga K "Loan") "begun"
  n_Loan_done : NoAttr K (He.ga K "Loan") "done"
  n_Vault_modulus : NoAttr K (He.ga K "Vault") "modulus"
  n_Vault_cells : NoAttr K (He.ga K "Vault") "cells"
  n_Vault_loans : NoAttr K (He.ga K "Vault") "loans"
  i_FACTORS : ∃ t, mg "FACTORS" = some (.int 3 t)
  i_MODULUS : ∃ t, mg "MODULUS" = some (.int 1000000000 t)
  i_CELLS : ∃ t, mg "CELLS" = some (.int 60 t)
  i_INPUTS_programs : ∃ t, mg "INPUTS_programs" = some (.int 60 t)
  i_STEPS : ∃ t, mg "STEPS" = some (.int 20000 t)
  i_MOST_vault : ∃ t, mg "MOST_vault" = some (.int 200 t)
  i_NODES : ∃ t, mg "NODES" = some (.int 200 t)
  i_CONSTANT : ∃ t, mg "CONSTANT" = some (.int 1000000000 t)
  i_INPUTS_sources : ∃ t, mg "INPUTS_sources" = some (.int 60 t)
  i_MOST_three : ∃ t, mg "MOST_three" = some (.int 20000 t)
  z_isinstance : mg "isinstance" = none
  z_len : mg "len" = none
  z_range : mg "range" = none
  z_max : mg "max" = none
  z_list : mg "list" = none
  z_tuple : mg "tuple" = none
  z_enumerate : mg "enumerate" = none
  z_zip : mg "zip" = none
  z_any : mg "any" = none
  z_int : mg "int" = none
  z_bool : mg "bool" = none
  z_str : mg "str" = none
  l_Program : PySem.W.findIn K (.ref (He.ga K "Program")) "__len__" = some (some (.ref (He.ma K (He.ga K "Program") "__len__")))
  l_fn : PySem.W.isFn K (.ref (He.ma K (He.ga K "Program") "__len__")) = true
  p_memory : PropOf K (He.ga K "Vault") "memory" (pM K) (gM K)
  d_LEN : ∃ es n, KDict K w (He.ga K "LENGTHS") es n
  d_const : ∃ u, PySem.W.nsIn K (He.ga K "LENGTHS") "const" = some (some u) ∧ RelV (.int 2) u
  d_input : ∃ u, PySem.W.nsIn K (He.ga K "LENGTHS") "input" = some (some u) ∧ RelV (.int 2) u
  d_sum : ∃ u, PySem.W.nsIn K (He.ga K "LENGTHS") "sum" = some (some u) ∧ RelV (.int 3) u
  d_product : ∃ u, PySem.W.nsIn K (He.ga K "LENGTHS") "product" = some (some u) ∧ RelV (.int 3) u
  d_scaled : ∃ u, PySem.W.nsIn K (He.ga K "LENGTHS") "scaled" = some (some u) ∧ RelV (.int 3) u
  d_choose : ∃ u, PySem.W.nsIn K (He.ga K "LENGTHS") "choose" = some (some u) ∧ RelV (.int 4) u
/-! ### defs that are ready to be called -/
structure Rdy (P : Program) (w : World) (K : PySem.W.Frag) (mg : Str → Option Value) (base : Heap) (k : Nat) (f : Addr) (ps : List Str) (sp : Sp) : Prop where
  ex : ∃ fd, FnOk P w K mg base CX0 k f fd ps sp ∧ Binds K fd ps []
  kp : PySem.W.keepIn K (.ref f) = true
section
variable {P : Program} {w : World} {K : PySem.W.Frag} {mg : Str → Option Value} {base : Heap}
theorem rdy_of {x qual : Str} {st : Stmt} {f : Addr} {N ps : List Str} {k : Nat} {sp : Sp} (F : ∃ fd, FunD K x qual (defArgs st) (defBody st) (defScope st) [] [] f fd) (S : FnScope N ps (defScope st))
    (hb : ∀ (kV doc pm : Value) (an : Option Addr) (cdv ct : Value) (us : List Value), us.length = ps.length → bindArgs (PySem.W.fnOf x qual (defArgs st) (defBody st) (defScope st) .none kV doc pm an cdv ct) ⟨us, []⟩ = pure (ps.zip us))
    (len : ∀ vs H Q E, sp vs H Q E → vs.length = ps.length)
    (hbody : ∀ (cdv : Value) (A : Around) (outer : List Env) (s : Shared) (H : Hp) (vs : List V) (Q : VK) (E : XK), Room k (A.deeper (envOfC qual (defScope st) s.heap.objs.size f cdv)) → sp vs H Q E →
      ∃ t, PSs (cxOf CX0 P w K mg base N qual (defScope st) f cdv A outer s H E).nox (defBody st) t ∧ t { nx := fun _ H' => Q .non H', rt := Q } (start N vs) H) : Rdy P w K mg base (k + 1) f ps sp := by
  obtain ⟨fd, F⟩ := F
  refine ⟨⟨fd, F.ok S len fun cdv A outer s H vs Q E hr hs => ?_, F.bindsN hb⟩, F.kp⟩
  obtain ⟨t, h1, h2⟩ := hbody cdv A outer s H vs Q E hr hs
  exact ⟨t, h1.nox, h2⟩
theorem Rdy.mono {j k : Nat} {f : Addr} {ps : List Str} {sp : Sp} (R : Rdy P w K mg base j f ps sp) (h : j ≤ k) : Rdy P w K mg base k f ps sp := by
  obtain ⟨⟨fd, G, b⟩, kp⟩ := R
  exact ⟨⟨fd, G.mono h, b⟩, kp⟩
end
section
variable {X : Cx} {k : Nat} {f C : Addr} {ps : List Str} {sp : Sp} {x m : Str} {p pos apos : Pos} {e o : Expr} {es : List Expr} {ta : TE} {t : TA}
def tCl (sp : Sp) (t : TA) : TE := fun σ H Q => t σ H fun vs H1 => sp vs H1 Q E0
def tMt (C : Addr) (m : Str) (sp : Sp) (ta : TE) (t : TA) : TE := fun σ H Q => ta σ H fun x H1 => ∃ a dx fs, x = .ref a ∧ H1 a = some (.ins C dx fs) ∧ fs.lookup m = none ∧ t σ H1 fun vs H2 => sp (x :: vs) H2 Q E0
def tMk (C : Addr) (sp : Sp) (t : TA) : TE := fun σ H Q => t σ H fun vs H1 => ∀ x dx, H1 x = none → H1 dx = none → dx ≠ x →
  sp (.ref x :: vs) (upd (upd H1 dx (.own x)) x (.ins C dx [])) (fun v H2 => v = .non ∧ Q (.ref x) H2) E0
theorem tCl_eq : tCall sp [] E0 t = tCl sp t := by
  funext σ H Q
  show (t σ H fun vs H1 => sp (vs ++ []) H1 Q E0) = _
  have q : (fun vs H1 => sp (vs ++ []) H1 Q E0) = fun vs H1 => sp vs H1 Q E0 := by
    funext vs H1
    rw [List.append_nil]
  rw [q]; rfl
theorem tMt_eq : tMeth C m sp [] E0 ta t = tMt C m sp ta t := by
  funext σ H Q
  unfold tMeth tMt
  simp only [List.append_nil]
theorem tMk_eq : tMake C sp [] E0 t = tMk C sp t := by
  funext σ H Q
  unfold tMake tMk
  simp only [List.append_nil]
theorem pe_callR (R : Rdy X.prog X.w X.K X.mg X.base k f ps sp) (hr : Room k X.A) (hg : Gl X x) (hm : X.mg x = some (.ref f)) (ha : PA X (e :: es) t)
    (hdb : (x == ("__debug__" : Str)) = false := by decide) (he : starEach (e :: es) X.env = (false, eval e X.env) :: starEach es X.env := by rfl) (hpl : (backTo pos (starEach es X.env)).any (·.1) = false := by rfl) :
    PE X (.Call (.Name x p) (e :: es) [] pos) (tCl sp t) := by
  obtain ⟨⟨fd, G, b⟩, kp⟩ := R
  rw [← tCl_eq]
  exact pe_call G hr hg hm kp b .nil pass0 ha hdb he hpl
theorem pe_makeR {g : Addr} (M : Mk X.K C g) (R : Rdy X.prog X.w X.K X.mg X.base k g ps sp) (hr : Room (k + 1) X.A) (hg : Gl X x) (hm : X.mg x = some (.ref C)) (ha : PA X (e :: es) t)
    (hdb : (x == ("__debug__" : Str)) = false := by decide) (he : starEach (e :: es) X.env = (false, eval e X.env) :: starEach es X.env := by rfl) (hpl : (backTo pos (starEach es X.env)).any (·.1) = false := by rfl) :
    PE X (.Call (.Name x p) (e :: es) [] pos) (tMk C sp t) := by
  obtain ⟨⟨fd, G, b⟩, kp⟩ := R
  rw [← tMk_eq]
  exact pe_make M G hr hg hm b .nil pass0 ha hdb he hpl
theorem pe_methR {pl : Sem Bool} (he : PE X o ta) (c : Cls X.K C) (hm : Meth X.K C m f) (R : Rdy X.prog X.w X.K X.mg X.base k f ps sp) (hr : Room k X.A) (ha : PA X (e :: es) t)
    (hst : starEach (e :: es) X.env = (false, eval e X.env) :: starEach es X.env := by rfl) (hpl : (backTo pos (starEach es X.env)).any (·.1) = false := by rfl)
    (ht : eval (.Call (.Attribute o m apos) (e :: es) [] pos) X.env = (do
      let ov ← eval o X.env
      standAt apos.atName
      let (f, first) ← holding [ov] (getMethod ov m pl)
      callWith pos f first (backTo pos (starEach (e :: es) X.env)) (backToKw pos (keywordEach [] X.env))) := by rfl) :
    PE X (.Call (.Attribute o m apos) (e :: es) [] pos) (tMt C m sp ta t) := by
  obtain ⟨⟨fd, G, b⟩, kp⟩ := R
  rw [← tMt_eq]
  exact pe_meth he c hm G hr b .nil pass0 ha hst hpl ht
theorem pe_meth0R {pl : Sem Bool} (he : PE X o ta) (c : Cls X.K C) (hm : Meth X.K C m f) (R : Rdy X.prog X.w X.K X.mg X.base k f ps sp) (hr : Room k X.A)
    (ht : eval (.Call (.Attribute o m apos) [] [] pos) X.env = (do
      let ov ← eval o X.env
      standAt apos.atName
      let (f, first) ← holding [ov] (getMethod ov m pl)
      callWith pos f first (backTo pos (starEach [] X.env)) (backToKw pos (keywordEach [] X.env))) := by rfl) :
    PE X (.Call (.Attribute o m apos) [] [] pos) (tMt C m sp ta tNil) := by
  obtain ⟨⟨fd, G, b⟩, kp⟩ := R
  rw [← tMt_eq]
  exact pe_meth0 he c hm G hr b .nil pass0 ht
theorem pe_lenR (hs : PySem.W.findIn X.K (.ref C) "__len__" = some (some (.ref f))) (hf : PySem.W.isFn X.K (.ref f) = true) (R : Rdy X.prog X.w X.K X.mg X.base k f ["self"] sp) (hr : Room (k + 1) X.A) : CallR X (.builtin "len") (rLenOwn C sp) := by
  obtain ⟨⟨fd, G, b⟩, kp⟩ := R
  exact call_lenOwn hs hf G b hr
def tPr (C : Addr) (sp : Sp) (ta : TE) : TE := fun σ H Q => ta σ H fun x H1 => ∃ a dx fs, x = .ref a ∧ H1 a = some (.ins C dx fs) ∧ sp [.ref a] H1 Q E0
theorem pe_propR {q : Addr} {y : Str} (he : PE X e ta) (c : Cls X.K C) (hp : PropOf X.K C y q f) (R : Rdy X.prog X.w X.K X.mg X.base k f ["self"] sp) (hr : Room (k + 1) X.A)
    (hab : attributeBase e y X.env (eval e X.env) = eval e X.env) : PE X (.Attribute e y pos) (tPr C sp ta) := by
  obtain ⟨⟨fd, G, b⟩, kp⟩ := R
  exact pe_prop he c hp G hr b .nil pass0 hab
end
end BF

namespace BF
open PySem PySem.Spec PyProof.Rows L2
/-! ### what stays -/
structure Kp (S : List Addr) (H H' : Hp) : Prop where
  keep : ∀ b o, H b = some o → b ∉ S → H' b = some o
  tup : ∀ b xs, H b = some (.tup xs) → H' b = some (.tup xs)
  there : ∀ b o, H b = some o → ∃ o', H' b = some o'
section
variable {S S' : List Addr} {H H1 H2 : Hp} {p l : Addr} {o : HO} {K : PySem.W.Frag} {xs : List V}
theorem Kp.refl : Kp S H H := ⟨fun _ _ h _ => h, fun _ _ h => h, fun _ o h => ⟨o, h⟩⟩
theorem Kp.trans (a : Kp S H H1) (b : Kp S H1 H2) : Kp S H H2 := ⟨fun c o h n => b.keep c o (a.keep c o h n) n, fun c xs h => b.tup c xs (a.tup c xs h), fun c o h => let ⟨o', h'⟩ := a.there c o h; b.there c o' h'⟩
theorem Kp.mono (a : Kp S H H1) (h : ∀ x ∈ S, x ∈ S') : Kp S' H H1 := ⟨fun c o q n => a.keep c o q fun z => n (h c z), a.tup, a.there⟩
theorem Kp.nil (a : Kp [] H H1) : Kp S H H1 := a.mono fun _ h => nomatch h
theorem Kp.free (a : Kp S H H1) (h : H1 l = none) : H l = none := by
  cases q : H l with
  | none => rfl
  | some o =>
    obtain ⟨o', e⟩ := a.there l o q
    rw [h] at e
    cases e
theorem Kp.new (a : Kp S H H1) (h : H1 p = none) : Kp S H (upd H1 p o) :=
  ⟨fun c u q n => by rw [upd_ne (ne_of_none (a.keep c u q n) h)]; exact a.keep c u q n, fun c u q => by rw [upd_ne (ne_of_none (a.tup c u q) h)]; exact a.tup c u q, fun c u q => by
    obtain ⟨u', e⟩ := a.there c u q
    exact ⟨u', by rw [upd_ne (ne_of_none e h)]; exact e⟩⟩
def NotT (o : Option HO) : Prop := ∀ xs, o ≠ some (.tup xs)
theorem notT_l {xs : List V} (h : H p = some (.lst xs)) : NotT (H p) := fun ys e => by rw [h] at e; cases e
theorem notT_i {C dx : Addr} {fs : List (Str × V)} (h : H p = some (.ins C dx fs)) : NotT (H p) := fun ys e => by rw [h] at e; cases e
theorem notT_o {x : Addr} (h : H p = some (.own x)) : NotT (H p) := fun ys e => by rw [h] at e; cases e
/-- an object of S, or one that H does not know, is changed -/
theorem Kp.mut (a : Kp S H H1) (h : p ∈ S ∨ H p = none) (t : NotT (H1 p)) : Kp S H (upd H1 p o) :=
  ⟨fun c u q n => by
    have ne : c ≠ p := fun z => by
      rcases h with h | h
      · exact n (z ▸ h)
      · rw [z, h] at q; cases q
    rw [upd_ne ne]
    exact a.keep c u q n, fun c u q => by
    have ne : c ≠ p := fun z => t u (z ▸ a.tup c u q)
    rw [upd_ne ne]
    exact a.tup c u q, fun c u q => by
    by_cases e : c = p
    · exact ⟨o, by rw [e]; exact upd_same⟩
    · obtain ⟨u', e'⟩ := a.there c u q
      exact ⟨u', by rw [upd_ne e]; exact e'⟩⟩
theorem Kp.seq (a : Kp S H H1) (h : SqL K H l xs) (n : l ∉ S) : SqL K H1 l xs := by
  rcases h with (h | ⟨u, h⟩) | h
  · exact .inl (.inl (a.keep _ _ h n))
  · exact .inl (.inr ⟨u, a.keep _ _ h n⟩)
  · exact .inr h
theorem Kp.ne (h : H p = some o) (h' : H l = none) : p ≠ l := ne_of_none h h'
theorem Kp.mem (a : Kp S H H1) {x y : Addr} (hx : H x = some o) (hy : H1 y = none) : x ≠ y := ne_of_none hx (a.free hy)
end
/-! ### lists of objects -/
def Refs {α : Type} (R : Addr → α → Prop) (xs : List V) (as : List α) : Prop := xs.length = as.length ∧ ∀ (i : Nat) (a : α), as[i]? = some a → ∃ t, xs[i]? = some (.ref t) ∧ R t a
section
variable {α : Type} {R R' : Addr → α → Prop} {xs ys : List V} {as bs : List α}
theorem Refs.imp (h : Refs R xs as) (f : ∀ t a, R t a → R' t a) : Refs R' xs as := ⟨h.1, fun i a e => let ⟨t, e1, e2⟩ := h.2 i a e; ⟨t, e1, f t a e2⟩⟩
theorem Refs.nil : Refs R [] ([] : List α) := ⟨rfl, fun i a e => by cases i <;> cases e⟩
theorem Refs.one {t : Addr} {a : α} (h : R t a) : Refs R [.ref t] [a] := ⟨rfl, fun i b e => by
  cases i with
  | zero => cases e; exact ⟨t, rfl, h⟩
  | succ i => cases e⟩
theorem Refs.app (h : Refs R xs as) (k : Refs R ys bs) : Refs R (xs ++ ys) (as ++ bs) := ⟨by rw [List.length_append, List.length_append, h.1, k.1], fun i a e => by
  by_cases hi : i < as.length
  · rw [List.getElem?_append_left hi] at e
    obtain ⟨t, e1, e2⟩ := h.2 i a e
    exact ⟨t, by rw [List.getElem?_append_left (by rw [h.1]; exact hi)]; exact e1, e2⟩
  · rw [List.getElem?_append_right (by omega)] at e
    obtain ⟨t, e1, e2⟩ := k.2 _ a e
    exact ⟨t, by rw [List.getElem?_append_right (by rw [h.1]; omega), h.1]; exact e1, e2⟩⟩
theorem Refs.snoc {t : Addr} {a : α} (h : Refs R xs as) (k : R t a) : Refs R (xs ++ [.ref t]) (as ++ [a]) := h.app (.one k)
theorem Refs.cons {t : Addr} {a : α} (k : R t a) (h : Refs R xs as) : Refs R (.ref t :: xs) (a :: as) := (Refs.one k).app h
theorem Refs.take (h : Refs R xs as) (n : Nat) : Refs R (xs.take n) (as.take n) := ⟨by rw [List.length_take, List.length_take, h.1], fun i a e => by
  obtain ⟨hi, e'⟩ := List.getElem?_eq_some_iff.mp e
  have hn : i < n := by rw [List.length_take] at hi; omega
  rw [List.getElem?_take_of_lt hn] at e ⊢
  exact h.2 i a e⟩
theorem Refs.drop (h : Refs R xs as) (n : Nat) : Refs R (xs.drop n) (as.drop n) := ⟨by rw [List.length_drop, List.length_drop, h.1], fun i a e => by
  rw [List.getElem?_drop] at e ⊢
  exact h.2 _ a e⟩
theorem Refs.rev (h : Refs R xs as) : Refs R xs.reverse as.reverse := ⟨by rw [List.length_reverse, List.length_reverse, h.1], fun i a e => by
  obtain ⟨hi, _⟩ := List.getElem?_eq_some_iff.mp e
  rw [List.length_reverse] at hi
  rw [List.getElem?_reverse hi] at e
  rw [List.getElem?_reverse (by rw [h.1]; exact hi), h.1]
  exact h.2 _ a e⟩
/-- an item of the list of values is an object of the list of things -/
theorem Refs.at_ (h : Refs R xs as) {i : Nat} {x : V} (e : xs[i]? = some x) : ∃ t a, x = .ref t ∧ as[i]? = some a ∧ R t a := by
  obtain ⟨hi, _⟩ := List.getElem?_eq_some_iff.mp e
  rw [h.1] at hi
  obtain ⟨t, e1, e2⟩ := h.2 i as[i] (List.getElem?_eq_getElem hi)
  rw [e] at e1
  exact ⟨t, as[i], Option.some.inj e1, List.getElem?_eq_getElem hi, e2⟩
end
/-! ### what stands in the heap -/
def Nd.vs : Nd → List V
  | .const c => [.str "const", .int c]
  | .inp k => [.str "input", .int k]
  | .sum i j => [.str "sum", .int i, .int j]
  | .prod i j => [.str "product", .int i, .int j]
  | .scaled c i => [.str "scaled", .int c, .int i]
  | .choose i j l => [.str "choose", .int i, .int j, .int l]
def NodeAt (H : Hp) (t : Addr) (nd : Nd) : Prop := H t = some (.tup nd.vs)
def SrcAt (H : Hp) (a : Addr) (ns : List Nd) : Prop := ∃ xs, H a = some (.tup xs) ∧ Refs (NodeAt H) xs ns
def Fac.vs : Fac → List V
  | .cell i => [.str "cell", .int i]
  | .inp k => [.str "input", .int k]
def FacAt (H : Hp) (t : Addr) (f : Fac) : Prop := H t = some (.tup f.vs)
def FacsAt (H : Hp) (a : Addr) (fs : List Fac) : Prop := ∃ xs, H a = some (.tup xs) ∧ Refs (FacAt H) xs fs
def StpAt (H : Hp) (t : Addr) (s : Stp) : Prop := ∃ f, H t = some (.tup [.str "add", .int s.tgt, .int s.co, .ref f]) ∧ FacsAt H f s.fs
def TaskAt (H : Hp) (t : Addr) (k : Task) : Prop := ∃ f, H t = some (.tup [.int k.node, .int k.tgt, .int k.co, .ref f, .int k.spare]) ∧ FacsAt H f k.facs
def PairAt (H : Hp) (t : Addr) (p : Int × Nat) : Prop := H t = some (.tup [.int p.1, .int p.2])
section
variable {S : List Addr} {H H1 : Hp} {t : Addr}
theorem NodeAt.kp {nd : Nd} (h : NodeAt H t nd) (k : Kp S H H1) : NodeAt H1 t nd := k.tup _ _ h
theorem SrcAt.kp {ns : List Nd} (h : SrcAt H t ns) (k : Kp S H H1) : SrcAt H1 t ns := let ⟨xs, e, r⟩ := h; ⟨xs, k.tup _ _ e, r.imp fun _ _ z => z.kp k⟩
theorem FacAt.kp {f : Fac} (h : FacAt H t f) (k : Kp S H H1) : FacAt H1 t f := k.tup _ _ h
theorem FacsAt.kp {fs : List Fac} (h : FacsAt H t fs) (k : Kp S H H1) : FacsAt H1 t fs := let ⟨xs, e, r⟩ := h; ⟨xs, k.tup _ _ e, r.imp fun _ _ z => z.kp k⟩
theorem StpAt.kp {s : Stp} (h : StpAt H t s) (k : Kp S H H1) : StpAt H1 t s := let ⟨f, e, r⟩ := h; ⟨f, k.tup _ _ e, r.kp k⟩
theorem TaskAt.kp {s : Task} (h : TaskAt H t s) (k : Kp S H H1) : TaskAt H1 t s := let ⟨f, e, r⟩ := h; ⟨f, k.tup _ _ e, r.kp k⟩
theorem PairAt.kp {s : Int × Nat} (h : PairAt H t s) (k : Kp S H H1) : PairAt H1 t s := k.tup _ _ h
end
def pfs (m : Int) (n : Nat) (l : Addr) : List (Str × V) := [("modulus", .int m), ("cells", .int 3), ("inputs", .int n), ("steps", .ref l)]
def lfs (p pl g : Addr) (begun : Int) (done : Nat) : List (Str × V) := [("program", .ref p), ("places", .ref pl), ("given", .ref g), ("begun", .int begun), ("done", .int done)]
def vfs (m : Int) (C L : Addr) : List (Str × V) := [("modulus", .int m), ("cells", .ref C), ("loans", .ref L)]
def vis (l : List Int) : List V := l.map V.int
def vns (l : List Nat) : List V := l.map fun (i : Nat) => V.int (i : Int)
def ProgAt (K : PySem.W.Frag) (H : Hp) (p : Addr) (m : Int) (n : Nat) (l : Addr) : Prop := ∃ dx, H p = some (.ins (He.ga K "Program") dx (pfs m n l))
def LoanAt (K : PySem.W.Frag) (H : Hp) (a p pl g : Addr) (begun : Int) (done : Nat) : Prop := ∃ dx, H a = some (.ins (He.ga K "Loan") dx (lfs p pl g begun done))
def VaultAt (K : PySem.W.Frag) (H : Hp) (v : Addr) (m : Int) (C L : Addr) : Prop := ∃ dx, H v = some (.ins (He.ga K "Vault") dx (vfs m C L))
def LstAt {α : Type} (R : Hp → Addr → α → Prop) (H : Hp) (l : Addr) (as : List α) : Prop := ∃ xs, H l = some (.lst xs) ∧ Refs (R H) xs as
def Rng (m : Int) (xs : List Int) : Prop := ∀ x ∈ xs, 0 ≤ x ∧ x < m
/-- the draws: [numbers, how many were taken] -/
structure Draws (H : Hp) (d N : Addr) (ns : List Int) : Prop where
  d : ∃ k : Nat, H d = some (.lst [.ref N, .int k])
  n : H N = some (.lst (vis ns))
  r : Rng 1000000 ns
section
variable {K : PySem.W.Frag} {S : List Addr} {H H1 : Hp} {d N p l a pl g v C L : Addr} {ns : List Int} {m b : Int} {n k : Nat}
theorem Draws.ne (h : Draws H d N ns) : N ≠ d := by
  obtain ⟨k, e⟩ := h.d
  refine ne_of h.n e fun q => ?_
  have q' : vis ns = [.ref N, .int k] := HO.lst.inj q
  cases ns with
  | nil => cases q'
  | cons x r =>
    have q2 : V.int x = V.ref N := List.head_eq_of_cons_eq q'
    cases q2
theorem Draws.kp (h : Draws H d N ns) (k : Kp S H H1) (n1 : d ∉ S) (n2 : N ∉ S) : Draws H1 d N ns := by
  obtain ⟨j, e⟩ := h.d
  exact ⟨⟨j, k.keep _ _ e n1⟩, k.keep _ _ h.n n2, h.r⟩
/-- behind a draw -/
theorem Draws.next (h : Draws H d N ns) (k : Kp [d] H H1) (e : ∃ k : Nat, H1 d = some (.lst [.ref N, .int k])) : Draws H1 d N ns :=
  ⟨e, k.keep _ _ h.n fun z => h.ne (List.mem_singleton.mp z), h.r⟩
theorem ProgAt.kp (h : ProgAt K H p m n l) (k : Kp S H H1) (np : p ∉ S) : ProgAt K H1 p m n l := let ⟨dx, e⟩ := h; ⟨dx, k.keep _ _ e np⟩
theorem LoanAt.kp {j : Nat} (h : LoanAt K H a p pl g b j) (k : Kp S H H1) (np : a ∉ S) : LoanAt K H1 a p pl g b j := let ⟨dx, e⟩ := h; ⟨dx, k.keep _ _ e np⟩
theorem VaultAt.kp (h : VaultAt K H v m C L) (k : Kp S H H1) (np : v ∉ S) : VaultAt K H1 v m C L := let ⟨dx, e⟩ := h; ⟨dx, k.keep _ _ e np⟩
theorem LstStp.kp {ss : List Stp} (h : LstAt StpAt H l ss) (k : Kp S H H1) (np : l ∉ S) : LstAt StpAt H1 l ss := let ⟨xs, e, r⟩ := h; ⟨xs, k.keep _ _ e np, r.imp fun _ _ z => z.kp k⟩
end
/-! ### the promises -/
section
variable (K : PySem.W.Frag)
def sp_is_integer : Sp := fun vs H Q _ => ∃ i : Int, vs = [.int i] ∧ Q (.bl true) H
def sp_is_number : Sp := fun vs H Q _ => ∃ i m : Int, vs = [.int i, .int m] ∧ (0 ≤ i ∧ i < m) ∧ Q (.bl true) H
def sp_is_factor : Sp := fun vs H Q _ => ∃ (f : Addr) (x : Fac) (n t : Nat), vs = [.ref f, .int t, .int 3, .int n] ∧ FacAt H f x ∧ x.ok n t ∧ Q (.bl true) H
def sp_is_add : Sp := fun vs H Q _ => ∃ (a : Addr) (s : Stp) (m : Int) (n : Nat), vs = [.ref a, .int m, .int 3, .int n] ∧ StpAt H a s ∧ s.Ok m n ∧ Q (.bl true) H
def sp_check_steps : Sp := fun vs H Q _ => ∃ (l : Addr) (ss : List Stp) (m : Int) (n : Nat) (most : Int), vs = [.ref l, .int m, .int 3, .int n, .int most] ∧ LstAt StpAt H l ss ∧ (∀ s ∈ ss, s.Ok m n) ∧ (ss.length : Int) ≤ most ∧ Q .non H
def sp_Program_init : Sp := fun vs H Q _ => ∃ (p dx l : Addr) (xs : List V) (ss : List Stp) (m : Int) (n : Nat), vs = [.ref p, .int m, .int 3, .int n, .ref l] ∧ H p = some (.ins (He.ga K "Program") dx []) ∧ H l = some (.lst xs) ∧ Refs (StpAt H) xs ss ∧
  (∀ s ∈ ss, s.Ok m n) ∧ ss.length ≤ 20000 ∧ (2 ≤ m ∧ m ≤ 1000000000) ∧ n ≤ 60 ∧ ∀ (H' : Hp) (l' : Addr), Kp [p] H H' → H' p = some (.ins (He.ga K "Program") dx (pfs m n l')) → H l' = none → H' l' = some (.lst xs) → Q .non H'
def sp_Program_len : Sp := fun vs H Q _ => ∃ (p l : Addr) (m : Int) (n : Nat) (xs : List V), vs = [.ref p] ∧ ProgAt K H p m n l ∧ H l = some (.lst xs) ∧ Q (.int xs.length) H
def sp_check_numbers : Sp := fun vs H Q _ => ∃ (l : Addr) (xs : List Int) (m : Int), vs = [.ref l, .int xs.length, .int m] ∧ H l = some (.lst (vis xs)) ∧ Rng m xs ∧ Q .non H
def sp_Loan_init : Sp := fun vs H Q _ => ∃ (a dx p pl g : Addr) (b : Int), vs = [.ref a, .ref p, .ref pl, .ref g, .int b] ∧ H a = some (.ins (He.ga K "Loan") dx []) ∧ ∀ H', Kp [a] H H' → H' a = some (.ins (He.ga K "Loan") dx (lfs p pl g b 0)) → Q .non H'
def sp_Vault_init : Sp := fun vs H Q _ => ∃ (v dx l : Addr) (mem : List Int) (m : Int), vs = [.ref v, .ref l, .int m] ∧ H v = some (.ins (He.ga K "Vault") dx []) ∧ H l = some (.lst (vis mem)) ∧ Rng m mem ∧ (1 ≤ mem.length ∧ mem.length ≤ 200) ∧ (2 ≤ m ∧ m ≤ 1000000000) ∧
  ∀ (H' : Hp) (C L : Addr), Kp [v] H H' → H' v = some (.ins (He.ga K "Vault") dx (vfs m C L)) → H C = none → H L = none → C ≠ L → H' C = some (.lst (vis mem)) → H' L = some (.lst []) → Q .non H'
def sp_Vault_memory : Sp := fun vs H Q _ => ∃ (v C L : Addr) (m : Int) (xs : List V), vs = [.ref v] ∧ VaultAt K H v m C L ∧ H C = some (.lst xs) ∧ ∀ p, H p = none → Q (.ref p) (upd H p (.lst xs))
/-- a loan's things -/
structure LD where
  a : Addr
  p : Addr
  l : Addr
  pl : Addr
  g : Addr
  n : Nat
  ss : List Stp
  places : List Nat
  given : List Int
  begun : Int
  done : Nat
def LD.comps (d : LD) : List Addr := [d.a, d.p, d.l, d.pl, d.g]
structure LoanIn (H : Hp) (m : Int) (sz : Nat) (d : LD) : Prop where
  la : LoanAt K H d.a d.p d.pl d.g d.begun d.done
  pa : ProgAt K H d.p m d.n d.l
  st : LstAt StpAt H d.l d.ss
  pc : H d.pl = some (.lst (vns d.places))
  gv : H d.g = some (.lst (vis d.given))
  ok : ∀ s ∈ d.ss, s.Ok m d.n
  po : PlOk sz d.places
  gl : d.given.length = d.n
  gr : Rng m d.given
/-- the vault, its cells and its loans -/
structure VSt (H : Hp) (m : Int) (v C L : Addr) (mem : List Int) (ls : List V) : Prop where
  va : VaultAt K H v m C L
  ce : H C = some (.lst (vis mem))
  lo : H L = some (.lst ls)
  r : Rng m mem
  sz : mem.length ≤ 200
  m2 : 2 ≤ m ∧ m ≤ 1000000000
  ll : ls.length ≤ 1000
  ne : C ≠ L
def sp_lend : Sp := fun vs H Q _ => ∃ (v p pl g C L : Addr) (m : Int) (mem : List Int) (ls : List V) (n : Nat) (l : Addr) (places : List Nat) (given : List Int), vs = [.ref v, .ref p, .ref pl, .ref g] ∧ VSt K H m v C L mem ls ∧ ProgAt K H p m n l ∧
  H pl = some (.lst (vns places)) ∧ PlOk mem.length places ∧ H g = some (.lst (vis given)) ∧ given.length = n ∧ Rng m given ∧
  ∀ (H' : Hp) (a pl' g' : Addr), Kp [L] H H' → H a = none → H pl' = none → H g' = none → H' L = some (.lst (ls ++ [.ref a])) → LoanAt K H' a p pl' g' (mem.getD (places.getD 0 0) 0) 0 → H' pl' = some (.lst (vns places)) → H' g' = some (.lst (vis given)) → Q (.int ls.length) H'
def sp_found : Sp := fun vs H Q _ => ∃ (v C L a : Addr) (m : Int) (mem : List Int) (ls : List V) (t : Nat), vs = [.ref v, .int t] ∧ VSt K H m v C L mem ls ∧ ls[t]? = some (.ref a) ∧ Q (.ref a) H
/-- loan t is the last one that is open -/
def LastAt (ls : List V) (t : Nat) (a : Addr) : Prop := ls[t]? = some (.ref a) ∧ ∀ (j : Nat) (x : V), t < j → ls[j]? = some x → x = .non
def sp_blocked : Sp := fun vs H Q _ => ∃ (v C L : Addr) (m : Int) (mem : List Int) (ls : List V) (t : Nat) (sz : Nat) (d : LD), vs = [.ref v, .int t] ∧ VSt K H m v C L mem ls ∧ LastAt ls t d.a ∧ LoanIn K H m sz d ∧ ∀ H', Kp [] H H' → Q (.bl false) H'
def sp_Vault_perform : Sp := fun vs H Q _ => ∃ (v C L st : Addr) (m : Int) (mem : List Int) (ls : List V) (d : LD) (s : Stp), vs = [.ref v, .ref d.a, .ref st] ∧ VSt K H m v C L mem ls ∧ LoanIn K H m mem.length d ∧ StpAt H st s ∧ s.Ok m d.n ∧
  C ∉ d.comps ∧ ∀ H', Kp [C] H H' → H' C = some (.lst (vis (vstep m d.given d.places mem s))) → Q .non H'
def sp_advance : Sp := fun vs H Q _ => ∃ (v C L : Addr) (m : Int) (mem : List Int) (ls : List V) (d : LD) (t most : Nat), vs = [.ref v, .int t, .int most] ∧ VSt K H m v C L mem ls ∧ LoanIn K H m mem.length d ∧ LastAt ls t d.a ∧ C ∉ d.comps ∧ d.done ≤ d.ss.length ∧ d.ss.length ≤ 20000 ∧ most ≤ 1000 ∧
  ∀ H', Kp [C, d.a] H H' → H' C = some (.lst (vis (vruns m d.given d.places mem ((d.ss.drop d.done).take most)))) → LoanAt K H' d.a d.p d.pl d.g d.begun (d.done + ((d.ss.drop d.done).take most).length) → Q (.int ((d.ss.drop d.done).take most).length) H'
def sp_answer : Sp := fun vs H Q _ => ∃ (v C L : Addr) (m : Int) (mem : List Int) (ls : List V) (d : LD) (t : Nat), vs = [.ref v, .int t] ∧ VSt K H m v C L mem ls ∧ LoanIn K H m mem.length d ∧ LastAt ls t d.a ∧ d.done = d.ss.length ∧
  ∀ H', Kp [] H H' → Q (.int ((mem.getD (d.places.getD 0 0) 0 - d.begun) % m)) H'
def sp_recall : Sp := fun vs H Q _ => ∃ (v C L : Addr) (m : Int) (mem : List Int) (ls : List V) (d : LD) (t : Nat), vs = [.ref v, .int t] ∧ VSt K H m v C L mem ls ∧ LoanIn K H m mem.length d ∧ LastAt ls t d.a ∧ C ∉ d.comps ∧ d.done = d.ss.length ∧ d.ss.length ≤ 20000 ∧
  ∀ (H' : Hp) (z : V), Kp [C, L] H H' → H' C = some (.lst (vis (vruns m d.given d.places mem (d.ss.reverse.map (Stp.inv m))))) → H' L = some (.lst (ls.set t .non)) → Q z H'
def sp_open_loans : Sp := fun vs H Q _ => ∃ (v C L : Addr) (m : Int) (mem : List Int) (ls : List V), vs = [.ref v] ∧ VSt K H m v C L mem ls ∧ (∀ x ∈ ls, x = .non) ∧ ∀ (H' : Hp) (p : Addr), Kp [] H H' → H p = none → H' p = some (.lst []) → Q (.ref p) H'
def sp_inverse_step : Sp := fun vs H Q _ => ∃ (a : Addr) (s : Stp) (m : Int), vs = [.ref a, .int m] ∧ StpAt H a s ∧ 2 ≤ m ∧ ∀ (H' : Hp) (t : Addr), Kp [] H H' → StpAt H' t (s.inv m) → Q (.ref t) H'
def sp_perform : Sp := fun vs H Q _ => ∃ (a c g : Addr) (s : Stp) (m : Int) (n : Nat) (cs given : List Int), vs = [.ref a, .ref c, .ref g, .int m] ∧ StpAt H a s ∧ s.Ok m n ∧ 2 ≤ m ∧ m ≤ 1000000000 ∧ Mem3 m cs ∧ Rng m given ∧ given.length = n ∧ H c = some (.lst (vis cs)) ∧ H g = some (.lst (vis given)) ∧
  ∀ H', H' = upd H c (.lst (vis (s.run m given cs))) → Q .non H'
def sp_is_node : Sp := fun vs H Q _ => ∃ (a : Addr) (nd : Nd) (k : Nat), vs = [.ref a, .int k] ∧ NodeAt H a nd ∧ nd.ok k ∧ ∀ H', Kp [] H H' → Q (.bl true) H'
def sp_check_source : Sp := fun vs H Q _ => ∃ (a : Addr) (ns : List Nd), vs = [.ref a] ∧ SrcAt H a ns ∧ SrcOk ns ∧ ∀ H', Kp [] H H' → Q .non H'
def sp_needs : Sp := fun vs H Q _ => ∃ (a : Addr) (ns : List Nd), vs = [.ref a] ∧ SrcAt H a ns ∧ SrcOk ns ∧ ∀ H', Kp [] H H' → Q (.int (needs ns)) H'
def sp_cost : Sp := fun vs H Q _ => ∃ (a : Addr) (ns : List Nd), vs = [.ref a] ∧ SrcAt H a ns ∧ SrcOk ns ∧ (∀ x ∈ costs ns, 0 ≤ x ∧ x ≤ 300) ∧ ∀ H', Kp [] H H' → Q (.int (cst ns (ns.length - 1))) H'
def sp_leaf_step : Sp := fun vs H Q _ => ∃ (a t : Addr) (nd : Nd) (k : Task) (m : Int) (j : Nat), vs = [.ref a, .ref t, .int m] ∧ NodeAt H a nd ∧ TaskAt H t k ∧ nd.isLeaf = true ∧ nd.ok j ∧ (2 ≤ m ∧ m ≤ 1000000000) ∧ (0 ≤ k.co ∧ k.co < m) ∧
  ∀ (H' : Hp) (p : Addr), Kp [] H H' → StpAt H' p (leaf m k nd) → Q (.ref p) H'
def sp_product_tasks : Sp := fun vs H Q _ => ∃ (f s t : Addr) (k : Task) (m : Int) (first second : List (Int × Nat)) (z : Nat), vs = [.ref f, .ref s, .ref t, .int m] ∧ LstAt PairAt H f first ∧ LstAt PairAt H s second ∧ TaskAt H t k ∧ k.Ok m z ∧ (2 ≤ m ∧ m ≤ 1000000000) ∧
  first.length ≤ 5 ∧ second.length ≤ 5 ∧
  ∀ (H' : Hp) (p : Addr), Kp [] H H' → H p = none → LstAt TaskAt H' p (prodTasks m first second k) → Q (.ref p) H'
def sp_inner_tasks : Sp := fun vs H Q _ => ∃ (a t : Addr) (nd : Nd) (k : Task) (m : Int) (j z : Nat), vs = [.ref a, .ref t, .int m] ∧ NodeAt H a nd ∧ TaskAt H t k ∧ nd.isLeaf = false ∧ nd.ok j ∧ k.Ok m z ∧ (2 ≤ m ∧ m ≤ 1000000000) ∧
  ∀ (H' : Hp) (p : Addr), Kp [] H H' → H p = none → LstAt TaskAt H' p (inner m k nd) → Q (.ref p) H'
/-- what a compiled program does -/
def Does (m : Int) (ns : List Nd) (ss : List Stp) : Prop := ∀ (g cs : List Int), Mem3 m cs → runs m g cs ss = cs.set 0 ((cs.getD 0 0 + val m g ns (ns.length - 1)) % m)
def sp_compile : Sp := fun vs H Q _ => ∃ (a : Addr) (ns : List Nd) (m : Int), vs = [.ref a, .int m] ∧ SrcAt H a ns ∧ SrcOk ns ∧ (∀ x ∈ costs ns, 0 ≤ x ∧ x ≤ 300) ∧ (2 ≤ m ∧ m ≤ 1000000000) ∧
  ∀ (H' : Hp) (p l : Addr) (ss : List Stp), Kp [] H H' → H p = none → H l = none → ProgAt K H' p m (needs ns) l → LstAt StpAt H' l ss → (∀ s ∈ ss, s.Ok m (needs ns)) → ss.length ≤ 300 → Does m ns ss → Q (.ref p) H'
def sp_mixed : Sp := fun vs H Q _ => ∃ i j : Int, vs = [.int i, .int j] ∧ ∀ r : Int, 0 ≤ r → r < 2147483647 → Q (.int r) H
def sp_numbers : Sp := fun vs H Q _ => ∃ (a : Addr) (ns : List Int), vs = [.ref a] ∧ SqL K H a (vis ns) ∧ ns.length ≤ 63 ∧ ∀ (H' : Hp) (N : Addr) (xs : List Int), Kp [] H H' → H N = none → H' N = some (.lst (vis xs)) → Rng 1000000 xs → Q (.ref N) H'
def sp_draw : Sp := fun vs H Q _ => ∃ (d N : Addr) (ns : List Int), vs = [.ref d] ∧ Draws H d N ns ∧ ∀ (H' : Hp) (x : Int), Kp [d] H H' → Draws H' d N ns → 0 ≤ x → x < 1000000 → Q (.int x) H'
def sp_equalI : Sp := fun vs H Q _ => ∃ i : Int, vs = [.int i, .int i] ∧ Q (.bl true) H
def sp_all_equal : Sp := fun vs H Q _ => ∃ (a b : Addr) (xs : List Int), vs = [.ref a, .ref b] ∧ H a = some (.lst (vis xs)) ∧ H b = some (.lst (vis xs)) ∧ xs.length ≤ 1000 ∧ Q (.bl true) H
def sp_source : Sp := fun vs H Q _ => ∃ (d N : Addr) (ns : List Int) (many inputs : Int), vs = [.ref d, .int many, .int inputs] ∧ Draws H d N ns ∧ (1 ≤ many ∧ many ≤ 7) ∧ (1 ≤ inputs ∧ inputs ≤ 3) ∧
  ∀ (H' : Hp) (a : Addr) (src : List Nd), Kp [d] H H' → Draws H' d N ns → H a = none → SrcAt H' a src → SrcOk src → (∀ x ∈ costs src, 0 ≤ x ∧ x ≤ 300) → needs src ≤ 3 → Q (.ref a) H'
def sp_meaning : Sp := fun vs H Q _ => ∃ (a g : Addr) (ns : List Nd) (m : Int) (given : List Int), vs = [.ref a, .int m, .ref g] ∧ SrcAt H a ns ∧ SrcOk ns ∧ (2 ≤ m ∧ m ≤ 1000000000) ∧ H g = some (.lst (vis given)) ∧ given.length = needs ns ∧ Rng m given ∧
  ∀ H', Kp [] H H' → Q (.int (val m given ns (ns.length - 1))) H'
def sp_law_needs : Sp := fun vs H Q _ => ∃ (a : Addr) (ns : List Nd), vs = [.ref a] ∧ SrcAt H a ns ∧ ns.length ≤ 200 ∧ ∀ H', Kp [] H H' → Q (.int (needs ns)) H'
def sp_places : Sp := fun vs H Q _ => ∃ (d N : Addr) (ns : List Int) (sz : Nat), vs = [.ref d, .int sz] ∧ Draws H d N ns ∧ (3 ≤ sz ∧ sz ≤ 6) ∧ ∀ (H' : Hp) (p : Addr) (places : List Nat), Kp [d] H H' → Draws H' d N ns → H p = none → H' p = some (.lst (vns places)) → PlOk sz places → Q (.ref p) H'
def sp_law : Sp := fun vs H Q _ => ∃ (a : Addr) (ns : List Int), vs = [.ref a] ∧ SqL K H a (vis ns) ∧ ns.length ≤ 63 ∧ ∀ H', Q (.bl true) H'
end
end BF

namespace BF
open PySem PySem.Spec PyProof.Rows L2
/-! ### isinstance -/
section
variable {K : PySem.W.Frag} {H : Hp} {Q : VK} {a : Addr} {xs : List V}
theorem k_int_int : kitB "int" "int" = some true := by decide +kernel
theorem k_int_bool : kitB "int" "bool" = some false := by decide +kernel
theorem k_int_list : kitB "int" "list" = some false := by decide +kernel
theorem k_int_tuple : kitB "int" "tuple" = some false := by decide +kernel
theorem k_list_list : kitB "list" "list" = some true := by decide +kernel
theorem k_tuple_tuple : kitB "tuple" "tuple" = some true := by decide +kernel
theorem k_str_str : kitB "str" "str" = some true := by decide +kernel
theorem isi {x : V} {t n : String} {b : Bool} (ty : TyX K H x (.type t)) (h : kitB t n = some b) (q : Q (.bl b) H) : rIsi K [x, .ty n] H Q := ⟨x, .ty n, _, _, b, rfl, .ty n, ty, kit_ty h, q⟩
theorem tyi (i : Int) : TyX K H (.int i) (.type "int") := .base (.int i)
theorem tys (s : Str) : TyX K H (.str s) (.type "str") := .base (.str s)
theorem tyl (h : H a = some (.lst xs)) : TyX K H (.ref a) (.type "list") := .base (.lst h)
theorem tyt (h : H a = some (.tup xs)) : TyX K H (.ref a) (.type "tuple") := .base (.tup h)
end
/-! ### texts that differ, texts that are one -/
theorem dTrue {x : V} : decide (x = x) = true := decide_eq_true rfl
theorem d_ic {s : Str} (h : ¬ s = "const") : decide (V.str s = V.str "const") = false := decide_eq_false fun e => h (V.str.inj e)
theorem d1 : decide (V.str "input" = V.str "const") = false := by decide +kernel
theorem d2 : decide (V.str "sum" = V.str "const") = false := by decide +kernel
theorem d3 : decide (V.str "product" = V.str "const") = false := by decide +kernel
theorem d4 : decide (V.str "scaled" = V.str "const") = false := by decide +kernel
theorem d5 : decide (V.str "choose" = V.str "const") = false := by decide +kernel
theorem d6 : decide (V.str "sum" = V.str "input") = false := by decide +kernel
theorem d7 : decide (V.str "product" = V.str "input") = false := by decide +kernel
theorem d8 : decide (V.str "scaled" = V.str "input") = false := by decide +kernel
theorem d9 : decide (V.str "choose" = V.str "input") = false := by decide +kernel
theorem d10 : decide (V.str "sum" = V.str "scaled") = false := by decide +kernel
theorem d11 : decide (V.str "product" = V.str "scaled") = false := by decide +kernel
theorem d12 : decide (V.str "choose" = V.str "scaled") = false := by decide +kernel
theorem d13 : decide (V.str "product" = V.str "sum") = false := by decide +kernel
theorem d14 : decide (V.str "choose" = V.str "sum") = false := by decide +kernel
theorem d15 : decide (V.str "choose" = V.str "product") = false := by decide +kernel
theorem d16 : decide (V.str "input" = V.str "cell") = false := by decide +kernel
theorem d17 : decide (V.str "add" = V.str "table") = false := by decide +kernel
theorem d18 : decide (V.str "scaled" = V.str "sum") = false := by decide +kernel
theorem d19 : decide (V.str "scaled" = V.str "product") = false := by decide +kernel
theorem d20 : decide (V.str "const" = V.str "input") = false := by decide +kernel
theorem d21 : decide (V.str "const" = V.str "scaled") = false := by decide +kernel
theorem d22 : decide (V.str "input" = V.str "scaled") = false := by decide +kernel
/-! ### items -/
theorem at0 {α : Type} {a : α} {l : List α} : atI (a :: l) 0 = some a := atI_nat (j := 0) rfl
theorem at1 {α : Type} {a b : α} {l : List α} : atI (a :: b :: l) 1 = some b := atI_nat (j := 1) rfl
theorem at2 {α : Type} {a b c : α} {l : List α} : atI (a :: b :: c :: l) 2 = some c := atI_nat (j := 2) rfl
theorem at3 {α : Type} {a b c d : α} {l : List α} : atI (a :: b :: c :: d :: l) 3 = some d := atI_nat (j := 3) rfl
theorem at_vis {l : List Int} {i : Nat} (h : i < l.length) : atI (vis l) (i : Int) = some (.int (l.getD i 0)) := by
  refine atI_nat ?_
  unfold vis
  rw [List.getElem?_map, List.getElem?_eq_getElem h, List.getD_eq_getElem?_getD, List.getElem?_eq_getElem h]; rfl
theorem at_vns {l : List Nat} {i : Nat} (h : i < l.length) : atI (vns l) (i : Int) = some (.int ((l.getD i 0 : Nat) : Int)) := by
  refine atI_nat ?_
  unfold vns
  rw [List.getElem?_map, List.getElem?_eq_getElem h, List.getD_eq_getElem?_getD, List.getElem?_eq_getElem h]; rfl
theorem vis_len {l : List Int} : (vis l).length = l.length := List.length_map ..
theorem vns_len {l : List Nat} : (vns l).length = l.length := List.length_map ..
theorem vis_at {l : List Int} {i : Nat} {x : V} (h : (vis l)[i]? = some x) : ∃ z, x = .int z ∧ l[i]? = some z := by
  unfold vis at h
  rw [List.getElem?_map] at h
  cases e : l[i]? with
  | none => rw [e] at h; cases h
  | some z => rw [e] at h; exact ⟨z, (Option.some.inj h).symm, rfl⟩
theorem vns_at {l : List Nat} {i : Nat} {x : V} (h : (vns l)[i]? = some x) : ∃ z : Nat, x = .int z ∧ l[i]? = some z := by
  unfold vns at h
  rw [List.getElem?_map] at h
  cases e : l[i]? with
  | none => rw [e] at h; cases h
  | some z => rw [e] at h; exact ⟨z, (Option.some.inj h).symm, rfl⟩
theorem vis_set {l : List Int} {i : Nat} {z : Int} : (vis l).set i (.int z) = vis (l.set i z) := by unfold vis; rw [List.map_set]
theorem vis_snoc {l : List Int} {z : Int} : vis l ++ [.int z] = vis (l ++ [z]) := by unfold vis; rw [List.map_append]; rfl
theorem vns_snoc {l : List Nat} {z : Nat} : vns l ++ [.int z] = vns (l ++ [z]) := by unfold vns; rw [List.map_append]; rfl
theorem ixN_nat {n k : Nat} (h : k < n) : ixN n (k : Int) = some k := by
  unfold ixN
  rw [if_pos (Int.natCast_nonneg k), if_pos (by omega)]
  rfl
theorem tot_take {m : Int} {mem g : List Int} {co : Int} {fs : List Fac} {i : Nat} {f : Fac} (h : fs[i]? = some f) : tot m mem g co (fs.take (i + 1)) = tot m mem g co (fs.take i) * f.val mem g % m := by
  rw [List.take_add_one, h]
  unfold tot
  rw [List.foldl_append]
  rfl
theorem small64' {x m : Int} (h : 0 ≤ x ∧ x < m) (hm : m ≤ 1000000000) : -(2 ^ 64) < x ∧ x < 2 ^ 64 := by omega
/-! ### fields -/
section
variable {m b : Int} {n k : Nat} {l p pl g C L : Addr} {v : V}
theorem pf_m : (pfs m n l).lookup ("modulus" : Str) = some (.int m) := by kernel_rfl
theorem pf_c : (pfs m n l).lookup ("cells" : Str) = some (.int 3) := by kernel_rfl
theorem pf_i : (pfs m n l).lookup ("inputs" : Str) = some (.int n) := by kernel_rfl
theorem pf_s : (pfs m n l).lookup ("steps" : Str) = some (.ref l) := by kernel_rfl
theorem lf_p : (lfs p pl g b k).lookup ("program" : Str) = some (.ref p) := by kernel_rfl
theorem lf_l : (lfs p pl g b k).lookup ("places" : Str) = some (.ref pl) := by kernel_rfl
theorem lf_g : (lfs p pl g b k).lookup ("given" : Str) = some (.ref g) := by kernel_rfl
theorem lf_b : (lfs p pl g b k).lookup ("begun" : Str) = some (.int b) := by kernel_rfl
theorem lf_d : (lfs p pl g b k).lookup ("done" : Str) = some (.int k) := by kernel_rfl
theorem vf_m : (vfs m C L).lookup ("modulus" : Str) = some (.int m) := by kernel_rfl
theorem vf_c : (vfs m C L).lookup ("cells" : Str) = some (.ref C) := by kernel_rfl
theorem vf_l : (vfs m C L).lookup ("loans" : Str) = some (.ref L) := by kernel_rfl
theorem vf_1 : (vfs m C L).lookup ("lend" : Str) = none := by kernel_rfl
theorem vf_2 : (vfs m C L).lookup ("found" : Str) = none := by kernel_rfl
theorem vf_3 : (vfs m C L).lookup ("blocked" : Str) = none := by kernel_rfl
theorem vf_4 : (vfs m C L).lookup ("perform" : Str) = none := by kernel_rfl
theorem vf_5 : (vfs m C L).lookup ("advance" : Str) = none := by kernel_rfl
theorem vf_6 : (vfs m C L).lookup ("answer" : Str) = none := by kernel_rfl
theorem vf_7 : (vfs m C L).lookup ("recall" : Str) = none := by kernel_rfl
theorem vf_8 : (vfs m C L).lookup ("open_loans" : Str) = none := by kernel_rfl
theorem pf_mk : putF "steps" (.ref l) (putF "inputs" (.int n) (putF "cells" (.int 3) (putF "modulus" (.int m) []))) = pfs m n l := by kernel_rfl
theorem lf_mk : putF "done" (.int 0) (putF "begun" (.int b) (putF "given" (.ref g) (putF "places" (.ref pl) (putF "program" (.ref p) [])))) = lfs p pl g b 0 := by kernel_rfl
theorem lf_done {j : Nat} : putF "done" (.int (j : Int)) (lfs p pl g m k) = lfs p pl g m j := by kernel_rfl
theorem vf_mk : putF "loans" (.ref L) (putF "cells" (.ref C) (putF "modulus" (.int m) [])) = vfs m C L := by kernel_rfl
end
/-! ### ifs -/
theorem ifT0 {A B : Prop} (h : A) : if true = true then A else B := iteT h
theorem ifT {A B : Prop} (h : A) : if true = true then A else B := iteT h
theorem bT {Q : VK} {H : Hp} {p : Prop} [Decidable p] (h : p) (k : Q (.bl true) H) : Q (.bl (decide p)) H := by rw [decide_eq_true h]; exact k
theorem bF {Q : VK} {H : Hp} {p : Prop} [Decidable p] (h : ¬ p) (k : Q (.bl false) H) : Q (.bl (decide p)) H := by rw [decide_eq_false h]; exact k
theorem iy {b : Bool} {A B : Prop} (h : b = true) (x : A) : if b = true then A else B := by rw [h]; exact ifT0 x
theorem inn {b : Bool} {A B : Prop} (h : b = false) (x : B) : if b = true then A else B := by rw [h]; exact iteF x
theorem ndT {x y : V} (h : x = y) : (!decide (x = y)) = false := by rw [decide_eq_true h]; rfl
theorem ndF {x y : V} (h : ¬ x = y) : (!decide (x = y)) = true := by rw [decide_eq_false h]; rfl
theorem nB {Q : VK} {H : Hp} {x y : V} (h : ¬ x = y) (k : Q (.bl true) H) : Q (.bl (!decide (x = y))) H := by rw [ndF h]; exact k
theorem nd' {p : Prop} [Decidable p] (h : p) : (!decide p) = false := by rw [decide_eq_true h]; rfl
theorem plen {f : Str} {v : V} {fs : List (Str × V)} {n : Nat} (h : fs.length ≤ n) : (putF f v fs).length ≤ n + 1 := Nat.le_trans (length_putF f v fs) (Nat.succ_le_succ h)
theorem pl0 : ([] : List (Str × V)).length < 1000 := by decide
theorem pl1 {f : Str} {v : V} : (putF f v []).length < 1000 := Nat.lt_of_le_of_lt (plen (n := 0) (Nat.le_refl 0)) (by decide)
theorem pl2 {f g : Str} {v u : V} : (putF f v (putF g u [])).length < 1000 := Nat.lt_of_le_of_lt (plen (plen (n := 0) (Nat.le_refl 0))) (by decide)
theorem pl3 {f g h : Str} {v u x : V} : (putF f v (putF g u (putF h x []))).length < 1000 := Nat.lt_of_le_of_lt (plen (plen (plen (n := 0) (Nat.le_refl 0)))) (by decide)
theorem pl4 {f g h i : Str} {v u x y : V} : (putF f v (putF g u (putF h x (putF i y [])))).length < 1000 := Nat.lt_of_le_of_lt (plen (plen (plen (plen (n := 0) (Nat.le_refl 0))))) (by decide)
theorem mem1 {a : Addr} : a ∈ [a] := List.mem_singleton.mpr rfl
theorem ifF {A B : Prop} (h : B) : if false = true then A else B := iteF h
end BF

namespace BF
open PySem PySem.Spec PyProof.Rows L2
section
variable {K : PySem.W.Frag} {S : List Addr} {H H1 : Hp} {m : Int} {sz : Nat} {v C L : Addr} {mem mem' : List Int} {ls : List V} {d : LD}
theorem LoanIn.kp (h : LoanIn K H m sz d) (k : Kp S H H1) (n : ∀ x ∈ d.comps, x ∉ S) : LoanIn K H1 m sz d :=
  ⟨h.la.kp k (n _ (by simp [LD.comps])), h.pa.kp k (n _ (by simp [LD.comps])), LstStp.kp h.st k (n _ (by simp [LD.comps])), k.keep _ _ h.pc (n _ (by simp [LD.comps])), k.keep _ _ h.gv (n _ (by simp [LD.comps])), h.ok, h.po, h.gl, h.gr⟩
theorem LoanIn.nil (h : LoanIn K H m sz d) (k : Kp [] H H1) : LoanIn K H1 m sz d := h.kp k fun _ _ z => nomatch z
theorem VSt.kp (h : VSt K H m v C L mem ls) (k : Kp S H H1) (n1 : v ∉ S) (n2 : C ∉ S) (n3 : L ∉ S) : VSt K H1 m v C L mem ls :=
  ⟨h.va.kp k n1, k.keep _ _ h.ce n2, k.keep _ _ h.lo n3, h.r, h.sz, h.m2, h.ll, h.ne⟩
theorem VSt.nil (h : VSt K H m v C L mem ls) (k : Kp [] H H1) : VSt K H1 m v C L mem ls := h.kp k (fun z => nomatch z) (fun z => nomatch z) fun z => nomatch z
theorem VSt.vC (h : VSt K H m v C L mem ls) : v ≠ C := by
  obtain ⟨dx, e⟩ := h.va
  exact ne_of e h.ce (by intro q; cases q)
theorem VSt.vL (h : VSt K H m v C L mem ls) : v ≠ L := by
  obtain ⟨dx, e⟩ := h.va
  exact ne_of e h.lo (by intro q; cases q)
/-- the cells have changed -/
theorem VSt.cells (h : VSt K H m v C L mem ls) (k : Kp (C :: S) H H1) (n1 : v ∉ S) (n3 : L ∉ S) (e : H1 C = some (.lst (vis mem'))) (r : Rng m mem') (l : mem'.length = mem.length) : VSt K H1 m v C L mem' ls :=
  ⟨h.va.kp k (fun z => (List.mem_cons.mp z).elim h.vC n1), e, k.keep _ _ h.lo (fun z => (List.mem_cons.mp z).elim (Ne.symm h.ne) n3), r, by rw [l]; exact h.sz, h.m2, h.ll, h.ne⟩
theorem LoanIn.aC (h : LoanIn K H m sz d) (hc : H C = some (.lst ls)) : d.a ≠ C := by
  obtain ⟨dx, e⟩ := h.la
  exact ne_of e hc (by intro q; cases q)
end
/-! ### slices -/
theorem sIx_n (n d k : Nat) : HT.sIx n d (some (k : Int)) = min k n := HT.sIx_nat n d k
theorem cut_from {xs : List V} {k : Nat} : cutV xs (some (k : Int)) none = xs.drop (min k xs.length) := by
  unfold cutV
  rw [sIx_n]
  show (xs.drop (min k xs.length)).take (xs.length - min k xs.length) = _
  exact List.take_of_length_le (by rw [List.length_drop]; omega)
theorem cut_to {xs : List V} {k : Nat} (h : k ≤ xs.length) : cutV xs none (some (k : Int)) = xs.take k := by
  unfold cutV
  rw [sIx_n]
  show (xs.drop 0).take (min k xs.length - 0) = _
  rw [List.drop_zero, Nat.sub_zero, Nat.min_eq_left h]
theorem cut_mid {xs : List V} {d k : Nat} (h : d ≤ xs.length) : cutV xs (some (d : Int)) (some ((d : Int) + (k : Int))) = (xs.drop d).take k := by
  have e : ((d : Int) + (k : Int)) = ((d + k : Nat) : Int) := by omega
  unfold cutV
  rw [e, sIx_n, sIx_n, Nat.min_eq_left h]
  by_cases hk : d + k ≤ xs.length
  · rw [Nat.min_eq_left hk, Nat.add_sub_cancel_left]
  · rw [Nat.min_eq_right (by omega), List.take_of_length_le (by rw [List.length_drop]; omega), List.take_of_length_le (by rw [List.length_drop]; omega)]
theorem cut_after {xs : List V} {t i : Nat} {x : V} (h : (cutV xs (some ((t : Int) + 1)) none)[i]? = some x) : ∃ j, t < j ∧ xs[j]? = some x := by
  have e : ((t : Int) + 1) = ((t + 1 : Nat) : Int) := by omega
  rw [e, cut_from, List.getElem?_drop] at h
  refine ⟨_, ?_, h⟩
  have := (List.getElem?_eq_some_iff.mp h).1
  omega
/-! ### one cell after another -/
theorem zip_at {pl : List Nat} {cs : List Int} {i p : Nat} {c : Int} (h1 : pl[i]? = some p) (h2 : cs[i]? = some c) : (pl.zip cs)[i]? = some (p, c) := by
  rw [List.getElem?_zip_eq_some]; exact ⟨h1, h2⟩
def putN (pl : List Nat) (cs : List Int) (n : Nat) (mem : List Int) : List Int := ((pl.zip cs).take n).foldl (fun M q => M.set q.1 q.2) mem
theorem putN_succ {pl : List Nat} {cs mem : List Int} {i p : Nat} {c : Int} (h1 : pl[i]? = some p) (h2 : cs[i]? = some c) : putN pl cs (i + 1) mem = (putN pl cs i mem).set p c := by
  unfold putN
  rw [List.take_add_one, zip_at h1 h2, List.foldl_append]
  rfl
theorem putN_all {pl : List Nat} {cs mem : List Int} (h : cs.length = pl.length) : putN pl cs pl.length mem = putP pl cs mem := by
  unfold putN putP
  rw [List.take_of_length_le (by rw [List.length_zip]; omega)]
theorem putN_len {pl : List Nat} {cs : List Int} : ∀ (l : List (Nat × Int)) (mem : List Int), (l.foldl (fun M q => M.set q.1 q.2) mem).length = mem.length
  | [], _ => rfl
  | q :: r, mem => (putN_len (pl := pl) (cs := cs) r _).trans (List.length_set ..)
end BF

namespace BF
open PySem PySem.Spec PyProof.Rows L2
/-- a statement, and what holds behind it: the ways of its branches meet there -/
def tCut (t : TS) : TS := fun D σ H => ∃ M : L2.St → Hp → Prop, t { D with nx := M } σ H ∧ ∀ σ H, M σ H → D.nx σ H
theorem ps_cut {X : Cx} {st : Stmt} {t : TS} (h : PS X st t) : PS X st (tCut t) := by
  refine ⟨fun pins s σ H D I ⟨M, h1, h2⟩ => thn (h.run pins s σ H { D with nx := M } I h1) fun f s1 q => ?_⟩
  cases f with
  | next =>
    obtain ⟨σ', H', I', q⟩ := q
    exact ⟨σ', H', I', h2 _ _ q⟩
  | ret v => exact q
  | brk => exact q
  | cont => exact q
end BF

namespace BF
open PySem PySem.Spec PyProof.Rows L2
section
variable {P : Program} {w : World} {K : PySem.W.Frag} {mg : Str → Option Value} {base : Heap}
theorem ok_is_integer (T : Txt K w mg) : Rdy P w K mg base 1 (He.ga K "is_integer") P_is_integer sp_is_integer := by
  refine rdy_of T.f_is_integer sc_is_integer (fun _ _ _ _ _ _ us hl => match us, hl with | [_], _ => rfl) (fun vs H Q E h => ?_) (fun cdv A outer s H vs Q E hr h => ?_)
  · obtain ⟨i, rfl, _⟩ := h; rfl
  · obtain ⟨i, rfl, k⟩ := h
    refine ⟨_, (pss_one (ps_ret (pe_and (pe_callB call_isi (by rfl) T.z_isinstance (by decide +kernel) (pa_cons (pv 0) (pa_cons (pe_bltn (v := .ty "int") (by rfl) T.z_int (by decide +kernel) rfl) pa_nil))) (pe_one (pe_not (pe_callB call_isi (by rfl) T.z_isinstance (by decide +kernel) (pa_cons (pv 0) (pa_cons (pe_bltn (v := .ty "bool") (by rfl) T.z_bool (by decide +kernel) rfl) pa_nil)))))))), ?_⟩
    refine ⟨_, rfl, _, _, _, _, true, rfl, .ty _, tyi i, kit_ty k_int_int, true, rfl, ifT ?_⟩
    exact ⟨_, rfl, _, _, _, _, false, rfl, .ty _, tyi i, kit_ty k_int_bool, false, rfl, k⟩
theorem ok_is_number (T : Txt K w mg) (R_is_integer : Rdy P w K mg base 1 (He.ga K "is_integer") P_is_integer sp_is_integer) : Rdy P w K mg base 2 (He.ga K "is_number") P_is_number sp_is_number := by
  refine rdy_of T.f_is_number sc_is_number (fun _ _ _ _ _ _ us hl => match us, hl with | [_, _], _ => rfl) (fun vs H Q E h => ?_) (fun cdv A outer s H vs Q E hr h => ?_)
  · obtain ⟨i, m, rfl, _⟩ := h; rfl
  · obtain ⟨i, m, rfl, ⟨h0, h1⟩, k⟩ := h
    refine ⟨_, (pss_one (ps_ret (pe_and (pe_callR R_is_integer (hr.mono (by decide)) rfl T.g_is_integer (pa_cons (pv 0) pa_nil)) (pe_one (pe_chain op_le op_lt pe_int (pv 0) (pv 1)))))), ?_⟩
    refine ⟨_, rfl, i, rfl, true, rfl, ifT ?_⟩
    refine ⟨_, rfl, 0, i, rfl, rfl, decide (0 ≤ i), rfl, ?_⟩
    rw [decide_eq_true h0]
    refine ifT ⟨_, rfl, i, m, rfl, rfl, ?_⟩
    exact bT (Q := Q) h1 k
theorem ok_is_factor (T : Txt K w mg) (R_is_number : Rdy P w K mg base 2 (He.ga K "is_number") P_is_number sp_is_number) : Rdy P w K mg base 3 (He.ga K "is_factor") P_is_factor sp_is_factor := by
  refine rdy_of T.f_is_factor sc_is_factor (fun _ _ _ _ _ _ us hl => match us, hl with | [_, _, _, _], _ => rfl) (fun vs H Q E h => ?_) (fun cdv A outer s H vs Q E hr h => ?_)
  · obtain ⟨f, x, n, t, rfl, _⟩ := h; rfl
  · obtain ⟨f, x, n, t, rfl, hf, ho, k⟩ := h
    refine ⟨_, (pss_cons (ps_if (PW.pt (pw_or (pt_not (pt_val (pe_callB call_isi (by rfl) T.z_isinstance (by decide +kernel) (pa_cons (pv 0) (pa_cons (pe_bltn (v := .ty "tuple") (by rfl) T.z_tuple (by decide +kernel) rfl) pa_nil))))) (pw_or1 (pt_cmpR op_ne (pe_callB call_len_seq (by rfl) T.z_len PySem.boot_len (pa_cons (pv 0) pa_nil)) pe_int (nomark _)))))
pss_never
pss_nil)
(pss_cons (ps_if (pt_cmpR op_eq (pe_ix ix_tup (pv 0) pe_int (fun _ _ => rfl)) pe_str (nomark _))
(pss_one (ps_ret (pe_and (pe_callR R_is_number (hr.mono (by decide)) rfl T.g_is_number (pa_cons (pe_ix ix_tup (pv 0) pe_int (fun _ _ => rfl)) (pa_cons (pv 2) pa_nil))) (pe_one (pe_cmpR op_ne (pe_ix ix_tup (pv 0) pe_int (fun _ _ => rfl)) (pv 1) (nomark _))))))
pss_nil)
(pss_one (ps_ret (pe_and (pe_cmpR op_eq (pe_ix ix_tup (pv 0) pe_int (fun _ _ => rfl)) pe_str (nomark _)) (pe_one (pe_callR R_is_number (hr.mono (by decide)) rfl T.g_is_number (pa_cons (pe_ix ix_tup (pv 0) pe_int (fun _ _ => rfl)) (pa_cons (pv 3) pa_nil))))))))), ?_⟩
    refine ⟨_, rfl, _, _, _, _, true, rfl, .ty _, tyt hf, kit_ty k_tuple_tuple, true, rfl, ifF ?_⟩
    cases x with
    | cell i =>
      refine ⟨_, rfl, _, _, rfl, .inr (SqT.of hf), rfl, _, rfl, inn (ndT rfl) ?_⟩
      refine ⟨_, rfl, _, _, _, _, rfl, rfl, SqT.of hf, at0, rfl, _, rfl, iy dTrue ?_⟩
      refine ⟨_, rfl, _, _, _, _, rfl, rfl, SqT.of hf, at1, _, rfl, _, _, rfl, ⟨Int.natCast_nonneg _, by have := ho.1; omega⟩, true, rfl, ifT ?_⟩
      refine ⟨_, rfl, _, _, _, _, rfl, rfl, SqT.of hf, at1, _, rfl, rfl, ?_⟩
      exact nB (Q := Q) (fun e => ho.2 (Int.ofNat.inj (V.int.inj e))) k
    | inp j =>
      refine ⟨_, rfl, _, _, rfl, .inr (SqT.of hf), rfl, _, rfl, inn (ndT rfl) ?_⟩
      refine ⟨_, rfl, _, _, _, _, rfl, rfl, SqT.of hf, at0, rfl, _, rfl, inn d16 ?_⟩
      refine ⟨_, rfl, _, _, _, _, rfl, rfl, SqT.of hf, at0, rfl, _, rfl, iy dTrue ?_⟩
      exact ⟨_, rfl, _, _, _, _, rfl, rfl, SqT.of hf, at1, _, rfl, _, _, rfl, ⟨Int.natCast_nonneg _, by have := ho; simp only [Fac.ok] at this; omega⟩, k⟩
theorem ok_is_add (T : Txt K w mg) (R_is_number : Rdy P w K mg base 2 (He.ga K "is_number") P_is_number sp_is_number) (R_is_factor : Rdy P w K mg base 3 (He.ga K "is_factor") P_is_factor sp_is_factor) : Rdy P w K mg base 4 (He.ga K "is_add") P_is_add sp_is_add := by
  refine rdy_of T.f_is_add sc_is_add (fun _ _ _ _ _ _ us hl => match us, hl with | [_, _, _, _], _ => rfl) (fun vs H Q E h => ?_) (fun cdv A outer s H vs Q E hr h => ?_)
  · obtain ⟨a, s, m, n, rfl, _⟩ := h; rfl
  · obtain ⟨a, st, m, n, rfl, ⟨f, ha, xs, hx, rr⟩, ho, k⟩ := h
    refine ⟨_, (pss_cons (ps_asg (pv 0) (pg_tup (by rfl) (pgs_cons (pg_name (i := 4) sc_is_add.nd rfl (Or.inl rfl)) (pgs_cons (pg_name (i := 5) sc_is_add.nd rfl (Or.inl rfl)) (pgs_cons (pg_name (i := 6) sc_is_add.nd rfl (Or.inl rfl)) (pgs_cons (pg_name (i := 7) sc_is_add.nd rfl (Or.inl rfl)) pgs_nil))))))
(pss_cons (ps_if (PW.pt (pw_or (pt_not (pt_val (pe_callR R_is_number (hr.mono (by decide)) rfl T.g_is_number (pa_cons (pv 5) (pa_cons (pv 2) pa_nil))))) (pw_or1 (pt_not (pt_val (pe_callR R_is_number (hr.mono (by decide)) rfl T.g_is_number (pa_cons (pv 6) (pa_cons (pv 1) pa_nil))))))))
pss_never
pss_nil)
(pss_cons (ps_if (PW.pt (pw_or (pt_not (pt_val (pe_callB call_isi (by rfl) T.z_isinstance (by decide +kernel) (pa_cons (pv 7) (pa_cons (pe_bltn (v := .ty "tuple") (by rfl) T.z_tuple (by decide +kernel) rfl) pa_nil))))) (pw_or1 (pt_cmpR op_gt (pe_callB call_len_seq (by rfl) T.z_len PySem.boot_len (pa_cons (pv 7) pa_nil)) (pe_gi rfl T.i_FACTORS) (nomark _)))))
pss_never
pss_nil)
(pss_cons (ps_for PassesOwn.never (by rfl) (pi_tup (pv 7)) (pg_name (i := 8) sc_is_add.nd rfl (Or.inl rfl))
(pss_one (ps_if (pt_not (pt_val (pe_callR R_is_factor (hr.mono (by decide)) rfl T.g_is_factor (pa_cons (pv 8) (pa_cons (pv 5) (pa_cons (pv 2) (pa_cons (pv 3) pa_nil)))))))
pss_never
pss_nil)))
(pss_one (ps_ret pe_bl)))))), ?_⟩
    refine ⟨_, rfl, a, _, rfl, SqT.of ha, rfl, _, _, rfl, _, _, rfl, _, _, rfl, _, _, rfl, rfl, ?_⟩
    refine ⟨_, rfl, _, rfl, _, _, rfl, ⟨Int.natCast_nonneg _, by have := ho.t; omega⟩, true, rfl, ifF ?_⟩
    refine ⟨_, rfl, _, rfl, _, _, rfl, ⟨ho.c0, ho.c1⟩, true, rfl, ifF ?_⟩
    refine ⟨_, rfl, _, _, _, _, true, rfl, .ty _, tyt hx, kit_ty k_tuple_tuple, true, rfl, ifF ?_⟩
    refine ⟨_, rfl, _, _, rfl, .inr (SqT.of hx), _, _, rfl, rfl, _, rfl, inn (decide_eq_false (by have := ho.fl; rw [rr.1]; omega)) ?_⟩
    refine ⟨_, rfl, f, rfl, ⟨_, SqT.of hx⟩, for_tup (xs := xs) (fun i σ H' => H' = H ∧ ∃ v, σ = [some (.ref a), some (.int m), some (.int 3), some (.int n), some (.str "add"), some (.int st.tgt), some (.int st.co), some (.ref f), v])
      ⟨rfl, none, rfl⟩ (fun i σ H' _ ⟨e, _⟩ => by rw [e]; exact SqT.of hx) ?_ ?_⟩
    · rintro i x σ H' hi ⟨rfl, v, rfl⟩
      obtain ⟨t, fa, rfl, h1, h2⟩ := rr.at_ hi
      exact ⟨_, rfl, _, rfl, _, rfl, _, rfl, t, fa, n, st.tgt, rfl, h2, ho.f fa (List.mem_of_getElem? h1), true, rfl, ifF ⟨rfl, _, rfl⟩⟩
    · rintro σ H' ⟨rfl, v, rfl⟩
      exact k
theorem ok_is_step (T : Txt K w mg) (R_is_add : Rdy P w K mg base 4 (He.ga K "is_add") P_is_add sp_is_add) : Rdy P w K mg base 5 (He.ga K "is_step") P_is_step sp_is_add := by
  refine rdy_of T.f_is_step sc_is_step (fun _ _ _ _ _ _ us hl => match us, hl with | [_, _, _, _], _ => rfl) (fun vs H Q E h => ?_) (fun cdv A outer s H vs Q E hr h => ?_)
  · obtain ⟨a, s, m, n, rfl, _⟩ := h; rfl
  · obtain ⟨a, st, m, n, rfl, hs, ho, k⟩ := h
    obtain ⟨f, ha, hx⟩ := id hs
    refine ⟨_, (pss_cons (ps_if (PW.pt (pw_or (pt_not (pt_val (pe_callB call_isi (by rfl) T.z_isinstance (by decide +kernel) (pa_cons (pv 0) (pa_cons (pe_bltn (v := .ty "tuple") (by rfl) T.z_tuple (by decide +kernel) rfl) pa_nil))))) (pw_or1 (pt_cmpR op_lt (pe_callB call_len_seq (by rfl) T.z_len PySem.boot_len (pa_cons (pv 0) pa_nil)) pe_int (nomark _)))))
pss_never
pss_nil)
(pss_cons (ps_if (PW.pt (pw_and (pt_cmpR op_eq (pe_ix ix_tup (pv 0) pe_int (fun _ _ => rfl)) pe_str (nomark _)) (pw_and1 (pt_cmpR op_eq (pe_callB call_len_seq (by rfl) T.z_len PySem.boot_len (pa_cons (pv 0) pa_nil)) pe_int (nomark _)))))
(pss_one (ps_ret (pe_callR R_is_add (hr.mono (by decide)) rfl T.g_is_add (pa_cons (pv 0) (pa_cons (pv 1) (pa_cons (pv 2) (pa_cons (pv 3) pa_nil)))))))
pss_nil)
pss_never)), ?_⟩
    refine ⟨_, rfl, _, _, _, _, true, rfl, .ty _, tyt ha, kit_ty k_tuple_tuple, true, rfl, ifF ?_⟩
    refine ⟨_, rfl, _, _, rfl, .inr (SqT.of ha), _, _, rfl, rfl, _, rfl, inn (decide_eq_false (by show ¬ ((4 : Nat) : Int) < 3; decide)) ?_⟩
    refine ⟨_, rfl, _, _, _, _, rfl, rfl, SqT.of ha, at0, rfl, _, rfl, iy dTrue ?_⟩
    refine ⟨_, rfl, _, _, rfl, .inr (SqT.of ha), rfl, _, rfl, iy (decide_eq_true rfl) ?_⟩
    exact ⟨_, rfl, _, rfl, _, rfl, _, rfl, a, st, m, n, rfl, hs, ho, k⟩
theorem ok_check_steps (T : Txt K w mg) (R_is_step : Rdy P w K mg base 5 (He.ga K "is_step") P_is_step sp_is_add) : Rdy P w K mg base 6 (He.ga K "check_steps") P_check_steps sp_check_steps := by
  refine rdy_of T.f_check_steps sc_check_steps (fun _ _ _ _ _ _ us hl => match us, hl with | [_, _, _, _, _], _ => rfl) (fun vs H Q E h => ?_) (fun cdv A outer s H vs Q E hr h => ?_)
  · obtain ⟨l, ss, m, n, most, rfl, _⟩ := h; rfl
  · obtain ⟨l, ss, m, n, most, rfl, ⟨xs, hl, rr⟩, ho, hz, k⟩ := h
    refine ⟨_, (pss_cons (ps_if (PW.pt (pw_or (pt_not (pt_val (pe_callB call_isi (by rfl) T.z_isinstance (by decide +kernel) (pa_cons (pv 0) (pa_cons (pe_bltn (v := .ty "list") (by rfl) T.z_list (by decide +kernel) rfl) pa_nil))))) (pw_or1 (pt_cmpR op_gt (pe_callB call_len_seq (by rfl) T.z_len PySem.boot_len (pa_cons (pv 0) pa_nil)) (pv 4) (nomark _)))))
pss_never
pss_nil)
(pss_cons (ps_set (i := 5) sc_check_steps.nd rfl (Or.inl rfl) pe_bl)
(pss_cons (ps_for PassesOwn.never (by rfl) (pi_list (pv 0)) (pg_name (i := 6) sc_check_steps.nd rfl (Or.inl rfl))
(pss_cons (ps_if (pt_not (pt_val (pe_callR R_is_step (hr.mono (by decide)) rfl T.g_is_step (pa_cons (pv 6) (pa_cons (pv 1) (pa_cons (pv 2) (pa_cons (pv 3) pa_nil)))))))
pss_never
pss_nil)
(pss_one (ps_set (i := 5) sc_check_steps.nd rfl (Or.inl rfl) (pe_or (pv 5) (pe_one (pe_cmpR op_eq (pe_ix ix_tup (pv 6) pe_int (fun _ _ => rfl)) pe_str (nomark _))))))))
(pss_one (ps_if (PW.pt (pw_and (pt_truth (pv 5) (by intro _; rfl)) (pw_and1 pt_never)))
pss_never
pss_nil))))), ?_⟩
    refine ⟨_, rfl, _, _, _, _, true, rfl, .ty _, tyl hl, kit_ty k_list_list, true, rfl, ifF ?_⟩
    refine ⟨_, rfl, _, _, rfl, .inl (SqL.of hl), _, rfl, _, _, rfl, rfl, _, rfl, inn (decide_eq_false (by rw [rr.1]; omega)) ?_⟩
    refine ⟨_, rfl, l, rfl, ⟨_, SqL.of hl⟩, for_list (xs := xs) (fun i σ H' => H' = H ∧ ∃ v, σ = [some (.ref l), some (.int m), some (.int 3), some (.int n), some (.int most), some (.bl false), v])
      ⟨rfl, none, rfl⟩ (fun i σ H' _ ⟨e, _⟩ => by rw [e]; exact SqL.of hl) ?_ ?_⟩
    · rintro i x σ H' hi ⟨rfl, v, rfl⟩
      obtain ⟨t, s, rfl, h1, h2⟩ := rr.at_ hi
      refine ⟨_, rfl, _, rfl, _, rfl, _, rfl, t, s, m, n, rfl, h2, ho s (List.mem_of_getElem? h1), true, rfl, ifF ?_⟩
      obtain ⟨f, ht, _⟩ := h2
      refine ⟨_, rfl, false, rfl, ifF ?_⟩
      refine ⟨_, rfl, _, _, _, _, rfl, rfl, SqT.of ht, at0, rfl, ?_⟩
      refine ⟨rfl, some (.ref t), ?_⟩
      show [_, _, _, _, _, some (V.bl (decide (V.str "add" = V.str "table"))), _] = _
      rw [d17]
    · rintro σ H' ⟨rfl, v, rfl⟩
      exact ⟨_, rfl, false, rfl, ifF k⟩
theorem ok_check_numbers (T : Txt K w mg) (R_is_number : Rdy P w K mg base 2 (He.ga K "is_number") P_is_number sp_is_number) : Rdy P w K mg base 3 (He.ga K "check_numbers") P_check_numbers sp_check_numbers := by
  refine rdy_of T.f_check_numbers sc_check_numbers (fun _ _ _ _ _ _ us hl => match us, hl with | [_, _, _], _ => rfl) (fun vs H Q E h => ?_) (fun cdv A outer s H vs Q E hr h => ?_)
  · obtain ⟨l, xs, m, rfl, _⟩ := h; rfl
  · obtain ⟨l, xs, m, rfl, hl, hg, k⟩ := h
    refine ⟨_, (pss_cons (ps_if (PW.pt (pw_or (pt_not (pt_val (pe_callB call_isi (by rfl) T.z_isinstance (by decide +kernel) (pa_cons (pv 0) (pa_cons (pe_bltn (v := .ty "list") (by rfl) T.z_list (by decide +kernel) rfl) pa_nil))))) (pw_or1 (pt_cmpR op_ne (pe_callB call_len_seq (by rfl) T.z_len PySem.boot_len (pa_cons (pv 0) pa_nil)) (pv 1) (nomark _)))))
pss_never
pss_nil)
(pss_one (ps_for PassesOwn.never (by rfl) (pi_list (pv 0)) (pg_name (i := 3) sc_check_numbers.nd rfl (Or.inl rfl))
(pss_one (ps_if (pt_not (pt_val (pe_callR R_is_number (hr.mono (by decide)) rfl T.g_is_number (pa_cons (pv 3) (pa_cons (pv 2) pa_nil)))))
pss_never
pss_nil))))), ?_⟩
    refine ⟨_, rfl, _, _, _, _, true, rfl, .ty _, tyl hl, kit_ty k_list_list, true, rfl, ifF ?_⟩
    refine ⟨_, rfl, _, _, rfl, .inl (SqL.of hl), _, rfl, rfl, _, rfl, inn (ndT (by rw [vis_len])) ?_⟩
    refine ⟨_, rfl, l, rfl, ⟨_, SqL.of hl⟩, for_list (xs := vis xs) (fun i σ H' => H' = H ∧ ∃ v, σ = [some (.ref l), some (.int xs.length), some (.int m), v])
      ⟨rfl, none, rfl⟩ (fun i σ H' _ ⟨e, _⟩ => by rw [e]; exact SqL.of hl) ?_ ?_⟩
    · rintro i x σ H' hi ⟨rfl, v, rfl⟩
      obtain ⟨z, rfl, h1⟩ := vis_at hi
      exact ⟨_, rfl, _, rfl, z, m, rfl, hg z (List.mem_of_getElem? h1), true, rfl, ifF ⟨rfl, _, rfl⟩⟩
    · rintro σ H' ⟨rfl, v, rfl⟩
      exact k
end
end BF

namespace BF
open PySem PySem.Spec PyProof.Rows L2
section
variable {P : Program} {w : World} {K : PySem.W.Frag} {mg : Str → Option Value} {base : Heap}
theorem ok_Program_init (T : Txt K w mg) (R_is_integer : Rdy P w K mg base 1 (He.ga K "is_integer") P_is_integer sp_is_integer) (R_check_steps : Rdy P w K mg base 6 (He.ga K "check_steps") P_check_steps sp_check_steps) : Rdy P w K mg base 7 (He.ma K (He.ga K "Program") "__init__") P_Program_init (sp_Program_init K) := by
  refine rdy_of T.f_Program_init sc_Program_init (fun _ _ _ _ _ _ us hl => match us, hl with | [_, _, _, _, _], _ => rfl) (fun vs H Q E h => ?_) (fun cdv A outer s H vs Q E hr h => ?_)
  · obtain ⟨p, dx, l, xs, ss, m, n, rfl, _⟩ := h; rfl
  · obtain ⟨p, dx, l, xs, ss, m, n, rfl, hp, hl, rr, ho, hz, ⟨m2, m9⟩, hn, k⟩ := h
    refine ⟨_, (pss_cons (ps_if (PW.pt (pw_or (pt_not (pt_val (pe_callR R_is_integer (hr.mono (by decide)) rfl T.g_is_integer (pa_cons (pv 1) pa_nil)))) (pw_or1 (pt_not (pt_chain op_le op_le pe_int (pv 1) (pe_gi rfl T.i_MODULUS))))))
pss_never
pss_nil)
(pss_cons (ps_if (PW.pt (pw_or (pt_not (pt_val (pe_callR R_is_integer (hr.mono (by decide)) rfl T.g_is_integer (pa_cons (pv 2) pa_nil)))) (pw_or1 (pt_not (pt_chain op_le op_le pe_int (pv 2) (pe_gi rfl T.i_CELLS))))))
pss_never
pss_nil)
(pss_cons (ps_if (PW.pt (pw_or (pt_not (pt_val (pe_callR R_is_integer (hr.mono (by decide)) rfl T.g_is_integer (pa_cons (pv 3) pa_nil)))) (pw_or1 (pt_not (pt_chain op_le op_le pe_int (pv 3) (pe_gi rfl T.i_INPUTS_programs))))))
pss_never
pss_nil)
(pss_cons (ps_expr (pe_callR R_check_steps (hr.mono (by decide)) rfl T.g_check_steps (pa_cons (pv 4) (pa_cons (pv 1) (pa_cons (pv 2) (pa_cons (pv 3) (pa_cons (pe_gi rfl T.i_STEPS) pa_nil)))))))
(pss_cons (ps_fld (pv 0) (pv 1) rfl)
(pss_cons (ps_fld (pv 0) (pv 2) rfl)
(pss_cons (ps_fld (pv 0) (pv 3) rfl)
(pss_one (ps_fld (pv 0) (pe_callTy call_list_of (by rfl) T.z_list (by decide +kernel) (pa_cons (pv 4) pa_nil)) rfl))))))))), ?_⟩
    refine ⟨_, rfl, m, rfl, true, rfl, ifF ?_⟩
    refine ⟨_, rfl, _, _, rfl, rfl, _, rfl, iy (decide_eq_true m2) ⟨_, _, rfl, rfl, _, rfl, inn (nd' m9) ?_⟩⟩
    refine ⟨_, rfl, 3, rfl, true, rfl, ifF ?_⟩
    refine ⟨_, rfl, _, _, rfl, rfl, _, rfl, iy (decide_eq_true (by decide)) ⟨_, _, rfl, rfl, _, rfl, inn (nd' (by decide)) ?_⟩⟩
    refine ⟨_, rfl, n, rfl, true, rfl, ifF ?_⟩
    refine ⟨_, rfl, _, _, rfl, rfl, _, rfl, iy (decide_eq_true (Int.natCast_nonneg n)) ⟨_, _, rfl, rfl, _, rfl, inn (nd' (by omega)) ?_⟩⟩
    refine ⟨_, rfl, _, rfl, _, rfl, _, rfl, l, ss, m, n, 20000, rfl, ⟨xs, hl, rr⟩, ho, by omega, ?_⟩
    have npl : l ≠ p := ne_of hl hp (by intro q; cases q)
    refine ⟨_, rfl, _, rfl, p, _, dx, [], rfl, hp, T.c_Program, T.n_Program_modulus, pl0, ?_⟩
    refine ⟨_, rfl, _, rfl, p, _, dx, _, rfl, upd_same, T.c_Program, T.n_Program_cells, pl1, ?_⟩
    refine ⟨_, rfl, _, rfl, p, _, dx, _, rfl, upd_same, T.c_Program, T.n_Program_inputs, pl2, ?_⟩
    rw [upd_upd, upd_upd]
    refine ⟨_, rfl, l, xs, rfl, .inl (SqL.of (by rw [upd_ne npl]; exact hl)), fun l' hl' => ?_⟩
    have nl : p ≠ l' := fun q => by rw [← q, upd_same] at hl'; cases hl'
    have hl0 : H l' = none := by rw [upd_ne (Ne.symm nl)] at hl'; exact hl'
    refine ⟨_, rfl, p, _, dx, _, rfl, (upd_ne nl).trans upd_same, T.c_Program, T.n_Program_steps, pl3, ?_⟩
    rw [pf_mk]
    refine k _ l' ?_ upd_same hl0 (by rw [upd_ne (Ne.symm nl)]; exact upd_same)
    refine Kp.mut (Kp.new (Kp.mut Kp.refl (.inl mem1) (notT_i hp)) hl') (.inl mem1) ?_
    rw [upd_ne nl]
    exact notT_i upd_same
theorem ok_Program_len (T : Txt K w mg) : Rdy P w K mg base 1 (He.ma K (He.ga K "Program") "__len__") P_Program_len (sp_Program_len K) := by
  refine rdy_of T.f_Program_len sc_Program_len (fun _ _ _ _ _ _ us hl => match us, hl with | [_], _ => rfl) (fun vs H Q E h => ?_) (fun cdv A outer s H vs Q E hr h => ?_)
  · obtain ⟨p, l, m, n, xs, rfl, _⟩ := h; rfl
  · obtain ⟨p, l, m, n, xs, rfl, ⟨dx, hp⟩, hl, k⟩ := h
    refine ⟨_, (pss_one (ps_ret (pe_callB call_len_seq (by rfl) T.z_len PySem.boot_len (pa_cons (pe_fld (pv 0) rfl) pa_nil)))), ?_⟩
    exact ⟨_, rfl, p, _, dx, _, _, rfl, hp, T.c_Program, T.n_Program_steps, pf_s, l, xs, rfl, .inl (SqL.of hl), k⟩
theorem ok_Loan_init (T : Txt K w mg) : Rdy P w K mg base 1 (He.ma K (He.ga K "Loan") "__init__") P_Loan_init (sp_Loan_init K) := by
  refine rdy_of T.f_Loan_init sc_Loan_init (fun _ _ _ _ _ _ us hl => match us, hl with | [_, _, _, _, _], _ => rfl) (fun vs H Q E h => ?_) (fun cdv A outer s H vs Q E hr h => ?_)
  · obtain ⟨a, dx, p, pl, g, b, rfl, _⟩ := h; rfl
  · obtain ⟨a, dx, p, pl, g, b, rfl, ha, k⟩ := h
    refine ⟨_, (pss_cons (ps_fld (pv 0) (pv 1) rfl)
(pss_cons (ps_fld (pv 0) (pv 2) rfl)
(pss_cons (ps_fld (pv 0) (pv 3) rfl)
(pss_cons (ps_fld (pv 0) (pv 4) rfl)
(pss_one (ps_fld (pv 0) pe_int rfl)))))), ?_⟩
    refine ⟨_, rfl, _, rfl, a, _, dx, [], rfl, ha, T.c_Loan, T.n_Loan_program, pl0, ?_⟩
    refine ⟨_, rfl, _, rfl, a, _, dx, _, rfl, upd_same, T.c_Loan, T.n_Loan_places, pl1, ?_⟩
    refine ⟨_, rfl, _, rfl, a, _, dx, _, rfl, upd_same, T.c_Loan, T.n_Loan_given, pl2, ?_⟩
    refine ⟨_, rfl, _, rfl, a, _, dx, _, rfl, upd_same, T.c_Loan, T.n_Loan_begun, pl3, ?_⟩
    refine ⟨_, rfl, a, _, dx, _, rfl, upd_same, T.c_Loan, T.n_Loan_done, pl4, ?_⟩
    rw [upd_upd, upd_upd, upd_upd, upd_upd, lf_mk]
    exact k _ (Kp.mut Kp.refl (.inl mem1) (notT_i ha)) upd_same
theorem ok_Vault_init (T : Txt K w mg) (R_is_integer : Rdy P w K mg base 1 (He.ga K "is_integer") P_is_integer sp_is_integer) (R_check_numbers : Rdy P w K mg base 3 (He.ga K "check_numbers") P_check_numbers sp_check_numbers) : Rdy P w K mg base 4 (He.ma K (He.ga K "Vault") "__init__") P_Vault_init (sp_Vault_init K) := by
  refine rdy_of T.f_Vault_init sc_Vault_init (fun _ _ _ _ _ _ us hl => match us, hl with | [_, _, _], _ => rfl) (fun vs H Q E h => ?_) (fun cdv A outer s H vs Q E hr h => ?_)
  · obtain ⟨v, dx, l, mem, m, rfl, _⟩ := h; rfl
  · obtain ⟨v, dx, l, mem, m, rfl, hv, hl, hg, ⟨z1, z2⟩, ⟨m2, m9⟩, k⟩ := h
    refine ⟨_, (pss_cons (ps_if (PW.pt (pw_or (pt_not (pt_val (pe_callR R_is_integer (hr.mono (by decide)) rfl T.g_is_integer (pa_cons (pv 2) pa_nil)))) (pw_or1 (pt_not (pt_chain op_le op_le pe_int (pv 2) (pe_gi rfl T.i_MODULUS))))))
pss_never
pss_nil)
(pss_cons (ps_if (PW.pt (pw_or (pt_not (pt_val (pe_callB call_isi (by rfl) T.z_isinstance (by decide +kernel) (pa_cons (pv 1) (pa_cons (pe_bltn (v := .ty "list") (by rfl) T.z_list (by decide +kernel) rfl) pa_nil))))) (pw_or1 (pt_not (pt_chain op_le op_le pe_int (pe_callB call_len_seq (by rfl) T.z_len PySem.boot_len (pa_cons (pv 1) pa_nil)) (pe_gi rfl T.i_MOST_vault))))))
pss_never
pss_nil)
(pss_cons (ps_expr (pe_callR R_check_numbers (hr.mono (by decide)) rfl T.g_check_numbers (pa_cons (pv 1) (pa_cons (pe_callB call_len_seq (by rfl) T.z_len PySem.boot_len (pa_cons (pv 1) pa_nil)) (pa_cons (pv 2) pa_nil)))))
(pss_cons (ps_fld (pv 0) (pv 2) rfl)
(pss_cons (ps_fld (pv 0) (pe_callTy call_list_of (by rfl) T.z_list (by decide +kernel) (pa_cons (pv 1) pa_nil)) rfl)
(pss_one (ps_fld (pv 0) (pe_lst pa_nil) rfl))))))), ?_⟩
    refine ⟨_, rfl, m, rfl, true, rfl, ifF ?_⟩
    refine ⟨_, rfl, _, _, rfl, rfl, _, rfl, iy (decide_eq_true m2) ⟨_, _, rfl, rfl, _, rfl, inn (nd' m9) ?_⟩⟩
    refine ⟨_, rfl, _, _, _, _, true, rfl, .ty _, tyl hl, kit_ty k_list_list, true, rfl, ifF ?_⟩
    refine ⟨_, rfl, _, _, rfl, .inl (SqL.of hl), _, _, rfl, rfl, _, rfl, iy (decide_eq_true (by rw [vis_len]; omega)) ⟨_, _, rfl, rfl, _, rfl, inn (nd' (by rw [vis_len]; omega)) ?_⟩⟩
    refine ⟨_, rfl, _, rfl, _, _, rfl, .inl (SqL.of hl), _, rfl, l, mem, m, by rw [vis_len], hl, hg, ?_⟩
    have nlv : l ≠ v := ne_of hl hv (by intro q; cases q)
    refine ⟨_, rfl, _, rfl, v, _, dx, [], rfl, hv, T.c_Vault, T.n_Vault_modulus, pl0, ?_⟩
    refine ⟨_, rfl, l, vis mem, rfl, .inl (SqL.of (by rw [upd_ne nlv]; exact hl)), fun C hC => ?_⟩
    have nC : v ≠ C := fun q => by rw [← q, upd_same] at hC; cases hC
    have hC0 : H C = none := by rw [upd_ne (Ne.symm nC)] at hC; exact hC
    refine ⟨_, rfl, v, _, dx, _, rfl, (upd_ne nC).trans upd_same, T.c_Vault, T.n_Vault_cells, pl1, ?_⟩
    refine ⟨Nat.zero_le _, fun L hL => ?_⟩
    have nL : v ≠ L := fun q => by rw [← q, upd_same] at hL; cases hL
    have nCL : C ≠ L := fun q => by rw [← q, upd_ne (Ne.symm nC), upd_same] at hL; cases hL
    have hL0 : H L = none := by rw [upd_ne (Ne.symm nL), upd_ne (Ne.symm nCL), upd_ne (Ne.symm nL)] at hL; exact hL
    refine ⟨_, rfl, v, _, dx, _, rfl, (upd_ne nL).trans upd_same, T.c_Vault, T.n_Vault_loans, pl2, ?_⟩
    rw [vf_mk]
    refine k _ C L ?_ upd_same hC0 hL0 nCL (by rw [upd_ne (Ne.symm nC), upd_ne nCL, upd_ne (Ne.symm nC)]; exact upd_same) (by rw [upd_ne (Ne.symm nL)]; exact upd_same)
    refine Kp.mut (Kp.new (Kp.mut (Kp.new (Kp.mut Kp.refl (.inl mem1) (notT_i hv)) hC) (.inl mem1) ?_) hL) (.inl mem1) ?_
    · rw [upd_ne nC]; exact notT_i upd_same
    · rw [upd_ne nL]; exact notT_i upd_same
theorem ok_Vault_memory (T : Txt K w mg) : Rdy P w K mg base 1 (gM K) P_Vault_memory (sp_Vault_memory K) := by
  refine rdy_of T.f_Vault_memory sc_Vault_memory (fun _ _ _ _ _ _ us hl => match us, hl with | [_], _ => rfl) (fun vs H Q E h => ?_) (fun cdv A outer s H vs Q E hr h => ?_)
  · obtain ⟨v, C, L, m, xs, rfl, _⟩ := h; rfl
  · obtain ⟨v, C, L, m, xs, rfl, ⟨dx, hv⟩, hC, k⟩ := h
    refine ⟨_, (pss_one (ps_ret (pe_callTy call_list_of (by rfl) T.z_list (by decide +kernel) (pa_cons (pe_fld (pv 0) rfl) pa_nil)))), ?_⟩
    exact ⟨_, rfl, v, _, dx, _, _, rfl, hv, T.c_Vault, T.n_Vault_cells, vf_c, C, xs, rfl, .inl (SqL.of hC), k⟩
end
end BF

namespace BF
open PySem PySem.Spec PyProof.Rows L2
section
variable {P : Program} {w : World} {K : PySem.W.Frag} {mg : Str → Option Value} {base : Heap}
theorem ok_inverse_step (T : Txt K w mg) : Rdy P w K mg base 1 (He.ga K "inverse_step") P_inverse_step sp_inverse_step := by
  refine rdy_of T.f_inverse_step sc_inverse_step (fun _ _ _ _ _ _ us hl => match us, hl with | [_, _], _ => rfl) (fun vs H Q E h => ?_) (fun cdv A outer s H vs Q E hr h => ?_)
  · obtain ⟨a, st, m, rfl, _⟩ := h; rfl
  · obtain ⟨a, st, m, rfl, ⟨f, ha, hf⟩, m2, k⟩ := h
    refine ⟨_, (pss_cons (ps_if (pt_cmpR op_eq (pe_ix ix_tup (pv 0) pe_int (fun _ _ => rfl)) pe_str (nomark _))
(pss_one (ps_ret (pe_tup (pa_cons pe_str (pa_cons (pe_ix ix_tup (pv 0) pe_int (fun _ _ => rfl)) (pa_cons (pe_op op_mod (pe_un un_neg (pe_ix ix_tup (pv 0) pe_int (fun _ _ => rfl))) (pv 1)) (pa_cons (pe_ix ix_tup (pv 0) pe_int (fun _ _ => rfl)) pa_nil)))))))
pss_nil)
pss_never), ?_⟩
    refine ⟨_, rfl, _, _, _, _, rfl, rfl, SqT.of ha, at0, rfl, _, rfl, iy dTrue ?_⟩
    refine ⟨_, rfl, _, _, _, _, rfl, rfl, SqT.of ha, at1, _, rfl, _, _, _, _, rfl, rfl, SqT.of ha, at2, _, rfl, _, rfl, _, _, rfl, rfl, (by omega), _, rfl, _, _, _, _, rfl, rfl, SqT.of ha, at3, (by show 4 ≤ sizeLine; decide), fun p hp => ?_⟩
    have kp : Kp [] H (upd H p (.tup [.str "add", .int st.tgt, .int (-st.co % m), .ref f])) := Kp.refl.new hp
    exact k _ p kp ⟨f, upd_same, hf.kp kp⟩
theorem ok_perform (T : Txt K w mg) : Rdy P w K mg base 1 (He.ga K "perform") P_perform sp_perform := by
  refine rdy_of T.f_perform sc_perform (fun _ _ _ _ _ _ us hl => match us, hl with | [_, _, _, _], _ => rfl) (fun vs H Q E h => ?_) (fun cdv A outer s H vs Q E hr h => ?_)
  · obtain ⟨a, c, g, st, m, n, cs, given, rfl, _⟩ := h; rfl
  · obtain ⟨a, c, g, st, m, n, cs, given, rfl, ⟨f, ha, xs, hx, rr⟩, ho, m2, m9, h3, hgr, hgl, hc, hg, k⟩ := h
    have hpos : 0 < m := by omega
    have ht : st.tgt < cs.length := by rw [h3.len]; exact ho.t
    refine ⟨_, (pss_one (ps_if (pt_cmpR op_eq (pe_ix ix_tup (pv 0) pe_int (fun _ _ => rfl)) pe_str (nomark _))
(pss_cons (ps_set (i := 4) sc_perform.nd rfl (Or.inl rfl) (pe_ix ix_tup (pv 0) pe_int (fun _ _ => rfl)))
(pss_cons (ps_for PassesOwn.never (by rfl) (pi_tup (pe_ix ix_tup (pv 0) pe_int (fun _ _ => rfl))) (pg_tup (by rfl) (pgs_cons (pg_name (i := 5) sc_perform.nd rfl (Or.inl rfl)) (pgs_cons (pg_name (i := 6) sc_perform.nd rfl (Or.inl rfl)) pgs_nil)))
(pss_one (ps_set (i := 4) sc_perform.nd rfl (Or.inl rfl) (pe_op op_mod (pe_op op_mul (pv 4) (pe_ifExp (pt_cmpR op_eq (pv 5) pe_str (nomark _)) (pe_ix ix_list (pv 1) (pv 6) (fun _ _ => rfl)) (pe_ix ix_list (pv 2) (pv 6) (fun _ _ => rfl)))) (pv 3)))))
(pss_one (ps_asg (pe_op op_mod (pe_op op_add (pe_ix ix_list (pv 1) (pe_ix ix_tup (pv 0) pe_int (fun _ _ => rfl)) (fun _ _ => rfl)) (pv 4)) (pv 3)) (pg_sub (pv 1) (pe_ix ix_tup (pv 0) pe_int (fun _ _ => rfl)) set_list)))))
pss_never)), ?_⟩
    refine ⟨_, rfl, _, _, _, _, rfl, rfl, SqT.of ha, at0, rfl, _, rfl, iy dTrue ?_⟩
    refine ⟨_, rfl, _, _, _, _, rfl, rfl, SqT.of ha, at2, ?_⟩
    refine ⟨_, rfl, _, _, _, _, rfl, rfl, SqT.of ha, at3, f, rfl, ⟨_, SqT.of hx⟩, for_tup (xs := xs) (fun i σ H' => H' = H ∧ ∃ v u, σ = [some (.ref a), some (.ref c), some (.ref g), some (.int m), some (.int (tot m cs given st.co (st.fs.take i))), v, u, none, none])
      ⟨rfl, none, none, by rw [List.take_zero]; rfl⟩ (fun i σ H' _ ⟨e, _⟩ => by rw [e]; exact SqT.of hx) ?_ ?_⟩
    · rintro i x σ H' hi ⟨rfl, v, u, rfl⟩
      obtain ⟨t, fa, rfl, h1, h2⟩ := rr.at_ hi
      have hok := ho.f fa (List.mem_of_getElem? h1)
      cases fa with
      | cell j =>
        have hj : j < cs.length := by rw [h3.len]; exact hok.1
        refine ⟨t, _, rfl, SqT.of h2, rfl, _, _, rfl, _, _, rfl, rfl, ?_⟩
        refine ⟨_, rfl, _, rfl, rfl, _, rfl, iy dTrue ⟨_, rfl, _, rfl, _, _, _, _, rfl, rfl, SqL.of hc, at_vis hj, _, _, rfl, rfl, .inr (small64' (getD_rng h3.rng hj) m9), _, rfl, _, _, rfl, rfl, hpos, ?_⟩⟩
        exact ⟨rfl, _, _, by rw [tot_take h1]; rfl⟩
      | inp j =>
        have hj : j < given.length := by rw [hgl]; exact hok
        refine ⟨t, _, rfl, SqT.of h2, rfl, _, _, rfl, _, _, rfl, rfl, ?_⟩
        refine ⟨_, rfl, _, rfl, rfl, _, rfl, inn d16 ⟨_, rfl, _, rfl, _, _, _, _, rfl, rfl, SqL.of hg, at_vis hj, _, _, rfl, rfl, .inr (small64' (getD_rng hgr hj) m9), _, rfl, _, _, rfl, rfl, hpos, ?_⟩⟩
        exact ⟨rfl, _, _, by rw [tot_take h1]; rfl⟩
    · rintro σ H' ⟨rfl, v, u, rfl⟩
      refine ⟨_, rfl, _, rfl, _, _, _, _, rfl, rfl, SqT.of ha, at1, _, _, _, _, rfl, rfl, SqL.of hc, at_vis ht, _, rfl, _, _, rfl, rfl, _, rfl, _, _, rfl, rfl, hpos, ?_⟩
      refine ⟨_, rfl, _, rfl, _, _, _, _, rfl, rfl, SqT.of ha, at1, c, _, _, st.tgt, rfl, rfl, hc, ixN_nat (by rw [vis_len]; exact ht), ?_⟩
      refine k _ ?_
      rw [rr.1, List.take_length]
      exact congrArg (upd H' c) (congrArg HO.lst vis_set)
end
end BF

namespace BF
open PySem PySem.Spec PyProof.Rows L2
section
variable {P : Program} {w : World} {K : PySem.W.Frag} {mg : Str → Option Value} {base : Heap}
theorem ok_Vault_found (T : Txt K w mg) (R_is_number : Rdy P w K mg base 2 (He.ga K "is_number") P_is_number sp_is_number) : Rdy P w K mg base 3 (He.ma K (He.ga K "Vault") "found") P_Vault_found (sp_found K) := by
  refine rdy_of T.f_Vault_found sc_Vault_found (fun _ _ _ _ _ _ us hl => match us, hl with | [_, _], _ => rfl) (fun vs H Q E h => ?_) (fun cdv A outer s H vs Q E hr h => ?_)
  · obtain ⟨v, C, L, a, m, mem, ls, t, rfl, _⟩ := h; rfl
  · obtain ⟨v, C, L, a, m, mem, ls, t, rfl, S, ht, k⟩ := h
    obtain ⟨dx, hv⟩ := S.va
    have hL := S.lo
    have hlt := (List.getElem?_eq_some_iff.mp ht).1
    refine ⟨_, (pss_cons (ps_if (PW.pt (pw_or (pt_not (pt_val (pe_callR R_is_number (hr.mono (by decide)) rfl T.g_is_number (pa_cons (pv 1) (pa_cons (pe_callB call_len_seq (by rfl) T.z_len PySem.boot_len (pa_cons (pe_fld (pv 0) rfl) pa_nil)) pa_nil))))) (pw_or1 (pt_cmpR op_isN (pe_ix ix_list (pe_fld (pv 0) rfl) (pv 1) (fun _ _ => rfl)) pe_non (nomark _)))))
pss_never
pss_nil)
(pss_one (ps_ret (pe_ix ix_list (pe_fld (pv 0) rfl) (pv 1) (fun _ _ => rfl))))), ?_⟩
    refine ⟨_, rfl, _, rfl, v, _, dx, _, _, rfl, hv, T.c_Vault, T.n_Vault_loans, vf_l, _, _, rfl, .inl (SqL.of hL), _, _, rfl, ⟨Int.natCast_nonneg _, by omega⟩, true, rfl, ifF ?_⟩
    refine ⟨_, rfl, v, _, dx, _, _, rfl, hv, T.c_Vault, T.n_Vault_loans, vf_l, _, rfl, _, _, _, _, rfl, rfl, SqL.of hL, atI_nat ht, rfl, _, rfl, inn (decide_eq_false (by intro q; cases q)) ?_⟩
    exact ⟨_, rfl, v, _, dx, _, _, rfl, hv, T.c_Vault, T.n_Vault_loans, vf_l, _, rfl, _, _, _, _, rfl, rfl, SqL.of hL, atI_nat ht, k⟩
theorem ok_Vault_blocked (T : Txt K w mg) : Rdy P w K mg base 1 (He.ma K (He.ga K "Vault") "blocked") P_Vault_blocked (sp_blocked K) := by
  refine rdy_of T.f_Vault_blocked sc_Vault_blocked (fun _ _ _ _ _ _ us hl => match us, hl with | [_, _], _ => rfl) (fun vs H Q E h => ?_) (fun cdv A outer s H vs Q E hr h => ?_)
  · obtain ⟨v, C, L, m, mem, ls, t, sz, d, rfl, _⟩ := h; rfl
  · obtain ⟨v, C, L, m, mem, ls, t, sz, d, rfl, S, ⟨ht, hend⟩, D, k⟩ := h
    obtain ⟨dx, hv⟩ := S.va
    have hL := S.lo
    obtain ⟨da, ha⟩ := D.la
    refine ⟨_, (pss_cons (ps_set (i := 2) sc_Vault_blocked.nd rfl (Or.inr rfl) (pe_fld (pe_ix ix_list (pe_fld (pv 0) rfl) (pv 1) (fun _ _ => rfl)) rfl))
(pss_cons (ps_for PassesOwn.never (by rfl) (pi_list (pe_slice sl_list (pe_fld (pv 0) rfl) (po_some (pe_op op_add (pv 1) pe_int)) po_none)) (pg_name (i := 3) sc_Vault_blocked.nd rfl (Or.inl rfl))
(pss_one (ps_if (PW.pt (pw_and (pt_cmpR op_notN (pv 3) pe_non (nomark _)) (pw_and1 pt_never)))
pss_never
pss_nil)))
(pss_one (ps_ret pe_bl)))), ?_⟩
    refine ⟨_, rfl, v, _, dx, _, _, rfl, hv, T.c_Vault, T.n_Vault_loans, vf_l, _, rfl, _, _, _, _, rfl, rfl, SqL.of hL, atI_nat ht, d.a, _, da, _, _, rfl, ha, T.c_Loan, T.n_Loan_places, lf_l, ?_⟩
    refine ⟨_, rfl, v, _, dx, _, _, rfl, hv, T.c_Vault, T.n_Vault_loans, vf_l, _, rfl, _, _, rfl, rfl, _, rfl, L, ls, rfl, SqL.of hL, fun p hp => ?_⟩
    refine ⟨p, rfl, ⟨_, SqL.of upd_same⟩, for_list (xs := cutV ls (some ((t : Int) + 1)) none) (fun i σ H' => H' = upd H p (.lst (cutV ls (some ((t : Int) + 1)) none)) ∧ ∃ x, σ = [some (.ref v), some (.int t), some (.ref d.pl), x, none])
      ⟨rfl, none, rfl⟩ (fun i σ H' _ ⟨e, _⟩ => by rw [e]; exact SqL.of upd_same) ?_ ?_⟩
    · rintro i x σ H' hi ⟨rfl, y, rfl⟩
      obtain ⟨j, h1, h2⟩ := cut_after hi
      obtain rfl := hend j x h1 h2
      exact ⟨_, rfl, rfl, _, rfl, inn (ndT rfl) (ifF ⟨rfl, _, rfl⟩)⟩
    · rintro σ H' ⟨rfl, y, rfl⟩
      exact k _ (Kp.refl.new hp)
theorem ok_Vault_perform (T : Txt K w mg) (R_perform : Rdy P w K mg base 1 (He.ga K "perform") P_perform sp_perform) : Rdy P w K mg base 2 (He.ma K (He.ga K "Vault") "perform") P_Vault_perform (sp_Vault_perform K) := by
  refine rdy_of T.f_Vault_perform sc_Vault_perform (fun _ _ _ _ _ _ us hl => match us, hl with | [_, _, _], _ => rfl) (fun vs H Q E h => ?_) (fun cdv A outer s H vs Q E hr h => ?_)
  · obtain ⟨v, C, L, st, m, mem, ls, d, s, rfl, _⟩ := h; rfl
  · obtain ⟨v, C, L, st, m, mem, ls, d, s, rfl, S, D, hs, hok, nC, k⟩ := h
    obtain ⟨dx, hv⟩ := S.va
    have hC := S.ce
    obtain ⟨da, ha⟩ := D.la
    have hpl := D.pc
    have hg := D.gv
    have nplC : d.pl ≠ C := fun e => nC (by rw [← e]; simp [LD.comps])
    have hlt : ∀ (i p : Nat), d.places[i]? = some p → p < mem.length := fun i p e => D.po.lt p (List.mem_of_getElem? e)
    refine ⟨_, (pss_cons (ps_setLc (i := 3) (own := [("place", 4)]) (g := gName 4) (tt := tYes) (te := tOp (rIxL K) (tFld K (tVar 0) "cells") (tVar 4)) (by rfl) sc_Vault_perform.nd rfl rfl (sw_true rfl rfl rfl (by decide +kernel)) (pi_list (pe_fld (pv 1) rfl)) (blkOk_by (N := N_Vault_perform) (sc := defScope s_Vault_perform) (by decide +kernel)) (fun _ _ _ _ _ => (pg_name (i := 4) sc_Vault_perform.nd rfl (Or.inl rfl))) (fun _ _ _ _ _ => pts_nil) (fun _ _ _ _ _ => (pe_ix ix_list (pe_fld (pv 0) rfl) (pv 4) (fun _ _ => rfl))))
(pss_cons (ps_expr (pe_callR R_perform (hr.mono (by decide)) rfl T.g_perform_steps (pa_cons (pv 2) (pa_cons (pv 3) (pa_cons (pe_fld (pv 1) rfl) (pa_cons (pe_fld (pv 0) rfl) pa_nil))))))
(pss_one (ps_for PassesOwn.never (by rfl) (pi_zip (by rfl) T.z_zip (pa_cons (pe_fld (pv 1) rfl) (pa_cons (pv 3) pa_nil))) (pg_tup (by rfl) (pgs_cons (pg_name (i := 4) sc_Vault_perform.nd rfl (Or.inl rfl)) (pgs_cons (pg_name (i := 5) sc_Vault_perform.nd rfl (Or.inl rfl)) pgs_nil)))
(pss_one (ps_asg (pv 5) (pg_sub (pe_fld (pv 0) rfl) (pv 4) set_list))))))), ?_⟩
    refine ⟨_, rfl, d.a, _, da, _, _, rfl, ha, T.c_Loan, T.n_Loan_places, lf_l, d.pl, rfl, ⟨_, SqL.of hpl⟩, fun Dl hD => lc_list (K := K) (a := d.pl) (xs := vns d.places)
      (fun i H' => H' = upd H Dl (.lst (vis ((getP d.places mem).take i)))) (by rw [List.take_zero]; rfl) (fun i H' _ e => by rw [e]; exact SqL.of (by rw [upd_ne (ne_of_none hpl hD)]; exact hpl)) ?_ ?_⟩
    · rintro i x H' hi rfl
      obtain ⟨p, rfl, hp⟩ := vns_at hi
      have hv' : upd H Dl (.lst (vis ((getP d.places mem).take i))) v = some (.ins (He.ga K "Vault") dx (vfs m C L)) := by rw [upd_ne (ne_of_none hv hD)]; exact hv
      have hC' : upd H Dl (.lst (vis ((getP d.places mem).take i))) C = some (.lst (vis mem)) := by rw [upd_ne (ne_of_none hC hD)]; exact hC
      refine ⟨rfl, _, rfl, v, _, dx, _, _, rfl, hv', T.c_Vault, T.n_Vault_cells, vf_c, _, rfl, _, _, _, _, rfl, rfl, SqL.of hC', at_vis (hlt i p hp), _, upd_same, ?_, ?_⟩
      · rw [vis_len, List.length_take]
        have := D.po.len
        unfold getP
        rw [List.length_map, D.po.len]
        exact Nat.lt_of_le_of_lt (Nat.min_le_right _ _) (by decide)
      · rw [upd_upd, vis_snoc]
        congr 2
        have e : (getP d.places mem)[i]? = some (mem.getD p 0) := by unfold getP; rw [List.getElem?_map, hp]; rfl
        rw [List.take_add_one, e]; rfl
    · rintro H' rfl
      have e3 : (getP d.places mem).take (vns d.places).length = getP d.places mem := List.take_of_length_le (by unfold getP; rw [List.length_map, vns_len]; exact Nat.le_refl _)
      rw [e3]
      have k1 : Kp [C] H (upd H Dl (.lst (vis (getP d.places mem)))) := Kp.refl.new hD
      have ha1 : upd H Dl (.lst (vis (getP d.places mem))) d.a = some (.ins (He.ga K "Loan") da (lfs d.p d.pl d.g d.begun d.done)) := by rw [upd_ne (ne_of_none ha hD)]; exact ha
      have hv1 : upd H Dl (.lst (vis (getP d.places mem))) v = some (.ins (He.ga K "Vault") dx (vfs m C L)) := by rw [upd_ne (ne_of_none hv hD)]; exact hv
      refine ⟨_, rfl, _, rfl, _, rfl, d.a, _, da, _, _, rfl, ha1, T.c_Loan, T.n_Loan_given, lf_g, _, rfl, v, _, dx, _, _, rfl, hv1, T.c_Vault, T.n_Vault_modulus, vf_m, ?_⟩
      refine ⟨st, Dl, d.g, s, m, d.n, getP d.places mem, d.given, rfl, hs.kp k1, hok, S.m2.1, S.m2.2, getP_mem3 D.po rfl S.r, D.gr, D.gl, upd_same, by rw [upd_ne (ne_of_none hg hD)]; exact hg, ?_⟩
      rintro H2 rfl
      rw [upd_upd]
      have hD2 : ∀ o, upd H Dl o = upd H Dl o := fun _ => rfl
      have k2 : Kp [C] H (upd H Dl (.lst (vis (s.run m d.given (getP d.places mem))))) := Kp.refl.new hD
      have ha2 : upd H Dl (.lst (vis (s.run m d.given (getP d.places mem)))) d.a = some (.ins (He.ga K "Loan") da (lfs d.p d.pl d.g d.begun d.done)) := by rw [upd_ne (ne_of_none ha hD)]; exact ha
      have hpl2 : upd H Dl (.lst (vis (s.run m d.given (getP d.places mem)))) d.pl = some (.lst (vns d.places)) := by rw [upd_ne (ne_of_none hpl hD)]; exact hpl
      have hC2 : upd H Dl (.lst (vis (s.run m d.given (getP d.places mem)))) C = some (.lst (vis mem)) := by rw [upd_ne (ne_of_none hC hD)]; exact hC
      have nDC : Dl ≠ C := fun e => by rw [e] at hD; rw [hC] at hD; cases hD
      have hlen : (vns d.places).length = (vis (s.run m d.given (getP d.places mem))).length := by rw [vns_len, vis_len, Stp.run_len]; unfold getP; rw [List.length_map]
      refine ⟨_, rfl, d.a, _, da, _, _, rfl, ha2, T.c_Loan, T.n_Loan_places, lf_l, _, rfl, d.pl, Dl, _, _, rfl, SqL.of hpl2, SqL.of upd_same, RZ.for_zipL (xs := vns d.places) (ys := vis (s.run m d.given (getP d.places mem))) hlen
        (fun i σ H' => Kp [C] H H' ∧ H' C = some (.lst (vis (putN d.places (s.run m d.given (getP d.places mem)) i mem))) ∧ H' Dl = some (.lst (vis (s.run m d.given (getP d.places mem)))) ∧ ∃ y z, σ = [some (.ref v), some (.ref d.a), some (.ref st), some (.ref Dl), y, z])
        ⟨k2, ?_, upd_same, _, _, rfl⟩ (fun i σ H' ⟨q1, _, q3, _⟩ => ⟨SqL.of (q1.keep _ _ hpl fun z => nplC (List.mem_singleton.mp z)), SqL.of q3⟩) ?_ ?_⟩
      · unfold putN
        rw [List.take_zero]
        exact hC2
      · rintro i x y Tt σ H' hx hy ⟨q1, q2, q3, y1, z1, rfl⟩ hT
        obtain ⟨p, rfl, hp⟩ := vns_at hx
        obtain ⟨c, rfl, hc⟩ := vis_at hy
        have hv3 : upd H' Tt (.tup [.int (p : Int), .int c]) v = some (.ins (He.ga K "Vault") dx (vfs m C L)) := by
          have := q1.keep _ _ hv fun z => S.vC (List.mem_singleton.mp z)
          rw [upd_ne (ne_of_none this hT)]; exact this
        have hC3 : upd H' Tt (.tup [.int (p : Int), .int c]) C = some (.lst (vis (putN d.places (s.run m d.given (getP d.places mem)) i mem))) := by rw [upd_ne (ne_of_none q2 hT)]; exact q2
        refine ⟨Tt, _, rfl, SqT.of upd_same, rfl, _, _, rfl, _, _, rfl, rfl, ?_⟩
        refine ⟨_, rfl, _, rfl, v, _, dx, _, _, rfl, hv3, T.c_Vault, T.n_Vault_cells, vf_c, _, rfl, C, _, _, p, rfl, rfl, hC3, ixN_nat ?_, ?_⟩
        · rw [vis_len]
          unfold putN
          rw [putN_len (pl := d.places) (cs := [])]
          exact hlt i p hp
        · refine ⟨Kp.mut (q1.new hT) (.inl mem1) (notT_l hC3), ?_, ?_, _, _, rfl⟩
          · rw [putN_succ hp hc, ← vis_set]; exact upd_same
          · rw [upd_ne nDC, upd_ne (ne_of_none q3 hT)]; exact q3
      · rintro σ H' ⟨q1, q2, q3, y1, z1, rfl⟩
        refine k _ q1 ?_
        rw [q2, vns_len, putN_all (by rw [Stp.run_len]; unfold getP; rw [List.length_map])]
        rfl
end
end BF

namespace BF
open PySem PySem.Spec PyProof.Rows L2
section
variable {P : Program} {w : World} {K : PySem.W.Frag} {mg : Str → Option Value} {base : Heap}
theorem ok_Vault_advance (T : Txt K w mg) (R_Vault_found : Rdy P w K mg base 3 (He.ma K (He.ga K "Vault") "found") P_Vault_found (sp_found K)) (R_is_integer : Rdy P w K mg base 1 (He.ga K "is_integer") P_is_integer sp_is_integer) (R_Vault_blocked : Rdy P w K mg base 1 (He.ma K (He.ga K "Vault") "blocked") P_Vault_blocked (sp_blocked K)) (R_Vault_perform : Rdy P w K mg base 2 (He.ma K (He.ga K "Vault") "perform") P_Vault_perform (sp_Vault_perform K)) : Rdy P w K mg base 4 (He.ma K (He.ga K "Vault") "advance") P_Vault_advance (sp_advance K) := by
  refine rdy_of T.f_Vault_advance sc_Vault_advance (fun _ _ _ _ _ _ us hl => match us, hl with | [_, _, _], _ => rfl) (fun vs H Q E h => ?_) (fun cdv A outer s H vs Q E hr h => ?_)
  · obtain ⟨v, C, L, m, mem, ls, d, t, most, rfl, _⟩ := h; rfl
  · obtain ⟨v, C, L, m, mem, ls, d, t, most, rfl, S, D, hlast, nC, hd, hz, hm, k⟩ := h
    obtain ⟨dx, hv⟩ := S.va
    obtain ⟨da, ha⟩ := D.la
    obtain ⟨dp, hp⟩ := D.pa
    obtain ⟨xs, hl, rr⟩ := D.st
    have nac : d.a ≠ C := fun e => nC (by rw [← e]; simp [LD.comps])
    refine ⟨_, (pss_cons (ps_set (i := 3) sc_Vault_advance.nd rfl (Or.inl rfl) (pe_methR (pv 0) T.c_Vault T.h_Vault_found R_Vault_found (hr.mono (by decide)) (pa_cons (pv 1) pa_nil)))
(pss_cons (ps_if (PW.pt (pw_or (pt_not (pt_val (pe_callR R_is_integer (hr.mono (by decide)) rfl T.g_is_integer (pa_cons (pv 2) pa_nil)))) (pw_or1 (pt_cmpR op_lt (pv 2) pe_int (nomark _)))))
pss_never
pss_nil)
(pss_cons (ps_if (pt_val (pe_methR (pv 0) T.c_Vault T.h_Vault_blocked R_Vault_blocked (hr.mono (by decide)) (pa_cons (pv 1) pa_nil)))
pss_never
pss_nil)
(pss_cons (ps_set (i := 4) sc_Vault_advance.nd rfl (Or.inl rfl) (pe_slice sl_list (pe_fld (pe_fld (pv 3) rfl) rfl) (po_some (pe_fld (pv 3) rfl)) (po_some (pe_op op_add (pe_fld (pv 3) rfl) (pv 2)))))
(pss_cons (ps_for PassesOwn.never (by rfl) (pi_list (pv 4)) (pg_name (i := 5) sc_Vault_advance.nd rfl (Or.inl rfl))
(pss_one (ps_expr (pe_methR (pv 0) T.c_Vault T.h_Vault_perform R_Vault_perform (hr.mono (by decide)) (pa_cons (pv 3) (pa_cons (pv 5) pa_nil))))))
(pss_cons (ps_fldaug (pv 3) (pe_callB call_len_seq (by rfl) T.z_len PySem.boot_len (pa_cons (pv 4) pa_nil)) in_add)
(pss_one (ps_ret (pe_callB call_len_seq (by rfl) T.z_len PySem.boot_len (pa_cons (pv 4) pa_nil)))))))))), ?_⟩
    refine ⟨_, rfl, v, dx, _, rfl, hv, vf_2, _, rfl, v, C, L, d.a, m, mem, ls, t, rfl, S, hlast.1, ?_⟩
    refine ⟨_, rfl, most, rfl, true, rfl, ifF ⟨_, rfl, _, _, rfl, rfl, _, rfl, inn (decide_eq_false (by omega)) ?_⟩⟩
    refine ⟨_, rfl, v, dx, _, rfl, hv, vf_3, _, rfl, v, C, L, m, mem, ls, t, mem.length, d, rfl, S, hlast, D, fun H1 k1 => ⟨false, rfl, ifF ?_⟩⟩
    have ha1 := k1.keep _ _ ha (fun z => nomatch z)
    have hp1 := k1.keep _ _ hp (fun z => nomatch z)
    have hl1 := k1.keep _ _ hl (fun z => nomatch z)
    refine ⟨_, rfl, d.a, _, da, _, _, rfl, ha1, T.c_Loan, T.n_Loan_program, lf_p, d.p, _, dp, _, _, rfl, hp1, T.c_Program, T.n_Program_steps, pf_s, ?_⟩
    refine ⟨_, rfl, d.a, _, da, _, _, rfl, ha1, T.c_Loan, T.n_Loan_done, lf_d, _, rfl, ?_⟩
    refine ⟨_, rfl, d.a, _, da, _, _, rfl, ha1, T.c_Loan, T.n_Loan_done, lf_d, _, rfl, _, _, rfl, rfl, _, rfl, ?_⟩
    refine ⟨d.l, xs, rfl, SqL.of hl1, fun p hp0 => ?_⟩
    rw [cut_mid (by rw [rr.1]; exact hd)]
    have k2 : Kp [C] H (upd H1 p (.lst ((xs.drop d.done).take most))) := (Kp.nil k1).new hp0
    have nCp : C ≠ p := k1.mem S.ce hp0 |> fun e => ne_of_none (k1.keep _ _ S.ce (fun z => nomatch z)) hp0
    have rr2 : Refs (StpAt H) ((xs.drop d.done).take most) ((d.ss.drop d.done).take most) := (rr.drop _).take _
    refine ⟨_, rfl, p, rfl, ⟨_, SqL.of upd_same⟩, for_list (xs := (xs.drop d.done).take most)
      (fun i σ H' => Kp [C] H H' ∧ H' p = some (.lst ((xs.drop d.done).take most)) ∧ H' C = some (.lst (vis (vruns m d.given d.places mem (((d.ss.drop d.done).take most).take i)))) ∧ ∃ x, σ = [some (.ref v), some (.int t), some (.int most), some (.ref d.a), some (.ref p), x])
      ⟨k2, upd_same, by rw [upd_ne nCp, List.take_zero]; exact k1.keep _ _ S.ce (fun z => nomatch z), none, rfl⟩ (fun i σ H' _ ⟨_, e, _⟩ => SqL.of e) ?_ ?_⟩
    · rintro i x σ H' hi ⟨q1, q2, q3, y, rfl⟩
      obtain ⟨st, s, rfl, h1, h2⟩ := rr2.at_ hi
      have S' : VSt K H' m v C L (vruns m d.given d.places mem (((d.ss.drop d.done).take most).take i)) ls := S.cells (S := []) q1 (fun z => nomatch z) (fun z => nomatch z) q3 (vruns_rng S.m2.1 D.po _ mem rfl S.r) (vruns_len _ _)
      have D' : LoanIn K H' m (vruns m d.given d.places mem (((d.ss.drop d.done).take most).take i)).length d := by
        rw [vruns_len]
        exact D.kp q1 fun z hz e => nC (by rw [← List.mem_singleton.mp e]; exact hz)
      have hok : s.Ok m d.n := D.ok s (List.mem_of_mem_drop (List.mem_of_mem_take (List.mem_of_getElem? h1)))
      refine ⟨_, rfl, v, dx, _, rfl, q1.keep _ _ hv (fun z => S.vC (List.mem_singleton.mp z)), vf_4, _, rfl, _, rfl, v, C, L, st, m, _, ls, d, s, rfl, S', D', h2.kp q1, hok, nC, fun H2 k3 e3 => ?_⟩
      refine ⟨q1.trans k3, k3.keep _ _ q2 (fun z => nCp (List.mem_singleton.mp z).symm), ?_, _, rfl⟩
      rw [e3, List.take_add_one, h1, vruns_app]
      rfl
    · rintro σ H' ⟨q1, q2, q3, y, rfl⟩
      rw [show ((d.ss.drop d.done).take most).take ((xs.drop d.done).take most).length = (d.ss.drop d.done).take most by rw [rr2.1]; exact List.take_length] at q3
      have ha' := q1.keep _ _ ha (fun z => nac (List.mem_singleton.mp z))
      have npa : p ≠ d.a := ne_of q2 ha' (by intro q; cases q)
      refine ⟨_, rfl, d.a, _, da, _, _, rfl, ha', T.c_Loan, T.n_Loan_done, lf_d, _, rfl, p, _, rfl, .inl (SqL.of q2), _, _, rfl, rfl, da, _, ha', (by show 5 < 1000; decide), ?_⟩
      refine ⟨_, rfl, p, _, rfl, .inl (SqL.of (by rw [upd_ne npa]; exact q2)), ?_⟩
      rw [show (d.done : Int) + (((xs.drop d.done).take most).length : Int) = ((d.done + ((d.ss.drop d.done).take most).length : Nat) : Int) by rw [rr2.1]; omega, lf_done, rr2.1]
      refine k _ ?_ (by rw [upd_ne (Ne.symm nac)]; exact q3) ⟨da, upd_same⟩
      exact Kp.mut (q1.mono fun x hx => by rw [List.mem_singleton.mp hx]; exact List.mem_cons_self ..) (.inl (List.mem_cons_of_mem _ mem1)) (notT_i ha')
theorem ok_Vault_answer (T : Txt K w mg) (R_Vault_found : Rdy P w K mg base 3 (He.ma K (He.ga K "Vault") "found") P_Vault_found (sp_found K)) (R_Vault_blocked : Rdy P w K mg base 1 (He.ma K (He.ga K "Vault") "blocked") P_Vault_blocked (sp_blocked K)) : Rdy P w K mg base 4 (He.ma K (He.ga K "Vault") "answer") P_Vault_answer (sp_answer K) := by
  refine rdy_of T.f_Vault_answer sc_Vault_answer (fun _ _ _ _ _ _ us hl => match us, hl with | [_, _], _ => rfl) (fun vs H Q E h => ?_) (fun cdv A outer s H vs Q E hr h => ?_)
  · obtain ⟨v, C, L, m, mem, ls, d, t, rfl, _⟩ := h; rfl
  · obtain ⟨v, C, L, m, mem, ls, d, t, rfl, S, D, hlast, hd, k⟩ := h
    obtain ⟨dx, hv⟩ := S.va
    obtain ⟨da, ha⟩ := D.la
    obtain ⟨dp, hp⟩ := D.pa
    obtain ⟨xs, hl, rr⟩ := D.st
    refine ⟨_, (pss_cons (ps_set (i := 2) sc_Vault_answer.nd rfl (Or.inl rfl) (pe_methR (pv 0) T.c_Vault T.h_Vault_found R_Vault_found (hr.mono (by decide)) (pa_cons (pv 1) pa_nil)))
(pss_cons (ps_if (pt_val (pe_methR (pv 0) T.c_Vault T.h_Vault_blocked R_Vault_blocked (hr.mono (by decide)) (pa_cons (pv 1) pa_nil)))
pss_never
pss_nil)
(pss_cons (ps_if (pt_cmpR op_lt (pe_fld (pv 2) rfl) (pe_callB call_len_seq (by rfl) T.z_len PySem.boot_len (pa_cons (pe_fld (pe_fld (pv 2) rfl) rfl) pa_nil)) (nomark _))
pss_never
pss_nil)
(pss_one (ps_ret (pe_op op_mod (pe_op op_sub (pe_ix ix_list (pe_fld (pv 0) rfl) (pe_ix ix_list (pe_fld (pv 2) rfl) pe_int (fun _ _ => rfl)) (fun _ _ => rfl)) (pe_fld (pv 2) rfl)) (pe_fld (pv 0) rfl))))))), ?_⟩
    refine ⟨_, rfl, v, dx, _, rfl, hv, vf_2, _, rfl, v, C, L, d.a, m, mem, ls, t, rfl, S, hlast.1, ?_⟩
    refine ⟨_, rfl, v, dx, _, rfl, hv, vf_3, _, rfl, v, C, L, m, mem, ls, t, mem.length, d, rfl, S, hlast, D, fun H1 k1 => ⟨false, rfl, ifF ?_⟩⟩
    have ha1 := k1.keep _ _ ha (fun z => nomatch z)
    have hp1 := k1.keep _ _ hp (fun z => nomatch z)
    have hl1 := k1.keep _ _ hl (fun z => nomatch z)
    have hv1 := k1.keep _ _ hv (fun z => nomatch z)
    have hC1 := k1.keep _ _ S.ce (fun z => nomatch z)
    have hpl1 := k1.keep _ _ D.pc (fun z => nomatch z)
    refine ⟨_, rfl, d.a, _, da, _, _, rfl, ha1, T.c_Loan, T.n_Loan_done, lf_d, _, rfl, d.a, _, da, _, _, rfl, ha1, T.c_Loan, T.n_Loan_program, lf_p, d.p, _, dp, _, _, rfl, hp1, T.c_Program, T.n_Program_steps, pf_s, d.l, xs, rfl, .inl (SqL.of hl1), _, _, rfl, rfl, _, rfl, inn (decide_eq_false (by rw [rr.1]; omega)) ?_⟩
    have h0 : 0 < d.places.length := by rw [D.po.len]; decide
    have hlt : d.places.getD 0 0 < mem.length := D.po.lt _ (by rw [List.getD_eq_getElem?_getD, List.getElem?_eq_getElem h0]; exact List.getElem_mem h0)
    exact ⟨_, rfl, v, _, dx, _, _, rfl, hv1, T.c_Vault, T.n_Vault_cells, vf_c, _, rfl, d.a, _, da, _, _, rfl, ha1, T.c_Loan, T.n_Loan_places, lf_l, _, _, _, _, rfl, rfl, SqL.of hpl1, at_vns (i := 0) h0, _, _, _, _, rfl, rfl, SqL.of hC1, at_vis hlt, _, rfl, d.a, _, da, _, _, rfl, ha1, T.c_Loan, T.n_Loan_begun, lf_b, _, _, rfl, rfl, _, rfl, v, _, dx, _, _, rfl, hv1, T.c_Vault, T.n_Vault_modulus, vf_m, _, _, rfl, rfl, (by have := S.m2; omega), k _ k1⟩
theorem ok_Vault_recall (T : Txt K w mg) (R_Vault_found : Rdy P w K mg base 3 (He.ma K (He.ga K "Vault") "found") P_Vault_found (sp_found K)) (R_Vault_blocked : Rdy P w K mg base 1 (He.ma K (He.ga K "Vault") "blocked") P_Vault_blocked (sp_blocked K)) (R_Vault_perform : Rdy P w K mg base 2 (He.ma K (He.ga K "Vault") "perform") P_Vault_perform (sp_Vault_perform K)) (R_inverse_step : Rdy P w K mg base 1 (He.ga K "inverse_step") P_inverse_step sp_inverse_step) : Rdy P w K mg base 4 (He.ma K (He.ga K "Vault") "recall") P_Vault_recall (sp_recall K) := by
  refine rdy_of T.f_Vault_recall sc_Vault_recall (fun _ _ _ _ _ _ us hl => match us, hl with | [_, _], _ => rfl) (fun vs H Q E h => ?_) (fun cdv A outer s H vs Q E hr h => ?_)
  · obtain ⟨v, C, L, m, mem, ls, d, t, rfl, _⟩ := h; rfl
  · obtain ⟨v, C, L, m, mem, ls, d, t, rfl, S, D, hlast, nC, hd, hz, k⟩ := h
    obtain ⟨dx, hv⟩ := S.va
    obtain ⟨da, ha⟩ := D.la
    obtain ⟨dp, hp⟩ := D.pa
    obtain ⟨xs, hl, rr⟩ := D.st
    refine ⟨_, (pss_cons (ps_set (i := 2) sc_Vault_recall.nd rfl (Or.inl rfl) (pe_methR (pv 0) T.c_Vault T.h_Vault_found R_Vault_found (hr.mono (by decide)) (pa_cons (pv 1) pa_nil)))
(pss_cons (ps_if (pt_val (pe_methR (pv 0) T.c_Vault T.h_Vault_blocked R_Vault_blocked (hr.mono (by decide)) (pa_cons (pv 1) pa_nil)))
pss_never
pss_nil)
(pss_cons (ps_set (i := 3) sc_Vault_recall.nd rfl (Or.inl rfl) (pe_slice sl_list (pe_fld (pe_fld (pv 2) rfl) rfl) po_none (po_some (pe_fld (pv 2) rfl))))
(pss_cons (ps_for PassesOwn.never (by rfl) (pi_list (pe_revL (pv 3))) (pg_name (i := 4) sc_Vault_recall.nd rfl (Or.inl rfl))
(pss_one (ps_expr (pe_methR (pv 0) T.c_Vault T.h_Vault_perform R_Vault_perform (hr.mono (by decide)) (pa_cons (pv 2) (pa_cons (pe_callR R_inverse_step (hr.mono (by decide)) rfl T.g_inverse_step (pa_cons (pv 4) (pa_cons (pe_fld (pv 0) rfl) pa_nil))) pa_nil))))))
(pss_cons (ps_asg pe_non (pg_sub (pe_fld (pv 0) rfl) (pv 1) set_list))
(pss_one (ps_ret (pe_callB call_len_seq (by rfl) T.z_len PySem.boot_len (pa_cons (pv 3) pa_nil))))))))), ?_⟩
    refine ⟨_, rfl, v, dx, _, rfl, hv, vf_2, _, rfl, v, C, L, d.a, m, mem, ls, t, rfl, S, hlast.1, ?_⟩
    refine ⟨_, rfl, v, dx, _, rfl, hv, vf_3, _, rfl, v, C, L, m, mem, ls, t, mem.length, d, rfl, S, hlast, D, fun H1 k1 => ⟨false, rfl, ifF ?_⟩⟩
    have ha1 := k1.keep _ _ ha (fun z => nomatch z)
    have hp1 := k1.keep _ _ hp (fun z => nomatch z)
    have hl1 := k1.keep _ _ hl (fun z => nomatch z)
    refine ⟨_, rfl, d.a, _, da, _, _, rfl, ha1, T.c_Loan, T.n_Loan_program, lf_p, d.p, _, dp, _, _, rfl, hp1, T.c_Program, T.n_Program_steps, pf_s, _, rfl, d.a, _, da, _, _, rfl, ha1, T.c_Loan, T.n_Loan_done, lf_d, _, rfl, d.l, xs, rfl, SqL.of hl1, fun p hp0 => ?_⟩
    rw [cut_to (by rw [rr.1, hd]; exact Nat.le_refl _), hd, ← rr.1, List.take_length]
    have nCp : C ≠ p := ne_of_none (k1.keep _ _ S.ce (fun z => nomatch z)) hp0
    refine ⟨_, rfl, p, xs, rfl, SqL.of upd_same, fun r hr0 => ?_⟩
    have npr : p ≠ r := ne_of_none upd_same hr0
    have k2 : Kp [C] H (upd (upd H1 p (.lst xs)) r (.lst xs.reverse)) := ((Kp.nil k1).new hp0).new hr0
    have nCr : C ≠ r := ne_of_none (show upd H1 p (.lst xs) C = some (.lst (vis mem)) by rw [upd_ne nCp]; exact k1.keep _ _ S.ce (fun z => nomatch z)) hr0
    have rr2 : Refs (StpAt H) xs.reverse d.ss.reverse := rr.rev
    refine ⟨r, rfl, ⟨_, SqL.of upd_same⟩, for_list (xs := xs.reverse)
      (fun i σ H' => Kp [C] H H' ∧ H' p = some (.lst xs) ∧ H' r = some (.lst xs.reverse) ∧ H' C = some (.lst (vis (vruns m d.given d.places mem ((d.ss.reverse.take i).map (Stp.inv m))))) ∧ ∃ x, σ = [some (.ref v), some (.int t), some (.ref d.a), some (.ref p), x])
      ⟨k2, by rw [upd_ne npr]; exact upd_same, upd_same, by rw [upd_ne nCr, upd_ne nCp, List.take_zero]; exact k1.keep _ _ S.ce (fun z => nomatch z), none, rfl⟩ (fun i σ H' _ ⟨_, _, e, _⟩ => SqL.of e) ?_ ?_⟩
    · rintro i x σ H' hi ⟨q1, q2, q2', q3, y, rfl⟩
      obtain ⟨st, s, rfl, h1, h2⟩ := rr2.at_ hi
      have hok : s.Ok m d.n := D.ok s (List.mem_reverse.mp (List.mem_of_getElem? h1))
      have hv' := q1.keep _ _ hv (fun z => S.vC (List.mem_singleton.mp z))
      refine ⟨_, rfl, v, dx, _, rfl, hv', vf_4, _, rfl, _, rfl, _, rfl, v, _, dx, _, _, rfl, hv', T.c_Vault, T.n_Vault_modulus, vf_m, st, s, m, rfl, h2.kp q1, S.m2.1, fun H2 t2 k3 hst => ?_⟩
      have q1' : Kp [C] H H2 := q1.trans k3.nil
      have q3' := k3.keep _ _ q3 (fun z => nomatch z)
      have S' : VSt K H2 m v C L (vruns m d.given d.places mem ((d.ss.reverse.take i).map (Stp.inv m))) ls := S.cells (S := []) q1' (fun z => nomatch z) (fun z => nomatch z) q3' (vruns_rng S.m2.1 D.po _ mem rfl S.r) (vruns_len _ _)
      have D' : LoanIn K H2 m (vruns m d.given d.places mem ((d.ss.reverse.take i).map (Stp.inv m))).length d := by
        rw [vruns_len]
        exact D.kp q1' fun z hz e => nC (by rw [← List.mem_singleton.mp e]; exact hz)
      refine ⟨v, C, L, t2, m, _, ls, d, s.inv m, rfl, S', D', hst, Stp.inv_ok S.m2.1 hok, nC, fun H3 k4 e4 => ?_⟩
      refine ⟨q1'.trans k4, k4.keep _ _ (k3.keep _ _ q2 (fun z => nomatch z)) (fun z => nCp (List.mem_singleton.mp z).symm), k4.keep _ _ (k3.keep _ _ q2' (fun z => nomatch z)) (fun z => nCr (List.mem_singleton.mp z).symm), ?_, _, rfl⟩
      rw [e4, List.take_add_one, h1, List.map_append, vruns_app]
      rfl
    · rintro σ H' ⟨q1, q2, q2', q3, y, rfl⟩
      rw [show d.ss.reverse.take xs.reverse.length = d.ss.reverse by rw [rr2.1]; exact List.take_length] at q3
      have hv' := q1.keep _ _ hv (fun z => S.vC (List.mem_singleton.mp z))
      have hL' := q1.keep _ _ S.lo (fun z => S.ne (List.mem_singleton.mp z).symm)
      have hlt := (List.getElem?_eq_some_iff.mp hlast.1).1
      have npL : p ≠ L := fun e => by
        have := k1.keep _ _ S.lo (fun z => nomatch z)
        rw [← e, hp0] at this
        cases this
      refine ⟨_, rfl, v, _, dx, _, _, rfl, hv', T.c_Vault, T.n_Vault_loans, vf_l, _, rfl, L, ls, _, t, rfl, rfl, hL', ixN_nat hlt, ?_⟩
      refine ⟨_, rfl, p, xs, rfl, .inl (SqL.of (by rw [upd_ne npL]; exact q2)), ?_⟩
      refine k _ _ ?_ (by rw [upd_ne S.ne]; exact q3) upd_same
      exact Kp.mut (q1.mono fun x hx => by rw [List.mem_singleton.mp hx]; exact List.mem_cons_self ..) (.inl (List.mem_cons_of_mem _ mem1)) (notT_l hL')
theorem ok_Vault_open_loans (T : Txt K w mg) : Rdy P w K mg base 1 (He.ma K (He.ga K "Vault") "open_loans") P_Vault_open_loans (sp_open_loans K) := by
  refine rdy_of T.f_Vault_open_loans sc_Vault_open_loans (fun _ _ _ _ _ _ us hl => match us, hl with | [_], _ => rfl) (fun vs H Q E h => ?_) (fun cdv A outer s H vs Q E hr h => ?_)
  · obtain ⟨v, C, L, m, mem, ls, rfl, _⟩ := h; rfl
  · obtain ⟨v, C, L, m, mem, ls, rfl, S, hn, k⟩ := h
    obtain ⟨dx, hv⟩ := S.va
    have hL := S.lo
    refine ⟨_, (pss_one (ps_ret (pe_lc (own := [("ticket", 1), ("loan", 2)]) (g := gTup K 2 (gCons (gName 1) (gCons (gName 2) gNil))) (tt := tTest (tOp (fun x y H Q => y = .non ∧ Q (.bl (!decide (x = .non))) H) (tVar 2) (tC .non))) (te := tVar 1) (by rfl) sc_Vault_open_loans.nd (pi_enum (by rfl) T.z_enumerate (pa_cons (pe_fld (pv 0) rfl) pa_nil)) (blkOk_by (N := N_Vault_open_loans) (sc := defScope s_Vault_open_loans) (by decide +kernel)) (fun _ _ _ _ _ => (pg_tup (by rfl) (pgs_cons (pg_name (i := 1) sc_Vault_open_loans.nd rfl (Or.inl rfl)) (pgs_cons (pg_name (i := 2) sc_Vault_open_loans.nd rfl (Or.inl rfl)) pgs_nil)))) (fun _ _ _ _ _ => pts_one (pt_cmpR op_notN (pv 2) pe_non (nomark _))) (fun _ _ _ _ _ => (pv 1))))), ?_⟩
    refine ⟨_, rfl, v, _, dx, _, _, rfl, hv, T.c_Vault, T.n_Vault_loans, vf_l, L, ls, rfl, SqL.of hL, fun Dl hD => lc_it walk_enum (fun i H' => Kp [] H H' ∧ H' Dl = some (.lst []))
      ⟨Kp.refl.new hD, upd_same⟩ (fun i H' _ ⟨q, _⟩ => SqL.of (q.keep _ _ hL fun z => nomatch z)) ?_ ?_⟩
    · rintro i x H1 H' hi ⟨q1, q2⟩ ⟨Tt, y, z, rfl, hT, rfl, e1, e2⟩
      obtain rfl := hn z (List.mem_of_getElem? e2)
      exact ⟨Tt, _, rfl, SqT.of upd_same, rfl, _, _, rfl, _, _, rfl, rfl, rfl, _, rfl, rfl, _, rfl, inn (ndT rfl) ⟨q1.new hT, by rw [upd_ne (ne_of_none q2 hT)]; exact q2⟩⟩
    · rintro H' ⟨q1, q2⟩
      exact k _ _ q1 hD q2
end
end BF

namespace BF
open PySem PySem.Spec PyProof.Rows L2
theorem flat_vns : ∀ l : List Nat, (vns l).all flatV = true
  | [] => rfl
  | _ :: r => flat_vns r
theorem notin_vns {p : Nat} : ∀ l : List Nat, p ∉ l → inV (.int (p : Int)) (vns l) = false
  | [], _ => rfl
  | q :: r, h => by
    show (((q : Int) == (p : Int)) || inV (.int (p : Int)) (vns r)) = false
    rw [notin_vns r fun z => h (List.mem_cons_of_mem _ z)]
    have : ¬ q = p := fun e => h (by rw [e]; exact List.mem_cons_self ..)
    simp only [Bool.or_false, beq_eq_false_iff_ne, ne_eq]
    omega
section
variable {P : Program} {w : World} {K : PySem.W.Frag} {mg : Str → Option Value} {base : Heap}
theorem ok_Vault_lend (T : Txt K w mg) (R_is_number : Rdy P w K mg base 2 (He.ga K "is_number") P_is_number sp_is_number) (R_check_numbers : Rdy P w K mg base 3 (He.ga K "check_numbers") P_check_numbers sp_check_numbers) (R_Loan_init : Rdy P w K mg base 1 (He.ma K (He.ga K "Loan") "__init__") P_Loan_init (sp_Loan_init K)) : Rdy P w K mg base 4 (He.ma K (He.ga K "Vault") "lend") P_Vault_lend (sp_lend K) := by
  refine rdy_of T.f_Vault_lend sc_Vault_lend (fun _ _ _ _ _ _ us hl => match us, hl with | [_, _, _, _], _ => rfl) (fun vs H Q E h => ?_) (fun cdv A outer s H vs Q E hr h => ?_)
  · obtain ⟨v, p, pl, g, C, L, m, mem, ls, n, l, places, given, rfl, _⟩ := h; rfl
  · obtain ⟨v, p, pl, g, C, L, m, mem, ls, n, l, places, given, rfl, S, ⟨dp, hp⟩, hpl, po, hg, gl, gr, k⟩ := h
    obtain ⟨dx, hv⟩ := S.va
    have hC := S.ce
    have hL := S.lo
    refine ⟨_, (pss_cons (ps_if (pt_cmpR op_ne (pe_fld (pv 1) rfl) (pe_fld (pv 0) rfl) (nomark _))
pss_never
pss_nil)
(pss_cons (ps_if (PW.pt (pw_or (pt_not (pt_val (pe_callB call_isi (by rfl) T.z_isinstance (by decide +kernel) (pa_cons (pv 2) (pa_cons (pe_bltn (v := .ty "list") (by rfl) T.z_list (by decide +kernel) rfl) pa_nil))))) (pw_or1 (pt_cmpR op_ne (pe_callB call_len_seq (by rfl) T.z_len PySem.boot_len (pa_cons (pv 2) pa_nil)) (pe_fld (pv 1) rfl) (nomark _)))))
pss_never
pss_nil)
(pss_cons (ps_set (i := 4) sc_Vault_lend.nd rfl (Or.inl rfl) (pe_lst pa_nil))
(pss_cons (ps_for PassesOwn.never (by rfl) (pi_list (pv 2)) (pg_name (i := 5) sc_Vault_lend.nd rfl (Or.inl rfl))
(pss_cons (ps_if (PW.pt (pw_or (pt_not (pt_val (pe_callR R_is_number (hr.mono (by decide)) rfl T.g_is_number (pa_cons (pv 5) (pa_cons (pe_callB call_len_seq (by rfl) T.z_len PySem.boot_len (pa_cons (pe_fld (pv 0) rfl) pa_nil)) pa_nil))))) (pw_or1 (pt_cmpR op_in_seq (pv 5) (pv 4) rfl))))
pss_never
pss_nil)
(pss_one (ps_expr (pe_bm PySem.F.plainAttrs_list PySem.F.slot_list_append PySem.F.type_list_append mt_append (pv 4) (pa_cons (pv 5) pa_nil))))))
(pss_cons (ps_expr (pe_callR R_check_numbers (hr.mono (by decide)) rfl T.g_check_numbers (pa_cons (pv 3) (pa_cons (pe_fld (pv 1) rfl) (pa_cons (pe_fld (pv 0) rfl) pa_nil)))))
(pss_cons (ps_set (i := 6) sc_Vault_lend.nd rfl (Or.inl rfl) (pe_makeR T.m_Loan R_Loan_init (hr.mono (by decide)) rfl T.g_Loan (pa_cons (pv 1) (pa_cons (pv 4) (pa_cons (pe_callTy call_list_of (by rfl) T.z_list (by decide +kernel) (pa_cons (pv 3) pa_nil)) (pa_cons (pe_ix ix_list (pe_fld (pv 0) rfl) (pe_ix ix_list (pv 4) pe_int (fun _ _ => rfl)) (fun _ _ => rfl)) pa_nil))))))
(pss_cons (ps_expr (pe_bm PySem.F.plainAttrs_list PySem.F.slot_list_append PySem.F.type_list_append mt_append (pe_fld (pv 0) rfl) (pa_cons (pv 6) pa_nil)))
(pss_one (ps_ret (pe_op op_sub (pe_callB call_len_seq (by rfl) T.z_len PySem.boot_len (pa_cons (pe_fld (pv 0) rfl) pa_nil)) pe_int)))))))))), ?_⟩
    refine ⟨_, rfl, p, _, dp, _, _, rfl, hp, T.c_Program, T.n_Program_modulus, pf_m, _, rfl, v, _, dx, _, _, rfl, hv, T.c_Vault, T.n_Vault_modulus, vf_m, rfl, _, rfl, inn (ndT rfl) ?_⟩
    refine ⟨_, rfl, _, _, _, _, true, rfl, .ty _, tyl hpl, kit_ty k_list_list, true, rfl, ifF ?_⟩
    refine ⟨_, rfl, _, _, rfl, .inl (SqL.of hpl), _, rfl, p, _, dp, _, _, rfl, hp, T.c_Program, T.n_Program_cells, pf_c, rfl, _, rfl, inn (ndT (by rw [vns_len, po.len]; rfl)) ?_⟩
    refine ⟨Nat.zero_le _, fun q hq => ?_⟩
    have st1 : ∀ {a : Addr} {o : HO} {u : HO}, H a = some o → upd H q u a = some o := fun e => by rw [upd_ne (ne_of_none e hq)]; exact e
    refine ⟨_, rfl, pl, rfl, ⟨_, SqL.of (st1 hpl)⟩, for_list (xs := vns places) (fun i σ H' => H' = upd H q (.lst (vns (places.take i))) ∧ ∃ x, σ = [some (.ref v), some (.ref p), some (.ref pl), some (.ref g), some (.ref q), x, none])
      ⟨by rw [List.take_zero]; rfl, none, rfl⟩ (fun i σ H' _ ⟨e, _⟩ => by rw [e]; exact SqL.of (st1 hpl)) ?_ ?_⟩
    · rintro i x σ H' hi ⟨rfl, y, rfl⟩
      obtain ⟨z, rfl, hz⟩ := vns_at hi
      have hzl : z < mem.length := po.lt z (List.mem_of_getElem? hz)
      have hnot : z ∉ places.take i := fun hm => by
        obtain ⟨j, hj, e⟩ := List.mem_iff_getElem.mp hm
        rw [List.length_take] at hj
        have hi' := (List.getElem?_eq_some_iff.mp hz).1
        have e2 : places[j]? = some z := by
          rw [List.getElem_take] at e
          rw [List.getElem?_eq_getElem (by omega), e]
        have := nd_ix po.nd e2 hz
        omega
      refine ⟨_, rfl, _, rfl, v, _, dx, _, _, rfl, st1 hv, T.c_Vault, T.n_Vault_cells, vf_c, C, _, rfl, .inl (SqL.of (st1 hC)), _, _, rfl, ⟨Int.natCast_nonneg _, by rw [vis_len]; omega⟩, true, rfl, ifF ?_⟩
      refine ⟨_, rfl, _, rfl, q, _, rfl, .inl (SqL.of upd_same), rfl, flat_vns _, _, rfl, inn (notin_vns _ hnot) ?_⟩
      refine ⟨_, rfl, .inl ⟨rfl, _, SqL.of upd_same⟩, _, rfl, q, _, _, rfl, rfl, upd_same, ?_, ?_⟩
      · rw [vns_len, List.length_take]
        exact Nat.lt_of_le_of_lt (Nat.min_le_right _ _) (by rw [po.len]; decide)
      · refine ⟨?_, _, rfl⟩
        rw [upd_upd, vns_snoc, List.take_add_one, hz]; rfl
    · rintro σ H' ⟨rfl, y, rfl⟩
      rw [show places.take (vns places).length = places by rw [vns_len]; exact List.take_length]
      refine ⟨_, rfl, _, rfl, p, _, dp, _, _, rfl, st1 hp, T.c_Program, T.n_Program_inputs, pf_i, _, rfl, v, _, dx, _, _, rfl, st1 hv, T.c_Vault, T.n_Vault_modulus, vf_m, g, given, m, by rw [gl], st1 hg, gr, ?_⟩
      have h0 : 0 < places.length := by rw [po.len]; decide
      have hlt : places.getD 0 0 < mem.length := po.lt _ (by rw [List.getD_eq_getElem?_getD, List.getElem?_eq_getElem h0]; exact List.getElem_mem h0)
      refine ⟨_, rfl, _, rfl, _, rfl, g, _, rfl, .inl (SqL.of (st1 hg)), fun g' hg' => ?_⟩
      have ng'q : g' ≠ q := fun e => by rw [e, upd_same] at hg'; cases hg'
      have hg'0 : H g' = none := by rw [upd_ne ng'q] at hg'; exact hg'
      have st2 : ∀ {a : Addr} {o : HO} {u : HO}, H a = some o → upd (upd H q (.lst (vns places))) g' u a = some o := fun e => by rw [upd_ne (ne_of_none e hg'0)]; exact st1 e
      have hq2 : ∀ {u : HO}, upd (upd H q (.lst (vns places))) g' u q = some (.lst (vns places)) := by intro u; rw [upd_ne (Ne.symm ng'q)]; exact upd_same
      refine ⟨_, rfl, v, _, dx, _, _, rfl, st2 hv, T.c_Vault, T.n_Vault_cells, vf_c, _, rfl, _, _, _, _, rfl, rfl, SqL.of hq2, at_vns (i := 0) h0, _, _, _, _, rfl, rfl, SqL.of (st2 hC), at_vis hlt, ?_⟩
      intro x ox nx nox nxx
      refine ⟨x, ox, p, q, g', mem.getD (places.getD 0 0) 0, rfl, upd_same, fun H3 k3 e3 => ⟨rfl, ?_⟩⟩
      have nxq : x ≠ q := fun e => by rw [e, hq2] at nx; cases nx
      have nxg : x ≠ g' := fun e => by rw [e, upd_same] at nx; cases nx
      have nx0 : H x = none := by rw [upd_ne nxg, upd_ne nxq] at nx; exact nx
      have noxq : ox ≠ q := fun e => by rw [e, hq2] at nox; cases nox
      have noxg : ox ≠ g' := fun e => by rw [e, upd_same] at nox; cases nox
      have nox0 : H ox = none := by rw [upd_ne noxg, upd_ne noxq] at nox; exact nox
      have st3 : ∀ {a : Addr} {o : HO}, upd (upd H q (.lst (vns places))) g' (.lst (vis given)) a = some o → H3 a = some o := fun {a o} e => by
        have n1 : a ≠ x := ne_of_none e nx
        refine k3.keep _ _ ?_ fun z => n1 (List.mem_singleton.mp z)
        rw [upd_ne n1, upd_ne (ne_of_none e nox)]
        exact e
      have k4 : Kp [L] H H3 := by
        refine ⟨fun b o e _ => st3 (st2 e), fun b xs e => st3 (st2 e), fun b o e => ⟨o, st3 (st2 e)⟩⟩
      refine ⟨_, rfl, v, _, dx, _, _, rfl, st3 (st2 hv), T.c_Vault, T.n_Vault_loans, vf_l, .inl ⟨rfl, _, SqL.of (st3 (st2 hL))⟩, _, rfl, L, _, _, rfl, rfl, st3 (st2 hL), Nat.lt_of_le_of_lt S.ll (by decide), ?_⟩
      have nvL := S.vL
      refine ⟨_, rfl, v, _, dx, _, _, rfl, by rw [upd_ne nvL]; exact st3 (st2 hv), T.c_Vault, T.n_Vault_loans, vf_l, L, _, rfl, .inl (SqL.of upd_same), _, _, rfl, rfl, ?_⟩
      have nqL : q ≠ L := fun e => by rw [e, hL] at hq; cases hq
      have ngL : g' ≠ L := fun e => by rw [e, hL] at hg'0; cases hg'0
      have nxL : x ≠ L := fun e => by rw [e, hL] at nx0; cases nx0
      have z := k (upd H3 L (.lst (ls ++ [.ref x]))) x q g' (Kp.mut k4 (.inl mem1) (notT_l (st3 (st2 hL)))) nx0 hq hg'0 upd_same ⟨ox, by rw [upd_ne nxL]; exact e3⟩ (by rw [upd_ne nqL]; exact st3 hq2) (by rw [upd_ne ngL]; exact st3 upd_same)
      show Q (V.int (((ls ++ [V.ref x]).length : Int) - 1)) _
      rw [List.length_append, List.length_singleton, show (((ls.length + 1 : Nat) : Int) - 1) = (ls.length : Int) by omega]
      exact z
end
end BF

namespace BF
open PySem PySem.Spec PyProof.Rows L2
theorem at_vis_last {l : List Int} (h : l ≠ []) : atI (vis l) (-1) = some (.int (l.getD (l.length - 1) 0)) := by
  have e := List.dropLast_concat_getLast h
  have e2 : l.getD (l.length - 1) 0 = l.getLast h := by
    rw [List.getD_eq_getElem?_getD, ← List.getLast?_eq_getElem?, List.getLast?_eq_some_getLast h]; rfl
  rw [e2]
  conv => lhs; rw [← e]
  rw [← vis_snoc]
  exact atI_last _ _
theorem take_snoc {α : Type} {l : List α} {i : Nat} {x : α} (h : l[i]? = some x) : l.take (i + 1) = l.take i ++ [x] := by rw [List.take_add_one, h]; rfl
section
variable {P : Program} {w : World} {K : PySem.W.Frag} {mg : Str → Option Value} {base : Heap}
theorem ok_is_node (T : Txt K w mg) (R_is_number : Rdy P w K mg base 2 (He.ga K "is_number") P_is_number sp_is_number) : Rdy P w K mg base 3 (He.ga K "is_node") P_is_node sp_is_node := by
  refine rdy_of T.f_is_node sc_is_node (fun _ _ _ _ _ _ us hl => match us, hl with | [_, _], _ => rfl) (fun vs H Q E h => ?_) (fun cdv A outer s H vs Q E hr h => ?_)
  · obtain ⟨a, nd, k, rfl, _⟩ := h; rfl
  · obtain ⟨a, nd, at_, rfl, hN, ho, k⟩ := h
    obtain ⟨es, en, hD⟩ := T.d_LEN
    have hN' : H a = some (.tup nd.vs) := hN
    refine ⟨_, (pss_cons (ps_if (PW.pt (pw_or (pt_not (pt_val (pe_callB call_isi (by rfl) T.z_isinstance (by decide +kernel) (pa_cons (pv 0) (pa_cons (pe_bltn (v := .ty "tuple") (by rfl) T.z_tuple (by decide +kernel) rfl) pa_nil))))) (pw_or (pt_cmpR op_lt (pe_callB call_len_seq (by rfl) T.z_len PySem.boot_len (pa_cons (pv 0) pa_nil)) pe_int (nomark _)) (pw_or1 (pt_not (pt_val (pe_callB call_isi (by rfl) T.z_isinstance (by decide +kernel) (pa_cons (pe_ix ix_tup (pv 0) pe_int (fun _ _ => rfl)) (pa_cons (pe_bltn (v := .ty "str") (by rfl) T.z_str (by decide +kernel) rfl) pa_nil)))))))))
pss_never
pss_nil)
(pss_cons (ps_if (pt_cmpR op_ne (pe_getK (pe_glob (v := .ref (He.ga K "LENGTHS")) rfl T.g_LENGTHS rfl) (pe_ix ix_tup (pv 0) pe_int (fun _ _ => rfl)) ⟨by rfl, by rfl, by rfl, by rfl⟩) (pe_callB call_len_seq (by rfl) T.z_len PySem.boot_len (pa_cons (pv 0) pa_nil)) (nomark _))
pss_never
pss_nil)
(pss_cons (ps_if (pt_cmpR op_eq (pe_ix ix_tup (pv 0) pe_int (fun _ _ => rfl)) pe_str (nomark _))
(pss_one (ps_ret (pe_callR R_is_number (hr.mono (by decide)) rfl T.g_is_number (pa_cons (pe_ix ix_tup (pv 0) pe_int (fun _ _ => rfl)) (pa_cons (pe_gi rfl T.i_CONSTANT) pa_nil)))))
pss_nil)
(pss_cons (ps_if (pt_cmpR op_eq (pe_ix ix_tup (pv 0) pe_int (fun _ _ => rfl)) pe_str (nomark _))
(pss_one (ps_ret (pe_callR R_is_number (hr.mono (by decide)) rfl T.g_is_number (pa_cons (pe_ix ix_tup (pv 0) pe_int (fun _ _ => rfl)) (pa_cons (pe_gi rfl T.i_INPUTS_sources) pa_nil)))))
pss_nil)
(pss_cons (ps_if (pt_cmpR op_eq (pe_ix ix_tup (pv 0) pe_int (fun _ _ => rfl)) pe_str (nomark _))
(pss_one (ps_ret (pe_and (pe_callR R_is_number (hr.mono (by decide)) rfl T.g_is_number (pa_cons (pe_ix ix_tup (pv 0) pe_int (fun _ _ => rfl)) (pa_cons (pe_gi rfl T.i_CONSTANT) pa_nil))) (pe_one (pe_callR R_is_number (hr.mono (by decide)) rfl T.g_is_number (pa_cons (pe_ix ix_tup (pv 0) pe_int (fun _ _ => rfl)) (pa_cons (pv 1) pa_nil)))))))
pss_nil)
(pss_cons (ps_for PassesOwn.never (by rfl) (pi_tup (pe_slice sl_tupA (pv 0) (po_some pe_int) po_none)) (pg_name (i := 2) sc_is_node.nd rfl (Or.inl rfl))
(pss_one (ps_if (pt_not (pt_val (pe_callR R_is_number (hr.mono (by decide)) rfl T.g_is_number (pa_cons (pv 2) (pa_cons (pv 1) pa_nil)))))
pss_never
pss_nil)))
(pss_one (ps_ret pe_bl)))))))), ?_⟩
    refine ⟨_, rfl, _, _, _, _, true, rfl, .ty _, tyt hN', kit_ty k_tuple_tuple, true, rfl, ifF ?_⟩
    cases nd with
    | const c =>
      obtain ⟨u, hu, ru⟩ := T.d_const
      refine ⟨_, rfl, _, _, rfl, .inr (SqT.of hN), _, _, rfl, rfl, _, rfl, inn (decide_eq_false (by show ¬ ((2 : Nat) : Int) < 2; decide)) ?_⟩
      refine ⟨_, rfl, _, _, _, _, rfl, rfl, SqT.of hN, at0, _, _, _, _, true, rfl, .ty _, tys _, kit_ty k_str_str, true, rfl, ifF ?_⟩
      refine ⟨_, es, en, rfl, hD, _, rfl, _, _, _, _, rfl, rfl, SqT.of hN, at0, _, u, _, rfl, hu, ru, _, rfl, _, _, rfl, .inr (SqT.of hN), rfl, _, rfl, inn (ndT rfl) ?_⟩
      refine ⟨_, rfl, _, _, _, _, rfl, rfl, SqT.of hN, at0, rfl, _, rfl, iy dTrue ?_⟩
      exact ⟨_, rfl, _, _, _, _, rfl, rfl, SqT.of hN, at1, c, _, rfl, ho, k _ Kp.refl⟩
    | inp j =>
      obtain ⟨u, hu, ru⟩ := T.d_input
      refine ⟨_, rfl, _, _, rfl, .inr (SqT.of hN), _, _, rfl, rfl, _, rfl, inn (decide_eq_false (by show ¬ ((2 : Nat) : Int) < 2; decide)) ?_⟩
      refine ⟨_, rfl, _, _, _, _, rfl, rfl, SqT.of hN, at0, _, _, _, _, true, rfl, .ty _, tys _, kit_ty k_str_str, true, rfl, ifF ?_⟩
      refine ⟨_, es, en, rfl, hD, _, rfl, _, _, _, _, rfl, rfl, SqT.of hN, at0, _, u, _, rfl, hu, ru, _, rfl, _, _, rfl, .inr (SqT.of hN), rfl, _, rfl, inn (ndT rfl) ?_⟩
      refine ⟨_, rfl, _, _, _, _, rfl, rfl, SqT.of hN, at0, rfl, _, rfl, inn d1 ?_⟩
      refine ⟨_, rfl, _, _, _, _, rfl, rfl, SqT.of hN, at0, rfl, _, rfl, iy dTrue ?_⟩
      exact ⟨_, rfl, _, _, _, _, rfl, rfl, SqT.of hN, at1, j, _, rfl, ⟨Int.natCast_nonneg _, by have : j < 60 := ho; omega⟩, k _ Kp.refl⟩
    | scaled c i =>
      obtain ⟨u, hu, ru⟩ := T.d_scaled
      refine ⟨_, rfl, _, _, rfl, .inr (SqT.of hN), _, _, rfl, rfl, _, rfl, inn (decide_eq_false (by show ¬ ((3 : Nat) : Int) < 2; decide)) ?_⟩
      refine ⟨_, rfl, _, _, _, _, rfl, rfl, SqT.of hN, at0, _, _, _, _, true, rfl, .ty _, tys _, kit_ty k_str_str, true, rfl, ifF ?_⟩
      refine ⟨_, es, en, rfl, hD, _, rfl, _, _, _, _, rfl, rfl, SqT.of hN, at0, _, u, _, rfl, hu, ru, _, rfl, _, _, rfl, .inr (SqT.of hN), rfl, _, rfl, inn (ndT rfl) ?_⟩
      refine ⟨_, rfl, _, _, _, _, rfl, rfl, SqT.of hN, at0, rfl, _, rfl, inn d4 ?_⟩
      refine ⟨_, rfl, _, _, _, _, rfl, rfl, SqT.of hN, at0, rfl, _, rfl, inn d8 ?_⟩
      refine ⟨_, rfl, _, _, _, _, rfl, rfl, SqT.of hN, at0, rfl, _, rfl, iy dTrue ?_⟩
      refine ⟨_, rfl, _, _, _, _, rfl, rfl, SqT.of hN, at1, c, _, rfl, ho.1, true, rfl, ifT ?_⟩
      exact ⟨_, rfl, _, _, _, _, rfl, rfl, SqT.of hN, at2, _, rfl, i, at_, rfl, ⟨Int.natCast_nonneg _, by have := ho.2; omega⟩, k _ Kp.refl⟩
    | sum i j =>
      obtain ⟨u, hu, ru⟩ := T.d_sum
      refine ⟨_, rfl, _, _, rfl, .inr (SqT.of hN), _, _, rfl, rfl, _, rfl, inn (decide_eq_false (by show ¬ ((3 : Nat) : Int) < 2; decide)) ?_⟩
      refine ⟨_, rfl, _, _, _, _, rfl, rfl, SqT.of hN, at0, _, _, _, _, true, rfl, .ty _, tys _, kit_ty k_str_str, true, rfl, ifF ?_⟩
      refine ⟨_, es, en, rfl, hD, _, rfl, _, _, _, _, rfl, rfl, SqT.of hN, at0, _, u, _, rfl, hu, ru, _, rfl, _, _, rfl, .inr (SqT.of hN), rfl, _, rfl, inn (ndT rfl) ?_⟩
      refine ⟨_, rfl, _, _, _, _, rfl, rfl, SqT.of hN, at0, rfl, _, rfl, inn d2 ?_⟩
      refine ⟨_, rfl, _, _, _, _, rfl, rfl, SqT.of hN, at0, rfl, _, rfl, inn d6 ?_⟩
      refine ⟨_, rfl, _, _, _, _, rfl, rfl, SqT.of hN, at0, rfl, _, rfl, inn d10 ?_⟩
      have hall : ∀ x ∈ ([.int i, .int j] : List V), ∃ z : Nat, x = .int z ∧ z < at_ := by
        intro x hx
        simp only [List.mem_cons, List.not_mem_nil, or_false] at hx
        simp only [Nd.ok] at ho
        rcases hx with rfl | rfl <;> exact ⟨_, rfl, by omega⟩
      refine ⟨_, rfl, _, rfl, a, _, rfl, SqT.of hN, fun hw => absurd hw.1 (show ¬ HT.sIx 3 0 (some 1) = 0 by decide), fun _ p hp => ?_⟩
      refine ⟨p, rfl, ⟨_, SqT.of upd_same⟩, for_tup (xs := [.int i, .int j]) (fun ii σ H' => H' = upd H p (.tup [.int i, .int j]) ∧ ∃ v, σ = [some (.ref a), some (.int at_), v])
        ⟨rfl, none, rfl⟩ (fun i σ H' _ ⟨e, _⟩ => by rw [e]; exact SqT.of upd_same) ?_ ?_⟩
      · rintro q x σ H' hi ⟨rfl, v, rfl⟩
        obtain ⟨z, rfl, hz⟩ := hall x (List.mem_of_getElem? hi)
        exact ⟨_, rfl, _, rfl, z, at_, rfl, ⟨Int.natCast_nonneg _, by omega⟩, true, rfl, ifF ⟨rfl, _, rfl⟩⟩
      · rintro σ H' ⟨rfl, v, rfl⟩
        exact k _ (Kp.refl.new hp)
    | prod i j =>
      obtain ⟨u, hu, ru⟩ := T.d_product
      refine ⟨_, rfl, _, _, rfl, .inr (SqT.of hN), _, _, rfl, rfl, _, rfl, inn (decide_eq_false (by show ¬ ((3 : Nat) : Int) < 2; decide)) ?_⟩
      refine ⟨_, rfl, _, _, _, _, rfl, rfl, SqT.of hN, at0, _, _, _, _, true, rfl, .ty _, tys _, kit_ty k_str_str, true, rfl, ifF ?_⟩
      refine ⟨_, es, en, rfl, hD, _, rfl, _, _, _, _, rfl, rfl, SqT.of hN, at0, _, u, _, rfl, hu, ru, _, rfl, _, _, rfl, .inr (SqT.of hN), rfl, _, rfl, inn (ndT rfl) ?_⟩
      refine ⟨_, rfl, _, _, _, _, rfl, rfl, SqT.of hN, at0, rfl, _, rfl, inn d3 ?_⟩
      refine ⟨_, rfl, _, _, _, _, rfl, rfl, SqT.of hN, at0, rfl, _, rfl, inn d7 ?_⟩
      refine ⟨_, rfl, _, _, _, _, rfl, rfl, SqT.of hN, at0, rfl, _, rfl, inn d11 ?_⟩
      have hall : ∀ x ∈ ([.int i, .int j] : List V), ∃ z : Nat, x = .int z ∧ z < at_ := by
        intro x hx
        simp only [List.mem_cons, List.not_mem_nil, or_false] at hx
        simp only [Nd.ok] at ho
        rcases hx with rfl | rfl <;> exact ⟨_, rfl, by omega⟩
      refine ⟨_, rfl, _, rfl, a, _, rfl, SqT.of hN, fun hw => absurd hw.1 (show ¬ HT.sIx 3 0 (some 1) = 0 by decide), fun _ p hp => ?_⟩
      refine ⟨p, rfl, ⟨_, SqT.of upd_same⟩, for_tup (xs := [.int i, .int j]) (fun ii σ H' => H' = upd H p (.tup [.int i, .int j]) ∧ ∃ v, σ = [some (.ref a), some (.int at_), v])
        ⟨rfl, none, rfl⟩ (fun i σ H' _ ⟨e, _⟩ => by rw [e]; exact SqT.of upd_same) ?_ ?_⟩
      · rintro q x σ H' hi ⟨rfl, v, rfl⟩
        obtain ⟨z, rfl, hz⟩ := hall x (List.mem_of_getElem? hi)
        exact ⟨_, rfl, _, rfl, z, at_, rfl, ⟨Int.natCast_nonneg _, by omega⟩, true, rfl, ifF ⟨rfl, _, rfl⟩⟩
      · rintro σ H' ⟨rfl, v, rfl⟩
        exact k _ (Kp.refl.new hp)
    | choose i j l =>
      obtain ⟨u, hu, ru⟩ := T.d_choose
      refine ⟨_, rfl, _, _, rfl, .inr (SqT.of hN), _, _, rfl, rfl, _, rfl, inn (decide_eq_false (by show ¬ ((4 : Nat) : Int) < 2; decide)) ?_⟩
      refine ⟨_, rfl, _, _, _, _, rfl, rfl, SqT.of hN, at0, _, _, _, _, true, rfl, .ty _, tys _, kit_ty k_str_str, true, rfl, ifF ?_⟩
      refine ⟨_, es, en, rfl, hD, _, rfl, _, _, _, _, rfl, rfl, SqT.of hN, at0, _, u, _, rfl, hu, ru, _, rfl, _, _, rfl, .inr (SqT.of hN), rfl, _, rfl, inn (ndT rfl) ?_⟩
      refine ⟨_, rfl, _, _, _, _, rfl, rfl, SqT.of hN, at0, rfl, _, rfl, inn d5 ?_⟩
      refine ⟨_, rfl, _, _, _, _, rfl, rfl, SqT.of hN, at0, rfl, _, rfl, inn d9 ?_⟩
      refine ⟨_, rfl, _, _, _, _, rfl, rfl, SqT.of hN, at0, rfl, _, rfl, inn d12 ?_⟩
      have hall : ∀ x ∈ ([.int i, .int j, .int l] : List V), ∃ z : Nat, x = .int z ∧ z < at_ := by
        intro x hx
        simp only [List.mem_cons, List.not_mem_nil, or_false] at hx
        simp only [Nd.ok] at ho
        rcases hx with rfl | rfl | rfl <;> exact ⟨_, rfl, by omega⟩
      refine ⟨_, rfl, _, rfl, a, _, rfl, SqT.of hN, fun hw => absurd hw.1 (show ¬ HT.sIx 4 0 (some 1) = 0 by decide), fun _ p hp => ?_⟩
      refine ⟨p, rfl, ⟨_, SqT.of upd_same⟩, for_tup (xs := [.int i, .int j, .int l]) (fun ii σ H' => H' = upd H p (.tup [.int i, .int j, .int l]) ∧ ∃ v, σ = [some (.ref a), some (.int at_), v])
        ⟨rfl, none, rfl⟩ (fun i σ H' _ ⟨e, _⟩ => by rw [e]; exact SqT.of upd_same) ?_ ?_⟩
      · rintro q x σ H' hi ⟨rfl, v, rfl⟩
        obtain ⟨z, rfl, hz⟩ := hall x (List.mem_of_getElem? hi)
        exact ⟨_, rfl, _, rfl, z, at_, rfl, ⟨Int.natCast_nonneg _, by omega⟩, true, rfl, ifF ⟨rfl, _, rfl⟩⟩
      · rintro σ H' ⟨rfl, v, rfl⟩
        exact k _ (Kp.refl.new hp)
theorem ok_check_source (T : Txt K w mg) (R_is_node : Rdy P w K mg base 3 (He.ga K "is_node") P_is_node sp_is_node) : Rdy P w K mg base 4 (He.ga K "check_source") P_check_source sp_check_source := by
  refine rdy_of T.f_check_source sc_check_source (fun _ _ _ _ _ _ us hl => match us, hl with | [_], _ => rfl) (fun vs H Q E h => ?_) (fun cdv A outer s H vs Q E hr h => ?_)
  · obtain ⟨a, ns, rfl, _⟩ := h; rfl
  · obtain ⟨a, ns, rfl, ⟨xs, hx, rr⟩, so, k⟩ := h
    have h1 := so.ne
    have h2 := so.le
    refine ⟨_, (pss_cons (ps_if (PW.pt (pw_or (pt_not (pt_val (pe_callB call_isi (by rfl) T.z_isinstance (by decide +kernel) (pa_cons (pv 0) (pa_cons (pe_bltn (v := .ty "tuple") (by rfl) T.z_tuple (by decide +kernel) rfl) pa_nil))))) (pw_or1 (pt_not (pt_chain op_le op_le pe_int (pe_callB call_len_seq (by rfl) T.z_len PySem.boot_len (pa_cons (pv 0) pa_nil)) (pe_gi rfl T.i_NODES))))))
pss_never
pss_nil)
(pss_one (ps_for PassesOwn.never (by rfl) (pi_enumT (by rfl) T.z_enumerate (pa_cons (pv 0) pa_nil)) (pg_tup (by rfl) (pgs_cons (pg_name (i := 1) sc_check_source.nd rfl (Or.inl rfl)) (pgs_cons (pg_name (i := 2) sc_check_source.nd rfl (Or.inl rfl)) pgs_nil)))
(pss_one (ps_if (pt_not (pt_val (pe_callR R_is_node (hr.mono (by decide)) rfl T.g_is_node (pa_cons (pv 2) (pa_cons (pv 1) pa_nil)))))
pss_never
pss_nil))))), ?_⟩
    refine ⟨_, rfl, _, _, _, _, true, rfl, .ty _, tyt hx, kit_ty k_tuple_tuple, true, rfl, ifF ?_⟩
    refine ⟨_, rfl, _, _, rfl, .inr (SqT.of hx), _, _, rfl, rfl, _, rfl, iy (decide_eq_true (by rw [rr.1]; omega)) ⟨_, _, rfl, rfl, _, rfl, inn (nd' (by rw [rr.1]; omega)) ?_⟩⟩
    refine ⟨_, rfl, a, xs, rfl, SqT.of hx, for_it walk_enumT (fun i σ H' => Kp [] H H' ∧ ∃ u v, σ = [some (.ref a), u, v])
      ⟨Kp.refl, none, none, rfl⟩ (fun i σ H' _ ⟨q, _⟩ => SqT.of (q.tup _ _ hx)) ?_ ?_⟩
    · rintro i x σ H1 H' hi ⟨q1, u, v, rfl⟩ ⟨Tt, y, z, rfl, hT, rfl, e1, e2⟩
      obtain ⟨t, nd, rfl, h3, h4⟩ := rr.at_ e2
      cases e1
      have q2 : Kp [] H (upd H1 Tt (.tup [.int (i : Nat), .ref t])) := q1.new hT
      refine ⟨Tt, _, rfl, SqT.of upd_same, rfl, _, _, rfl, _, _, rfl, rfl, ?_⟩
      exact ⟨_, rfl, _, rfl, t, nd, i, rfl, h4.kp q2, so.ok i nd h3, fun H2 k2 => ⟨true, rfl, ifF ⟨q2.trans k2, _, _, rfl⟩⟩⟩
    · rintro σ H' ⟨q1, u, v, rfl⟩
      exact k _ q1
theorem ok_needs (T : Txt K w mg) (R_check_source : Rdy P w K mg base 4 (He.ga K "check_source") P_check_source sp_check_source) : Rdy P w K mg base 5 (He.ga K "needs") P_needs sp_needs := by
  refine rdy_of T.f_needs sc_needs (fun _ _ _ _ _ _ us hl => match us, hl with | [_], _ => rfl) (fun vs H Q E h => ?_) (fun cdv A outer s H vs Q E hr h => ?_)
  · obtain ⟨a, ns, rfl, _⟩ := h; rfl
  · obtain ⟨a, ns, rfl, hs, so, k⟩ := h
    refine ⟨_, (pss_cons (ps_expr (pe_callR R_check_source (hr.mono (by decide)) rfl T.g_check_source (pa_cons (pv 0) pa_nil)))
(pss_cons (ps_set (i := 1) sc_needs.nd rfl (Or.inl rfl) pe_int)
(pss_cons (ps_for PassesOwn.never (by rfl) (pi_tup (pv 0)) (pg_name (i := 2) sc_needs.nd rfl (Or.inl rfl))
(pss_one (ps_if (pt_cmpR op_eq (pe_ix ix_tup (pv 2) pe_int (fun _ _ => rfl)) pe_str (nomark _))
(pss_one (ps_set (i := 1) sc_needs.nd rfl (Or.inl rfl) (pe_callB (call_max2 rfl) (by rfl) T.z_max (by decide +kernel) (pa_cons (pv 1) (pa_cons (pe_op op_add (pe_ix ix_tup (pv 2) pe_int (fun _ _ => rfl)) pe_int) pa_nil)))))
pss_nil)))
(pss_one (ps_ret (pv 1)))))), ?_⟩
    refine ⟨_, rfl, a, ns, rfl, hs, so, fun H1 k1 => ?_⟩
    obtain ⟨xs, hx, rr⟩ := hs.kp k1
    refine ⟨_, rfl, a, rfl, ⟨_, SqT.of hx⟩, for_tup (xs := xs) (fun i σ H' => H' = H1 ∧ ∃ v, σ = [some (.ref a), some (.int (needs (ns.take i) : Nat)), v])
      ⟨rfl, none, by rw [List.take_zero]; rfl⟩ (fun i σ H' _ ⟨e, _⟩ => by rw [e]; exact SqT.of hx) ?_ ?_⟩
    · rintro i x σ H' hi ⟨rfl, v, rfl⟩
      obtain ⟨t, nd, rfl, h3, h4⟩ := rr.at_ hi
      have e2 : needs (ns.take (i + 1)) = max (needs (ns.take i)) nd.need := by rw [take_snoc h3, needs_snoc]
      have fin : ∀ (e : nd.need = 0), (H' = H' ∧ ∃ v, [some (.ref a), some (.int (needs (ns.take i) : Nat)), some (.ref t)] = [some (V.ref a), some (.int (needs (ns.take (i + 1)) : Nat)), v]) := fun e => by
        rw [e2, e, Nat.max_eq_left (Nat.zero_le _)]
        exact ⟨rfl, _, rfl⟩
      cases nd with
      | inp j =>
        refine ⟨_, rfl, _, _, _, _, rfl, rfl, SqT.of h4, at0, rfl, _, rfl, iy dTrue ?_⟩
        refine ⟨_, rfl, _, rfl, _, _, _, _, rfl, rfl, SqT.of h4, at1, _, _, rfl, rfl, _, _, rfl, ?_⟩
        refine ⟨rfl, some (.ref t), ?_⟩
        have e3 : (if ((j : Int) + 1) > ((needs (ns.take i) : Nat) : Int) then ((j : Int) + 1) else ((needs (ns.take i) : Nat) : Int)) = ((needs (ns.take (i + 1)) : Nat) : Int) := by
          rw [e2]
          simp only [Nd.need]
          split <;> omega
        show [_, some (V.int (if ((j : Int) + 1) > ((needs (ns.take i) : Nat) : Int) then ((j : Int) + 1) else ((needs (ns.take i) : Nat) : Int))), _] = _
        rw [e3]
      | const c => exact ⟨_, rfl, _, _, _, _, rfl, rfl, SqT.of h4, at0, rfl, _, rfl, inn d20 (fin rfl)⟩
      | sum p q => exact ⟨_, rfl, _, _, _, _, rfl, rfl, SqT.of h4, at0, rfl, _, rfl, inn d6 (fin rfl)⟩
      | prod p q => exact ⟨_, rfl, _, _, _, _, rfl, rfl, SqT.of h4, at0, rfl, _, rfl, inn d7 (fin rfl)⟩
      | scaled p q => exact ⟨_, rfl, _, _, _, _, rfl, rfl, SqT.of h4, at0, rfl, _, rfl, inn d8 (fin rfl)⟩
      | choose p q r => exact ⟨_, rfl, _, _, _, _, rfl, rfl, SqT.of h4, at0, rfl, _, rfl, inn d9 (fin rfl)⟩
    · rintro σ H' ⟨rfl, v, rfl⟩
      rw [show ns.take xs.length = ns by rw [rr.1]; exact List.take_length]
      exact ⟨_, rfl, k _ k1⟩
theorem ok_cost (T : Txt K w mg) (R_check_source : Rdy P w K mg base 4 (He.ga K "check_source") P_check_source sp_check_source) : Rdy P w K mg base 5 (He.ga K "cost") P_cost sp_cost := by
  refine rdy_of T.f_cost sc_cost (fun _ _ _ _ _ _ us hl => match us, hl with | [_], _ => rfl) (fun vs H Q E h => ?_) (fun cdv A outer s H vs Q E hr h => ?_)
  · obtain ⟨a, ns, rfl, _⟩ := h; rfl
  · obtain ⟨a, ns, rfl, hs, so, _, k⟩ := h
    refine ⟨_, (pss_cons (ps_expr (pe_callR R_check_source (hr.mono (by decide)) rfl T.g_check_source (pa_cons (pv 0) pa_nil)))
(pss_cons (ps_set (i := 1) sc_cost.nd rfl (Or.inl rfl) (pe_lst pa_nil))
(pss_cons (ps_for PassesOwn.never (by rfl) (pi_tup (pv 0)) (pg_name (i := 2) sc_cost.nd rfl (Or.inl rfl))
(pss_one (ps_if (PW.pt (pw_or (pt_cmpR op_eq (pe_ix ix_tup (pv 2) pe_int (fun _ _ => rfl)) pe_str (nomark _)) (pw_or1 (pt_cmpR op_eq (pe_ix ix_tup (pv 2) pe_int (fun _ _ => rfl)) pe_str (nomark _)))))
(pss_one (ps_expr (pe_bm PySem.F.plainAttrs_list PySem.F.slot_list_append PySem.F.type_list_append mt_append (pv 1) (pa_cons pe_int pa_nil))))
(pss_one (ps_if (pt_cmpR op_eq (pe_ix ix_tup (pv 2) pe_int (fun _ _ => rfl)) pe_str (nomark _))
(pss_one (ps_expr (pe_bm PySem.F.plainAttrs_list PySem.F.slot_list_append PySem.F.type_list_append mt_append (pv 1) (pa_cons (pe_ix ix_list (pv 1) (pe_ix ix_tup (pv 2) pe_int (fun _ _ => rfl)) (fun _ _ => rfl)) pa_nil))))
(pss_one (ps_if (pt_cmpR op_eq (pe_ix ix_tup (pv 2) pe_int (fun _ _ => rfl)) pe_str (nomark _))
(pss_one (ps_expr (pe_bm PySem.F.plainAttrs_list PySem.F.slot_list_append PySem.F.type_list_append mt_append (pv 1) (pa_cons (pe_op op_add (pe_ix ix_list (pv 1) (pe_ix ix_tup (pv 2) pe_int (fun _ _ => rfl)) (fun _ _ => rfl)) (pe_ix ix_list (pv 1) (pe_ix ix_tup (pv 2) pe_int (fun _ _ => rfl)) (fun _ _ => rfl))) pa_nil))))
(pss_one (ps_if (pt_cmpR op_eq (pe_ix ix_tup (pv 2) pe_int (fun _ _ => rfl)) pe_str (nomark _))
(pss_one (ps_expr (pe_bm PySem.F.plainAttrs_list PySem.F.slot_list_append PySem.F.type_list_append mt_append (pv 1) (pa_cons (pe_op op_mul pe_int (pe_op op_add (pe_ix ix_list (pv 1) (pe_ix ix_tup (pv 2) pe_int (fun _ _ => rfl)) (fun _ _ => rfl)) (pe_ix ix_list (pv 1) (pe_ix ix_tup (pv 2) pe_int (fun _ _ => rfl)) (fun _ _ => rfl)))) pa_nil))))
(pss_cons (ps_set (i := 3) sc_cost.nd rfl (Or.inl rfl) (pe_ix ix_list (pv 1) (pe_ix ix_tup (pv 2) pe_int (fun _ _ => rfl)) (fun _ _ => rfl)))
(pss_one (ps_expr (pe_bm PySem.F.plainAttrs_list PySem.F.slot_list_append PySem.F.type_list_append mt_append (pv 1) (pa_cons (pe_op op_add (pv 3) (pe_op op_mul pe_int (pe_op op_add (pe_op op_add (pe_ix ix_list (pv 1) (pe_ix ix_tup (pv 2) pe_int (fun _ _ => rfl)) (fun _ _ => rfl)) (pe_ix ix_list (pv 1) (pe_ix ix_tup (pv 2) pe_int (fun _ _ => rfl)) (fun _ _ => rfl))) (pv 3)))) pa_nil))))))))))))))
(pss_one (ps_ret (pe_ix ix_list (pv 1) (pe_un un_neg pe_int) (fun _ _ => rfl))))))), ?_⟩
    refine ⟨_, rfl, a, ns, rfl, hs, so, fun H1 k1 => ?_⟩
    obtain ⟨xs, hx, rr⟩ := hs.kp k1
    refine ⟨Nat.zero_le _, fun c hc => ?_⟩
    have k2 : Kp [] H1 (upd H1 c (.lst [])) := Kp.refl.new hc
    refine ⟨_, rfl, a, rfl, ⟨_, SqT.of (k2.tup _ _ hx)⟩, for_tup (xs := xs) (fun i σ H' => Kp [] H1 H' ∧ H' c = some (.lst (vis (costs (ns.take i)))) ∧ ∃ u v, σ = [some (.ref a), some (.ref c), u, v])
      ⟨k2, by rw [List.take_zero]; exact upd_same, none, none, rfl⟩ (fun i σ H' _ ⟨e, _⟩ => SqT.of (e.tup _ _ hx)) ?_ ?_⟩
    · rintro i x σ H' hi ⟨q1, q2, u, v, rfl⟩
      obtain ⟨t, nd, rfl, h3, h4⟩ := rr.at_ hi
      have h4' := h4.kp q1
      have hil := (List.getElem?_eq_some_iff.mp h3).1
      have ho := so.ok i nd h3
      have len : (costs (ns.take i)).length = i := by unfold costs; rw [scan_len, List.length_take]; omega
      have e2 : costs (ns.take (i + 1)) = costs (ns.take i) ++ [nd.cst (costs (ns.take i))] := by rw [take_snoc h3]; exact scan_snoc _ _ _
      have lt : ∀ j, j < i → j < (costs (ns.take i)).length := fun j hj => by rw [len]; exact hj
      have lln : (vis (costs (ns.take i))).length < sizeLine := by rw [vis_len, len]; exact Nat.lt_of_lt_of_le (Nat.lt_of_lt_of_le hil so.le) (by decide)
      have fin : ∀ (z : Int) (v : Option V), z = nd.cst (costs (ns.take i)) → (Kp [] H1 (upd H' c (.lst (vis (costs (ns.take i)) ++ [.int z]))) ∧ upd H' c (.lst (vis (costs (ns.take i)) ++ [.int z])) c = some (.lst (vis (costs (ns.take (i + 1))))) ∧ ∃ u w, [some (V.ref a), some (.ref c), some (.ref t), v] = [some (.ref a), some (.ref c), u, w]) := fun z v e =>
        ⟨Kp.mut q1 (.inr hc) (notT_l q2), by rw [e, e2, vis_snoc]; exact upd_same, _, _, rfl⟩
      cases nd with
      | const z =>
        refine ⟨_, rfl, _, _, _, _, rfl, rfl, SqT.of h4', at0, rfl, _, rfl, iy dTrue (ifT ?_)⟩
        exact ⟨_, rfl, .inl ⟨rfl, _, SqL.of q2⟩, c, _, _, rfl, rfl, q2, lln, fin 1 _ rfl⟩
      | inp j =>
        refine ⟨_, rfl, _, _, _, _, rfl, rfl, SqT.of h4', at0, rfl, _, rfl, inn d1 ⟨_, rfl, _, _, _, _, rfl, rfl, SqT.of h4', at0, rfl, _, rfl, iy dTrue ?_⟩⟩
        exact ⟨_, rfl, .inl ⟨rfl, _, SqL.of q2⟩, c, _, _, rfl, rfl, q2, lln, fin 1 _ rfl⟩
      | scaled z j =>
        refine ⟨_, rfl, _, _, _, _, rfl, rfl, SqT.of h4', at0, rfl, _, rfl, inn d4 ⟨_, rfl, _, _, _, _, rfl, rfl, SqT.of h4', at0, rfl, _, rfl, inn d8 ?_⟩⟩
        refine ⟨_, rfl, _, _, _, _, rfl, rfl, SqT.of h4', at0, rfl, _, rfl, iy dTrue ?_⟩
        exact ⟨_, rfl, .inl ⟨rfl, _, SqL.of q2⟩, _, rfl, _, rfl, _, _, _, _, rfl, rfl, SqT.of h4', at2, _, _, _, _, rfl, rfl, SqL.of q2, at_vis (lt j ho.2), c, _, _, rfl, rfl, q2, lln, fin _ _ rfl⟩
      | sum p q =>
        refine ⟨_, rfl, _, _, _, _, rfl, rfl, SqT.of h4', at0, rfl, _, rfl, inn d2 ⟨_, rfl, _, _, _, _, rfl, rfl, SqT.of h4', at0, rfl, _, rfl, inn d6 ?_⟩⟩
        refine ⟨_, rfl, _, _, _, _, rfl, rfl, SqT.of h4', at0, rfl, _, rfl, inn d10 ?_⟩
        refine ⟨_, rfl, _, _, _, _, rfl, rfl, SqT.of h4', at0, rfl, _, rfl, iy dTrue ?_⟩
        exact ⟨_, rfl, .inl ⟨rfl, _, SqL.of q2⟩, _, rfl, _, rfl, _, _, _, _, rfl, rfl, SqT.of h4', at1, _, _, _, _, rfl, rfl, SqL.of q2, at_vis (lt p ho.1), _, rfl, _, rfl, _, _, _, _, rfl, rfl, SqT.of h4', at2, _, _, _, _, rfl, rfl, SqL.of q2, at_vis (lt q ho.2), _, _, rfl, rfl, c, _, _, rfl, rfl, q2, lln, fin _ _ rfl⟩
      | prod p q =>
        refine ⟨_, rfl, _, _, _, _, rfl, rfl, SqT.of h4', at0, rfl, _, rfl, inn d3 ⟨_, rfl, _, _, _, _, rfl, rfl, SqT.of h4', at0, rfl, _, rfl, inn d7 ?_⟩⟩
        refine ⟨_, rfl, _, _, _, _, rfl, rfl, SqT.of h4', at0, rfl, _, rfl, inn d11 ?_⟩
        refine ⟨_, rfl, _, _, _, _, rfl, rfl, SqT.of h4', at0, rfl, _, rfl, inn d13 ?_⟩
        refine ⟨_, rfl, _, _, _, _, rfl, rfl, SqT.of h4', at0, rfl, _, rfl, iy dTrue ?_⟩
        exact ⟨_, rfl, .inl ⟨rfl, _, SqL.of q2⟩, _, rfl, _, rfl, _, _, _, _, rfl, rfl, SqT.of h4', at1, _, _, _, _, rfl, rfl, SqL.of q2, at_vis (lt p ho.1), _, rfl, _, rfl, _, _, _, _, rfl, rfl, SqT.of h4', at2, _, _, _, _, rfl, rfl, SqL.of q2, at_vis (lt q ho.2), _, _, rfl, rfl, _, _, rfl, rfl, .inl ⟨by decide, by decide⟩, c, _, _, rfl, rfl, q2, lln, fin _ _ rfl⟩
      | choose p q r =>
        refine ⟨_, rfl, _, _, _, _, rfl, rfl, SqT.of h4', at0, rfl, _, rfl, inn d5 ⟨_, rfl, _, _, _, _, rfl, rfl, SqT.of h4', at0, rfl, _, rfl, inn d9 ?_⟩⟩
        refine ⟨_, rfl, _, _, _, _, rfl, rfl, SqT.of h4', at0, rfl, _, rfl, inn d12 ?_⟩
        refine ⟨_, rfl, _, _, _, _, rfl, rfl, SqT.of h4', at0, rfl, _, rfl, inn d14 ?_⟩
        refine ⟨_, rfl, _, _, _, _, rfl, rfl, SqT.of h4', at0, rfl, _, rfl, inn d15 ?_⟩
        refine ⟨_, rfl, _, rfl, _, _, _, _, rfl, rfl, SqT.of h4', at3, _, _, _, _, rfl, rfl, SqL.of q2, at_vis (lt r ho.2.2), ?_⟩
        exact ⟨_, rfl, .inl ⟨rfl, _, SqL.of q2⟩, _, rfl, _, rfl, _, rfl, _, _, _, _, rfl, rfl, SqT.of h4', at1, _, _, _, _, rfl, rfl, SqL.of q2, at_vis (lt p ho.1), _, rfl, _, rfl, _, _, _, _, rfl, rfl, SqT.of h4', at2, _, _, _, _, rfl, rfl, SqL.of q2, at_vis (lt q ho.2.1), _, _, rfl, rfl, _, rfl, _, _, rfl, rfl, _, _, rfl, rfl, .inl ⟨by decide, by decide⟩, _, _, rfl, rfl, c, _, _, rfl, rfl, q2, lln, fin _ _ rfl⟩
    · rintro σ H' ⟨q1, q2, u, v, rfl⟩
      rw [show ns.take xs.length = ns by rw [rr.1]; exact List.take_length] at q2
      have ll : (costs ns).length = ns.length := scan_len _ _
      have hne : costs ns ≠ [] := fun e => by
        rw [e] at ll
        have := so.ne
        rw [← ll] at this
        cases this
      refine ⟨_, rfl, _, rfl, _, _, _, _, rfl, rfl, SqL.of q2, at_vis_last hne, ?_⟩
      have z := k _ (k1.trans q1)
      unfold cst at z
      rw [ll]
      exact z
end
end BF

namespace BF
open PySem PySem.Spec PyProof.Rows L2
theorem cmulR {i j m : Int} (h : 0 ≤ j ∧ j < m) (hm : m ≤ 1000000000) : CMul i j := .inr (small64' h hm)
theorem cmulL {i j m : Int} (h : 0 ≤ i ∧ i < m) (hm : m ≤ 1000000000) : CMul i j := .inl (small64' h hm)
theorem cmulS {i j : Int} (h : i = 1 ∨ i = -1) : CMul i j := .inl (by rcases h with rfl | rfl <;> exact ⟨by decide, by decide⟩)
section
variable {P : Program} {w : World} {K : PySem.W.Frag} {mg : Str → Option Value} {base : Heap}
theorem ok_leaf_step (T : Txt K w mg) : Rdy P w K mg base 1 (He.ga K "leaf_step") P_leaf_step sp_leaf_step := by
  refine rdy_of T.f_leaf_step sc_leaf_step (fun _ _ _ _ _ _ us hl => match us, hl with | [_, _, _], _ => rfl) (fun vs H Q E h => ?_) (fun cdv A outer s H vs Q E hr h => ?_)
  · obtain ⟨a, t, nd, k, m, j, rfl, _⟩ := h; rfl
  · obtain ⟨a, t, nd, tk, m, j, rfl, hN, ⟨f, ht, hf⟩, hl, ho, ⟨m2, m9⟩, hco, k⟩ := h
    have hpos : 0 < m := by omega
    refine ⟨_, (pss_cons (ps_asg (pv 1) (pg_tup (by rfl) (pgs_cons (pg_name (i := 3) sc_leaf_step.nd rfl (Or.inl rfl)) (pgs_cons (pg_name (i := 4) sc_leaf_step.nd rfl (Or.inl rfl)) (pgs_cons (pg_name (i := 5) sc_leaf_step.nd rfl (Or.inl rfl)) (pgs_cons (pg_name (i := 6) sc_leaf_step.nd rfl (Or.inl rfl)) (pgs_cons (pg_name (i := 3) sc_leaf_step.nd rfl (Or.inl rfl)) pgs_nil)))))))
(pss_cons (ps_if (pt_cmpR op_eq (pe_ix ix_tup (pv 0) pe_int (fun _ _ => rfl)) pe_str (nomark _))
(pss_one (ps_ret (pe_tup (pa_cons pe_str (pa_cons (pv 4) (pa_cons (pe_op op_mod (pe_op op_mul (pv 5) (pe_ix ix_tup (pv 0) pe_int (fun _ _ => rfl))) (pv 2)) (pa_cons (pv 6) pa_nil)))))))
pss_nil)
(pss_one (ps_ret (pe_tup (pa_cons pe_str (pa_cons (pv 4) (pa_cons (pv 5) (pa_cons (pe_op op_catA (pv 6) (pe_tup (pa_cons (pe_tup (pa_cons pe_str (pa_cons (pe_ix ix_tup (pv 0) pe_int (fun _ _ => rfl)) pa_nil))) pa_nil))) pa_nil))))))))), ?_⟩
    refine ⟨_, rfl, t, _, rfl, SqT.of ht, rfl, _, _, rfl, _, _, rfl, _, _, rfl, _, _, rfl, _, _, rfl, rfl, ?_⟩
    cases nd with
    | const c =>
      refine ⟨_, rfl, _, _, _, _, rfl, rfl, SqT.of hN, at0, rfl, _, rfl, iy dTrue ?_⟩
      refine ⟨_, rfl, _, rfl, _, rfl, _, _, _, _, rfl, rfl, SqT.of hN, at1, _, _, rfl, rfl, cmulL hco m9, _, rfl, _, _, rfl, rfl, hpos, _, rfl, (by show 4 ≤ sizeLine; decide), fun p hp => ?_⟩
      have kp : Kp [] H (upd H p (.tup [.str "add", .int tk.tgt, .int (tk.co * c % m), .ref f])) := Kp.refl.new hp
      exact k _ p kp ⟨f, upd_same, hf.kp kp⟩
    | inp i =>
      have fin : ∀ (H' : Hp) (F : Addr), Kp [] H H' → FacsAt H' F (tk.facs ++ [.inp i]) → (4 ≤ sizeLine ∧ ∀ p, H' p = none → Q (.ref p) (upd H' p (.tup [.str "add", .int tk.tgt, .int tk.co, .ref F]))) := fun H' F k1 hF => by
        refine ⟨by decide, fun p hp => ?_⟩
        have kp : Kp [] H' (upd H' p (.tup [.str "add", .int tk.tgt, .int tk.co, .ref F])) := Kp.refl.new hp
        exact k _ p (k1.trans kp) ⟨F, upd_same, hF.kp kp⟩
      refine ⟨_, rfl, _, _, _, _, rfl, rfl, SqT.of hN, at0, rfl, _, rfl, inn d1 ?_⟩
      refine ⟨_, rfl, _, rfl, _, rfl, _, rfl, _, _, _, _, rfl, rfl, SqT.of hN, at1, (by show 2 ≤ sizeLine; decide), fun p1 h1 => ⟨by show 1 ≤ sizeLine; decide, fun p2 h2 => ?_⟩⟩
      have k1 : Kp [] H (upd (upd H p1 (.tup [.str "input", .int i])) p2 (.tup [.ref p1])) := (Kp.refl.new h1).new h2
      have n12 : p1 ≠ p2 := ne_of_none upd_same h2
      have hp1 : FacAt (upd (upd H p1 (.tup [.str "input", .int i])) p2 (.tup [.ref p1])) p1 (.inp i) := by
        show upd (upd H p1 _) p2 _ p1 = _
        rw [upd_ne n12]; exact upd_same
      obtain ⟨xs, hx, rr⟩ := hf.kp k1
      have hxl : xs.length ≤ 1 := by
        rw [rr.1]
        unfold Task.facs
        cases tk.fac <;> simp
      refine ⟨f, p2, xs, _, rfl, rfl, SqT.of hx, SqT.of upd_same, Nat.le_trans (Nat.add_le_add_right hxl 1) (by decide), fun e => ?_, fun _ e => (by cases e), fun _ _ p3 h3 => ?_⟩
      · subst e
        refine fin _ p2 k1 ⟨[.ref p1], upd_same, ?_⟩
        have e0 : tk.facs = [] := List.length_eq_zero_iff.mp rr.1.symm
        rw [e0]
        exact Refs.one hp1
      · have k3 : Kp [] H (upd (upd (upd H p1 (.tup [.str "input", .int i])) p2 (.tup [.ref p1])) p3 (.tup (xs ++ [.ref p1]))) := k1.new h3
        refine fin _ p3 k3 ⟨_, upd_same, Refs.snoc (rr.imp fun t f z => z.kp (Kp.refl.new (S := []) h3)) (hp1.kp (Kp.refl.new (S := []) h3))⟩
    | _ => cases hl
theorem ok_product_tasks (T : Txt K w mg) : Rdy P w K mg base 1 (He.ga K "product_tasks") P_product_tasks sp_product_tasks := by
  refine rdy_of T.f_product_tasks sc_product_tasks (fun _ _ _ _ _ _ us hl => match us, hl with | [_, _, _, _], _ => rfl) (fun vs H Q E h => ?_) (fun cdv A outer s H vs Q E hr h => ?_)
  · obtain ⟨fa, sa, t, tk, m, first, second, z, rfl, _⟩ := h; rfl
  · obtain ⟨fa, sa, t, tk, m, first, second, z, rfl, ⟨fxs, hfl, frr⟩, ⟨sxs, hsl, srr⟩, ⟨f, ht, hF⟩, tok, ⟨m2, m9⟩, l1, l2, k⟩ := h
    have hpos : 0 < m := by omega
    have hco : 0 ≤ tk.co ∧ tk.co < m := ⟨tok.c0, tok.c1⟩
    obtain ⟨xs, hx, rr⟩ := id hF
    refine ⟨_, (pss_cons (ps_asg (pv 2) (pg_tup (by rfl) (pgs_cons (pg_name (i := 4) sc_product_tasks.nd rfl (Or.inl rfl)) (pgs_cons (pg_name (i := 5) sc_product_tasks.nd rfl (Or.inl rfl)) (pgs_cons (pg_name (i := 6) sc_product_tasks.nd rfl (Or.inl rfl)) (pgs_cons (pg_name (i := 7) sc_product_tasks.nd rfl (Or.inl rfl)) (pgs_cons (pg_name (i := 8) sc_product_tasks.nd rfl (Or.inl rfl)) pgs_nil)))))))
(pss_cons (ps_set (i := 9) sc_product_tasks.nd rfl (Or.inl rfl) (pe_ifExp (pt_truth (pv 7) (by intro _; rfl)) (pe_ix ix_tup (pe_ix ix_tup (pv 7) pe_int (fun _ _ => rfl)) pe_int (fun _ _ => rfl)) (pe_op op_sub (pe_op op_sub pe_int (pv 5)) (pv 8))))
(pss_cons (ps_set (i := 10) sc_product_tasks.nd rfl (Or.inl rfl) (pe_tup (pa_cons (pe_tup (pa_cons pe_str (pa_cons (pv 8) pa_nil))) pa_nil)))
(pss_cons (ps_set (i := 11) sc_product_tasks.nd rfl (Or.inl rfl) (pe_lst pa_nil))
(pss_cons (ps_for PassesOwn.never (by rfl) (pi_range1 (by rfl) T.z_range (pa_cons pe_int pa_nil)) (pg_name (i := 12) sc_product_tasks.nd rfl (Or.inl rfl))
(pss_cons (ps_set (i := 13) sc_product_tasks.nd rfl (Or.inl rfl) (pe_ifExp (pt_cmpR op_eq (pv 12) pe_int (nomark _)) (pe_un un_neg pe_int) pe_int))
(pss_cons (ps_for PassesOwn.never (by rfl) (pi_list (pv 0)) (pg_tup (by rfl) (pgs_cons (pg_name (i := 14) sc_product_tasks.nd rfl (Or.inl rfl)) (pgs_cons (pg_name (i := 15) sc_product_tasks.nd rfl (Or.inl rfl)) pgs_nil)))
(pss_one (ps_expr (pe_bm PySem.F.plainAttrs_list PySem.F.slot_list_append PySem.F.type_list_append mt_append (pv 11) (pa_cons (pe_tup (pa_cons (pv 15) (pa_cons (pv 5) (pa_cons (pe_op op_mod (pe_op op_mul (pe_op op_mul (pv 13) (pv 14)) (pv 6)) (pv 3)) (pa_cons (pv 10) (pa_cons (pv 9) pa_nil)))))) pa_nil)))))
(pss_one (ps_for PassesOwn.never (by rfl) (pi_list (pv 1)) (pg_tup (by rfl) (pgs_cons (pg_name (i := 14) sc_product_tasks.nd rfl (Or.inl rfl)) (pgs_cons (pg_name (i := 15) sc_product_tasks.nd rfl (Or.inl rfl)) pgs_nil)))
(pss_one (ps_expr (pe_bm PySem.F.plainAttrs_list PySem.F.slot_list_append PySem.F.type_list_append mt_append (pv 11) (pa_cons (pe_tup (pa_cons (pv 15) (pa_cons (pv 8) (pa_cons (pe_op op_mod (pe_op op_mul (pe_un un_neg (pv 13)) (pv 14)) (pv 3)) (pa_cons (pv 7) (pa_cons (pv 5) pa_nil)))))) pa_nil)))))))))
(pss_one (ps_ret (pv 11)))))))), ?_⟩
    refine ⟨_, rfl, t, _, rfl, SqT.of ht, rfl, _, _, rfl, _, _, rfl, _, _, rfl, _, _, rfl, _, _, rfl, rfl, ?_⟩
    have hu : (xs = [] ∧ (3 : Int) - (tk.tgt : Int) - (tk.spare : Int) = ((tk.used : Nat) : Int)) ∨ ∃ q u, xs = [.ref q] ∧ FacAt H q (.cell u) ∧ tk.used = u := by
      have h1 := tok.tl
      have h2 := tok.s
      have h3 := tok.ts
      unfold Task.used
      unfold Task.facs at rr
      cases e : tk.fac with
      | none =>
        rw [e] at rr
        exact .inl ⟨List.length_eq_zero_iff.mp rr.1, by simp only; omega⟩
      | some u =>
        rw [e] at rr
        obtain ⟨q, e1, e2⟩ := rr.2 0 (.cell u) rfl
        refine .inr ⟨q, u, ?_, e2, rfl⟩
        have hl : xs.length = 1 := rr.1
        match xs, hl, e1 with
        | [y], _, e1 => cases e1; rfl
    have val : ∀ Q' : VK, Q' (.int ((tk.used : Nat) : Int)) H → tIf (fun σ H Q => tVar 7 σ H fun x H' => ∃ k, TruV K x H' k ∧ Q k H') (tOp (rIxT K) (tOp (rIxT K) (tVar 7) (tC (.int 0))) (tC (.int 1))) (tOp (rI0 fun i j => .int (i - j)) (tOp (rI0 fun i j => .int (i - j)) (tC (.int 3)) (tVar 5)) (tVar 8))
        [some (.ref fa), some (.ref sa), some (.ref t), some (.int m), some (.int tk.node), some (.int tk.tgt), some (.int tk.co), some (.ref f), some (.int tk.spare), none, none, none, none, none, none, none] H Q' := fun Q' q => by
      refine ⟨_, rfl, _, .inr (.inl ⟨xs, SqT.of hx, rfl⟩), ?_⟩
      rcases hu with ⟨rfl, eu⟩ | ⟨p, u, rfl, hp, eu⟩
      · rw [← eu] at q
        exact inn rfl ⟨_, rfl, _, _, rfl, rfl, _, rfl, _, _, rfl, rfl, q⟩
      · rw [eu] at q
        exact iy rfl ⟨_, rfl, _, _, _, _, rfl, rfl, SqT.of hx, at0, _, _, _, _, rfl, rfl, SqT.of hp, at1, q⟩
    refine val _ ?_
    -- through = (("cell", spare),), tasks = []
    refine ⟨_, rfl, (by show 2 ≤ sizeLine; decide), fun p1 h1 => ⟨by show 1 ≤ sizeLine; decide, fun p2 h2 => ?_⟩⟩
    have n12 : p1 ≠ p2 := ne_of_none upd_same h2
    have k1 : Kp [] H (upd (upd H p1 (.tup [.str "cell", .int tk.spare])) p2 (.tup [.ref p1])) := (Kp.refl.new h1).new h2
    have hT : FacsAt (upd (upd H p1 (.tup [.str "cell", .int tk.spare])) p2 (.tup [.ref p1])) p2 [.cell tk.spare] :=
      ⟨_, upd_same, Refs.one (by show upd (upd H p1 _) p2 _ p1 = _; rw [upd_ne n12]; exact upd_same)⟩
    generalize hG : upd (upd H p1 (.tup [.str "cell", .int tk.spare])) p2 (.tup [.ref p1]) = G at k1 hT
    refine ⟨Nat.zero_le _, fun c hc => ?_⟩
    have hc0 : H c = none := k1.free hc
    have k2 : Kp [] G (upd G c (.lst [])) := Kp.refl.new hc
    -- what stands behind so many passes
    let done : Nat → List Task := fun i => if i = 0 then [] else if i = 1 then pass m (-1) first second tk else prodTasks m first second tk
    have dl : ∀ sg, (pass m sg first second tk).length ≤ 10 := fun sg => by
      unfold pass
      rw [List.length_append, List.length_map, List.length_map]; omega
    refine ⟨2, rfl, by decide, by decide, for_range (lo := 0) (n := 2) (fun i σ H' => Kp [] G H' ∧ (∃ ys, H' c = some (.lst ys) ∧ Refs (TaskAt H') ys (done i)) ∧
        ∃ v12 v13 v14 v15, σ = [some (.ref fa), some (.ref sa), some (.ref t), some (.int m), some (.int tk.node), some (.int tk.tgt), some (.int tk.co), some (.ref f), some (.int tk.spare), some (.int ((tk.used : Nat) : Int)), some (.ref p2), some (.ref c), v12, v13, v14, v15])
      ⟨k2, ⟨[], upd_same, Refs.nil⟩, none, none, none, none, rfl⟩ ?_ ?_⟩
    · rintro i σ H1 hi ⟨q1, ⟨ys, q2, q3⟩, v12, v13, v14, v15, rfl⟩
      have sgv : ∀ Q' : VK, Q' (.int (if i = 0 then -1 else 1)) H1 → tIf (tTest (tOp rEq (tVar 12) (tC (.int 0)))) (tUn (rU fun i => .int (-i)) (tC (.int 1))) (tC (.int 1))
          [some (.ref fa), some (.ref sa), some (.ref t), some (.int m), some (.int tk.node), some (.int tk.tgt), some (.int tk.co), some (.ref f), some (.int tk.spare), some (.int ((tk.used : Nat) : Int)), some (.ref p2), some (.ref c), some (.int (0 + i)), v13, v14, v15] H1 Q' := fun Q' q => by
        refine ⟨_, rfl, rfl, _, rfl, ?_⟩
        by_cases e : i = 0
        · subst e
          exact iy (decide_eq_true rfl) ⟨_, rfl, q⟩
        · rw [if_neg e] at q
          exact inn (decide_eq_false fun z => by have := V.int.inj z; omega) q
      refine sgv _ ?_
      have hsg : (if i = 0 then (-1 : Int) else 1) = 1 ∨ (if i = 0 then (-1 : Int) else 1) = -1 := by split <;> simp
      have hdi : (done i).length ≤ 10 ∧ done (i + 1) = done i ++ pass m (if i = 0 then -1 else 1) first second tk := by
        rcases (show i = 0 ∨ i = 1 by omega) with rfl | rfl
        · exact ⟨Nat.zero_le _, rfl⟩
        · exact ⟨dl _, rfl⟩
      generalize hsgv : (if i = 0 then (-1 : Int) else 1) = sg at hsg hdi
      generalize hdn : done i = dn at q3 hdi
      refine ⟨_, rfl, fa, rfl, ⟨_, SqL.of (q1.keep _ _ (k1.keep _ _ hfl fun z => nomatch z) fun z => nomatch z)⟩, for_list (xs := fxs) (fun j σ H' => Kp [] G H' ∧ (∃ ys, H' c = some (.lst ys) ∧ Refs (TaskAt H') ys (dn ++ (first.take j).map (fun p => (⟨p.2, tk.tgt, sg * p.1 * tk.co % m, some tk.spare, tk.used⟩ : Task)))) ∧
          ∃ v14 v15, σ = [some (.ref fa), some (.ref sa), some (.ref t), some (.int m), some (.int tk.node), some (.int tk.tgt), some (.int tk.co), some (.ref f), some (.int tk.spare), some (.int ((tk.used : Nat) : Int)), some (.ref p2), some (.ref c), some (.int (0 + i)), some (.int sg), v14, v15])
        ⟨q1, ⟨ys, q2, by rw [List.take_zero, List.map_nil, List.append_nil]; exact q3⟩, v14, v15, rfl⟩ (fun j σ H' _ ⟨q, _⟩ => SqL.of (q.keep _ _ (k1.keep _ _ hfl fun z => nomatch z) fun z => nomatch z)) ?_ ?_⟩
      · rintro j x σ H2 hj ⟨r1, ⟨zs, r2, r3⟩, v14, v15, rfl⟩
        obtain ⟨u, pr, rfl, e1, e2⟩ := frr.at_ hj
        have hu2 : H2 u = some (.tup [.int pr.1, .int pr.2]) := r1.tup _ _ (k1.tup _ _ e2)
        refine ⟨u, _, rfl, SqT.of hu2, rfl, _, _, rfl, _, _, rfl, rfl, ?_⟩
        refine ⟨_, rfl, .inl ⟨rfl, _, SqL.of r2⟩, _, rfl, _, rfl, _, rfl, _, rfl, _, _, rfl, rfl, cmulS hsg, _, rfl, _, _, rfl, rfl, cmulR hco m9, _, rfl, _, _, rfl, rfl, hpos, _, rfl, _, rfl, (by show 5 ≤ sizeLine; decide), fun q hq => ?_⟩
        have ncq : c ≠ q := ne_of_none r2 hq
        have k3 : Kp [] H2 (upd H2 q (.tup [.int pr.2, .int tk.tgt, .int (sg * pr.1 * tk.co % m), .ref p2, .int ((tk.used : Nat) : Int)])) := Kp.refl.new hq
        have r2' := k3.keep _ _ r2 fun z => nomatch z
        refine ⟨c, _, _, rfl, rfl, r2', ?_, ?_⟩
        · rw [r3.1, List.length_append, List.length_map, List.length_take]
          exact Nat.lt_of_le_of_lt (show _ ≤ 15 by omega) (by decide)
        · refine ⟨Kp.mut (r1.new hq) (.inr hc) (notT_l r2'), ⟨_, upd_same, ?_⟩, _, _, rfl⟩
          have k4 : Kp [c] (upd H2 q (.tup [.int pr.2, .int tk.tgt, .int (sg * pr.1 * tk.co % m), .ref p2, .int ((tk.used : Nat) : Int)])) (upd (upd H2 q (.tup [.int pr.2, .int tk.tgt, .int (sg * pr.1 * tk.co % m), .ref p2, .int ((tk.used : Nat) : Int)])) c (.lst (zs ++ [.ref q]))) := Kp.mut Kp.refl (.inl mem1) (notT_l r2')
          rw [List.take_add_one, e1, List.map_append, ← List.append_assoc]
          refine Refs.snoc (r3.imp fun _ _ z => (z.kp k3).kp k4) ⟨p2, ?_, ((hT.kp r1).kp k3).kp k4⟩
          rw [upd_ne (Ne.symm ncq)]
          exact upd_same
      · rintro σ H2 ⟨r1, ⟨zs, r2, r3⟩, v14, v15, rfl⟩
        rw [show first.take fxs.length = first by rw [frr.1]; exact List.take_length] at r3
        generalize hd2 : dn ++ first.map (fun p => (⟨p.2, tk.tgt, sg * p.1 * tk.co % m, some tk.spare, tk.used⟩ : Task)) = d2 at r3
        have hd2l : d2.length ≤ 15 := by rw [← hd2, List.length_append, List.length_map]; omega
        refine ⟨_, rfl, sa, rfl, ⟨_, SqL.of (r1.keep _ _ (k1.keep _ _ hsl fun z => nomatch z) fun z => nomatch z)⟩, for_list (xs := sxs) (fun j σ H' => Kp [] G H' ∧ (∃ ys, H' c = some (.lst ys) ∧ Refs (TaskAt H') ys (d2 ++ (second.take j).map (fun p => (⟨p.2, tk.spare, -sg * p.1 % m, tk.fac, tk.tgt⟩ : Task)))) ∧
            ∃ v14 v15, σ = [some (.ref fa), some (.ref sa), some (.ref t), some (.int m), some (.int tk.node), some (.int tk.tgt), some (.int tk.co), some (.ref f), some (.int tk.spare), some (.int ((tk.used : Nat) : Int)), some (.ref p2), some (.ref c), some (.int (0 + i)), some (.int sg), v14, v15])
          ⟨r1, ⟨zs, r2, by rw [List.take_zero, List.map_nil, List.append_nil]; exact r3⟩, v14, v15, rfl⟩ (fun j σ H' _ ⟨q, _⟩ => SqL.of (q.keep _ _ (k1.keep _ _ hsl fun z => nomatch z) fun z => nomatch z)) ?_ ?_⟩
        · rintro j x σ H3 hj ⟨s1, ⟨ws, s2, s3⟩, v14, v15, rfl⟩
          obtain ⟨u, pr, rfl, e1, e2⟩ := srr.at_ hj
          have hu2 : H3 u = some (.tup [.int pr.1, .int pr.2]) := s1.tup _ _ (k1.tup _ _ e2)
          refine ⟨u, _, rfl, SqT.of hu2, rfl, _, _, rfl, _, _, rfl, rfl, ?_⟩
          refine ⟨_, rfl, .inl ⟨rfl, _, SqL.of s2⟩, _, rfl, _, rfl, _, rfl, _, rfl, _, rfl, _, _, rfl, rfl, cmulS (by omega), _, rfl, _, _, rfl, rfl, hpos, _, rfl, _, rfl, (by show 5 ≤ sizeLine; decide), fun q hq => ?_⟩
          have ncq : c ≠ q := ne_of_none s2 hq
          have k3 : Kp [] H3 (upd H3 q (.tup [.int pr.2, .int tk.spare, .int (-sg * pr.1 % m), .ref f, .int tk.tgt])) := Kp.refl.new hq
          have s2' := k3.keep _ _ s2 fun z => nomatch z
          refine ⟨c, _, _, rfl, rfl, s2', ?_, ?_⟩
          · rw [s3.1, List.length_append, List.length_map, List.length_take]
            exact Nat.lt_of_le_of_lt (show _ ≤ 20 by omega) (by decide)
          · refine ⟨Kp.mut (s1.new hq) (.inr hc) (notT_l s2'), ⟨_, upd_same, ?_⟩, _, _, rfl⟩
            have k4 : Kp [c] (upd H3 q (.tup [.int pr.2, .int tk.spare, .int (-sg * pr.1 % m), .ref f, .int tk.tgt])) (upd (upd H3 q (.tup [.int pr.2, .int tk.spare, .int (-sg * pr.1 % m), .ref f, .int tk.tgt])) c (.lst (ws ++ [.ref q]))) := Kp.mut Kp.refl (.inl mem1) (notT_l s2')
            rw [List.take_add_one, e1, List.map_append, ← List.append_assoc]
            refine Refs.snoc (s3.imp fun _ _ z => (z.kp k3).kp k4) ⟨f, ?_, (((hF.kp k1).kp s1).kp k3).kp k4⟩
            rw [upd_ne (Ne.symm ncq)]
            exact upd_same
        · rintro σ H3 ⟨s1, ⟨ws, s2, s3⟩, v14, v15, rfl⟩
          rw [show second.take sxs.length = second by rw [srr.1]; exact List.take_length] at s3
          refine ⟨s1, ⟨ws, s2, ?_⟩, _, _, _, _, rfl⟩
          rw [hdi.2]
          unfold pass
          rw [← List.append_assoc, hd2]
          exact s3
    · rintro σ H1 ⟨q1, ⟨ys, q2, q3⟩, v12, v13, v14, v15, rfl⟩
      exact ⟨_, rfl, k _ c (k1.trans q1) hc0 ⟨ys, q2, q3⟩⟩
end
end BF

namespace BF
open PySem PySem.Spec PyProof.Rows L2
section
variable {P : Program} {w : World} {K : PySem.W.Frag} {mg : Str → Option Value} {base : Heap}
theorem ok_inner_tasks (T : Txt K w mg) (R_product_tasks : Rdy P w K mg base 1 (He.ga K "product_tasks") P_product_tasks sp_product_tasks) : Rdy P w K mg base 2 (He.ga K "inner_tasks") P_inner_tasks sp_inner_tasks := by
  refine rdy_of T.f_inner_tasks sc_inner_tasks (fun _ _ _ _ _ _ us hl => match us, hl with | [_, _, _], _ => rfl) (fun vs H Q E h => ?_) (fun cdv A outer s H vs Q E hr h => ?_)
  · obtain ⟨a, t, nd, k, m, j, z, rfl, _⟩ := h; rfl
  · obtain ⟨a, t, nd, tk, m, jj, zz, rfl, hN, hT, hl, ho, tok, ⟨m2, m9⟩, k⟩ := h
    obtain ⟨f, ht, hf⟩ := id hT
    have hpos : 0 < m := by omega
    have hco : 0 ≤ tk.co ∧ tk.co < m := ⟨tok.c0, tok.c1⟩
    refine ⟨_, (pss_cons (ps_asg (pv 1) (pg_tup (by rfl) (pgs_cons (pg_name (i := 3) sc_inner_tasks.nd rfl (Or.inl rfl)) (pgs_cons (pg_name (i := 4) sc_inner_tasks.nd rfl (Or.inr rfl)) (pgs_cons (pg_name (i := 5) sc_inner_tasks.nd rfl (Or.inr rfl)) (pgs_cons (pg_name (i := 6) sc_inner_tasks.nd rfl (Or.inr rfl)) (pgs_cons (pg_name (i := 7) sc_inner_tasks.nd rfl (Or.inr rfl)) pgs_nil)))))))
(pss_cons (ps_if (pt_cmpR op_eq (pe_ix ix_tup (pv 0) pe_int (fun _ _ => rfl)) pe_str (nomark _))
(pss_one (ps_ret (pe_lst (pa_cons (pe_tup (pa_cons (pe_ix ix_tup (pv 0) pe_int (fun _ _ => rfl)) (pa_cons (pv 4) (pa_cons (pe_op op_mod (pe_op op_mul (pv 5) (pe_ix ix_tup (pv 0) pe_int (fun _ _ => rfl))) (pv 2)) (pa_cons (pv 6) (pa_cons (pv 7) pa_nil)))))) pa_nil))))
pss_nil)
(pss_cons (ps_if (pt_cmpR op_eq (pe_ix ix_tup (pv 0) pe_int (fun _ _ => rfl)) pe_str (nomark _))
(pss_one (ps_ret (pe_lc (own := [("part", 8)]) (g := gName 8) (tt := tYes) (by rfl) sc_inner_tasks.nd (pi_tup (pe_slice sl_tupA (pv 0) (po_some pe_int) po_none)) (blkOk_by (N := N_inner_tasks) (sc := defScope s_inner_tasks) (by decide +kernel)) (fun _ _ _ _ _ => (pg_name (i := 8) sc_inner_tasks.nd rfl (Or.inl rfl))) (fun _ _ _ _ _ => pts_nil) (fun _ _ _ _ _ => (pe_tup (pa_cons (pv 8) (pa_cons (pv 4) (pa_cons (pv 5) (pa_cons (pv 6) (pa_cons (pv 7) pa_nil))))))))))
pss_nil)
(pss_cons (ps_if (pt_cmpR op_eq (pe_ix ix_tup (pv 0) pe_int (fun _ _ => rfl)) pe_str (nomark _))
(pss_one (ps_ret (pe_callR R_product_tasks (hr.mono (by decide)) rfl T.g_product_tasks (pa_cons (pe_lst (pa_cons (pe_tup (pa_cons pe_int (pa_cons (pe_ix ix_tup (pv 0) pe_int (fun _ _ => rfl)) pa_nil))) pa_nil)) (pa_cons (pe_lst (pa_cons (pe_tup (pa_cons pe_int (pa_cons (pe_ix ix_tup (pv 0) pe_int (fun _ _ => rfl)) pa_nil))) pa_nil)) (pa_cons (pv 1) (pa_cons (pv 2) pa_nil)))))))
pss_nil)
(pss_cons (ps_set (i := 9) sc_inner_tasks.nd rfl (Or.inl rfl) (pe_lst (pa_cons (pe_tup (pa_cons (pe_ix ix_tup (pv 0) pe_int (fun _ _ => rfl)) (pa_cons (pv 4) (pa_cons (pv 5) (pa_cons (pv 6) (pa_cons (pv 7) pa_nil)))))) pa_nil)))
(pss_cons (ps_set (i := 10) sc_inner_tasks.nd rfl (Or.inl rfl) (pe_lst (pa_cons (pe_tup (pa_cons pe_int (pa_cons (pe_ix ix_tup (pv 0) pe_int (fun _ _ => rfl)) pa_nil))) (pa_cons (pe_tup (pa_cons (pe_un un_neg pe_int) (pa_cons (pe_ix ix_tup (pv 0) pe_int (fun _ _ => rfl)) pa_nil))) pa_nil))))
(pss_one (ps_ret (pe_op op_cat (pv 9) (pe_callR R_product_tasks (hr.mono (by decide)) rfl T.g_product_tasks (pa_cons (pe_lst (pa_cons (pe_tup (pa_cons pe_int (pa_cons (pe_ix ix_tup (pv 0) pe_int (fun _ _ => rfl)) pa_nil))) pa_nil)) (pa_cons (pv 10) (pa_cons (pv 1) (pa_cons (pv 2) pa_nil)))))))))))))), ?_⟩
    refine ⟨_, rfl, t, _, rfl, SqT.of ht, rfl, _, _, rfl, _, _, rfl, _, _, rfl, _, _, rfl, _, _, rfl, rfl, ?_⟩
    cases nd with
    | const c => cases hl
    | inp c => cases hl
    | scaled c i =>
      refine ⟨_, rfl, _, _, _, _, rfl, rfl, SqT.of hN, at0, rfl, _, rfl, iy dTrue ?_⟩
      refine ⟨_, rfl, _, _, _, _, rfl, rfl, SqT.of hN, at2, _, rfl, _, rfl, _, rfl, _, _, _, _, rfl, rfl, SqT.of hN, at1, _, _, rfl, rfl, cmulL hco m9, _, rfl, _, _, rfl, rfl, hpos, _, rfl, _, rfl, (by show 5 ≤ sizeLine; decide), fun p hp => ⟨by show 1 ≤ sizeLine; decide, fun l hlp => ?_⟩⟩
      have k1 : Kp [] H (upd H p (.tup [.int i, .int tk.tgt, .int (tk.co * c % m), .ref f, .int tk.spare])) := Kp.refl.new hp
      have k2 : Kp [] H (upd (upd H p (.tup [.int i, .int tk.tgt, .int (tk.co * c % m), .ref f, .int tk.spare])) l (.lst [.ref p])) := k1.new hlp
      refine k _ l k2 (k1.free hlp) ⟨_, upd_same, Refs.one ⟨f, ?_, hf.kp k2⟩⟩
      rw [upd_ne (ne_of_none upd_same hlp)]
      exact upd_same
    | sum i j =>
      refine ⟨_, rfl, _, _, _, _, rfl, rfl, SqT.of hN, at0, rfl, _, rfl, inn d10 ?_⟩
      refine ⟨_, rfl, _, _, _, _, rfl, rfl, SqT.of hN, at0, rfl, _, rfl, iy dTrue ?_⟩
      refine ⟨_, rfl, _, rfl, a, _, rfl, SqT.of hN, fun hw => absurd hw.1 (show ¬ HT.sIx 3 0 (some 1) = 0 by decide), fun _ p hp => ?_⟩
      have k1 : Kp [] H (upd H p (.tup [.int i, .int j])) := Kp.refl.new hp
      refine ⟨p, rfl, ⟨[.int i, .int j], SqT.of upd_same⟩, fun c hc => lc_tup (K := K) (a := p) (xs := [.int i, .int j]) (fun ii H' => Kp [] (upd H p (.tup [.int i, .int j])) H' ∧ ∃ ys, H' c = some (.lst ys) ∧ Refs (TaskAt H') ys ((inner m tk (.sum i j)).take ii))
        ⟨Kp.refl.new hc, [], upd_same, Refs.nil⟩ (fun ii H' _ ⟨q, _⟩ => SqT.of (q.tup _ _ upd_same)) ?_ ?_⟩
      · rintro ii x H2 hi ⟨q1, ys, q2, q3⟩
        obtain ⟨z, rfl, e1⟩ : ∃ z : Nat, x = .int z ∧ (inner m tk (.sum i j))[ii]? = some ⟨z, tk.tgt, tk.co, tk.fac, tk.spare⟩ := by
          match ii, hi with
          | 0, hi => cases hi; exact ⟨i, rfl, rfl⟩
          | 1, hi => cases hi; exact ⟨j, rfl, rfl⟩
          | n + 2, hi => cases hi
        have hys : ys.length ≤ 2 := by
          rw [q3.1, List.length_take]
          exact Nat.min_le_right _ _
        refine ⟨rfl, _, rfl, _, rfl, _, rfl, _, rfl, _, rfl, (by show 5 ≤ sizeLine; decide), fun q hq => ?_⟩
        have k3 : Kp [] H2 (upd H2 q (.tup [.int z, .int tk.tgt, .int tk.co, .ref f, .int tk.spare])) := Kp.refl.new hq
        have q2' := k3.keep _ _ q2 fun z => nomatch z
        have k4 : Kp [c] (upd H2 q (.tup [.int z, .int tk.tgt, .int tk.co, .ref f, .int tk.spare])) (upd (upd H2 q (.tup [.int z, .int tk.tgt, .int tk.co, .ref f, .int tk.spare])) c (.lst (ys ++ [.ref q]))) := Kp.mut Kp.refl (.inl mem1) (notT_l q2')
        refine ⟨ys, q2', Nat.lt_of_le_of_lt hys (by decide), Kp.mut (q1.new hq) (.inr hc) (notT_l q2'), _, upd_same, ?_⟩
        rw [List.take_add_one, e1]
        refine Refs.snoc (q3.imp fun _ _ z => (z.kp k3).kp k4) ⟨f, ?_, (((hf.kp k1).kp q1).kp k3).kp k4⟩
        rw [upd_ne (Ne.symm (ne_of_none q2 hq))]
        exact upd_same
      · rintro H2 ⟨q1, ys, q2, q3⟩
        exact k _ c (k1.trans q1) (k1.free hc) ⟨ys, q2, q3⟩
    | prod i j =>
      refine ⟨_, rfl, _, _, _, _, rfl, rfl, SqT.of hN, at0, rfl, _, rfl, inn d11 ?_⟩
      refine ⟨_, rfl, _, _, _, _, rfl, rfl, SqT.of hN, at0, rfl, _, rfl, inn d13 ?_⟩
      refine ⟨_, rfl, _, _, _, _, rfl, rfl, SqT.of hN, at0, rfl, _, rfl, iy dTrue ?_⟩
      refine ⟨_, rfl, _, _, _, _, rfl, rfl, SqT.of hN, at1, (by show 2 ≤ sizeLine; decide), fun p1 h1 => ⟨by show 1 ≤ sizeLine; decide, fun l1 g1 => ?_⟩⟩
      have k1 : Kp [] H (upd (upd H p1 (.tup [.int 1, .int i])) l1 (.lst [.ref p1])) := (Kp.refl.new h1).new g1
      have e1 : upd (upd H p1 (.tup [.int 1, .int i])) l1 (.lst [.ref p1]) p1 = some (.tup [.int 1, .int i]) := by rw [upd_ne (ne_of_none upd_same g1)]; exact upd_same
      have f1 : upd (upd H p1 (.tup [.int 1, .int i])) l1 (.lst [.ref p1]) l1 = some (.lst [.ref p1]) := upd_same
      generalize upd (upd H p1 (.tup [.int 1, .int i])) l1 (.lst [.ref p1]) = H1 at k1 e1 f1
      refine ⟨_, rfl, _, _, _, _, rfl, rfl, SqT.of (k1.tup _ _ hN), at2, (by show 2 ≤ sizeLine; decide), fun p2 h2 => ⟨by show 1 ≤ sizeLine; decide, fun l2 g2 => ?_⟩⟩
      have k2 : Kp [] H1 (upd (upd H1 p2 (.tup [.int 1, .int j])) l2 (.lst [.ref p2])) := (Kp.refl.new h2).new g2
      have e2 : upd (upd H1 p2 (.tup [.int 1, .int j])) l2 (.lst [.ref p2]) p2 = some (.tup [.int 1, .int j]) := by rw [upd_ne (ne_of_none upd_same g2)]; exact upd_same
      refine ⟨_, rfl, _, rfl, l1, l2, t, tk, m, [(1, i)], [(1, j)], zz, rfl, ⟨_, k2.keep _ _ f1 (fun z => nomatch z), Refs.one (k2.tup _ _ e1)⟩, ⟨_, upd_same, Refs.one e2⟩, (hT.kp k1).kp k2, tok, ⟨m2, m9⟩, by simp, by simp, fun H' p k3 hp hr => ?_⟩
      · exact k H' p ((k1.trans k2).trans k3) ((k1.trans k2).free hp) hr
    | choose i j l =>
      refine ⟨_, rfl, _, _, _, _, rfl, rfl, SqT.of hN, at0, rfl, _, rfl, inn d12 ?_⟩
      refine ⟨_, rfl, _, _, _, _, rfl, rfl, SqT.of hN, at0, rfl, _, rfl, inn d14 ?_⟩
      refine ⟨_, rfl, _, _, _, _, rfl, rfl, SqT.of hN, at0, rfl, _, rfl, inn d15 ?_⟩
      -- alone
      refine ⟨_, rfl, _, _, _, _, rfl, rfl, SqT.of hN, at3, _, rfl, _, rfl, _, rfl, _, rfl, (by show 5 ≤ sizeLine; decide), fun p0 h0 => ⟨by show 1 ≤ sizeLine; decide, fun l0 g0 => ?_⟩⟩
      have k0 : Kp [] H (upd (upd H p0 (.tup [.int l, .int tk.tgt, .int tk.co, .ref f, .int tk.spare])) l0 (.lst [.ref p0])) := (Kp.refl.new h0).new g0
      have e0 : upd (upd H p0 (.tup [.int l, .int tk.tgt, .int tk.co, .ref f, .int tk.spare])) l0 (.lst [.ref p0]) p0 = some (.tup [.int l, .int tk.tgt, .int tk.co, .ref f, .int tk.spare]) := by rw [upd_ne (ne_of_none upd_same g0)]; exact upd_same
      have f0 : upd (upd H p0 (.tup [.int l, .int tk.tgt, .int tk.co, .ref f, .int tk.spare])) l0 (.lst [.ref p0]) l0 = some (.lst [.ref p0]) := upd_same
      generalize upd (upd H p0 (.tup [.int l, .int tk.tgt, .int tk.co, .ref f, .int tk.spare])) l0 (.lst [.ref p0]) = H0 at k0 e0 f0
      -- both
      refine ⟨_, rfl, _, _, _, _, rfl, rfl, SqT.of (k0.tup _ _ hN), at2, (by show 2 ≤ sizeLine; decide), fun p1 h1 => ?_⟩
      have k1 : Kp [] H0 (upd H0 p1 (.tup [.int 1, .int j])) := Kp.refl.new h1
      refine ⟨_, rfl, _, rfl, _, _, _, _, rfl, rfl, SqT.of (k1.tup _ _ (k0.tup _ _ hN)), at3, (by show 2 ≤ sizeLine; decide), fun p2 h2 => ⟨by show 2 ≤ sizeLine; decide, fun l2 g2 => ?_⟩⟩
      have k2 : Kp [] H0 (upd (upd (upd H0 p1 (.tup [.int 1, .int j])) p2 (.tup [.int (-1), .int l])) l2 (.lst [.ref p1, .ref p2])) := ((Kp.refl.new h1).new h2).new g2
      have n12 : p1 ≠ p2 := ne_of_none upd_same h2
      have e1 : upd (upd (upd H0 p1 (.tup [.int 1, .int j])) p2 (.tup [.int (-1), .int l])) l2 (.lst [.ref p1, .ref p2]) p1 = some (.tup [.int 1, .int j]) := by
        have q : upd (upd H0 p1 (.tup [.int 1, .int j])) p2 (.tup [.int (-1), .int l]) p1 = some (.tup [.int 1, .int j]) := by rw [upd_ne n12]; exact upd_same
        rw [upd_ne (ne_of_none q g2)]; exact q
      have e2 : upd (upd (upd H0 p1 (.tup [.int 1, .int j])) p2 (.tup [.int (-1), .int l])) l2 (.lst [.ref p1, .ref p2]) p2 = some (.tup [.int (-1), .int l]) := by
        have q : upd (upd H0 p1 (.tup [.int 1, .int j])) p2 (.tup [.int (-1), .int l]) p2 = some (.tup [.int (-1), .int l]) := upd_same
        rw [upd_ne (ne_of_none q g2)]; exact q
      have f2 : upd (upd (upd H0 p1 (.tup [.int 1, .int j])) p2 (.tup [.int (-1), .int l])) l2 (.lst [.ref p1, .ref p2]) l2 = some (.lst [.ref p1, .ref p2]) := upd_same
      generalize upd (upd (upd H0 p1 (.tup [.int 1, .int j])) p2 (.tup [.int (-1), .int l])) l2 (.lst [.ref p1, .ref p2]) = H2 at k2 e1 e2 f2
      have k02 : Kp [] H H2 := k0.trans k2
      refine ⟨_, rfl, _, rfl, _, _, _, _, rfl, rfl, SqT.of (k02.tup _ _ hN), at1, (by show 2 ≤ sizeLine; decide), fun p3 h3 => ⟨by show 1 ≤ sizeLine; decide, fun l3 g3 => ?_⟩⟩
      have k3 : Kp [] H2 (upd (upd H2 p3 (.tup [.int 1, .int i])) l3 (.lst [.ref p3])) := (Kp.refl.new h3).new g3
      have e3 : upd (upd H2 p3 (.tup [.int 1, .int i])) l3 (.lst [.ref p3]) p3 = some (.tup [.int 1, .int i]) := by rw [upd_ne (ne_of_none upd_same g3)]; exact upd_same
      refine ⟨_, rfl, _, rfl, _, rfl, l3, l2, t, tk, m, [(1, i)], [(1, j), (-1, l)], zz, rfl, ⟨_, upd_same, Refs.one e3⟩, ⟨_, k3.keep _ _ f2 (fun z => nomatch z), Refs.cons (k3.tup _ _ e1) (Refs.one (k3.tup _ _ e2))⟩, (hT.kp k02).kp k3, tok, ⟨m2, m9⟩, by simp, by simp, fun H' p k4 hp ⟨ys, hy, hr⟩ => ?_⟩
      · have k04 : Kp [] H0 H' := (k2.trans k3).trans k4
        have hl0 : H' l0 = some (.lst [.ref p0]) := k04.keep _ _ f0 fun z => nomatch z
        have hlen : ys.length ≤ 6 := by rw [hr.1]; simp [prodTasks, pass]
        refine ⟨l0, p, _, _, rfl, rfl, hl0, hy, Nat.le_trans (Nat.add_le_add_left hlen _) (by show 1 + 6 ≤ sizeLine; decide), fun q hq => ?_⟩
        have k5 : Kp [] H' (upd H' q (.lst ([.ref p0] ++ ys))) := Kp.refl.new hq
        refine k _ q (((k0.trans k04)).trans k5) ((k0.trans k04).free hq) ⟨_, upd_same, ?_⟩
        exact Refs.app (Refs.one ⟨f, k5.tup _ _ (k04.tup _ _ e0), ((hf.kp k0).kp k04).kp k5⟩) (hr.imp fun _ _ z => z.kp k5)
end
end BF

namespace BF
open PySem PySem.Spec PyProof.Rows L2
def task0 (ns : List Nd) : Task := ⟨ns.length - 1, 0, 1, none, 1⟩
/-- what holds between two turns of the while -/
structure CInv (ns : List Nd) (m : Int) (ss : List Stp) (ts : List Task) : Prop where
  tok : ∀ t ∈ ts, t.Ok m ns.length
  sok : ∀ s ∈ ss, s.Ok m (needs ns)
  co : (ss.length : Int) + costT ns ts = cst ns (ns.length - 1)
  ef : ∀ g cs, Mem3 m cs → effs m (val m g ns) (runs m g cs ss) ts.reverse = (task0 ns).eff m (val m g ns) cs
section
variable {ns : List Nd} {m : Int} {ss : List Stp} {ts rest : List Task} {k : Task} {nd : Nd}
theorem CInv.start (so : SrcOk ns) (m2 : 2 ≤ m) : CInv ns m [] [task0 ns] := by
  have h1 := so.ne
  refine ⟨fun t ht => ?_, (fun s hs => nomatch hs), ?_, fun g cs _ => rfl⟩
  · rw [List.mem_singleton.mp ht]
    exact ⟨by show ns.length - 1 < ns.length; omega, (by decide : 0 < 3), (by decide : 1 < 3), (by decide : 0 ≠ 1), (by decide : (0 : Int) ≤ 1), (by show (1 : Int) < m; omega), fun u e => nomatch e⟩
  · show (0 : Int) + (cst ns (ns.length - 1) + 0) = _
    omega
theorem CInv.leaf (h : CInv ns m ss (rest ++ [k])) (so : SrcOk ns) (m2 : 2 ≤ m) (hk : ns[k.node]? = some nd) (hl : nd.isLeaf = true) : CInv ns m (ss ++ [BF.leaf m k nd]) rest := by
  have ko := h.tok k (by simp)
  refine ⟨fun t ht => h.tok t (by simp [ht]), fun s hs => ?_, ?_, fun g cs hc => ?_⟩
  · rcases List.mem_append.mp hs with hs | hs
    · exact h.sok s hs
    · rw [List.mem_singleton.mp hs]
      exact leaf_ok m2 hk hl ko
  · have e := h.co
    rw [costT_app] at e
    have e2 : costT ns [k] = 1 := by
      unfold costT
      show cst ns k.node + 0 = 1
      rw [leaf_cost so hk hl]; rfl
    rw [List.length_append, List.length_singleton]
    omega
  · rw [← h.ef g cs hc, runs_app, List.reverse_append]
    show effs m (val m g ns) ((BF.leaf m k nd).run m g (runs m g cs ss)) rest.reverse = effs m (val m g ns) (k.eff m (val m g ns) (runs m g cs ss)) rest.reverse
    rw [leaf_eff m2 so hk hl ko]
theorem CInv.inner (h : CInv ns m ss (rest ++ [k])) (so : SrcOk ns) (m2 : 2 ≤ m) (hk : ns[k.node]? = some nd) (hl : nd.isLeaf = false) : CInv ns m ss (rest ++ (BF.inner m k nd).reverse) := by
  have ko := h.tok k (by simp)
  refine ⟨fun t ht => ?_, h.sok, ?_, fun g cs hc => ?_⟩
  · rcases List.mem_append.mp ht with ht | ht
    · exact h.tok t (by simp [ht])
    · exact (inner_ok m2 ko (so.ok _ _ hk) t (List.mem_reverse.mp ht)).mono (Nat.le_of_lt ko.nd)
  · have e := h.co
    rw [costT_app] at e ⊢
    rw [costT_rev, inner_cost so hk hl]
    have e2 : costT ns [k] = cst ns k.node := by
      unfold costT
      show cst ns k.node + 0 = _
      omega
    omega
  · rw [← h.ef g cs hc, List.reverse_append, List.reverse_reverse, List.reverse_append, effs_app, inner_eff m2 so hk hl ko (hc.runs m2 ss)]
    rfl
theorem CInv.wt_leaf (so : SrcOk ns) (hk : ns[k.node]? = some nd) : wtT ns rest < wtT ns (rest ++ [k]) := by
  rw [wtT_app]
  have h1 := wt_pos so hk
  have e2 : wtT ns [k] = wt ns k.node := by
    unfold wtT
    show wt ns k.node + 0 = _
    omega
  omega
theorem CInv.wt_inner (so : SrcOk ns) (hk : ns[k.node]? = some nd) (hl : nd.isLeaf = false) : wtT ns (rest ++ (BF.inner m k nd).reverse) < wtT ns (rest ++ [k]) := by
  rw [wtT_app, wtT_app, wtT_rev]
  have h1 := inner_wt (m := m) so hk hl
  have e2 : wtT ns [k] = wt ns k.node := by
    unfold wtT
    show wt ns k.node + 0 = _
    omega
  omega
theorem CInv.len (h : CInv ns m ss ts) (so : SrcOk ns) (hc : cst ns (ns.length - 1) ≤ 300) : ts.length ≤ 300 ∧ ss.length ≤ 300 := by
  have a := costT_len so ts fun x hx => (h.tok x hx).nd
  have b := h.co
  omega
end
theorem cst_le {ns : List Nd} (so : SrcOk ns) (h : ∀ x ∈ costs ns, 0 ≤ x ∧ x ≤ 300) : cst ns (ns.length - 1) ≤ 300 := by
  have ll : (costs ns).length = ns.length := scan_len _ _
  have h1 := so.ne
  have h2 : ns.length - 1 < (costs ns).length := by omega
  unfold cst
  rw [List.getD_eq_getElem?_getD, List.getElem?_eq_getElem h2]
  exact (h _ (List.getElem_mem h2)).2
section
variable {P : Program} {w : World} {K : PySem.W.Frag} {mg : Str → Option Value} {base : Heap}
theorem ok_compile_source (T : Txt K w mg) (R_cost : Rdy P w K mg base 5 (He.ga K "cost") P_cost sp_cost) (R_Program_init : Rdy P w K mg base 7 (He.ma K (He.ga K "Program") "__init__") P_Program_init (sp_Program_init K)) (R_needs : Rdy P w K mg base 5 (He.ga K "needs") P_needs sp_needs) (R_leaf_step : Rdy P w K mg base 1 (He.ga K "leaf_step") P_leaf_step sp_leaf_step) (R_inner_tasks : Rdy P w K mg base 2 (He.ga K "inner_tasks") P_inner_tasks sp_inner_tasks) : Rdy P w K mg base 9 (He.ga K "compile_source") P_compile_source (sp_compile K) := by
  refine rdy_of T.f_compile_source sc_compile_source (fun _ _ _ _ _ _ us hl => match us, hl with | [_, _], _ => rfl) (fun vs H Q E h => ?_) (fun cdv A outer s H vs Q E hr h => ?_)
  · obtain ⟨a, ns, m, rfl, _⟩ := h; rfl
  · obtain ⟨a, ns, m, rfl, hs, so, hcost, ⟨m2, m9⟩, k⟩ := h
    have hle := cst_le so hcost
    obtain ⟨xs, hx, rr⟩ := id hs
    have s1 := so.ne
    refine ⟨_, (pss_cons (ps_set (i := 2) sc_compile_source.nd rfl (Or.inl rfl) (pe_callR R_cost (hr.mono (by decide)) rfl T.g_cost (pa_cons (pv 0) pa_nil)))
(pss_cons (ps_set (i := 3) sc_compile_source.nd rfl (Or.inl rfl) (pe_makeR T.m_Program R_Program_init (hr.mono (by decide)) rfl T.g_Program (pa_cons (pv 1) (pa_cons pe_int (pa_cons (pe_callR R_needs (hr.mono (by decide)) rfl T.g_needs (pa_cons (pv 0) pa_nil)) (pa_cons (pe_lst pa_nil) pa_nil))))))
(pss_cons (ps_if (pt_cmpR op_gt (pv 2) (pe_gi rfl T.i_MOST_three) (nomark _))
pss_never
pss_nil)
(pss_cons (ps_set (i := 4) sc_compile_source.nd rfl (Or.inl rfl) (pe_lst pa_nil))
(pss_cons (ps_set (i := 5) sc_compile_source.nd rfl (Or.inl rfl) (pe_lst (pa_cons (pe_tup (pa_cons (pe_op op_sub (pe_callB call_len_seq (by rfl) T.z_len PySem.boot_len (pa_cons (pv 0) pa_nil)) pe_int) (pa_cons pe_int (pa_cons pe_int (pa_cons (pe_tup pa_nil) (pa_cons pe_int pa_nil)))))) pa_nil)))
(pss_cons (ps_while PassesOwn.never (pt_truth (pv 5) (by intro _; rfl))
(pss_cons (ps_set (i := 6) sc_compile_source.nd rfl (Or.inl rfl) (pe_bm0 PySem.F.plainAttrs_list PySem.F.slot_list_pop PySem.F.type_list_pop mt_pop (pv 5)))
(pss_cons (ps_set (i := 7) sc_compile_source.nd rfl (Or.inl rfl) (pe_ix ix_tup (pv 0) (pe_ix ix_tup (pv 6) pe_int (fun _ _ => rfl)) (fun _ _ => rfl)))
(pss_one (ps_if (PW.pt (pw_or (pt_cmpR op_eq (pe_ix ix_tup (pv 7) pe_int (fun _ _ => rfl)) pe_str (nomark _)) (pw_or1 (pt_cmpR op_eq (pe_ix ix_tup (pv 7) pe_int (fun _ _ => rfl)) pe_str (nomark _)))))
(pss_one (ps_expr (pe_bm PySem.F.plainAttrs_list PySem.F.slot_list_append PySem.F.type_list_append mt_append (pv 4) (pa_cons (pe_callR R_leaf_step (hr.mono (by decide)) rfl T.g_leaf_step (pa_cons (pv 7) (pa_cons (pv 6) (pa_cons (pv 1) pa_nil)))) pa_nil))))
(pss_one (ps_expr (pe_bm PySem.F.plainAttrs_list PySem.F.slot_list_extend PySem.F.type_list_extend mt_extend (pv 5) (pa_cons (pe_revL (pe_callR R_inner_tasks (hr.mono (by decide)) rfl T.g_inner_tasks (pa_cons (pv 7) (pa_cons (pv 6) (pa_cons (pv 1) pa_nil))))) pa_nil)))))))))
(pss_one (ps_ret (pe_makeR T.m_Program R_Program_init (hr.mono (by decide)) rfl T.g_Program (pa_cons (pv 1) (pa_cons pe_int (pa_cons (pe_fld (pv 3) rfl) (pa_cons (pv 4) pa_nil))))))))))))), ?_⟩
    refine ⟨_, rfl, a, ns, rfl, hs, so, hcost, fun H1 k1 => ?_⟩
    refine ⟨_, rfl, _, rfl, a, ns, rfl, hs.kp k1, so, fun H2 k2 => ⟨Nat.zero_le _, fun l0 hl0 => ?_⟩⟩
    intro x dx nx ndx nex
    have k12 : Kp [] H H2 := k1.trans k2
    have k3 : Kp [] H (upd H2 l0 (.lst [])) := k12.new hl0
    have k4 : Kp [] H (upd (upd (upd H2 l0 (.lst [])) dx (.own x)) x (.ins (He.ga K "Program") dx [])) := (k3.new ndx).new (by rw [upd_ne (Ne.symm nex)]; exact nx)
    have el0 : upd (upd (upd H2 l0 (.lst [])) dx (.own x)) x (.ins (He.ga K "Program") dx []) l0 = some (.lst []) := by
      have n1 : l0 ≠ dx := ne_of_none upd_same ndx
      have n2 : l0 ≠ x := ne_of_none upd_same nx
      rw [upd_ne n2, upd_ne n1]; exact upd_same
    have hx0 : H x = none := k3.free nx
    refine ⟨x, dx, l0, [], [], m, needs ns, rfl, upd_same, el0, Refs.nil, (fun s hs => nomatch hs), Nat.zero_le _, ⟨m2, m9⟩, needs_60 so, fun H3 l' k5 e3 hl' e' => ⟨rfl, ?_⟩⟩
    have k6 : Kp [] H H3 := by
      refine ⟨fun b o e _ => k5.keep b o (k4.keep b o e fun z => nomatch z) fun z => ?_, fun b o e => k5.tup b o (k4.tup b o e), fun b o e => let ⟨o', e'⟩ := k4.there b o e; k5.there b o' e'⟩
      rw [List.mem_singleton.mp z, hx0] at e
      cases e
    refine ⟨_, rfl, _, _, rfl, rfl, _, rfl, inn (decide_eq_false (by omega)) ?_⟩
    refine ⟨Nat.zero_le _, fun sL hsL => ?_⟩
    have k7 : Kp [] H (upd H3 sL (.lst [])) := k6.new hsL
    refine ⟨_, rfl, _, _, rfl, .inr (SqT.of (k7.tup _ _ hx)), _, _, rfl, rfl, Nat.zero_le _, fun pe hpe => ⟨by show 5 ≤ sizeLine; decide, fun pt hpt => ⟨by show 1 ≤ sizeLine; decide, fun tL htL => ?_⟩⟩⟩
    have nxs : x ≠ sL := ne_of_none e3 hsL
    have eS0 : upd H3 sL (.lst []) sL = some (.lst []) := upd_same
    have eX0 : upd H3 sL (.lst []) x = some (.ins (He.ga K "Program") dx (pfs m (needs ns) l')) := by rw [upd_ne nxs]; exact e3
    have hsL0 : H sL = none := k6.free hsL
    generalize hG0 : upd H3 sL (.lst []) = G0 at k7 hpe hpt htL eS0 eX0
    have k8 : Kp [] G0 (upd (upd (upd G0 pe (.tup [])) pt (.tup [.int ((xs.length : Int) - 1), .int 0, .int 1, .ref pe, .int 1])) tL (.lst [.ref pt])) := ((Kp.refl.new hpe).new hpt).new htL
    have eT0 : upd (upd (upd G0 pe (.tup [])) pt (.tup [.int ((xs.length : Int) - 1), .int 0, .int 1, .ref pe, .int 1])) tL (.lst [.ref pt]) tL = some (.lst [.ref pt]) := upd_same
    have htL0 : H tL = none := (k7.trans ((Kp.refl.new hpe).new hpt)).free htL
    have tA0 : TaskAt (upd (upd (upd G0 pe (.tup [])) pt (.tup [.int ((xs.length : Int) - 1), .int 0, .int 1, .ref pe, .int 1])) tL (.lst [.ref pt])) pt (task0 ns) := by
      refine ⟨pe, ?_, [], ?_, Refs.nil⟩
      · rw [upd_ne (ne_of_none upd_same htL), upd_same, show ((xs.length : Int) - 1) = ((ns.length - 1 : Nat) : Int) by rw [rr.1]; omega]
        rfl
      · have n1 : pe ≠ pt := ne_of_none upd_same hpt
        have n2 : pe ≠ tL := ne_of_none (show upd (upd G0 pe (.tup [])) pt (.tup [.int ((xs.length : Int) - 1), .int 0, .int 1, .ref pe, .int 1]) pe = some (.tup []) by rw [upd_ne n1]; exact upd_same) htL
        rw [upd_ne n2, upd_ne n1]; exact upd_same
    have nST : sL ≠ tL := ne_of_none (((Kp.refl (S := [])).new hpe).new hpt |>.keep _ _ eS0 fun z => nomatch z) htL
    generalize hG1 : upd (upd (upd G0 pe (.tup [])) pt (.tup [.int ((xs.length : Int) - 1), .int 0, .int 1, .ref pe, .int 1])) tL (.lst [.ref pt]) = G1 at k8 eT0 tA0
    refine ⟨fun n σ H' => ∃ (ss : List Stp) (ts : List Task) (sx tx : List V), n = wtT ns ts ∧ Kp [] H H' ∧ H' x = some (.ins (He.ga K "Program") dx (pfs m (needs ns) l')) ∧ H' sL = some (.lst sx) ∧ Refs (StpAt H') sx ss ∧ H' tL = some (.lst tx) ∧ Refs (TaskAt H') tx ts ∧ CInv ns m ss ts ∧
        ∃ v6 v7, σ = [some (.ref a), some (.int m), some (.int (cst ns (ns.length - 1))), some (.ref x), some (.ref sL), some (.ref tL), v6, v7],
      ⟨_, [], [task0 ns], [], [.ref pt], rfl, k7.trans k8, k8.keep _ _ eX0 (fun z => nomatch z), k8.keep _ _ eS0 (fun z => nomatch z), Refs.nil, eT0, Refs.one tA0, CInv.start so m2, none, none, rfl⟩, ?_⟩
    rintro n σ H' ⟨ss, ts, sx, tx, rfl, q1, q2, q3, q4, q5, q6, ci, v6, v7, rfl⟩
    refine ⟨_, rfl, _, .inl ⟨tx, SqL.of q5, rfl⟩, ?_⟩
    obtain ⟨lt, ls⟩ := ci.len so hle
    by_cases hts : ts = []
    · subst hts
      have e0 : tx = [] := List.length_eq_zero_iff.mp q6.1
      subst e0
      refine inn rfl ?_
      refine ⟨_, rfl, _, rfl, x, _, dx, _, _, rfl, q2, T.c_Program, T.n_Program_inputs, pf_i, _, rfl, ?_⟩
      intro y dy ny ndy nyy
      have k9 : Kp [] H' (upd (upd H' dy (.own y)) y (.ins (He.ga K "Program") dy [])) := (Kp.refl.new ndy).new (by rw [upd_ne (Ne.symm nyy)]; exact ny)
      refine ⟨y, dy, sL, sx, ss, m, needs ns, rfl, upd_same, k9.keep _ _ q3 (fun z => nomatch z), q4.imp fun _ _ z => z.kp k9, ci.sok, by omega, ⟨m2, m9⟩, needs_60 so, fun H4 l4 k10 e4 hl4 e4' => ⟨rfl, ?_⟩⟩
      have hy0 : H y = none := q1.free ny
      have k11 : Kp [] H H4 := by
        refine ⟨fun b o e _ => k10.keep b o (k9.keep b o (q1.keep b o e fun z => nomatch z) fun z => nomatch z) fun z => ?_, fun b o e => k10.tup b o (k9.tup b o (q1.tup b o e)), fun b o e => ?_⟩
        · rw [List.mem_singleton.mp z, hy0] at e
          cases e
        · obtain ⟨o1, e1⟩ := q1.there b o e
          obtain ⟨o2, e2⟩ := k9.there b o1 e1
          exact k10.there b o2 e2
      refine k H4 y l4 ss k11 hy0 ((q1.trans k9).free hl4) ⟨dy, e4⟩ ⟨sx, e4', q4.imp fun _ _ z => (z.kp k9).kp k10⟩ ci.sok ls fun g cs hc => ?_
      have e := ci.ef g cs hc
      unfold Task.eff task0 at e
      simp only [fv, Int.mul_one, Int.one_mul] at e
      exact e
    · obtain ⟨rest, tk, rfl⟩ : ∃ rest tk, ts = rest ++ [tk] := ⟨ts.dropLast, ts.getLast hts, (List.dropLast_concat_getLast hts).symm⟩
      have hlen : tx.length = rest.length + 1 := by rw [q6.1, List.length_append]; rfl
      obtain ⟨t, e1, hT⟩ := q6.2 rest.length tk (by rw [List.getElem?_append_right (Nat.le_refl _), Nat.sub_self]; rfl)
      have hne : (!tx.isEmpty) = true := by
        cases tx with
        | nil => cases hlen
        | cons => rfl
      have ko := ci.tok tk (by simp)
      obtain ⟨nd, hnd⟩ : ∃ nd, ns[tk.node]? = some nd := ⟨_, List.getElem?_eq_getElem ko.nd⟩
      obtain ⟨tn, e2, hN⟩ := rr.2 tk.node nd hnd
      have q6r : Refs (TaskAt H') tx.dropLast rest := by
        have z := q6.take rest.length
        rw [List.take_left' rfl] at z
        rw [List.dropLast_eq_take, hlen, Nat.add_sub_cancel]
        exact z
      refine iy hne ⟨fun σ' H'' => ∃ m', m' < wtT ns (rest ++ [tk]) ∧ _, fun σ' H'' z => z, ?_⟩
      refine ⟨_, rfl, .inl ⟨rfl, _, SqL.of q5⟩, tL, tx, .ref t, rfl, rfl, q5, by rw [hlen, Nat.add_sub_cancel]; exact e1, ?_⟩
      have p1 : Kp [] H (upd H' tL (.lst tx.dropLast)) := Kp.mut q1 (.inr htL0) (notT_l q5)
      have pt1 : Kp [tL] H' (upd H' tL (.lst tx.dropLast)) := Kp.mut Kp.refl (.inl mem1) (notT_l q5)
      have p2 : upd H' tL (.lst tx.dropLast) x = some (.ins (He.ga K "Program") dx (pfs m (needs ns) l')) := pt1.keep _ _ q2 fun z => by
        rw [List.mem_singleton.mp z, q5] at q2
        cases q2
      have p3 : upd H' tL (.lst tx.dropLast) sL = some (.lst sx) := by rw [upd_ne nST]; exact q3
      have p5 : upd H' tL (.lst tx.dropLast) tL = some (.lst tx.dropLast) := upd_same
      have p4 := q4.imp (R' := StpAt (upd H' tL (.lst tx.dropLast))) fun _ _ z => z.kp pt1
      have p6 := q6r.imp (R' := TaskAt (upd H' tL (.lst tx.dropLast))) fun _ _ z => z.kp pt1
      have hT1 := hT.kp pt1
      have hN1 := (hN.kp q1).kp pt1
      generalize upd H' tL (.lst tx.dropLast) = G at p1 p2 p3 p4 p5 p6 hT1 hN1
      obtain ⟨f, htt, hff⟩ := id hT1
      refine ⟨_, rfl, _, rfl, _, _, _, _, rfl, rfl, SqT.of htt, at0, _, _, _, _, rfl, rfl, SqT.of (p1.tup _ _ hx), atI_nat e2, ?_⟩
      have leafGo : nd.isLeaf = true → (∀ H5 p, Kp [] G H5 → StpAt H5 p (leaf m tk nd) → (H5 sL = some (.lst sx) ∧ sx.length < sizeLine ∧ ∃ m', m' < wtT ns (rest ++ [tk]) ∧ ∃ (ss : List Stp) (ts : List Task) (sx' tx : List V), m' = wtT ns ts ∧ Kp [] H (upd H5 sL (.lst (sx ++ [.ref p]))) ∧ upd H5 sL (.lst (sx ++ [.ref p])) x = some (.ins (He.ga K "Program") dx (pfs m (needs ns) l')) ∧ upd H5 sL (.lst (sx ++ [.ref p])) sL = some (.lst sx') ∧ Refs (StpAt (upd H5 sL (.lst (sx ++ [.ref p])))) sx' ss ∧ upd H5 sL (.lst (sx ++ [.ref p])) tL = some (.lst tx) ∧ Refs (TaskAt (upd H5 sL (.lst (sx ++ [.ref p])))) tx ts ∧ CInv ns m ss ts ∧
          ∃ v6 v7, [some (V.ref a), some (.int m), some (.int (cst ns (ns.length - 1))), some (.ref x), some (.ref sL), some (.ref tL), some (.ref t), some (.ref tn)] = [some (.ref a), some (.int m), some (.int (cst ns (ns.length - 1))), some (.ref x), some (.ref sL), some (.ref tL), v6, v7])) := fun hl H5 p kk hst => by
        have r3 := kk.keep _ _ p3 fun z => nomatch z
        have kS : Kp [sL] H5 (upd H5 sL (.lst (sx ++ [.ref p]))) := Kp.mut Kp.refl (.inl mem1) (notT_l r3)
        refine ⟨r3, Nat.lt_of_le_of_lt (by rw [q4.1]; exact ls) (by decide : 300 < sizeLine), _, CInv.wt_leaf so hnd, ss ++ [leaf m tk nd], rest, sx ++ [.ref p], tx.dropLast, rfl, Kp.mut (p1.trans kk) (.inr hsL0) (notT_l r3), ?_, upd_same, ?_, ?_, ?_, ci.leaf so m2 hnd hl, _, _, rfl⟩
        · rw [upd_ne nxs]; exact kk.keep _ _ p2 fun z => nomatch z
        · exact Refs.snoc (p4.imp fun _ _ z => (z.kp kk).kp kS) (hst.kp kS)
        · rw [upd_ne (Ne.symm nST)]; exact kk.keep _ _ p5 fun z => nomatch z
        · exact p6.imp fun _ _ z => (z.kp kk).kp kS
      have innerGo : nd.isLeaf = false → (∀ H5 p, Kp [] G H5 → G p = none → LstAt TaskAt H5 p (inner m tk nd) → ∃ (b : Addr) (ys : List V), V.ref p = .ref b ∧ SqL K H5 b ys ∧ ∀ r, H5 r = none → ∃ (l b : Addr) (xs zs : List V), V.ref tL = .ref l ∧ [V.ref r] = [.ref b] ∧ upd H5 r (.lst ys.reverse) l = some (.lst xs) ∧ upd H5 r (.lst ys.reverse) b = some (.lst zs) ∧ xs.length + zs.length ≤ sizeLine ∧
          ∃ m', m' < wtT ns (rest ++ [tk]) ∧ ∃ (ss : List Stp) (ts : List Task) (sx' tx : List V), m' = wtT ns ts ∧ Kp [] H (upd (upd H5 r (.lst ys.reverse)) l (.lst (xs ++ zs))) ∧ upd (upd H5 r (.lst ys.reverse)) l (.lst (xs ++ zs)) x = some (.ins (He.ga K "Program") dx (pfs m (needs ns) l')) ∧ upd (upd H5 r (.lst ys.reverse)) l (.lst (xs ++ zs)) sL = some (.lst sx') ∧ Refs (StpAt (upd (upd H5 r (.lst ys.reverse)) l (.lst (xs ++ zs)))) sx' ss ∧ upd (upd H5 r (.lst ys.reverse)) l (.lst (xs ++ zs)) tL = some (.lst tx) ∧ Refs (TaskAt (upd (upd H5 r (.lst ys.reverse)) l (.lst (xs ++ zs)))) tx ts ∧ CInv ns m ss ts ∧
          ∃ v6 v7, [some (V.ref a), some (.int m), some (.int (cst ns (ns.length - 1))), some (.ref x), some (.ref sL), some (.ref tL), some (.ref t), some (.ref tn)] = [some (.ref a), some (.int m), some (.int (cst ns (ns.length - 1))), some (.ref x), some (.ref sL), some (.ref tL), v6, v7]) := fun hl H5 p kk hp0 ⟨ys, hy, hr5⟩ => by
        refine ⟨p, ys, rfl, SqL.of hy, fun r hr0 => ?_⟩
        have kr : Kp [] H5 (upd H5 r (.lst ys.reverse)) := Kp.refl.new hr0
        have r5 := kr.keep _ _ (kk.keep _ _ p5 fun z => nomatch z) fun z => nomatch z
        have r3 := kr.keep _ _ (kk.keep _ _ p3 fun z => nomatch z) fun z => nomatch z
        have r2 := kr.keep _ _ (kk.keep _ _ p2 fun z => nomatch z) fun z => nomatch z
        have ci2 := ci.inner so m2 hnd hl
        obtain ⟨lt2, _⟩ := ci2.len so hle
        have kT : Kp [tL] (upd H5 r (.lst ys.reverse)) (upd (upd H5 r (.lst ys.reverse)) tL (.lst (tx.dropLast ++ ys.reverse))) := Kp.mut Kp.refl (.inl mem1) (notT_l r5)
        refine ⟨tL, r, _, _, rfl, rfl, r5, upd_same, ?_, _, CInv.wt_inner (m := m) so hnd hl, ss, rest ++ (inner m tk nd).reverse, sx, tx.dropLast ++ ys.reverse, rfl, Kp.mut ((p1.trans kk).trans kr) (.inr htL0) (notT_l r5), ?_, ?_, ?_, upd_same, ?_, ci2, _, _, rfl⟩
        · rw [List.length_reverse, hr5.1, q6r.1]
          rw [List.length_append, List.length_reverse] at lt2
          exact Nat.le_trans lt2 (by decide : 300 ≤ sizeLine)
        · refine kT.keep _ _ r2 fun z => ?_
          rw [List.mem_singleton.mp z, r5] at r2
          cases r2
        · rw [upd_ne nST]; exact r3
        · exact p4.imp fun _ _ z => ((z.kp kk).kp kr).kp kT
        · exact Refs.app (p6.imp fun _ _ z => ((z.kp kk).kp kr).kp kT) (hr5.rev.imp fun _ _ z => (z.kp kr).kp kT)
      have tk1 : Task.Ok m ns.length tk := ko
      have hco : 0 ≤ tk.co ∧ tk.co < m := ⟨ko.c0, ko.c1⟩
      have ndo := so.ok _ _ hnd
      cases nd with
      | const c =>
        refine ⟨_, rfl, _, _, _, _, rfl, rfl, SqT.of hN1, at0, rfl, _, rfl, iy dTrue (ifT ?_)⟩
        refine ⟨_, rfl, .inl ⟨rfl, _, SqL.of p3⟩, _, rfl, _, rfl, _, rfl, tn, t, .const c, tk, m, _, rfl, hN1, hT1, rfl, ndo, ⟨m2, m9⟩, hco, fun H5 p kk hst => ?_⟩
        obtain ⟨r1, r2, r3⟩ := leafGo rfl H5 p kk hst
        exact ⟨sL, sx, _, rfl, rfl, r1, r2, r3⟩
      | inp c =>
        refine ⟨_, rfl, _, _, _, _, rfl, rfl, SqT.of hN1, at0, rfl, _, rfl, inn d1 ⟨_, rfl, _, _, _, _, rfl, rfl, SqT.of hN1, at0, rfl, _, rfl, iy dTrue ?_⟩⟩
        refine ⟨_, rfl, .inl ⟨rfl, _, SqL.of p3⟩, _, rfl, _, rfl, _, rfl, tn, t, .inp c, tk, m, _, rfl, hN1, hT1, rfl, ndo, ⟨m2, m9⟩, hco, fun H5 p kk hst => ?_⟩
        obtain ⟨r1, r2, r3⟩ := leafGo rfl H5 p kk hst
        exact ⟨sL, sx, _, rfl, rfl, r1, r2, r3⟩
      | sum i j =>
        refine ⟨_, rfl, _, _, _, _, rfl, rfl, SqT.of hN1, at0, rfl, _, rfl, inn d2 ⟨_, rfl, _, _, _, _, rfl, rfl, SqT.of hN1, at0, rfl, _, rfl, inn d6 ?_⟩⟩
        refine ⟨_, rfl, .inl ⟨rfl, _, SqL.of p5⟩, _, rfl, _, rfl, _, rfl, tn, t, .sum i j, tk, m, _, _, rfl, hN1, hT1, rfl, ndo, ko, ⟨m2, m9⟩, fun H5 p kk hp0 hl5 => ?_⟩
        exact innerGo rfl H5 p kk hp0 hl5
      | prod i j =>
        refine ⟨_, rfl, _, _, _, _, rfl, rfl, SqT.of hN1, at0, rfl, _, rfl, inn d3 ⟨_, rfl, _, _, _, _, rfl, rfl, SqT.of hN1, at0, rfl, _, rfl, inn d7 ?_⟩⟩
        refine ⟨_, rfl, .inl ⟨rfl, _, SqL.of p5⟩, _, rfl, _, rfl, _, rfl, tn, t, .prod i j, tk, m, _, _, rfl, hN1, hT1, rfl, ndo, ko, ⟨m2, m9⟩, fun H5 p kk hp0 hl5 => ?_⟩
        exact innerGo rfl H5 p kk hp0 hl5
      | scaled i j =>
        refine ⟨_, rfl, _, _, _, _, rfl, rfl, SqT.of hN1, at0, rfl, _, rfl, inn d4 ⟨_, rfl, _, _, _, _, rfl, rfl, SqT.of hN1, at0, rfl, _, rfl, inn d8 ?_⟩⟩
        refine ⟨_, rfl, .inl ⟨rfl, _, SqL.of p5⟩, _, rfl, _, rfl, _, rfl, tn, t, .scaled i j, tk, m, _, _, rfl, hN1, hT1, rfl, ndo, ko, ⟨m2, m9⟩, fun H5 p kk hp0 hl5 => ?_⟩
        exact innerGo rfl H5 p kk hp0 hl5
      | choose i j l =>
        refine ⟨_, rfl, _, _, _, _, rfl, rfl, SqT.of hN1, at0, rfl, _, rfl, inn d5 ⟨_, rfl, _, _, _, _, rfl, rfl, SqT.of hN1, at0, rfl, _, rfl, inn d9 ?_⟩⟩
        refine ⟨_, rfl, .inl ⟨rfl, _, SqL.of p5⟩, _, rfl, _, rfl, _, rfl, tn, t, .choose i j l, tk, m, _, _, rfl, hN1, hT1, rfl, ndo, ko, ⟨m2, m9⟩, fun H5 p kk hp0 hl5 => ?_⟩
        exact innerGo rfl H5 p kk hp0 hl5
end
end BF

namespace BF
open PySem PySem.Spec PyProof.Rows L2
section
variable {P : Program} {w : World} {K : PySem.W.Frag} {mg : Str → Option Value} {base : Heap}
theorem ok_law_mixed (T : Txt K w mg) : Rdy P w K mg base 1 (He.ga K "_law_mixed") P_law_mixed sp_mixed := by
  refine rdy_of T.f_law_mixed sc_law_mixed (fun _ _ _ _ _ _ us hl => match us, hl with | [_, _], _ => rfl) (fun vs H Q E h => ?_) (fun cdv A outer s H vs Q E hr h => ?_)
  · obtain ⟨i, j, rfl, _⟩ := h; rfl
  · obtain ⟨i, j, rfl, k⟩ := h
    refine ⟨_, (pss_cons (ps_set (i := 2) sc_law_mixed.nd rfl (Or.inl rfl) (pe_op op_mod (pe_op op_add (pe_op op_add (pe_op op_mul (pv 0) pe_int) (pe_op op_mul (pv 1) pe_int)) pe_int) pe_int))
(pss_one (ps_ret (pe_op op_mod (pe_op op_add (pe_op op_mul (pv 2) (pe_op op_add (pe_op op_fdiv (pv 2) pe_int) pe_int)) (pv 1)) pe_int)))), ?_⟩
    refine ⟨_, rfl, _, _, rfl, rfl, .inr ⟨by decide, by decide⟩, _, rfl, _, _, rfl, rfl, .inr ⟨by decide, by decide⟩, _, _, rfl, rfl, _, _, rfl, rfl, _, _, rfl, rfl, (by decide : (0 : Int) < 2147483647), ?_⟩
    have h0 := Int.emod_nonneg (i * 48271 + j * 69621 + 12345) (show (2147483647 : Int) ≠ 0 by decide)
    have h1 := Int.emod_lt_of_pos (i * 48271 + j * 69621 + 12345) (show (0 : Int) < 2147483647 by decide)
    refine ⟨_, rfl, _, rfl, _, _, rfl, rfl, ⟨by decide, by decide⟩, _, _, rfl, rfl, _, _, rfl, rfl, .inl ⟨by omega, by omega⟩, _, rfl, _, _, rfl, rfl, _, _, rfl, rfl, (by decide : (0 : Int) < 2147483647), ?_⟩
    exact k _ (Int.emod_nonneg _ (by decide)) (Int.emod_lt_of_pos _ (by decide))
theorem ok_law_numbers (T : Txt K w mg) (R_law_mixed : Rdy P w K mg base 1 (He.ga K "_law_mixed") P_law_mixed sp_mixed) : Rdy P w K mg base 2 (He.ga K "_law_numbers") P_law_numbers (sp_numbers K) := by
  refine rdy_of T.f_law_numbers sc_law_numbers (fun _ _ _ _ _ _ us hl => match us, hl with | [_], _ => rfl) (fun vs H Q E h => ?_) (fun cdv A outer s H vs Q E hr h => ?_)
  · obtain ⟨a, ns, rfl, _⟩ := h; rfl
  · obtain ⟨a, ns, rfl, hs, hl, k⟩ := h
    refine ⟨_, (pss_cons (ps_set (i := 1) sc_law_numbers.nd rfl (Or.inl rfl) (pe_lst pa_nil))
(pss_cons (ps_for PassesOwn.never (by rfl) (pi_list (pv 0)) (pg_name (i := 2) sc_law_numbers.nd rfl (Or.inl rfl))
(pss_one (ps_if (pt_cmpR op_ge (pv 2) (pe_op op_pow pe_int pe_int) (nomark _))
(pss_cons (ps_set (i := 3) sc_law_numbers.nd rfl (Or.inl rfl) (pv 2))
(pss_one (ps_for PassesOwn.never (by rfl) (pi_range1 (by rfl) T.z_range (pa_cons pe_int pa_nil)) (pg_name (i := 4) sc_law_numbers.nd rfl (Or.inl rfl))
(pss_one (ps_if (pt_cmpR op_gt (pv 3) pe_int (nomark _))
(pss_cons (ps_expr (pe_bm PySem.F.plainAttrs_list PySem.F.slot_list_append PySem.F.type_list_append mt_append (pv 1) (pa_cons (pe_op op_mod (pv 3) pe_int) pa_nil)))
(pss_one (ps_set (i := 3) sc_law_numbers.nd rfl (Or.inl rfl) (pe_op op_fdiv (pv 3) pe_int))))
pss_nil)))))
(pss_cons (ps_expr (pe_bm PySem.F.plainAttrs_list PySem.F.slot_list_append PySem.F.type_list_append mt_append (pv 1) (pa_cons (pe_op op_mod (pv 2) pe_int) pa_nil)))
(pss_one (ps_for PassesOwn.never (by rfl) (pi_range1 (by rfl) T.z_range (pa_cons pe_int pa_nil)) (pg_name (i := 4) sc_law_numbers.nd rfl (Or.inl rfl))
(pss_one (ps_expr (pe_bm PySem.F.plainAttrs_list PySem.F.slot_list_append PySem.F.type_list_append mt_append (pv 1) (pa_cons (pe_op op_mod (pe_callR R_law_mixed (hr.mono (by decide)) rfl T.g__law_mixed (pa_cons (pe_callR R_law_mixed (hr.mono (by decide)) rfl T.g__law_mixed (pa_cons (pe_op op_mod (pv 2) pe_int) (pa_cons (pv 4) pa_nil))) (pa_cons (pe_op op_add (pv 4) pe_int) pa_nil))) pe_int) pa_nil))))))))))
(pss_one (ps_ret (pv 1))))), ?_⟩
    refine ⟨Nat.zero_le _, fun N hN => ?_⟩
    have k0 : Kp [] H (upd H N (.lst [])) := Kp.refl.new hN
    have mr : ∀ x : Int, 0 ≤ x % 1000000 ∧ x % 1000000 < 1000000 := fun x => ⟨Int.emod_nonneg _ (by decide), Int.emod_lt_of_pos _ (by decide)⟩
    have sn : ∀ {xs : List Int} {x : Int}, Rng 1000000 xs → Rng 1000000 (xs ++ [x % 1000000]) := fun {xs x} h y hy => by
      rcases List.mem_append.mp hy with hy | hy
      · exact h y hy
      · rw [List.mem_singleton.mp hy]; exact mr x
    have sz : ∀ {xs : List Int} {n : Nat}, xs.length ≤ n → n ≤ 10000 → (vis xs).length < sizeLine := fun {xs n} h h2 => by
      rw [vis_len]
      exact Nat.lt_of_le_of_lt (Nat.le_trans h h2) (by decide)
    refine ⟨_, rfl, a, rfl, ⟨_, k0.seq hs (fun z => nomatch z)⟩, for_list (xs := vis ns) (fun i σ H' => Kp [] H H' ∧ (∃ xs, H' N = some (.lst (vis xs)) ∧ Rng 1000000 xs ∧ xs.length ≤ 60 * i) ∧ ∃ u v x, σ = [some (.ref a), some (.ref N), u, v, x])
      ⟨k0, ⟨[], upd_same, (fun x hx => nomatch hx), Nat.zero_le _⟩, none, none, none, rfl⟩ (fun i σ H' _ ⟨q, _⟩ => q.seq hs (fun z => nomatch z)) ?_ ?_⟩
    · rintro i x σ H' hi ⟨q1, ⟨xs, q2, q3, q4⟩, u, v, y, rfl⟩
      obtain ⟨z, rfl, hz⟩ := vis_at hi
      have hi63 : i < 63 := Nat.lt_of_lt_of_le (List.getElem?_eq_some_iff.mp hz).1 hl
      refine ⟨_, rfl, _, _, rfl, rfl, ⟨by decide, by decide, by decide⟩, _, _, rfl, rfl, _, rfl, ?_⟩
      refine ite2 (fun _ => ?_) (fun _ => ?_)
      · refine ⟨_, rfl, 60, rfl, by decide, by decide, for_range (lo := 0) (n := 60) (fun j σ H' => Kp [] H H' ∧ (∃ xs, H' N = some (.lst (vis xs)) ∧ Rng 1000000 xs ∧ xs.length ≤ 60 * i + j) ∧ ∃ (r : Int) (x : Option V), σ = [some (.ref a), some (.ref N), some (.int z), some (.int r), x])
          ⟨q1, ⟨xs, q2, q3, q4⟩, z, y, rfl⟩ ?_ ?_⟩
        · rintro j σ H2 hj ⟨p1, ⟨ys, p2, p3, p4⟩, r, y, rfl⟩
          refine ⟨_, rfl, _, _, rfl, rfl, _, rfl, ite2 (fun _ => ?_) (fun _ => ?_)⟩
          · refine ⟨_, rfl, .inl ⟨rfl, _, SqL.of p2⟩, _, rfl, _, _, rfl, rfl, (by decide : (0 : Int) < 1000000), N, _, _, rfl, rfl, p2, sz p4 (by omega), ?_⟩
            refine ⟨_, rfl, _, _, rfl, rfl, ⟨by decide, by decide⟩, ?_⟩
            exact ⟨Kp.mut p1 (.inr hN) (notT_l p2), ⟨_, by rw [vis_snoc]; exact upd_same, sn p3, by rw [List.length_append, List.length_singleton]; omega⟩, _, _, rfl⟩
          · exact ⟨p1, ⟨ys, p2, p3, by omega⟩, _, _, rfl⟩
        · rintro σ H2 ⟨p1, ⟨ys, p2, p3, p4⟩, r, y, rfl⟩
          exact ⟨p1, ⟨ys, p2, p3, by omega⟩, _, _, _, rfl⟩
      · refine ⟨_, rfl, .inl ⟨rfl, _, SqL.of q2⟩, _, rfl, _, _, rfl, rfl, (by decide : (0 : Int) < 1000000), N, _, _, rfl, rfl, q2, sz q4 (by omega), ?_⟩
        refine ⟨5, rfl, by decide, by decide, for_range (lo := 0) (n := 5) (fun j σ H' => Kp [] H H' ∧ (∃ xs, H' N = some (.lst (vis xs)) ∧ Rng 1000000 xs ∧ xs.length ≤ 60 * i + 1 + j) ∧ ∃ (x : Option V), σ = [some (.ref a), some (.ref N), some (.int z), v, x])
          ⟨Kp.mut q1 (.inr hN) (notT_l q2), ⟨_, by rw [vis_snoc]; exact upd_same, sn q3, by rw [List.length_append, List.length_singleton]; omega⟩, _, rfl⟩ ?_ ?_⟩
        · rintro j σ H2 hj ⟨p1, ⟨ys, p2, p3, p4⟩, y, rfl⟩
          refine ⟨_, rfl, .inl ⟨rfl, _, SqL.of p2⟩, _, rfl, _, _, rfl, rfl, (by decide : (0 : Int) < 2147483647), _, rfl, _, _, rfl, fun r _ _ => ?_⟩
          refine ⟨_, rfl, _, _, rfl, rfl, _, _, rfl, fun r2 _ _ => ?_⟩
          refine ⟨_, _, rfl, rfl, (by decide : (0 : Int) < 1000000), N, _, _, rfl, rfl, p2, sz p4 (by omega), ?_⟩
          exact ⟨Kp.mut p1 (.inr hN) (notT_l p2), ⟨_, by rw [vis_snoc]; exact upd_same, sn p3, by rw [List.length_append, List.length_singleton]; omega⟩, _, rfl⟩
        · rintro σ H2 ⟨p1, ⟨ys, p2, p3, p4⟩, y, rfl⟩
          exact ⟨p1, ⟨ys, p2, p3, by omega⟩, _, _, _, rfl⟩
    · rintro σ H' ⟨q1, ⟨xs, q2, q3, _⟩, u, v, y, rfl⟩
      exact ⟨_, rfl, k H' N xs q1 hN q2 q3⟩
theorem ok_law_draw (T : Txt K w mg) (R_law_mixed : Rdy P w K mg base 1 (He.ga K "_law_mixed") P_law_mixed sp_mixed) : Rdy P w K mg base 2 (He.ga K "_law_draw") P_law_draw sp_draw := by
  refine rdy_of T.f_law_draw sc_law_draw (fun _ _ _ _ _ _ us hl => match us, hl with | [_], _ => rfl) (fun vs H Q E h => ?_) (fun cdv A outer s H vs Q E hr h => ?_)
  · obtain ⟨d, N, ns, rfl, _⟩ := h; rfl
  · obtain ⟨d, N, ns, rfl, D, k⟩ := h
    obtain ⟨j, hd⟩ := D.d
    have nN := D.ne
    refine ⟨_, (pss_cons (ps_set (i := 1) sc_law_draw.nd rfl (Or.inl rfl) (pe_ix ix_list (pv 0) pe_int (fun _ _ => rfl)))
(pss_cons (ps_asg (pe_op op_add (pv 1) pe_int) (pg_sub (pv 0) pe_int set_list))
(pss_cons (ps_if (pt_cmpR op_lt (pv 1) (pe_callB call_len_seq (by rfl) T.z_len PySem.boot_len (pa_cons (pe_ix ix_list (pv 0) pe_int (fun _ _ => rfl)) pa_nil)) (nomark _))
(pss_one (ps_ret (pe_ix ix_list (pe_ix ix_list (pv 0) pe_int (fun _ _ => rfl)) (pv 1) (fun _ _ => rfl))))
pss_nil)
(pss_cons (ps_set (i := 2) sc_law_draw.nd rfl (Or.inl rfl) (pe_op op_add pe_int (pv 1)))
(pss_cons (ps_if (pt_cmpR op_gt (pe_callB call_len_seq (by rfl) T.z_len PySem.boot_len (pa_cons (pe_ix ix_list (pv 0) pe_int (fun _ _ => rfl)) pa_nil)) pe_int (nomark _))
(pss_one (ps_set (i := 2) sc_law_draw.nd rfl (Or.inl rfl) (pe_op op_add (pv 2) (pe_op op_mul pe_int (pe_ix ix_list (pe_ix ix_list (pv 0) pe_int (fun _ _ => rfl)) pe_int (fun _ _ => rfl))))))
pss_nil)
(pss_one (ps_ret (pe_op op_mod (pe_callR R_law_mixed (hr.mono (by decide)) rfl T.g__law_mixed (pa_cons (pe_callR R_law_mixed (hr.mono (by decide)) rfl T.g__law_mixed (pa_cons (pv 2) (pa_cons (pv 1) pa_nil))) (pa_cons pe_int pa_nil))) pe_int)))))))), ?_⟩
    refine ⟨_, rfl, _, _, _, _, rfl, rfl, SqL.of hd, at1, ?_⟩
    refine ⟨_, rfl, _, _, rfl, rfl, _, rfl, d, _, _, 1, rfl, rfl, hd, ixN_nat (n := 2) (k := 1) (by decide), ?_⟩
    have hd1 : upd H d (.lst [.ref N, .int ((j : Int) + 1)]) d = some (.lst [.ref N, .int ((j : Int) + 1)]) := upd_same
    have hN1 : upd H d (.lst [.ref N, .int ((j : Int) + 1)]) N = some (.lst (vis ns)) := by rw [upd_ne nN]; exact D.n
    have kd : Kp [d] H (upd H d (.lst [.ref N, .int ((j : Int) + 1)])) := Kp.mut Kp.refl (.inl mem1) (notT_l hd)
    have Dn : Draws (upd H d (.lst [.ref N, .int ((j : Int) + 1)])) d N ns := D.next kd ⟨j + 1, by rw [show ((j + 1 : Nat) : Int) = (j : Int) + 1 by omega]; exact hd1⟩
    show tSeq _ _ _ _ (upd H d (.lst [.ref N, .int ((j : Int) + 1)]))
    generalize upd H d (.lst [.ref N, .int ((j : Int) + 1)]) = G at hd1 hN1 kd Dn
    refine ⟨_, rfl, _, rfl, _, _, _, _, rfl, rfl, SqL.of hd1, at0, N, _, rfl, .inl (SqL.of hN1), _, _, rfl, rfl, _, rfl, ?_⟩
    refine ite2 (fun hlt => ?_) (fun _ => ?_)
    · have hj : j < ns.length := by
        have := of_decide_eq_true hlt
        rw [vis_len] at this
        omega
      have r := getD_rng D.r hj
      exact ⟨_, rfl, _, _, _, _, rfl, rfl, SqL.of hd1, at0, _, rfl, _, _, _, _, rfl, rfl, SqL.of hN1, at_vis hj, k G _ kd Dn r.1 r.2⟩
    · refine ⟨_, rfl, _, _, rfl, rfl, ?_⟩
      refine ⟨_, rfl, _, _, _, _, rfl, rfl, SqL.of hd1, at0, N, _, rfl, .inl (SqL.of hN1), _, _, rfl, rfl, _, rfl, ?_⟩
      refine ite2 (fun hlt => ?_) (fun _ => ?_)
      · have hj : 0 < ns.length := by
          have := of_decide_eq_true hlt
          rw [vis_len] at this
          omega
        refine ⟨_, rfl, _, rfl, _, _, _, _, rfl, rfl, SqL.of hd1, at0, _, _, _, _, rfl, rfl, SqL.of hN1, at_vis (i := 0) hj, _, _, rfl, rfl, .inl ⟨by decide, by decide⟩, _, _, rfl, rfl, ?_⟩
        exact ⟨_, rfl, _, rfl, _, _, rfl, fun r _ _ => ⟨_, _, rfl, fun r2 _ _ => ⟨_, _, rfl, rfl, (by decide : (0 : Int) < 1000000), k G _ kd Dn (Int.emod_nonneg _ (by decide)) (Int.emod_lt_of_pos _ (by decide))⟩⟩⟩
      · exact ⟨_, rfl, _, rfl, _, _, rfl, fun r _ _ => ⟨_, _, rfl, fun r2 _ _ => ⟨_, _, rfl, rfl, (by decide : (0 : Int) < 1000000), k G _ kd Dn (Int.emod_nonneg _ (by decide)) (Int.emod_lt_of_pos _ (by decide))⟩⟩⟩
end
end BF

namespace BF
open PySem PySem.Spec PyProof.Rows L2
section
variable {P : Program} {w : World} {K : PySem.W.Frag} {mg : Str → Option Value} {base : Heap}
theorem ok_law_equalI (T : Txt K w mg) : Rdy P w K mg base 1 (He.ga K "_law_equal") P_law_equal sp_equalI := by
  refine rdy_of T.f_law_equal sc_law_equal (fun _ _ _ _ _ _ us hl => match us, hl with | [_, _], _ => rfl) (fun vs H Q E h => ?_) (fun cdv A outer s H vs Q E hr h => ?_)
  · obtain ⟨i, rfl, _⟩ := h; rfl
  · obtain ⟨i, rfl, k⟩ := h
    refine ⟨_, (pss_cons (ps_if (pt_val (pe_callB call_isi (by rfl) T.z_isinstance (by decide +kernel) (pa_cons (pv 1) (pa_cons (pe_bltn (v := .ty "list") (by rfl) T.z_list (by decide +kernel) rfl) pa_nil))))
pss_never
pss_nil)
(pss_cons (ps_if (pt_val (pe_callB call_isi (by rfl) T.z_isinstance (by decide +kernel) (pa_cons (pv 1) (pa_cons (pe_bltn (v := .ty "tuple") (by rfl) T.z_tuple (by decide +kernel) rfl) pa_nil))))
pss_never
pss_nil)
(pss_cons (ps_if (pt_val (pe_callB call_isi (by rfl) T.z_isinstance (by decide +kernel) (pa_cons (pv 1) (pa_cons (pe_bltn (v := .ty "bool") (by rfl) T.z_bool (by decide +kernel) rfl) pa_nil))))
pss_never
pss_nil)
(pss_cons (ps_if (pt_val (pe_callB call_isi (by rfl) T.z_isinstance (by decide +kernel) (pa_cons (pv 1) (pa_cons (pe_bltn (v := .ty "int") (by rfl) T.z_int (by decide +kernel) rfl) pa_nil))))
(pss_one (ps_ret (pe_and (pe_callB call_isi (by rfl) T.z_isinstance (by decide +kernel) (pa_cons (pv 0) (pa_cons (pe_bltn (v := .ty "int") (by rfl) T.z_int (by decide +kernel) rfl) pa_nil))) (pe_and (pe_not (pe_callB call_isi (by rfl) T.z_isinstance (by decide +kernel) (pa_cons (pv 0) (pa_cons (pe_bltn (v := .ty "bool") (by rfl) T.z_bool (by decide +kernel) rfl) pa_nil)))) (pe_one (pe_cmpR op_eq (pv 0) (pv 1) (nomark _)))))))
pss_nil)
pss_never)))), ?_⟩
    refine ⟨_, rfl, _, _, _, _, false, rfl, .ty _, tyi i, kit_ty k_int_list, false, rfl, ifF ?_⟩
    refine ⟨_, rfl, _, _, _, _, false, rfl, .ty _, tyi i, kit_ty k_int_tuple, false, rfl, ifF ?_⟩
    refine ⟨_, rfl, _, _, _, _, false, rfl, .ty _, tyi i, kit_ty k_int_bool, false, rfl, ifF ?_⟩
    refine ⟨_, rfl, _, _, _, _, true, rfl, .ty _, tyi i, kit_ty k_int_int, true, rfl, ifT ?_⟩
    refine ⟨_, rfl, _, _, _, _, true, rfl, .ty _, tyi i, kit_ty k_int_int, true, rfl, ifT ?_⟩
    refine ⟨_, rfl, _, _, _, _, false, rfl, .ty _, tyi i, kit_ty k_int_bool, false, rfl, true, rfl, ifT ?_⟩
    exact ⟨_, rfl, _, rfl, rfl, bT (Q := Q) rfl k⟩
theorem ok_law_all_equal (T : Txt K w mg) (R_law_equal : Rdy P w K mg base 1 (He.ga K "_law_equal") P_law_equal sp_equalI) : Rdy P w K mg base 2 (He.ga K "_law_all_equal") P_law_all_equal sp_all_equal := by
  refine rdy_of T.f_law_all_equal sc_law_all_equal (fun _ _ _ _ _ _ us hl => match us, hl with | [_, _], _ => rfl) (fun vs H Q E h => ?_) (fun cdv A outer s H vs Q E hr h => ?_)
  · obtain ⟨a, b, xs, rfl, _⟩ := h; rfl
  · obtain ⟨a, b, xs, rfl, h1, h2, hl, k⟩ := h
    refine ⟨_, (pss_cons (ps_for PassesOwn.never (by rfl) (pi_range1 (by rfl) T.z_range (pa_cons (pe_callB call_len_seq (by rfl) T.z_len PySem.boot_len (pa_cons (pv 1) pa_nil)) pa_nil)) (pg_name (i := 2) sc_law_all_equal.nd rfl (Or.inl rfl))
(pss_one (ps_if (pt_not (pt_val (pe_callR R_law_equal (hr.mono (by decide)) rfl T.g__law_equal (pa_cons (pe_ix ix_list (pv 0) (pv 2) (fun _ _ => rfl)) (pa_cons (pe_ix ix_list (pv 1) (pv 2) (fun _ _ => rfl)) pa_nil)))))
pss_never
pss_nil)))
(pss_one (ps_ret pe_bl))), ?_⟩
    refine ⟨_, rfl, b, _, rfl, .inl (SqL.of h2), _, rfl, ?_, ?_, for_range (lo := 0) (n := ((vis xs).length : Int).toNat) (fun j σ H' => H' = H ∧ ∃ x, σ = [some (.ref a), some (.ref b), x]) ⟨rfl, none, rfl⟩ ?_ ?_⟩
    · exact Int.natCast_nonneg _
    · rw [vis_len]
      omega
    · rintro j σ H' hj ⟨rfl, v, rfl⟩
      have hj2 : j < xs.length := by rw [vis_len] at hj; omega
      have e0 : (0 : Int) + (j : Int) = (j : Int) := Int.zero_add _
      have e := at_vis hj2
      rw [← e0] at e
      exact ⟨_, rfl, _, rfl, _, _, _, _, rfl, rfl, SqL.of h1, e, _, rfl, _, rfl, _, _, _, _, rfl, rfl, SqL.of h2, e, _, rfl, true, rfl, ifF ⟨rfl, _, rfl⟩⟩
    · rintro σ H' ⟨rfl, v, rfl⟩
      exact k
theorem ok_law_equalL (T : Txt K w mg) (R_law_all_equal : Rdy P w K mg base 2 (He.ga K "_law_all_equal") P_law_all_equal sp_all_equal) : Rdy P w K mg base 3 (He.ga K "_law_equal") P_law_equal sp_all_equal := by
  refine rdy_of T.f_law_equal sc_law_equal (fun _ _ _ _ _ _ us hl => match us, hl with | [_, _], _ => rfl) (fun vs H Q E h => ?_) (fun cdv A outer s H vs Q E hr h => ?_)
  · obtain ⟨a, b, xs, rfl, _⟩ := h; rfl
  · obtain ⟨a, b, xs, rfl, h1, h2, hl, k⟩ := h
    refine ⟨_, (pss_cons (ps_if (pt_val (pe_callB call_isi (by rfl) T.z_isinstance (by decide +kernel) (pa_cons (pv 1) (pa_cons (pe_bltn (v := .ty "list") (by rfl) T.z_list (by decide +kernel) rfl) pa_nil))))
(pss_cons (ps_if (PW.pt (pw_or (pt_not (pt_val (pe_callB call_isi (by rfl) T.z_isinstance (by decide +kernel) (pa_cons (pv 0) (pa_cons (pe_bltn (v := .ty "list") (by rfl) T.z_list (by decide +kernel) rfl) pa_nil))))) (pw_or1 (pt_cmpR op_ne (pe_callB call_len_seq (by rfl) T.z_len PySem.boot_len (pa_cons (pv 0) pa_nil)) (pe_callB call_len_seq (by rfl) T.z_len PySem.boot_len (pa_cons (pv 1) pa_nil)) (nomark _)))))
pss_never
pss_nil)
(pss_one (ps_ret (pe_callR R_law_all_equal (hr.mono (by decide)) rfl T.g__law_all_equal (pa_cons (pv 0) (pa_cons (pv 1) pa_nil))))))
pss_nil)
pss_never), ?_⟩
    refine ⟨_, rfl, _, _, _, _, true, rfl, .ty _, tyl h2, kit_ty k_list_list, true, rfl, ifT ?_⟩
    refine ⟨_, rfl, _, _, _, _, true, rfl, .ty _, tyl h1, kit_ty k_list_list, true, rfl, ifF ?_⟩
    refine ⟨_, rfl, _, _, rfl, .inl (SqL.of h1), _, rfl, _, _, rfl, .inl (SqL.of h2), rfl, _, rfl, inn (ndT rfl) ?_⟩
    exact ⟨_, rfl, _, rfl, a, b, xs, rfl, h1, h2, hl, k⟩
end
end BF

namespace BF
open PySem PySem.Spec PyProof.Rows L2
/-! ### the needs of a source, as a list -/
def nl : List Nd → List Int := List.flatMap fun nd => match nd with | .inp k => [(k : Int) + 1] | _ => []
theorem nl_app (a b : List Nd) : nl (a ++ b) = nl a ++ nl b := List.flatMap_append
theorem nl_len : ∀ ns : List Nd, (nl ns).length ≤ ns.length
  | [] => Nat.le_refl _
  | x :: r => by
    have h := nl_len r
    show (_ ++ nl r).length ≤ r.length + 1
    rw [List.length_append]
    cases x <;> simp <;> omega
theorem nl_mem {ns : List Nd} {x : Int} (h : x ∈ nl ns) : ∃ nd ∈ ns, x = (nd.need : Int) := by
  obtain ⟨nd, h1, h2⟩ := List.mem_flatMap.mp h
  refine ⟨nd, h1, ?_⟩
  cases nd <;> simp [Nd.need] at h2 ⊢
  exact h2
theorem foldl_max_mem : ∀ (l : List Nd) (a : Nat), l.foldl (fun a nd => max a nd.need) a = a ∨ ∃ nd ∈ l, l.foldl (fun a nd => max a nd.need) a = nd.need
  | [], a => .inl rfl
  | x :: r, a => by
    rcases foldl_max_mem r (max a x.need) with h | ⟨nd, h1, h2⟩
    · show r.foldl _ (max a x.need) = a ∨ _
      by_cases c : a ≤ x.need
      · exact .inr ⟨x, List.mem_cons_self .., h.trans (Nat.max_eq_right c)⟩
      · exact .inl (h.trans (Nat.max_eq_left (by omega)))
    · exact .inr ⟨nd, List.mem_cons_of_mem _ h1, h2⟩
theorem needs_max {ns : List Nd} {m : Int} (h1 : m ∈ (0 : Int) :: nl ns) (h2 : ∀ y ∈ (0 : Int) :: nl ns, y ≤ m) : m = (needs ns : Nat) := by
  have a1 : m ≤ (needs ns : Nat) := by
    rcases List.mem_cons.mp h1 with e | e
    · omega
    · obtain ⟨nd, h3, rfl⟩ := nl_mem e
      have := need_le h3
      omega
  have a2 : ((needs ns : Nat) : Int) ≤ m := by
    rcases foldl_max_mem ns 0 with e | ⟨nd, h3, e⟩
    · have : needs ns = 0 := e
      have := h2 0 (List.mem_cons_self ..)
      omega
    · have e' : needs ns = nd.need := e
      by_cases c : nd.need = 0
      · have := h2 0 (List.mem_cons_self ..)
        omega
      · refine h2 _ (List.mem_cons_of_mem _ (List.mem_flatMap.mpr ⟨nd, h3, ?_⟩))
        rw [e']
        cases nd <;> simp [Nd.need] at c ⊢
  omega
theorem sq_nat {n k : Nat} (h : k < n) : seqIndex? (k : Int) n = some k := by
  unfold seqIndex?
  have h1 : ¬ ((k : Int) < 0) := by omega
  simp only [h1, if_false]
  rw [if_pos (by simp; omega)]
  rfl
theorem vns_erase : ∀ (l : List Nat) (j : Nat), (vns l).eraseIdx j = vns (l.eraseIdx j)
  | [], _ => rfl
  | _ :: _, 0 => rfl
  | x :: r, j + 1 => congrArg (V.int (x : Int) :: ·) (vns_erase r j)
theorem erase_perm {α : Type} {l : List α} {j : Nat} (h : j < l.length) : (l[j] :: l.eraseIdx j).Perm l := by
  have e : l = l.take j ++ l[j] :: l.drop (j + 1) := by
    conv => lhs; rw [← List.take_append_drop j l, List.drop_eq_getElem_cons h]
  rw [List.eraseIdx_eq_take_drop_succ]
  conv => rhs; rw [e]
  exact List.perm_middle.symm
theorem take_succ_at {α : Type} {l : List α} {i : Nat} {x : α} (h : l[i]? = some x) : l.take (i + 1) = l.take i ++ [x] := by rw [List.take_add_one, h]; rfl
section
variable {P : Program} {w : World} {K : PySem.W.Frag} {mg : Str → Option Value} {base : Heap}
theorem ok_law_needs (T : Txt K w mg) : Rdy P w K mg base 1 (He.ga K "_law_needs") P_law_needs sp_law_needs := by
  refine rdy_of T.f_law_needs sc_law_needs (fun _ _ _ _ _ _ us hl => match us, hl with | [_], _ => rfl) (fun vs H Q E h => ?_) (fun cdv A outer s H vs Q E hr h => ?_)
  · obtain ⟨a, ns, rfl, _⟩ := h; rfl
  · obtain ⟨a, ns, rfl, ⟨xs, hx, rr⟩, hl, k⟩ := h
    refine ⟨_, (pss_one (ps_ret (pe_callB (cr_max rfl) (by rfl) T.z_max (by decide +kernel) (pa_cons (pe_op op_cat (pe_lst (pa_cons pe_int pa_nil)) (pe_lc (own := [("_law_node", 1)]) (g := gName 1) (tt := tTest (tOp rEq (tOp (rIxT K) (tVar 1) (tC (.int 0))) (tC (.str "input")))) (te := tOp (rI0 fun i j => .int (i + j)) (tOp (rIxT K) (tVar 1) (tC (.int 1))) (tC (.int 1))) (by rfl) sc_law_needs.nd (pi_tup (pv 0)) (blkOk_by (N := N_law_needs) (sc := defScope s_law_needs) (by decide +kernel)) (fun _ _ _ _ _ => (pg_name (i := 1) sc_law_needs.nd rfl (Or.inl rfl))) (fun _ _ _ _ _ => pts_one (pt_cmpR op_eq (pe_ix ix_tup (pv 1) pe_int (fun _ _ => rfl)) pe_str (nomark _))) (fun _ _ _ _ _ => (pe_op op_add (pe_ix ix_tup (pv 1) pe_int (fun _ _ => rfl)) pe_int)))) pa_nil)))), ?_⟩
    refine ⟨by show 1 ≤ sizeLine; decide, fun z hz => ?_⟩
    have k0 : Kp [] H (upd H z (.lst [.int 0])) := Kp.refl.new hz
    have ez : upd H z (.lst [.int 0]) z = some (.lst [.int 0]) := upd_same
    generalize upd H z (.lst [.int 0]) = G at k0 ez
    refine ⟨_, rfl, a, rfl, ⟨_, SqT.of (k0.tup _ _ hx)⟩, fun c hc => lc_tup (K := K) (a := a) (xs := xs) (fun i H' => Kp [] G H' ∧ H' c = some (.lst (vis (nl (ns.take i)))))
      ⟨Kp.refl.new hc, by rw [List.take_zero]; exact upd_same⟩ (fun i H' _ ⟨q, _⟩ => SqT.of (q.tup _ _ (k0.tup _ _ hx))) ?_ ?_⟩
    · rintro i x H' hi ⟨q1, q2⟩
      obtain ⟨t, nd, rfl, h3, h4⟩ := rr.at_ hi
      have h4' := (h4.kp k0).kp q1
      have hil := (List.getElem?_eq_some_iff.mp h3).1
      have lln : (vis (nl (ns.take i))).length < sizeLine := by
        rw [vis_len]
        have e := nl_len (ns.take i)
        rw [List.length_take] at e
        exact Nat.lt_of_le_of_lt (show _ ≤ 200 by omega) (by decide)
      have e2 : nl (ns.take (i + 1)) = nl (ns.take i) ++ nl [nd] := by rw [take_succ_at h3, nl_app]
      have fin : ∀ (e : nl [nd] = []), Kp [] G H' ∧ H' c = some (.lst (vis (nl (ns.take (i + 1))))) := fun e => ⟨q1, by rw [e2, e, List.append_nil]; exact q2⟩
      cases nd with
      | inp j =>
        refine ⟨rfl, _, rfl, _, _, _, _, rfl, rfl, SqT.of h4', at0, rfl, _, rfl, iy dTrue ?_⟩
        refine ⟨_, rfl, _, _, _, _, rfl, rfl, SqT.of h4', at1, _, _, rfl, rfl, _, q2, lln, Kp.mut q1 (.inr hc) (notT_l q2), ?_⟩
        rw [e2, vis_snoc]
        exact upd_same
      | const c => exact ⟨rfl, _, rfl, _, _, _, _, rfl, rfl, SqT.of h4', at0, rfl, _, rfl, inn d20 (fin rfl)⟩
      | sum p q => exact ⟨rfl, _, rfl, _, _, _, _, rfl, rfl, SqT.of h4', at0, rfl, _, rfl, inn d6 (fin rfl)⟩
      | prod p q => exact ⟨rfl, _, rfl, _, _, _, _, rfl, rfl, SqT.of h4', at0, rfl, _, rfl, inn d7 (fin rfl)⟩
      | scaled p q => exact ⟨rfl, _, rfl, _, _, _, _, rfl, rfl, SqT.of h4', at0, rfl, _, rfl, inn d8 (fin rfl)⟩
      | choose p q r => exact ⟨rfl, _, rfl, _, _, _, _, rfl, rfl, SqT.of h4', at0, rfl, _, rfl, inn d9 (fin rfl)⟩
    · rintro H' ⟨q1, q2⟩
      rw [show ns.take xs.length = ns by rw [rr.1]; exact List.take_length] at q2
      refine ⟨z, c, _, _, rfl, rfl, q1.keep _ _ ez (fun z => nomatch z), q2, ?_, fun p hp => ?_⟩
      · have e := nl_len ns
        rw [vis_len]
        exact Nat.le_trans (show _ ≤ 201 by show 1 + _ ≤ 201; omega) (by decide)
      · refine ⟨p, 0 :: nl ns, rfl, SqL.of upd_same, by simp, fun m h1 h2 => ?_⟩
        rw [needs_max h1 h2]
        exact k _ ((k0.trans q1).new hp)
theorem ok_law_meaning (T : Txt K w mg) : Rdy P w K mg base 1 (He.ga K "_law_meaning") P_law_meaning sp_meaning := by
  refine rdy_of T.f_law_meaning sc_law_meaning (fun _ _ _ _ _ _ us hl => match us, hl with | [_, _, _], _ => rfl) (fun vs H Q E h => ?_) (fun cdv A outer s H vs Q E hr h => ?_)
  · obtain ⟨a, g, ns, m, given, rfl, _⟩ := h; rfl
  · obtain ⟨a, g, ns, m, given, rfl, hs, so, ⟨m2, m9⟩, hg, hgl, hgr, k⟩ := h
    obtain ⟨xs, hx, rr⟩ := hs
    have hpos : 0 < m := by omega
    refine ⟨_, (pss_cons (ps_set (i := 3) sc_law_meaning.nd rfl (Or.inl rfl) (pe_lst pa_nil))
(pss_cons (ps_for PassesOwn.never (by rfl) (pi_tup (pv 0)) (pg_name (i := 4) sc_law_meaning.nd rfl (Or.inl rfl))
(pss_one (ps_if (pt_cmpR op_eq (pe_ix ix_tup (pv 4) pe_int (fun _ _ => rfl)) pe_str (nomark _))
(pss_one (ps_expr (pe_bm PySem.F.plainAttrs_list PySem.F.slot_list_append PySem.F.type_list_append mt_append (pv 3) (pa_cons (pe_op op_mod (pe_ix ix_tup (pv 4) pe_int (fun _ _ => rfl)) (pv 1)) pa_nil))))
(pss_one (ps_if (pt_cmpR op_eq (pe_ix ix_tup (pv 4) pe_int (fun _ _ => rfl)) pe_str (nomark _))
(pss_one (ps_expr (pe_bm PySem.F.plainAttrs_list PySem.F.slot_list_append PySem.F.type_list_append mt_append (pv 3) (pa_cons (pe_ix ix_list (pv 2) (pe_ix ix_tup (pv 4) pe_int (fun _ _ => rfl)) (fun _ _ => rfl)) pa_nil))))
(pss_one (ps_if (pt_cmpR op_eq (pe_ix ix_tup (pv 4) pe_int (fun _ _ => rfl)) pe_str (nomark _))
(pss_one (ps_expr (pe_bm PySem.F.plainAttrs_list PySem.F.slot_list_append PySem.F.type_list_append mt_append (pv 3) (pa_cons (pe_op op_mod (pe_op op_add (pe_ix ix_list (pv 3) (pe_ix ix_tup (pv 4) pe_int (fun _ _ => rfl)) (fun _ _ => rfl)) (pe_ix ix_list (pv 3) (pe_ix ix_tup (pv 4) pe_int (fun _ _ => rfl)) (fun _ _ => rfl))) (pv 1)) pa_nil))))
(pss_one (ps_if (pt_cmpR op_eq (pe_ix ix_tup (pv 4) pe_int (fun _ _ => rfl)) pe_str (nomark _))
(pss_one (ps_expr (pe_bm PySem.F.plainAttrs_list PySem.F.slot_list_append PySem.F.type_list_append mt_append (pv 3) (pa_cons (pe_op op_mod (pe_op op_mul (pe_ix ix_list (pv 3) (pe_ix ix_tup (pv 4) pe_int (fun _ _ => rfl)) (fun _ _ => rfl)) (pe_ix ix_list (pv 3) (pe_ix ix_tup (pv 4) pe_int (fun _ _ => rfl)) (fun _ _ => rfl))) (pv 1)) pa_nil))))
(pss_one (ps_if (pt_cmpR op_eq (pe_ix ix_tup (pv 4) pe_int (fun _ _ => rfl)) pe_str (nomark _))
(pss_one (ps_expr (pe_bm PySem.F.plainAttrs_list PySem.F.slot_list_append PySem.F.type_list_append mt_append (pv 3) (pa_cons (pe_op op_mod (pe_op op_mul (pe_ix ix_tup (pv 4) pe_int (fun _ _ => rfl)) (pe_ix ix_list (pv 3) (pe_ix ix_tup (pv 4) pe_int (fun _ _ => rfl)) (fun _ _ => rfl))) (pv 1)) pa_nil))))
(pss_cons (ps_set (i := 5) sc_law_meaning.nd rfl (Or.inl rfl) (pe_ix ix_list (pv 3) (pe_ix ix_tup (pv 4) pe_int (fun _ _ => rfl)) (fun _ _ => rfl)))
(pss_one (ps_expr (pe_bm PySem.F.plainAttrs_list PySem.F.slot_list_append PySem.F.type_list_append mt_append (pv 3) (pa_cons (pe_op op_mod (pe_op op_sub (pe_op op_add (pe_ix ix_list (pv 3) (pe_ix ix_tup (pv 4) pe_int (fun _ _ => rfl)) (fun _ _ => rfl)) (pe_op op_mul (pv 5) (pe_ix ix_list (pv 3) (pe_ix ix_tup (pv 4) pe_int (fun _ _ => rfl)) (fun _ _ => rfl)))) (pe_op op_mul (pv 5) (pe_ix ix_list (pv 3) (pe_ix ix_tup (pv 4) pe_int (fun _ _ => rfl)) (fun _ _ => rfl)))) (pv 1)) pa_nil))))))))))))))))
(pss_one (ps_ret (pe_ix ix_list (pv 3) (pe_op op_sub (pe_callB call_len_seq (by rfl) T.z_len PySem.boot_len (pa_cons (pv 3) pa_nil)) pe_int) (fun _ _ => rfl)))))), ?_⟩
    refine ⟨Nat.zero_le _, fun c hc => ?_⟩
    have k2 : Kp [] H (upd H c (.lst [])) := Kp.refl.new hc
    refine ⟨_, rfl, a, rfl, ⟨_, SqT.of (k2.tup _ _ hx)⟩, for_tup (xs := xs) (fun i σ H' => Kp [] H H' ∧ H' c = some (.lst (vis (vals m given (ns.take i)))) ∧ Rng m (vals m given (ns.take i)) ∧ ∃ u v, σ = [some (.ref a), some (.int m), some (.ref g), some (.ref c), u, v])
      ⟨k2, by rw [List.take_zero]; exact upd_same, by rw [List.take_zero]; exact (fun x hx => nomatch hx), none, none, rfl⟩ (fun i σ H' _ ⟨e, _⟩ => SqT.of (e.tup _ _ hx)) ?_ ?_⟩
    · rintro i x σ H' hi ⟨q1, q2, q3, u, v, rfl⟩
      obtain ⟨t, nd, rfl, h3, h4⟩ := rr.at_ hi
      have h4' := h4.kp q1
      have hg' := q1.keep _ _ hg (fun z => nomatch z)
      have hil := (List.getElem?_eq_some_iff.mp h3).1
      have ho := so.ok i nd h3
      have hneed : nd.need ≤ given.length := by rw [hgl]; exact need_le (List.mem_of_getElem? h3)
      have len : (vals m given (ns.take i)).length = i := by unfold vals; rw [scan_len, List.length_take]; omega
      have e2 : vals m given (ns.take (i + 1)) = vals m given (ns.take i) ++ [nd.nval m given (vals m given (ns.take i))] := by rw [take_succ_at h3]; exact scan_snoc _ _ _
      have lt : ∀ j, j < i → j < (vals m given (ns.take i)).length := fun j hj => by rw [len]; exact hj
      have sm : ∀ j, j < i → -(2 ^ 64) < (vals m given (ns.take i)).getD j 0 ∧ (vals m given (ns.take i)).getD j 0 < 2 ^ 64 := fun j hj => small64' (getD_rng q3 (lt j hj)) m9
      have lln : (vis (vals m given (ns.take i))).length < sizeLine := by rw [vis_len, len]; exact Nat.lt_of_lt_of_le (Nat.lt_of_lt_of_le hil so.le) (by decide)
      have fin : ∀ (z : Int) (v : Option V), z = nd.nval m given (vals m given (ns.take i)) → (0 ≤ z ∧ z < m) → (Kp [] H (upd H' c (.lst (vis (vals m given (ns.take i)) ++ [.int z]))) ∧ upd H' c (.lst (vis (vals m given (ns.take i)) ++ [.int z])) c = some (.lst (vis (vals m given (ns.take (i + 1))))) ∧ Rng m (vals m given (ns.take (i + 1))) ∧ ∃ u w, [some (V.ref a), some (.int m), some (.ref g), some (.ref c), some (.ref t), v] = [some (.ref a), some (.int m), some (.ref g), some (.ref c), u, w]) := fun z v e hz =>
        ⟨Kp.mut q1 (.inr hc) (notT_l q2), by rw [e, e2, vis_snoc]; exact upd_same, fun x hx => by
          rw [e2, ← e] at hx
          rcases List.mem_append.mp hx with hx | hx
          · exact q3 x hx
          · rw [List.mem_singleton.mp hx]; exact hz, _, _, rfl⟩
      have mr : ∀ z : Int, 0 ≤ z % m ∧ z % m < m := mod_rng m2
      cases nd with
      | const z =>
        refine ⟨_, rfl, _, _, _, _, rfl, rfl, SqT.of h4', at0, rfl, _, rfl, iy dTrue ?_⟩
        exact ⟨_, rfl, .inl ⟨rfl, _, SqL.of q2⟩, _, rfl, _, _, _, _, rfl, rfl, SqT.of h4', at1, _, rfl, _, _, rfl, rfl, hpos, c, _, _, rfl, rfl, q2, lln, fin _ _ rfl (mr _)⟩
      | inp j =>
        have hj : j < given.length := by simp only [Nd.need] at hneed; omega
        refine ⟨_, rfl, _, _, _, _, rfl, rfl, SqT.of h4', at0, rfl, _, rfl, inn d1 ⟨_, rfl, _, _, _, _, rfl, rfl, SqT.of h4', at0, rfl, _, rfl, iy dTrue ?_⟩⟩
        exact ⟨_, rfl, .inl ⟨rfl, _, SqL.of q2⟩, _, rfl, _, rfl, _, _, _, _, rfl, rfl, SqT.of h4', at1, _, _, _, _, rfl, rfl, SqL.of hg', at_vis hj, c, _, _, rfl, rfl, q2, lln, fin _ _ rfl (getD_rng hgr hj)⟩
      | sum p q =>
        refine ⟨_, rfl, _, _, _, _, rfl, rfl, SqT.of h4', at0, rfl, _, rfl, inn d2 ⟨_, rfl, _, _, _, _, rfl, rfl, SqT.of h4', at0, rfl, _, rfl, inn d6 ?_⟩⟩
        refine ⟨_, rfl, _, _, _, _, rfl, rfl, SqT.of h4', at0, rfl, _, rfl, iy dTrue ?_⟩
        exact ⟨_, rfl, .inl ⟨rfl, _, SqL.of q2⟩, _, rfl, _, rfl, _, _, _, _, rfl, rfl, SqT.of h4', at1, _, _, _, _, rfl, rfl, SqL.of q2, at_vis (lt p ho.1), _, rfl, _, rfl, _, _, _, _, rfl, rfl, SqT.of h4', at2, _, _, _, _, rfl, rfl, SqL.of q2, at_vis (lt q ho.2), _, _, rfl, rfl, _, rfl, _, _, rfl, rfl, hpos, c, _, _, rfl, rfl, q2, lln, fin _ _ rfl (mr _)⟩
      | prod p q =>
        refine ⟨_, rfl, _, _, _, _, rfl, rfl, SqT.of h4', at0, rfl, _, rfl, inn d3 ⟨_, rfl, _, _, _, _, rfl, rfl, SqT.of h4', at0, rfl, _, rfl, inn d7 ?_⟩⟩
        refine ⟨_, rfl, _, _, _, _, rfl, rfl, SqT.of h4', at0, rfl, _, rfl, inn d13 ?_⟩
        refine ⟨_, rfl, _, _, _, _, rfl, rfl, SqT.of h4', at0, rfl, _, rfl, iy dTrue ?_⟩
        exact ⟨_, rfl, .inl ⟨rfl, _, SqL.of q2⟩, _, rfl, _, rfl, _, _, _, _, rfl, rfl, SqT.of h4', at1, _, _, _, _, rfl, rfl, SqL.of q2, at_vis (lt p ho.1), _, rfl, _, rfl, _, _, _, _, rfl, rfl, SqT.of h4', at2, _, _, _, _, rfl, rfl, SqL.of q2, at_vis (lt q ho.2), _, _, rfl, rfl, .inr (sm q ho.2), _, rfl, _, _, rfl, rfl, hpos, c, _, _, rfl, rfl, q2, lln, fin _ _ rfl (mr _)⟩
      | scaled z j =>
        refine ⟨_, rfl, _, _, _, _, rfl, rfl, SqT.of h4', at0, rfl, _, rfl, inn d4 ⟨_, rfl, _, _, _, _, rfl, rfl, SqT.of h4', at0, rfl, _, rfl, inn d8 ?_⟩⟩
        refine ⟨_, rfl, _, _, _, _, rfl, rfl, SqT.of h4', at0, rfl, _, rfl, inn d18 ?_⟩
        refine ⟨_, rfl, _, _, _, _, rfl, rfl, SqT.of h4', at0, rfl, _, rfl, inn d19 ?_⟩
        refine ⟨_, rfl, _, _, _, _, rfl, rfl, SqT.of h4', at0, rfl, _, rfl, iy dTrue ?_⟩
        exact ⟨_, rfl, .inl ⟨rfl, _, SqL.of q2⟩, _, rfl, _, _, _, _, rfl, rfl, SqT.of h4', at1, _, rfl, _, rfl, _, _, _, _, rfl, rfl, SqT.of h4', at2, _, _, _, _, rfl, rfl, SqL.of q2, at_vis (lt j ho.2), _, _, rfl, rfl, .inr (sm j ho.2), _, rfl, _, _, rfl, rfl, hpos, c, _, _, rfl, rfl, q2, lln, fin _ _ rfl (mr _)⟩
      | choose p q r =>
        refine ⟨_, rfl, _, _, _, _, rfl, rfl, SqT.of h4', at0, rfl, _, rfl, inn d5 ⟨_, rfl, _, _, _, _, rfl, rfl, SqT.of h4', at0, rfl, _, rfl, inn d9 ?_⟩⟩
        refine ⟨_, rfl, _, _, _, _, rfl, rfl, SqT.of h4', at0, rfl, _, rfl, inn d14 ?_⟩
        refine ⟨_, rfl, _, _, _, _, rfl, rfl, SqT.of h4', at0, rfl, _, rfl, inn d15 ?_⟩
        refine ⟨_, rfl, _, _, _, _, rfl, rfl, SqT.of h4', at0, rfl, _, rfl, inn d12 ?_⟩
        refine ⟨_, rfl, _, rfl, _, _, _, _, rfl, rfl, SqT.of h4', at1, _, _, _, _, rfl, rfl, SqL.of q2, at_vis (lt p ho.1), ?_⟩
        refine ⟨_, rfl, .inl ⟨rfl, _, SqL.of q2⟩, _, rfl, _, rfl, _, _, _, _, rfl, rfl, SqT.of h4', at3, _, _, _, _, rfl, rfl, SqL.of q2, at_vis (lt r ho.2.2), _, rfl, _, rfl, _, rfl, _, _, _, _, rfl, rfl, SqT.of h4', at2, _, _, _, _, rfl, rfl, SqL.of q2, at_vis (lt q ho.2.1), _, _, rfl, rfl, .inr (sm q ho.2.1), _, _, rfl, rfl, ?_⟩
        exact ⟨_, rfl, _, rfl, _, rfl, _, _, _, _, rfl, rfl, SqT.of h4', at3, _, _, _, _, rfl, rfl, SqL.of q2, at_vis (lt r ho.2.2), _, _, rfl, rfl, .inr (sm r ho.2.2), _, _, rfl, rfl, _, rfl, _, _, rfl, rfl, hpos, c, _, _, rfl, rfl, q2, lln, fin _ _ rfl (mr _)⟩
    · rintro σ H' ⟨q1, q2, q3, u, v, rfl⟩
      rw [show ns.take xs.length = ns by rw [rr.1]; exact List.take_length] at q2 q3
      have ll : (vals m given ns).length = ns.length := scan_len _ _
      have h1 := so.ne
      have e : ((((vis (vals m given ns)).length : Nat) : Int) - 1) = ((ns.length - 1 : Nat) : Int) := by rw [vis_len, ll]; omega
      refine ⟨_, rfl, _, rfl, _, _, rfl, .inl (SqL.of q2), _, _, rfl, rfl, _, _, _, _, rfl, rfl, SqL.of q2, ?_, k _ q1⟩
      rw [e]
      exact at_vis (by omega)
theorem ok_law_places (T : Txt K w mg) (R_law_draw : Rdy P w K mg base 2 (He.ga K "_law_draw") P_law_draw sp_draw) : Rdy P w K mg base 3 (He.ga K "_law_places") P_law_places sp_places := by
  refine rdy_of T.f_law_places sc_law_places (fun _ _ _ _ _ _ us hl => match us, hl with | [_, _], _ => rfl) (fun vs H Q E h => ?_) (fun cdv A outer s H vs Q E hr h => ?_)
  · obtain ⟨d, N, ns, sz, rfl, _⟩ := h; rfl
  · obtain ⟨d, N, ns, sz, rfl, D, ⟨s3, s6⟩, k⟩ := h
    refine ⟨_, (pss_cons (ps_set (i := 2) sc_law_places.nd rfl (Or.inr rfl) (pe_lc (own := [("_law_k", 3)]) (g := gName 3) (tt := tYes) (by rfl) sc_law_places.nd (pi_range1 (by rfl) T.z_range (pa_cons (pv 1) pa_nil)) (blkOk_by (N := N_law_places) (sc := defScope s_law_places) (by decide +kernel)) (fun _ _ _ _ _ => (pg_name (i := 3) sc_law_places.nd rfl (Or.inl rfl))) (fun _ _ _ _ _ => pts_nil) (fun _ _ _ _ _ => (pv 3))))
(pss_one (ps_ret (pe_lc (own := [("_law_k", 3)]) (g := gName 3) (tt := tYes) (te := tBM K "list" rPopAt (tVar 2) (tCons (tOp (rI (fun _ j => 0 < j) fun i j => .int (i % j)) (tCl sp_draw (tCons (tVar 0) tNil)) (tCB (fun xs H Q => ∃ p ys, xs = [.ref p] ∧ (SqL K H p ys ∨ SqT K H p ys) ∧ Q (.int ys.length) H) (tCons (tVar 2) tNil))) tNil)) (by rfl) sc_law_places.nd (pi_range1 (by rfl) T.z_range (pa_cons pe_int pa_nil)) (blkOk_by (N := N_law_places) (sc := defScope s_law_places) (by decide +kernel)) (fun _ _ _ _ _ => (pg_name (i := 3) sc_law_places.nd rfl (Or.inl rfl))) (fun _ _ _ _ _ => pts_nil) (fun _ _ _ _ _ => (pe_bm PySem.F.plainAttrs_list PySem.F.slot_list_pop PySem.F.type_list_pop mt_popAt (pv 2) (pa_cons (pe_op op_mod (pe_callR R_law_draw (hr.mono (by decide)) rfl T.g__law_draw (pa_cons (pv 0) pa_nil)) (pe_callB call_len_seq (by rfl) T.z_len PySem.boot_len (pa_cons (pv 2) pa_nil))) pa_nil))))))), ?_⟩
    refine ⟨_, rfl, sz, rfl, Int.natCast_nonneg _, by omega, fun l hl => lc_range (lo := 0) (n := ((sz : Nat) : Int).toNat) (fun i H' => H' = upd H l (.lst (vns (List.range i)))) rfl ?_ ?_⟩
    · rintro i H' hi rfl
      refine ⟨rfl, _, rfl, vns (List.range i), upd_same, ?_, ?_⟩
      · rw [vns_len, List.length_range]
        exact Nat.lt_of_lt_of_le (show i < 100 by omega) (by decide)
      · rw [upd_upd, List.range_succ, ← vns_snoc, Int.zero_add]
    · rintro H' rfl
      have k1 : Kp [d] H (upd H l (.lst (vns (List.range ((sz : Nat) : Int).toNat)))) := Kp.refl.new hl
      have D1 : Draws (upd H l (.lst (vns (List.range ((sz : Nat) : Int).toNat)))) d N ns := D.kp (Kp.refl.new (S := []) hl) (fun z => nomatch z) (fun z => nomatch z)
      have el : upd H l (.lst (vns (List.range ((sz : Nat) : Int).toNat))) l = some (.lst (vns (List.range ((sz : Nat) : Int).toNat))) := upd_same
      have nld : l ≠ d := fun e => by
        obtain ⟨j, hd⟩ := D.d
        rw [← e, hl] at hd
        cases hd
      show tSeq _ _ _ _ (upd H l (.lst (vns (List.range ((sz : Nat) : Int).toNat))))
      generalize upd H l (.lst (vns (List.range ((sz : Nat) : Int).toNat))) = G at k1 D1 el
      refine ⟨3, rfl, by decide, by decide, fun p hp => lc_range (lo := 0) (n := 3) (fun i H' => Kp [d] H H' ∧ Draws H' d N ns ∧ ∃ (left acc : List Nat), H' l = some (.lst (vns left)) ∧ H' p = some (.lst (vns acc)) ∧ left.length + i = sz ∧ acc.length = i ∧ (acc ++ left).Nodup ∧ ∀ x ∈ acc ++ left, x < sz)
        ⟨k1.new hp, D1.kp (Kp.refl.new (S := []) hp) (fun z => nomatch z) (fun z => nomatch z), List.range sz, [], ?_, upd_same, ?_, rfl, ?_, ?_⟩ ?_ ?_⟩
      · rw [upd_ne (ne_of_none el hp)]; exact el
      · exact List.length_range
      · exact List.nodup_range
      · exact fun x hx => List.mem_range.mp hx
      · rintro i H' hi ⟨q1, q2, left, acc, q3, q4, q5, q6, q7, q8⟩
        refine ⟨rfl, _, rfl, .inl ⟨rfl, _, SqL.of q3⟩, _, rfl, d, N, ns, rfl, q2, fun H2 x k2 D2 x0 x1 => ?_⟩
        have h3 := k2.keep _ _ q3 (fun z => nld (List.mem_singleton.mp z))
        have hpos : 0 < (left.length : Int) := by omega
        have npd : p ≠ d := ne_of q4 (q2.d.choose_spec) (fun e => by
          have q' : vns acc = [.ref N, .int _] := HO.lst.inj e
          cases acc with
          | nil => cases q'
          | cons y r =>
            have q3 : V.int (y : Int) = V.ref N := List.head_eq_of_cons_eq q'
            cases q3)
        have h4 := k2.keep _ _ q4 (fun z => npd (List.mem_singleton.mp z))
        have m0 := Int.emod_nonneg x (show (left.length : Int) ≠ 0 by omega)
        have m1 := Int.emod_lt_of_pos x hpos
        obtain ⟨j, hj⟩ := Int.eq_ofNat_of_zero_le m0
        have hjl : j < left.length := by omega
        have npl : p ≠ l := fun e => by
          rw [e] at hp
          rw [el] at hp
          cases hp
        have hlast : (acc ++ left[j] :: left.eraseIdx j).Perm (acc ++ left) := List.Perm.append_left acc (erase_perm hjl)
        have h34 : upd H2 l (.lst (vns (left.eraseIdx j))) p = some (.lst (vns acc)) := by rw [upd_ne npl]; exact h4
        have D3 : Draws (upd H2 l (.lst (vns (left.eraseIdx j)))) d N ns := by
          refine D2.kp (Kp.mut (S := [l]) Kp.refl (.inl mem1) (notT_l h3)) (fun z => nld (List.mem_singleton.mp z).symm) fun z => ?_
          have e := D.n
          rw [List.mem_singleton.mp z, hl] at e
          cases e
        have D4 : Draws (upd (upd H2 l (.lst (vns (left.eraseIdx j)))) p (.lst (vns (acc ++ [left[j]])))) d N ns := by
          refine D3.kp (Kp.mut (S := [p]) Kp.refl (.inl mem1) (notT_l h34)) (fun z => npd (List.mem_singleton.mp z).symm) fun z => ?_
          have e := D1.n
          rw [List.mem_singleton.mp z, hp] at e
          cases e
        have kk : Kp [d] H (upd H2 l (.lst (vns (left.eraseIdx j)))) := Kp.mut (q1.trans k2) (.inr hl) (notT_l h3)
        refine ⟨_, rfl, _, _, rfl, .inl (SqL.of h3), _, _, rfl, rfl, by rw [vns_len]; exact hpos, ?_⟩
        refine ⟨l, _, _, j, .int (left[j] : Nat), rfl, rfl, h3, by rw [vns_len]; omega, by rw [vns_len]; omega, by rw [vns_len, hj]; exact sq_nat hjl, ?_, vns acc, ?_, ?_, ?_⟩
        · unfold vns
          rw [List.getElem?_map, List.getElem?_eq_getElem hjl]
          rfl
        · rw [vns_erase, h34]
        · rw [vns_len]
          exact Nat.lt_of_lt_of_le (show acc.length < 100 by omega) (by decide)
        · rw [vns_erase, vns_snoc]
          refine ⟨Kp.mut kk (.inr (k1.free hp)) (notT_l h34), D4, left.eraseIdx j, acc ++ [left[j]], ?_, upd_same, ?_, ?_, ?_, ?_⟩
          · rw [upd_ne (Ne.symm npl)]; exact upd_same
          · rw [List.length_eraseIdx, if_pos hjl]; omega
          · rw [List.length_append, q6]; rfl
          · rw [List.append_assoc]
            exact hlast.symm.nodup q7
          · rw [List.append_assoc]
            exact fun x hx => q8 x (hlast.subset hx)
      · rintro H' ⟨q1, q2, left, acc, q3, q4, q5, q6, q7, q8⟩
        refine k H' p acc q1 q2 (k1.free hp) q4 ⟨q6, (List.nodup_append.mp q7).1, fun i hi => q8 i (List.mem_append_left _ hi)⟩
end
end BF

namespace BF
open PySem PySem.Spec PyProof.Rows L2
structure SrcW (H : Hp) (d N nL cL : Addr) (ns : List Int) (xs : List V) (src : List Nd) (H' : Hp) : Prop where
  kp : Kp [d] H H'
  dr : Draws H' d N ns
  nl : H' nL = some (.lst xs)
  cl : H' cL = some (.lst (vis (costs src)))
  rf : Refs (NodeAt H') xs src
section
variable {H H' H'' : Hp} {d N nL cL : Addr} {ns : List Int} {xs : List V} {src : List Nd} {p : Addr} {o : HO}
theorem SrcW.step (h : SrcW H d N nL cL ns xs src H') (n1 : nL ≠ d) (n2 : cL ≠ d) (k : Kp [d] H' H'') (D : Draws H'' d N ns) : SrcW H d N nL cL ns xs src H'' :=
  ⟨h.kp.trans k, D, k.keep _ _ h.nl fun z => n1 (List.mem_singleton.mp z), k.keep _ _ h.cl fun z => n2 (List.mem_singleton.mp z), h.rf.imp fun _ _ z => z.kp k⟩
theorem SrcW.new (h : SrcW H d N nL cL ns xs src H') (hp : H' p = none) : SrcW H d N nL cL ns xs src (upd H' p o) := by
  have k : Kp [] H' (upd H' p o) := Kp.refl.new hp
  exact ⟨h.kp.trans k.nil, h.dr.kp k (fun z => nomatch z) (fun z => nomatch z), k.keep _ _ h.nl (fun z => nomatch z), k.keep _ _ h.cl (fun z => nomatch z), h.rf.imp fun _ _ z => z.kp k⟩
end
def SrcM (H : Hp) (d N nL cL : Addr) (ns : List Int) (xs : List V) (src : List Nd) (many inputs : Int) (i : Nat) (B : Int) : L2.St → Hp → Prop := fun σ H' => SrcW H d N nL cL ns xs src H' ∧
  ∃ (t : Addr) (nd : Nd) (a6 a7 a8 a9 : Option V), σ = [some (.ref d), some (.int many), some (.int inputs), some (.ref nL), some (.ref cL), some (.int (0 + i)), a6, a7, a8, a9, some (.ref t), some (.int (nd.cst (costs src)))] ∧ NodeAt H' t nd ∧ nd.ok i ∧ nd.need ≤ 3 ∧ 0 ≤ nd.cst (costs src) ∧ nd.cst (costs src) ≤ B
theorem nd_nil : ∀ (k : Nat) (nd : Nd), ([] : List Nd)[k]? = some nd → nd.ok k := fun k nd e => by cases e
theorem nd_nil2 : ∀ x ∈ costs [], 0 ≤ x ∧ x < 301 := fun x hx => nomatch hx
theorem nd_nil3 : ∀ nd ∈ ([] : List Nd), nd.need ≤ 3 := fun x hx => nomatch hx
theorem idx_of (y : Int) (i : Nat) : ∃ a : Nat, y % (if (0 + (i : Int)) > 1 then (0 + (i : Int)) else 1) = a ∧ a < max 1 i := by
  have hp : 0 < (if (0 + (i : Int)) > 1 then (0 + (i : Int)) else 1) := by split <;> omega
  have hm : (if (0 + (i : Int)) > 1 then (0 + (i : Int)) else 1) ≤ (max 1 i : Nat) := by split <;> omega
  obtain ⟨a, ha⟩ := Int.eq_ofNat_of_zero_le (Int.emod_nonneg y (show (if (0 + (i : Int)) > 1 then (0 + (i : Int)) else 1) ≠ 0 by omega))
  have := Int.emod_lt_of_pos y hp
  exact ⟨a, ha, by omega⟩
theorem idx_ok {Q : VK} {H : Hp} (y : Int) (i : Nat) (h : ∀ a : Nat, a < max 1 i → Q (.int a) H) : rI (fun _ j => 0 < j) (fun i j => .int (i % j)) (.int y) (.int (if (0 + (i : Int)) > 1 then (0 + (i : Int)) else 1)) H Q := by
  obtain ⟨a, ea, la⟩ := idx_of y i
  refine ⟨_, _, rfl, rfl, by split <;> omega, ?_⟩
  show Q (.int (y % (if (0 + (i : Int)) > 1 then (0 + (i : Int)) else 1))) H
  rw [ea]
  exact h a la
theorem inp_ok {Q : VK} {H : Hp} (y n : Int) (hn : 1 ≤ n ∧ n ≤ 3) (h : ∀ a : Nat, a < 3 → Q (.int a) H) : rI (fun _ j => 0 < j) (fun i j => .int (i % j)) (.int y) (.int n) H Q := by
  obtain ⟨a, ea⟩ := Int.eq_ofNat_of_zero_le (Int.emod_nonneg y (show n ≠ 0 by omega))
  have := Int.emod_lt_of_pos y (show 0 < n by omega)
  refine ⟨_, _, rfl, rfl, by omega, ?_⟩
  show Q (.int (y % n)) H
  rw [ea]
  exact h a (by omega)
theorem idx_pos (i : Nat) : 0 < (if (0 + (i : Int)) > 1 then (0 + (i : Int)) else 1) := by split <;> omega
section
variable {P : Program} {w : World} {K : PySem.W.Frag} {mg : Str → Option Value} {base : Heap}
theorem ok_law_source (T : Txt K w mg) (R_law_draw : Rdy P w K mg base 2 (He.ga K "_law_draw") P_law_draw sp_draw) : Rdy P w K mg base 3 (He.ga K "_law_source") P_law_source sp_source := by
  refine rdy_of T.f_law_source sc_law_source (fun _ _ _ _ _ _ us hl => match us, hl with | [_, _, _], _ => rfl) (fun vs H Q E h => ?_) (fun cdv A outer s H vs Q E hr h => ?_)
  · obtain ⟨d, N, ns, many, inputs, rfl, _⟩ := h; rfl
  · obtain ⟨d, N, ns, many, inputs, rfl, D, ⟨m1, m7⟩, ⟨i1, i3⟩, k⟩ := h
    obtain ⟨j0, hd⟩ := id D.d
    refine ⟨_, (pss_cons (ps_set (i := 3) sc_law_source.nd rfl (Or.inl rfl) (pe_lst pa_nil))
(pss_cons (ps_set (i := 4) sc_law_source.nd rfl (Or.inl rfl) (pe_lst pa_nil))
(pss_cons (ps_for PassesOwn.never (by rfl) (pi_range1 (by rfl) T.z_range (pa_cons (pv 1) pa_nil)) (pg_name (i := 5) sc_law_source.nd rfl (Or.inl rfl))
(pss_cons (ps_set (i := 6) sc_law_source.nd rfl (Or.inl rfl) (pe_op op_mod (pe_callR R_law_draw (hr.mono (by decide)) rfl T.g__law_draw (pa_cons (pv 0) pa_nil)) pe_int))
(pss_cons (ps_set (i := 7) sc_law_source.nd rfl (Or.inl rfl) (pe_op op_mod (pe_callR R_law_draw (hr.mono (by decide)) rfl T.g__law_draw (pa_cons (pv 0) pa_nil)) (pe_callB (call_max2 rfl) (by rfl) T.z_max (by decide +kernel) (pa_cons pe_int (pa_cons (pv 5) pa_nil)))))
(pss_cons (ps_set (i := 8) sc_law_source.nd rfl (Or.inl rfl) (pe_op op_mod (pe_callR R_law_draw (hr.mono (by decide)) rfl T.g__law_draw (pa_cons (pv 0) pa_nil)) (pe_callB (call_max2 rfl) (by rfl) T.z_max (by decide +kernel) (pa_cons pe_int (pa_cons (pv 5) pa_nil)))))
(pss_cons (ps_set (i := 9) sc_law_source.nd rfl (Or.inl rfl) (pe_op op_mod (pe_callR R_law_draw (hr.mono (by decide)) rfl T.g__law_draw (pa_cons (pv 0) pa_nil)) (pe_callB (call_max2 rfl) (by rfl) T.z_max (by decide +kernel) (pa_cons pe_int (pa_cons (pv 5) pa_nil)))))
(pss_cons (ps_set (i := 10) sc_law_source.nd rfl (Or.inl rfl) (pe_tup (pa_cons pe_str (pa_cons (pe_op op_mod (pe_callR R_law_draw (hr.mono (by decide)) rfl T.g__law_draw (pa_cons (pv 0) pa_nil)) (pv 2)) pa_nil))))
(pss_cons (ps_set (i := 11) sc_law_source.nd rfl (Or.inl rfl) pe_int)
(pss_cons (ps_cut (ps_if (PW.pt (pw_and (pt_cmpR op_gt (pv 5) pe_int (nomark _)) (pw_and1 (pt_cmpR op_lt (pv 6) pe_int (nomark _)))))
(pss_cons (ps_set (i := 10) sc_law_source.nd rfl (Or.inl rfl) (pe_tup (pa_cons pe_str (pa_cons (pv 7) (pa_cons (pv 8) pa_nil)))))
(pss_one (ps_set (i := 11) sc_law_source.nd rfl (Or.inl rfl) (pe_op op_add (pe_ix ix_list (pv 4) (pv 7) (fun _ _ => rfl)) (pe_ix ix_list (pv 4) (pv 8) (fun _ _ => rfl))))))
(pss_one (ps_if (PW.pt (pw_and (pt_cmpR op_gt (pv 5) pe_int (nomark _)) (pw_and1 (pt_cmpR op_lt (pv 6) pe_int (nomark _)))))
(pss_cons (ps_set (i := 10) sc_law_source.nd rfl (Or.inl rfl) (pe_tup (pa_cons pe_str (pa_cons (pv 7) (pa_cons (pv 8) pa_nil)))))
(pss_one (ps_set (i := 11) sc_law_source.nd rfl (Or.inl rfl) (pe_op op_mul pe_int (pe_op op_add (pe_ix ix_list (pv 4) (pv 7) (fun _ _ => rfl)) (pe_ix ix_list (pv 4) (pv 8) (fun _ _ => rfl)))))))
(pss_one (ps_if (PW.pt (pw_and (pt_cmpR op_gt (pv 5) pe_int (nomark _)) (pw_and1 (pt_cmpR op_eq (pv 6) pe_int (nomark _)))))
(pss_cons (ps_set (i := 10) sc_law_source.nd rfl (Or.inl rfl) (pe_tup (pa_cons pe_str (pa_cons (pv 7) (pa_cons (pv 8) (pa_cons (pv 9) pa_nil))))))
(pss_one (ps_set (i := 11) sc_law_source.nd rfl (Or.inl rfl) (pe_op op_add (pe_ix ix_list (pv 4) (pv 9) (fun _ _ => rfl)) (pe_op op_mul pe_int (pe_op op_add (pe_op op_add (pe_ix ix_list (pv 4) (pv 7) (fun _ _ => rfl)) (pe_ix ix_list (pv 4) (pv 8) (fun _ _ => rfl))) (pe_ix ix_list (pv 4) (pv 9) (fun _ _ => rfl))))))))
(pss_one (ps_if (PW.pt (pw_and (pt_cmpR op_gt (pv 5) pe_int (nomark _)) (pw_and1 (pt_cmpR op_eq (pv 6) pe_int (nomark _)))))
(pss_cons (ps_set (i := 10) sc_law_source.nd rfl (Or.inl rfl) (pe_tup (pa_cons pe_str (pa_cons (pe_callR R_law_draw (hr.mono (by decide)) rfl T.g__law_draw (pa_cons (pv 0) pa_nil)) (pa_cons (pv 7) pa_nil)))))
(pss_one (ps_set (i := 11) sc_law_source.nd rfl (Or.inl rfl) (pe_ix ix_list (pv 4) (pv 7) (fun _ _ => rfl)))))
(pss_one (ps_if (pt_cmpR op_eq (pv 6) pe_int (nomark _))
(pss_one (ps_set (i := 10) sc_law_source.nd rfl (Or.inl rfl) (pe_tup (pa_cons pe_str (pa_cons (pe_callR R_law_draw (hr.mono (by decide)) rfl T.g__law_draw (pa_cons (pv 0) pa_nil)) pa_nil)))))
pss_nil))))))))))
(pss_cons (ps_cut (ps_if (pt_cmpR op_gt (pv 11) pe_int (nomark _))
(pss_cons (ps_set (i := 10) sc_law_source.nd rfl (Or.inl rfl) (pe_tup (pa_cons pe_str (pa_cons (pe_callR R_law_draw (hr.mono (by decide)) rfl T.g__law_draw (pa_cons (pv 0) pa_nil)) pa_nil))))
(pss_one (ps_set (i := 11) sc_law_source.nd rfl (Or.inl rfl) pe_int)))
pss_nil))
(pss_cons (ps_expr (pe_bm PySem.F.plainAttrs_list PySem.F.slot_list_append PySem.F.type_list_append mt_append (pv 3) (pa_cons (pv 10) pa_nil)))
(pss_one (ps_expr (pe_bm PySem.F.plainAttrs_list PySem.F.slot_list_append PySem.F.type_list_append mt_append (pv 4) (pa_cons (pv 11) pa_nil))))))))))))))
(pss_one (ps_ret (pe_callTy call_tuple_of (by rfl) T.z_tuple (by decide +kernel) (pa_cons (pv 3) pa_nil))))))), ?_⟩
    refine ⟨Nat.zero_le _, fun nL hnL => ⟨Nat.zero_le _, fun cL hcL => ?_⟩⟩
    have nLd : nL ≠ d := Ne.symm (ne_of_none hd hnL)
    have hd1 : upd H nL (.lst []) d = some (.lst [.ref N, .int (j0 : Nat)]) := by rw [upd_ne (Ne.symm nLd)]; exact hd
    have cLd : cL ≠ d := Ne.symm (ne_of_none hd1 hcL)
    have nLc : nL ≠ cL := ne_of_none upd_same hcL
    have hcL0 : H cL = none := by rw [upd_ne (Ne.symm nLc)] at hcL; exact hcL
    have k0 : Kp [] H (upd (upd H nL (.lst [])) cL (.lst [])) := (Kp.refl.new hnL).new hcL
    refine ⟨_, rfl, many, rfl, by omega, by omega, for_range (lo := 0) (n := many.toNat) (fun i σ H' => (∃ xs src, SrcW H d N nL cL ns xs src H' ∧ src.length = i ∧ (∀ (k : Nat) (nd : Nd), src[k]? = some nd → nd.ok k) ∧ (∀ x ∈ costs src, 0 ≤ x ∧ x < 301) ∧ ∀ nd ∈ src, nd.need ≤ 3) ∧
        ∃ v5 v6 v7 v8 v9 v10 v11, σ = [some (.ref d), some (.int many), some (.int inputs), some (.ref nL), some (.ref cL), v5, v6, v7, v8, v9, v10, v11])
      ⟨⟨[], [], ⟨k0.nil, D.kp k0 (fun z => nomatch z) (fun z => nomatch z), by rw [upd_ne nLc]; exact upd_same, upd_same, Refs.nil⟩, rfl, nd_nil, nd_nil2, nd_nil3⟩, none, none, none, none, none, none, none, rfl⟩ ?_ ?_⟩
    · rintro i σ H0 hi ⟨⟨xs, src, W, hlen, hok, hcs, hnd⟩, v5, v6, v7, v8, v9, v10, v11, rfl⟩
      refine ⟨_, rfl, d, N, ns, rfl, W.dr, fun H1 x k1 D1 x0 x1 => ⟨_, _, rfl, rfl, (by decide : (0 : Int) < 8), ?_⟩⟩
      have W1 := W.step nLd cLd k1 D1
      refine ⟨_, rfl, d, N, ns, rfl, W1.dr, fun H2 y k2 D2 y0 y1 => ⟨_, rfl, _, _, rfl, idx_ok y i fun ia la => ?_⟩⟩
      have W2 := W1.step nLd cLd k2 D2
      refine ⟨_, rfl, d, N, ns, rfl, W2.dr, fun H3 y k3 D3 y0 y1 => ⟨_, rfl, _, _, rfl, idx_ok y i fun ja lb => ?_⟩⟩
      have W3 := W2.step nLd cLd k3 D3
      refine ⟨_, rfl, d, N, ns, rfl, W3.dr, fun H4 y k4 D4 y0 y1 => ⟨_, rfl, _, _, rfl, idx_ok y i fun la' lc => ?_⟩⟩
      have W4 := W3.step nLd cLd k4 D4
      refine ⟨_, rfl, d, N, ns, rfl, W4.dr, fun H5 y k5 D5 y0 y1 => ⟨_, rfl, inp_ok y inputs ⟨i1, i3⟩ fun q hq => ⟨by show 2 ≤ sizeLine; decide, fun t ht => ?_⟩⟩⟩
      have W5 := W4.step nLd cLd k5 D5
      have W6 : SrcW H d N nL cL ns xs src (upd H5 t (.tup [.str "input", .int (q : Nat)])) := W5.new ht
      have n6 : NodeAt (upd H5 t (.tup [.str "input", .int (q : Nat)])) t (.inp q) := upd_same
      have gc : ∀ a, a < i → 0 ≤ (costs src).getD a 0 ∧ (costs src).getD a 0 < 301 := fun a ha => getD_rng hcs (by unfold costs; rw [scan_len, hlen]; exact ha)
      have ga : ∀ a, a < i → atI (vis (costs src)) (a : Int) = some (.int ((costs src).getD a 0)) := fun a ha => at_vis (by unfold costs; rw [scan_len, hlen]; exact ha)
      refine ⟨SrcM H d N nL cL ns xs src many inputs i 3000, ?_, ?_⟩
      · generalize upd H5 t (.tup [.str "input", .int (q : Nat)]) = G at W6 n6
        have dflt : ∀ a6 a7 a8 a9, SrcM H d N nL cL ns xs src many inputs i 3000 [some (.ref d), some (.int many), some (.int inputs), some (.ref nL), some (.ref cL), some (.int (0 + i)), a6, a7, a8, a9, some (.ref t), some (.int 1)] G := fun a6 a7 a8 a9 =>
          ⟨W6, t, .inp q, a6, a7, a8, a9, rfl, n6, (by show q < 60; omega), (by show q + 1 ≤ 3; omega), (by show (0 : Int) ≤ 1; decide), (by show (1 : Int) ≤ 3000; decide)⟩
        by_cases hz : i = 0
        · have hn : decide ((0 : Int) + (i : Int) > 0) = false := decide_eq_false (by omega)
          refine ⟨_, rfl, _, _, rfl, rfl, _, rfl, inn hn ?_⟩
          refine ⟨_, rfl, _, _, rfl, rfl, _, rfl, inn hn ?_⟩
          refine ⟨_, rfl, _, _, rfl, rfl, _, rfl, inn hn ?_⟩
          refine ⟨_, rfl, _, _, rfl, rfl, _, rfl, inn hn ?_⟩
          exact ⟨_, rfl, rfl, _, rfl, ite2 (fun _ => ⟨_, rfl, d, N, ns, rfl, W6.dr, fun G2 z k7 D7 z0 z1 => ⟨by show 2 ≤ sizeLine; decide, fun p hp => ⟨(W6.step nLd cLd k7 D7).new hp, p, .const z, _, _, _, _, rfl, upd_same, ⟨z0, by omega⟩, Nat.zero_le _, (by show (0 : Int) ≤ 1; decide), (by show (1 : Int) ≤ 3000; decide)⟩⟩⟩) (fun _ => dflt _ _ _ _)⟩
        · have hy : decide ((0 : Int) + (i : Int) > 0) = true := decide_eq_true (by omega)
          have h_ia : ia < i := by omega
          have h_ja : ja < i := by omega
          have h_la' : la' < i := by omega
          have c1 := gc ia h_ia
          have c2 := gc ja h_ja
          have c3 := gc la' h_la'
          refine ⟨_, rfl, _, _, rfl, rfl, _, rfl, iy hy ⟨_, rfl, _, _, rfl, rfl, _, rfl, ite2 (fun _ => ?_) (fun _ => ?_)⟩⟩
          · refine ⟨_, rfl, _, rfl, (by show 3 ≤ sizeLine; decide), fun p hp => ?_⟩
            have W7 := W6.new (o := .tup [.str "sum", .int ia, .int ja]) hp
            refine ⟨_, rfl, _, rfl, _, _, _, _, rfl, rfl, SqL.of W7.cl, ga ia h_ia, _, rfl, _, rfl, _, _, _, _, rfl, rfl, SqL.of W7.cl, ga ja h_ja, _, _, rfl, rfl, ⟨W7, p, .sum ia ja, _, _, _, _, rfl, upd_same, ⟨h_ia, h_ja⟩, Nat.zero_le _, ?_, ?_⟩⟩
            · show 0 ≤ Nd.cst _ (.sum ia ja)
              simp only [Nd.cst]
              omega
            · show Nd.cst _ (.sum ia ja) ≤ 3000
              simp only [Nd.cst]
              omega
          refine ⟨_, rfl, _, _, rfl, rfl, _, rfl, iy hy ⟨_, rfl, _, _, rfl, rfl, _, rfl, ite2 (fun _ => ?_) (fun _ => ?_)⟩⟩
          · refine ⟨_, rfl, _, rfl, (by show 3 ≤ sizeLine; decide), fun p hp => ?_⟩
            have W7 := W6.new (o := .tup [.str "product", .int ia, .int ja]) hp
            refine ⟨_, rfl, _, rfl, _, _, _, _, rfl, rfl, SqL.of W7.cl, ga ia h_ia, _, rfl, _, rfl, _, _, _, _, rfl, rfl, SqL.of W7.cl, ga ja h_ja, _, _, rfl, rfl, _, _, rfl, rfl, .inl ⟨by decide, by decide⟩, ⟨W7, p, .prod ia ja, _, _, _, _, rfl, upd_same, ⟨h_ia, h_ja⟩, Nat.zero_le _, ?_, ?_⟩⟩
            · show 0 ≤ Nd.cst _ (.prod ia ja)
              simp only [Nd.cst]
              omega
            · show Nd.cst _ (.prod ia ja) ≤ 3000
              simp only [Nd.cst]
              omega
          refine ⟨_, rfl, _, _, rfl, rfl, _, rfl, iy hy ⟨_, rfl, rfl, _, rfl, ite2 (fun _ => ?_) (fun _ => ?_)⟩⟩
          · refine ⟨_, rfl, _, rfl, _, rfl, (by show 4 ≤ sizeLine; decide), fun p hp => ?_⟩
            have W7 := W6.new (o := .tup [.str "choose", .int ia, .int ja, .int la']) hp
            refine ⟨_, rfl, _, rfl, _, _, _, _, rfl, rfl, SqL.of W7.cl, ga la' h_la', _, rfl, _, rfl, _, _, _, _, rfl, rfl, SqL.of W7.cl, ga ia h_ia, _, rfl, _, rfl, _, _, _, _, rfl, rfl, SqL.of W7.cl, ga ja h_ja, _, _, rfl, rfl, _, rfl, _, rfl, _, _, _, _, rfl, rfl, SqL.of W7.cl, ga la' h_la', _, _, rfl, rfl, _, _, rfl, rfl, .inl ⟨by decide, by decide⟩, _, _, rfl, rfl, ⟨W7, p, .choose ia ja la', _, _, _, _, rfl, upd_same, ⟨h_ia, h_ja, h_la'⟩, Nat.zero_le _, ?_, ?_⟩⟩
            · show 0 ≤ Nd.cst _ (.choose ia ja la')
              simp only [Nd.cst]
              omega
            · show Nd.cst _ (.choose ia ja la') ≤ 3000
              simp only [Nd.cst]
              omega
          refine ⟨_, rfl, _, _, rfl, rfl, _, rfl, iy hy ⟨_, rfl, rfl, _, rfl, ite2 (fun _ => ?_) (fun _ => ?_)⟩⟩
          · refine ⟨_, rfl, d, N, ns, rfl, W6.dr, fun G2 z k7 D7 z0 z1 => ⟨_, rfl, (by show 3 ≤ sizeLine; decide), fun p hp => ?_⟩⟩
            have W7 := (W6.step nLd cLd k7 D7).new (o := .tup [.str "scaled", .int z, .int ia]) hp
            refine ⟨_, rfl, _, rfl, _, _, _, _, rfl, rfl, SqL.of W7.cl, ga ia h_ia, ⟨W7, p, .scaled z ia, _, _, _, _, rfl, upd_same, ⟨⟨z0, by omega⟩, h_ia⟩, Nat.zero_le _, ?_, ?_⟩⟩
            · show 0 ≤ Nd.cst _ (.scaled z ia)
              simp only [Nd.cst]
              omega
            · show Nd.cst _ (.scaled z ia) ≤ 3000
              simp only [Nd.cst]
              omega
          exact ⟨_, rfl, rfl, _, rfl, ite2 (fun _ => ⟨_, rfl, d, N, ns, rfl, W6.dr, fun G2 z k7 D7 z0 z1 => ⟨by show 2 ≤ sizeLine; decide, fun p hp => ⟨(W6.step nLd cLd k7 D7).new hp, p, .const z, _, _, _, _, rfl, upd_same, ⟨z0, by omega⟩, Nat.zero_le _, (by show (0 : Int) ≤ 1; decide), (by show (1 : Int) ≤ 3000; decide)⟩⟩⟩) (fun _ => dflt _ _ _ _)⟩
      · rintro σ G ⟨W, t, nd, a6, a7, a8, a9, rfl, hn, ho, hne, hc0, hc1⟩
        refine ⟨SrcM H d N nL cL ns xs src many inputs i 300, ?_, ?_⟩
        · refine ⟨_, rfl, _, _, rfl, rfl, _, rfl, ite2 (fun _ => ?_) (fun hle => ?_)⟩
          · refine ⟨_, rfl, d, N, ns, rfl, W.dr, fun G2 z k7 D7 z0 z1 => ⟨by show 2 ≤ sizeLine; decide, fun p hp => ?_⟩⟩
            refine ⟨(W.step nLd cLd k7 D7).new hp, p, .const z, a6, a7, a8, a9, rfl, upd_same, ⟨z0, by omega⟩, Nat.zero_le _, (by show (0 : Int) ≤ 1; decide), (by show (1 : Int) ≤ 300; decide)⟩
          · have : ¬ 300 < Nd.cst (costs src) nd := fun h => hle (decide_eq_true h)
            exact ⟨W, t, nd, a6, a7, a8, a9, rfl, hn, ho, hne, hc0, by omega⟩
        · rintro σ G ⟨W, t, nd, a6, a7, a8, a9, rfl, hn, ho, hne, hc0, hc1⟩
          have sz : (vis (costs src)).length < sizeLine := by rw [vis_len]; unfold costs; rw [scan_len, hlen]; exact Nat.lt_of_lt_of_le (show i < 100 by omega) (by decide)
          have sz2 : xs.length < sizeLine := by rw [W.rf.1, hlen]; exact Nat.lt_of_lt_of_le (show i < 100 by omega) (by decide)
          have kA : Kp [nL] G (upd G nL (.lst (xs ++ [.ref t]))) := Kp.mut Kp.refl (.inl mem1) (notT_l W.nl)
          have eC : upd G nL (.lst (xs ++ [.ref t])) cL = some (.lst (vis (costs src))) := by rw [upd_ne (Ne.symm nLc)]; exact W.cl
          have kB : Kp [nL, cL] G (upd (upd G nL (.lst (xs ++ [.ref t]))) cL (.lst (vis (costs src) ++ [.int (nd.cst (costs src))]))) := Kp.mut (kA.mono fun x hx => by rw [List.mem_singleton.mp hx]; exact List.mem_cons_self ..) (.inl (List.mem_cons_of_mem _ mem1)) (notT_l eC)
          refine ⟨_, rfl, .inl ⟨rfl, _, SqL.of W.nl⟩, _, rfl, nL, _, _, rfl, rfl, W.nl, sz2, ?_⟩
          refine ⟨_, rfl, .inl ⟨rfl, _, SqL.of eC⟩, _, rfl, cL, _, _, rfl, rfl, eC, sz, ?_⟩
          have ec2 : costs (src ++ [nd]) = costs src ++ [nd.cst (costs src)] := scan_snoc _ _ _
          refine ⟨⟨xs ++ [.ref t], src ++ [nd], ⟨Kp.mut (Kp.mut W.kp (.inr hnL) (notT_l W.nl)) (.inr hcL0) (notT_l eC), ?_, ?_, ?_, ?_⟩, ?_, ?_, ?_, ?_⟩, _, _, _, _, _, _, _, rfl⟩
          · refine W.dr.kp kB (fun z => ?_) fun z => ?_
            · rcases List.mem_cons.mp z with e | e
              · exact nLd e.symm
              · exact cLd (List.mem_singleton.mp e).symm
            · have e0 := D.n
              rcases List.mem_cons.mp z with e | e
              · rw [e, hnL] at e0; cases e0
              · rw [List.mem_singleton.mp e, hcL0] at e0; cases e0
          · rw [upd_ne nLc]; exact upd_same
          · rw [ec2, ← vis_snoc]; exact upd_same
          · exact (W.rf.imp fun _ _ z => z.kp kB).snoc (hn.kp kB)
          · rw [List.length_append, hlen]; rfl
          · intro k2 nd2 e
            by_cases hk : k2 < src.length
            · rw [List.getElem?_append_left hk] at e
              exact hok k2 nd2 e
            · have hk2 := (List.getElem?_eq_some_iff.mp e).1
              rw [List.length_append, List.length_singleton] at hk2
              have ek : k2 = src.length := by omega
              rw [List.getElem?_append_right (by omega), ek, Nat.sub_self] at e
              cases e
              rw [ek, hlen]
              exact ho
          · rw [ec2]
            intro x hx
            rcases List.mem_append.mp hx with hx | hx
            · exact hcs x hx
            · rw [List.mem_singleton.mp hx]; exact ⟨hc0, by omega⟩
          · intro x hx
            rcases List.mem_append.mp hx with hx | hx
            · exact hnd x hx
            · rw [List.mem_singleton.mp hx]; exact hne
    · rintro σ H0 ⟨⟨xs, src, W, hlen, hok, hcs, hnd⟩, v5, v6, v7, v8, v9, v10, v11, rfl⟩
      refine ⟨_, rfl, nL, xs, rfl, .inl ⟨SqL.of W.nl, fun l hl => ?_⟩⟩
      have kl : Kp [] H0 (upd H0 l (.tup xs)) := Kp.refl.new hl
      exact k _ l src (W.kp.trans kl.nil) (W.dr.kp kl (fun z => nomatch z) fun z => nomatch z) (W.kp.free hl) ⟨xs, upd_same, W.rf.imp fun _ _ z => z.kp kl⟩ ⟨by omega, by omega, hok⟩ (fun x hx => by have := hcs x hx; omega) (needs_le hnd)
end
end BF

namespace BF
open PySem PySem.Spec PyProof.Rows L2
/-! ### the law's things: what it made, and the loans, the newest first -/
structure Cst where
  d : Addr
  N : Addr
  aM : Addr
  v : Addr
  C : Addr
  L : Addr
  Du : Addr
  Co : Addr
  xs : List Int
  m : Int
  sz : Nat
  M0 : List Int
def Cst.S (c : Cst) : List Addr := [c.d, c.N, c.aM, c.v, c.C, c.L, c.Du, c.Co]
theorem ne8 {S : List Addr} {x y : Addr} (nd : S.Nodup) (i j : Nat) (hi : S[i]? = some x) (hj : S[j]? = some y) (hn : i ≠ j) : x ≠ y := by
  intro e
  subst e
  obtain ⟨h1, e1⟩ := List.getElem?_eq_some_iff.mp hi
  obtain ⟨h2, e2⟩ := List.getElem?_eq_some_iff.mp hj
  have hp := List.pairwise_iff_getElem.mp nd
  rcases Nat.lt_or_gt_of_ne hn with h | h
  · exact hp i j h1 h2 h (e1.trans e2.symm)
  · exact hp j i h2 h1 h (e2.trans e1.symm)
theorem in8 {S T : List Addr} {x : Addr} (J : List Nat) (hT : T.map some = J.map fun j => S[j]?) (hx : x ∈ T) : ∃ j ∈ J, S[j]? = some x := by
  have : some x ∈ T.map some := List.mem_map.mpr ⟨x, hx, rfl⟩
  rw [hT] at this
  obtain ⟨j, h1, h2⟩ := List.mem_map.mp this
  exact ⟨j, h1, h2⟩
theorem ni8 {S T : List Addr} {x : Addr} (nd : S.Nodup) (i : Nat) (J : List Nat) (hi : S[i]? = some x) (hT : T.map some = J.map fun j => S[j]?) (hn : i ∉ J) : x ∉ T := fun hx => by
  obtain ⟨j, h1, h2⟩ := in8 J hT hx
  exact ne8 nd i j hi h2 (fun e => hn (by rw [e]; exact h1)) rfl
theorem sub8 {S T : List Addr} {x : Addr} (J : List Nat) (hT : T.map some = J.map fun j => S[j]?) (hx : x ∈ T) : x ∈ S := by
  obtain ⟨j, _, h2⟩ := in8 J hT hx
  exact List.mem_of_getElem? h2
theorem snoc_nd {S : List Addr} {y : Addr} {H : Hp} (nd : S.Nodup) (lv : ∀ x ∈ S, ∃ o, H x = some o) (hy : H y = none) : (S ++ [y]).Nodup := by
  refine List.nodup_append.mpr ⟨nd, List.nodup_cons.mpr ⟨(fun h => nomatch h), List.nodup_nil⟩, fun x hx z hz e => ?_⟩
  rw [List.mem_singleton.mp hz] at e
  subst e
  obtain ⟨o, e1⟩ := lv _ hx
  rw [hy] at e1
  cases e1
theorem snoc_lv {S : List Addr} {y : Addr} {H H' : Hp} {T : List Addr} {o : HO} (lv : ∀ x ∈ S, ∃ o, H x = some o) (k : Kp T H H') (hy : H' y = some o) : ∀ x ∈ S ++ [y], ∃ o, H' x = some o := fun x hx => by
  rcases List.mem_append.mp hx with h | h
  · obtain ⟨o, e⟩ := lv x h
    exact k.there x o e
  · rw [List.mem_singleton.mp h]; exact ⟨_, hy⟩
theorem eq2 {a b i : Int} (h1 : a = i) (h2 : b = i) : [V.int a, V.int b] = [V.int i, V.int i] := by rw [h1, h2]
theorem last_snoc (ls : List V) (a : Addr) : LastAt (ls ++ [.ref a]) ls.length a := by
  refine ⟨by rw [List.getElem?_append_right (Nat.le_refl _), Nat.sub_self]; rfl, fun j x hj hx => ?_⟩
  have := (List.getElem?_eq_some_iff.mp hx).1
  rw [List.length_append, List.length_singleton] at this
  omega
theorem set_snoc {l : List Int} {n : Nat} {y z : Int} (h : l.length = n) : (vis (l ++ [y])).set n (.int z) = vis (l ++ [z]) := by
  rw [vis_set, List.set_append_right (h := by omega), show n - l.length = 0 by omega]
  rfl
structure Ent where
  ld : LD
  due : Int
  M : List Int
def Ent.cost (e : Ent) : Int := (e.ld.ss.length : Int) - (e.ld.done : Int)
def Ent.ref (e : Ent) : V := .ref e.ld.a
structure EOk (K : PySem.W.Frag) (c : Cst) (H : Hp) (e : Ent) : Prop where
  ln : LoanIn K H c.m c.sz e.ld
  sep : ∀ x ∈ e.ld.comps, x ∉ c.S
  dn : e.ld.done ≤ e.ld.ss.length
  le : e.ld.ss.length ≤ 300
  bg : e.ld.begun = e.M.getD (e.ld.places.getD 0 0) 0
  ef : ∀ cs, Mem3 c.m cs → runs c.m e.ld.given cs e.ld.ss = cs.set 0 ((cs.getD 0 0 + e.due) % c.m)
  dr : 0 ≤ e.due ∧ e.due < c.m
  ml : e.M.length = c.sz
  mr : Rng c.m e.M
def Chain (c : Cst) : List Ent → List Int → Prop
  | [], mem => mem = c.M0
  | e :: r, mem => mem = vruns c.m e.ld.given e.ld.places e.M (e.ld.ss.take e.ld.done) ∧ (∀ x ∈ r, e.ld.a ∉ x.ld.comps) ∧ Chain c r e.M
structure Lw (K : PySem.W.Frag) (c : Cst) (es : List Ent) (k : Nat) (mem : List Int) (H : Hp) : Prop where
  dr : Draws H c.d c.N c.xs
  vs : ∃ tl : List V, tl.length = k ∧ (∀ x ∈ tl, x = .non) ∧ VSt K H c.m c.v c.C c.L mem (es.reverse.map Ent.ref ++ tl)
  du : ∃ td : List Int, td.length = k ∧ H c.Du = some (.lst (vis (es.reverse.map Ent.due ++ td)))
  co : ∃ tc : List Int, tc.length = k ∧ H c.Co = some (.lst (vis (es.reverse.map Ent.cost ++ tc)))
  me : H c.aM = some (.lst (vis c.M0))
  nd : c.S.Nodup
  mz : mem.length = c.sz
  en : ∀ e ∈ es, EOk K c H e
  ch : Chain c es mem
section
variable {K : PySem.W.Frag} {c : Cst} {es : List Ent} {e : Ent} {k : Nat} {mem : List Int} {H H' : Hp} {T : List Addr}
theorem val_rng {ns : List Nd} {m : Int} {g : List Int} {k : Nat} (m2 : 2 ≤ m) (so : SrcOk ns) (gl : g.length = needs ns) (gr : Rng m g) (hk : k < ns.length) : 0 ≤ val m g ns k ∧ val m g ns k < m := by
  have e := List.getElem?_eq_getElem hk
  rw [val_eq so e]
  have hn := need_le (List.getElem_mem hk)
  generalize ns[k] = nd at e hn
  cases nd with
  | inp j => exact getD_rng gr (by rw [gl]; exact hn)
  | const x => exact mod_rng m2 _
  | sum i j => exact mod_rng m2 _
  | prod i j => exact mod_rng m2 _
  | scaled x i => exact mod_rng m2 _
  | choose i j l => exact mod_rng m2 _
theorem EOk.kp (h : EOk K c H e) (kk : Kp T H H') (hT : ∀ x ∈ e.ld.comps, x ∉ T) : EOk K c H' e := ⟨h.ln.kp kk hT, h.sep, h.dn, h.le, h.bg, h.ef, h.dr, h.ml, h.mr⟩
theorem EOk.live (h : EOk K c H e) : ∀ x ∈ e.ld.comps, ∃ o, H x = some o := fun x hx => by
  obtain ⟨dx, e1⟩ := h.ln.la
  obtain ⟨dp, e2⟩ := h.ln.pa
  obtain ⟨ys, e3, _⟩ := h.ln.st
  simp only [LD.comps, List.mem_cons, List.not_mem_nil, or_false] at hx
  rcases hx with rfl | rfl | rfl | rfl | rfl
  · exact ⟨_, e1⟩
  · exact ⟨_, e2⟩
  · exact ⟨_, e3⟩
  · exact ⟨_, h.ln.pc⟩
  · exact ⟨_, h.ln.gv⟩
theorem Lw.live (h : Lw K c es k mem H) : ∀ x ∈ c.S, ∃ o, H x = some o := fun x hx => by
  obtain ⟨j, e0⟩ := h.dr.d
  obtain ⟨tl, _, _, S⟩ := h.vs
  obtain ⟨dx, e3⟩ := S.va
  obtain ⟨_, _, e6⟩ := h.du
  obtain ⟨_, _, e7⟩ := h.co
  simp only [Cst.S, List.mem_cons, List.not_mem_nil, or_false] at hx
  rcases hx with rfl | rfl | rfl | rfl | rfl | rfl | rfl | rfl
  · exact ⟨_, e0⟩
  · exact ⟨_, h.dr.n⟩
  · exact ⟨_, h.me⟩
  · exact ⟨_, e3⟩
  · exact ⟨_, S.ce⟩
  · exact ⟨_, S.lo⟩
  · exact ⟨_, e6⟩
  · exact ⟨_, e7⟩
theorem Kp.loc {T' : List Addr} {H1 : Hp} (k1 : Kp T H H1) (k2 : Kp T' H1 H') (h : ∀ x ∈ T', x ∈ T ∨ H x = none) : Kp T H H' :=
  ⟨fun b o e n => k2.keep _ _ (k1.keep _ _ e n) fun z => (h b z).elim n fun q => (ne_of_none e q) rfl, fun b ys e => k2.tup _ _ (k1.tup _ _ e), fun b o e => let ⟨o', e'⟩ := k1.there b o e; k2.there b o' e'⟩
theorem Lw.fr (h : Lw K c es k mem H) {x : Addr} (hx : H x = none) : x ∉ c.S := fun hS => by
  obtain ⟨o, e1⟩ := h.live x hS
  rw [hx] at e1
  cases e1
theorem Lw.du0 (h : Lw K c es 0 mem H) : H c.Du = some (.lst (vis (es.reverse.map Ent.due))) := by
  obtain ⟨td, l3, e6⟩ := h.du
  rw [List.length_eq_zero_iff.mp l3, List.append_nil] at e6
  exact e6
theorem Lw.co0 (h : Lw K c es 0 mem H) : H c.Co = some (.lst (vis (es.reverse.map Ent.cost))) := by
  obtain ⟨td, l3, e6⟩ := h.co
  rw [List.length_eq_zero_iff.mp l3, List.append_nil] at e6
  exact e6
theorem Lw.vs0 (h : Lw K c es 0 mem H) : VSt K H c.m c.v c.C c.L mem (es.reverse.map Ent.ref) := by
  obtain ⟨td, l3, _, e6⟩ := h.vs
  rw [List.length_eq_zero_iff.mp l3, List.append_nil] at e6
  exact e6
theorem out8 {S T : List Addr} {x : Addr} (J : List Nat) (h : x ∉ S) (hT : T.map some = J.map fun j => S[j]?) : x ∉ T := fun hx => h (sub8 J hT hx)
/-- a program's things -/
structure PF (K : PySem.W.Frag) (c : Cst) (H : Hp) (p l : Addr) (n : Nat) (ss : List Stp) (ys : List V) : Prop where
  pa : ProgAt K H p c.m n l
  el : H l = some (.lst ys)
  rf : Refs (StpAt H) ys ss
theorem PF.kp {p l : Addr} {n : Nat} {ss : List Stp} {ys : List V} (h : PF K c H p l n ss ys) (kk : Kp T H H') (h1 : p ∉ T) (h2 : l ∉ T) : PF K c H' p l n ss ys := ⟨h.pa.kp kk h1, kk.keep _ _ h.el h2, h.rf.imp fun _ _ z => z.kp kk⟩
/-- behind draws -/
theorem Lw.d (h : Lw K c es k mem H) (kk : Kp [c.d] H H') (D : Draws H' c.d c.N c.xs) : Lw K c es k mem H' := by
  obtain ⟨tl, l1, l2, S⟩ := h.vs
  obtain ⟨td, l3, e6⟩ := h.du
  obtain ⟨tc, l4, e7⟩ := h.co
  refine ⟨D, ⟨tl, l1, l2, S.kp kk (ni8 h.nd 3 [0] rfl rfl (by decide)) (ni8 h.nd 4 [0] rfl rfl (by decide)) (ni8 h.nd 5 [0] rfl rfl (by decide))⟩, ⟨td, l3, kk.keep _ _ e6 (ni8 h.nd 6 [0] rfl rfl (by decide))⟩, ⟨tc, l4, kk.keep _ _ e7 (ni8 h.nd 7 [0] rfl rfl (by decide))⟩,
    kk.keep _ _ h.me (ni8 h.nd 2 [0] rfl rfl (by decide)), h.nd, h.mz, fun e he => (h.en e he).kp kk fun x hx hT => (h.en e he).sep x hx (sub8 (S := c.S) [0] rfl hT), h.ch⟩
theorem Lw.nil (h : Lw K c es k mem H) (kk : Kp [] H H') : Lw K c es k mem H' := h.d kk.nil (h.dr.kp kk (fun z => nomatch z) fun z => nomatch z)
/-- one more loan -/
theorem Lw.push {mem' : List Int} (h : Lw K c es 0 mem H) (kk : Kp [c.d, c.Du, c.Co, c.L, c.C] H H') (D : Draws H' c.d c.N c.xs)
    (hDu : H' c.Du = some (.lst (vis (es.reverse.map Ent.due ++ [e.due])))) (hCo : H' c.Co = some (.lst (vis (es.reverse.map Ent.cost ++ [e.cost]))))
    (hv : VSt K H' c.m c.v c.C c.L mem' (es.reverse.map Ent.ref ++ [e.ref])) (hm : mem' = vruns c.m e.ld.given e.ld.places mem (e.ld.ss.take e.ld.done)) (he : e.M = mem)
    (fr : ∀ x ∈ e.ld.comps, H x = none) (ln : LoanIn K H' c.m c.sz e.ld) (dn : e.ld.done ≤ e.ld.ss.length) (le : e.ld.ss.length ≤ 300) (bg : e.ld.begun = mem.getD (e.ld.places.getD 0 0) 0)
    (ef : ∀ cs, Mem3 c.m cs → runs c.m e.ld.given cs e.ld.ss = cs.set 0 ((cs.getD 0 0 + e.due) % c.m)) (dr : 0 ≤ e.due ∧ e.due < c.m) : Lw K c (e :: es) 0 mem' H' := by
  obtain ⟨tl, l1, l2, S⟩ := h.vs
  have sepN : ∀ x ∈ e.ld.comps, x ∉ c.S := fun x hx hS => by
    obtain ⟨o, e1⟩ := h.live x hS
    rw [fr x hx] at e1
    cases e1
  refine ⟨D, ⟨[], rfl, (fun x hx => nomatch hx), ?_⟩, ⟨[], rfl, ?_⟩, ⟨[], rfl, ?_⟩, kk.keep _ _ h.me (ni8 h.nd 2 [0, 6, 7, 5, 4] rfl rfl (by decide)), h.nd, by rw [hm, vruns_len, h.mz], fun x hx => ?_, ?_, fun x hx hT => ?_, ?_⟩
  · rw [List.reverse_cons, List.map_append, List.append_nil]; exact hv
  · rw [List.reverse_cons, List.map_append, List.append_nil]; exact hDu
  · rw [List.reverse_cons, List.map_append, List.append_nil]; exact hCo
  · rcases List.mem_cons.mp hx with rfl | hx
    · exact ⟨ln, sepN, dn, le, by rw [he]; exact bg, ef, dr, by rw [he]; exact h.mz, by rw [he]; exact S.r⟩
    · exact (h.en x hx).kp kk fun y hy hT => (h.en x hx).sep y hy (sub8 (S := c.S) [0, 6, 7, 5, 4] rfl hT)
  · rw [he]; exact hm
  · obtain ⟨o, e1⟩ := (h.en x hx).live _ hT
    rw [fr _ (by simp [LD.comps])] at e1
    cases e1
  · rw [he]; exact h.ch
/-- one loan less -/
theorem Lw.pop (h : Lw K c (e :: es) k mem H) (kk : Kp [c.C, c.L, e.ld.a] H H') (hC : H' c.C = some (.lst (vis e.M)))
    (hL : ∀ tl : List V, H c.L = some (.lst ((e :: es).reverse.map Ent.ref ++ tl)) → H' c.L = some (.lst (((e :: es).reverse.map Ent.ref ++ tl).set es.length .non))) : Lw K c es (k + 1) e.M H' := by
  obtain ⟨tl, l1, l2, S⟩ := h.vs
  obtain ⟨td, l3, e6⟩ := h.du
  obtain ⟨tc, l4, e7⟩ := h.co
  obtain ⟨c1, c2, c3⟩ := h.ch
  have E := h.en e (List.mem_cons_self ..)
  have na : ∀ x, x ∈ c.S → x ∉ [c.C, c.L] → x ∉ [c.C, c.L, e.ld.a] := fun x hx hn hT => by
    simp only [List.mem_cons, List.not_mem_nil, or_false] at hT hn
    rcases hT with h1 | h1 | h1
    · exact hn (.inl h1)
    · exact hn (.inr h1)
    · exact E.sep _ (by simp [LD.comps]) (h1 ▸ hx)
  have nm : ∀ i x, c.S[i]? = some x → i ∉ [4, 5] → x ∉ [c.C, c.L, e.ld.a] := fun i x hi hn => na x (List.mem_of_getElem? hi) (ni8 h.nd i [4, 5] hi rfl hn)
  have hl : ((e :: es).reverse.map Ent.ref ++ tl).set es.length .non = es.reverse.map Ent.ref ++ (V.non :: tl) := by
    rw [List.reverse_cons, List.map_append, List.append_assoc, List.set_append_right (h := by rw [List.length_map, List.length_reverse]; exact Nat.le_refl _), List.length_map, List.length_reverse, Nat.sub_self]
    rfl
  have hlen : (es.reverse.map Ent.ref ++ (V.non :: tl)).length ≤ 1000 := by
    rw [← hl, List.length_set]; exact S.ll
  refine ⟨h.dr.kp kk (nm 0 _ rfl (by decide)) (nm 1 _ rfl (by decide)), ⟨V.non :: tl, by rw [List.length_cons, l1], fun x hx => ?_, ?_⟩, ⟨e.due :: td, by rw [List.length_cons, l3], ?_⟩, ⟨e.cost :: tc, by rw [List.length_cons, l4], ?_⟩,
    kk.keep _ _ h.me (nm 2 _ rfl (by decide)), h.nd, E.ml, fun x hx => ?_, c3⟩
  · rcases List.mem_cons.mp hx with rfl | hx
    · rfl
    · exact l2 x hx
  · refine ⟨S.va.kp kk (nm 3 _ rfl (by decide)), hC, ?_, E.mr, by rw [E.ml, ← h.mz]; exact S.sz, S.m2, hlen, S.ne⟩
    rw [← hl]
    exact hL tl S.lo
  · have := kk.keep _ _ e6 (nm 6 _ rfl (by decide))
    rw [List.reverse_cons, List.map_append, List.append_assoc] at this
    exact this
  · have := kk.keep _ _ e7 (nm 7 _ rfl (by decide))
    rw [List.reverse_cons, List.map_append, List.append_assoc] at this
    exact this
  · refine (h.en x (List.mem_cons_of_mem _ hx)).kp kk fun y hy hT => ?_
    simp only [List.mem_cons, List.not_mem_nil, or_false] at hT
    rcases hT with rfl | rfl | rfl
    · exact (h.en x (List.mem_cons_of_mem _ hx)).sep _ hy (List.mem_of_getElem? (i := 4) rfl)
    · exact (h.en x (List.mem_cons_of_mem _ hx)).sep _ hy (List.mem_of_getElem? (i := 5) rfl)
    · exact c2 x hx hy
/-- the same loan, so many steps done -/
def LD.dn (d : LD) (k : Nat) : LD := ⟨d.a, d.p, d.l, d.pl, d.g, d.n, d.ss, d.places, d.given, d.begun, k⟩
theorem LoanIn.pa_ne {m : Int} {sz : Nat} {d : LD} (h : LoanIn K H m sz d) : d.p ≠ d.a := by
  obtain ⟨dx, e1⟩ := h.la
  obtain ⟨dp, e2⟩ := h.pa
  refine ne_of e2 e1 fun q => ?_
  have q2 := congrArg (List.lookup ("modulus" : Str)) (HO.ins.inj q).2.2
  rw [pf_m] at q2
  have q3 : (lfs d.p d.pl d.g d.begun d.done).lookup ("modulus" : Str) = none := by kernel_rfl
  rw [q3] at q2
  cases q2
theorem LoanIn.dn {m : Int} {sz j : Nat} {d : LD} {C : Addr} (h : LoanIn K H m sz d) (kk : Kp [C, d.a] H H') (hC : C ∉ d.comps) (la : LoanAt K H' d.a d.p d.pl d.g d.begun j) : LoanIn K H' m sz (d.dn j) := by
  obtain ⟨dx, e1⟩ := h.la
  obtain ⟨ys, e3, _⟩ := h.st
  have nn : ∀ x, x ∈ d.comps → x ≠ d.a → x ∉ [C, d.a] := fun x hx hn hT => by
    simp only [List.mem_cons, List.not_mem_nil, or_false] at hT
    rcases hT with h1 | h1
    · exact hC (h1 ▸ hx)
    · exact hn h1
  refine ⟨la, h.pa.kp kk (nn d.p (by simp [LD.comps]) h.pa_ne), LstStp.kp h.st kk (nn d.l (by simp [LD.comps]) ?_), kk.keep _ _ h.pc (nn d.pl (by simp [LD.comps]) ?_), kk.keep _ _ h.gv (nn d.g (by simp [LD.comps]) ?_), h.ok, h.po, h.gl, h.gr⟩
  · exact ne_of e3 e1 (by intro q; cases q)
  · exact ne_of h.pc e1 (by intro q; cases q)
  · exact ne_of h.gv e1 (by intro q; cases q)
theorem at_mid {α : Type} {f : Ent → α} {tl : List α} : ((e :: es).reverse.map f ++ tl)[es.length]? = some (f e) := by
  have hl : (es.reverse.map f).length = es.length := by rw [List.length_map, List.length_reverse]
  have e0 : (e :: es).reverse.map f ++ tl = es.reverse.map f ++ (f e :: tl) := by rw [List.reverse_cons, List.map_append, List.append_assoc]; rfl
  rw [e0, List.getElem?_append_right (by omega), hl, Nat.sub_self]
  rfl
theorem vis_mid {f : Ent → Int} {tl : List Int} {z : Int} (h : z = (es.length : Nat)) : atI (vis ((e :: es).reverse.map f ++ tl)) z = some (.int (f e)) := by
  rw [h]
  refine atI_nat ?_
  unfold vis
  rw [List.getElem?_map, at_mid]
  rfl
theorem Lw.last {tl : List V} (h2 : ∀ x ∈ tl, x = V.non) : LastAt ((e :: es).reverse.map Ent.ref ++ tl) es.length e.ld.a := by
  have hl : (es.reverse.map Ent.ref).length = es.length := by rw [List.length_map, List.length_reverse]
  have e0 : (e :: es).reverse.map Ent.ref ++ tl = es.reverse.map Ent.ref ++ (.ref e.ld.a :: tl) := by
    rw [List.reverse_cons, List.map_append, List.append_assoc]; rfl
  rw [e0]
  refine ⟨by rw [List.getElem?_append_right (by omega), hl, Nat.sub_self]; rfl, fun j x hj hx => ?_⟩
  rw [List.getElem?_append_right (by omega), hl, show j - es.length = (j - es.length - 1) + 1 by omega] at hx
  exact h2 x (List.mem_of_getElem? hx)
end
end BF

namespace BF
open PySem PySem.Spec PyProof.Rows L2
theorem mod_ok {Q : VK} {H : Hp} (x n : Int) (hn : 0 < n) (h : ∀ a : Nat, (a : Int) < n → Q (.int a) H) : rI (fun _ j => 0 < j) (fun i j => .int (i % j)) (.int x) (.int n) H Q := by
  obtain ⟨a, ea⟩ := Int.eq_ofNat_of_zero_le (Int.emod_nonneg x (show n ≠ 0 by omega))
  have := Int.emod_lt_of_pos x hn
  refine ⟨_, _, rfl, rfl, hn, ?_⟩
  show Q (.int (x % n)) H
  rw [ea]
  exact h a (by omega)
theorem add_mod_ok {Q : VK} {H : Hp} (x c n : Int) (hc : 0 ≤ c) (hn : 0 < n) (h : ∀ a : Nat, c ≤ (a : Int) → (a : Int) < c + n → Q (.int a) H) :
    rI (fun _ j => 0 < j) (fun i j => .int (i % j)) (.int x) (.int n) H fun y H' => rI0 (fun i j => .int (i + j)) (.int c) y H' Q := by
  have h0 := Int.emod_nonneg x (show n ≠ 0 by omega)
  have h1 := Int.emod_lt_of_pos x hn
  obtain ⟨a, ea⟩ := Int.eq_ofNat_of_zero_le (show 0 ≤ c + x % n by omega)
  refine ⟨_, _, rfl, rfl, hn, _, _, rfl, rfl, ?_⟩
  show Q (.int (c + x % n)) H
  rw [ea]
  exact h a (by omega) (by omega)
theorem mods_ok : ∀ a : Nat, (a : Int) < 6 → ∃ m : Int, atI [V.int 2, .int 3, .int 10, .int 97, .int (10 ^ (9 : Int).toNat), .int 999999937] (a : Int) = some (.int m) ∧ 2 ≤ m ∧ m ≤ 1000000000
  | 0, _ => ⟨2, rfl, by decide, by decide⟩
  | 1, _ => ⟨3, rfl, by decide, by decide⟩
  | 2, _ => ⟨10, rfl, by decide, by decide⟩
  | 3, _ => ⟨97, rfl, by decide, by decide⟩
  | 4, _ => ⟨10 ^ (9 : Int).toNat, rfl, by decide, by decide⟩
  | 5, _ => ⟨999999937, rfl, by decide, by decide⟩
  | n + 6, h => absurd h (by omega)
theorem mods_at (x : Int) : ∃ m : Int, atI [V.int 2, .int 3, .int 10, .int 97, .int (10 ^ (9 : Int).toNat), .int 999999937] (x % 6) = some (.int m) ∧ 2 ≤ m ∧ m ≤ 1000000000 := by
  obtain ⟨a, ea⟩ := Int.eq_ofNat_of_zero_le (Int.emod_nonneg x (show (6 : Int) ≠ 0 by decide))
  have := Int.emod_lt_of_pos x (show (0 : Int) < 6 by decide)
  rw [ea]
  exact mods_ok a (by omega)
theorem one_ok : ∀ (k : Nat) (nd : Nd), ([Nd.const 5] : List Nd)[k]? = some nd → nd.ok k
  | 0, nd, e => by cases e; exact ⟨by decide, by decide⟩
  | k + 1, nd, e => by cases e
theorem one_cost : ∀ x ∈ costs [Nd.const 5], 0 ≤ x ∧ x ≤ 300 := fun x hx => by
  rw [List.mem_singleton.mp (show x ∈ [(1 : Int)] from hx)]
  exact ⟨by decide, by decide⟩
theorem rry0 {K : PySem.W.Frag} {c : Cst} {H : Hp} {p l : Addr} {n : Nat} {ss : List Stp} {ys : List V} (h : PF K c H p l n ss ys) : ys.length = ss.length := h.rf.1
section
variable {P : Program} {w : World} {K : PySem.W.Frag} {mg : Str → Option Value} {base : Heap}
theorem fnok_of {x qual : Str} {st : Stmt} {f : Addr} {fd : FuncData} {N ps : List Str} {k : Nat} {sp : Sp} (F : FunD K x qual (defArgs st) (defBody st) (defScope st) [] [] f fd) (S : FnScope N ps (defScope st))
    (len : ∀ vs H Q E, sp vs H Q E → vs.length = ps.length)
    (hbody : ∀ (cdv : Value) (A : Around) (outer : List Env) (s : Shared) (H : Hp) (vs : List V) (Q : VK) (E : XK), Room k (A.deeper (envOfC qual (defScope st) s.heap.objs.size f cdv)) → sp vs H Q E →
      ∃ t, PSs (cxOf CX0 P w K mg base N qual (defScope st) f cdv A outer s H E).nox (defBody st) t ∧ t { nx := fun _ H' => Q .non H', rt := Q } (start N vs) H) : FnOk P w K mg base CX0 (k + 1) f fd ps sp :=
  F.ok S len fun cdv A outer s H vs Q E hr hs => by
    obtain ⟨t, h1, h2⟩ := hbody cdv A outer s H vs Q E hr hs
    exact ⟨t, h1.nox, h2⟩
theorem okF_law (T : Txt K w mg) (R_law_numbers : Rdy P w K mg base 2 (He.ga K "_law_numbers") P_law_numbers (sp_numbers K)) (R_law_draw : Rdy P w K mg base 2 (He.ga K "_law_draw") P_law_draw sp_draw) (R_Vault_init : Rdy P w K mg base 4 (He.ma K (He.ga K "Vault") "__init__") P_Vault_init (sp_Vault_init K)) (R_law_source : Rdy P w K mg base 3 (He.ga K "_law_source") P_law_source sp_source) (R_compile_source : Rdy P w K mg base 9 (He.ga K "compile_source") P_compile_source (sp_compile K)) (R_law_needs : Rdy P w K mg base 1 (He.ga K "_law_needs") P_law_needs sp_law_needs) (R_law_meaning : Rdy P w K mg base 1 (He.ga K "_law_meaning") P_law_meaning sp_meaning) (R_Vault_lend : Rdy P w K mg base 4 (He.ma K (He.ga K "Vault") "lend") P_Vault_lend (sp_lend K)) (R_law_places : Rdy P w K mg base 3 (He.ga K "_law_places") P_law_places sp_places) (R_law_equal : Rdy P w K mg base 1 (He.ga K "_law_equal") P_law_equal sp_equalI) (R_law_equalL : Rdy P w K mg base 3 (He.ga K "_law_equal") P_law_equal sp_all_equal) (R_Vault_advance : Rdy P w K mg base 4 (He.ma K (He.ga K "Vault") "advance") P_Vault_advance (sp_advance K)) (R_Vault_answer : Rdy P w K mg base 4 (He.ma K (He.ga K "Vault") "answer") P_Vault_answer (sp_answer K)) (R_Vault_recall : Rdy P w K mg base 4 (He.ma K (He.ga K "Vault") "recall") P_Vault_recall (sp_recall K)) (R_Vault_open_loans : Rdy P w K mg base 1 (He.ma K (He.ga K "Vault") "open_loans") P_Vault_open_loans (sp_open_loans K)) (R_Program_len : Rdy P w K mg base 1 (He.ma K (He.ga K "Program") "__len__") P_Program_len (sp_Program_len K)) (R_Vault_memory : Rdy P w K mg base 1 (gM K) P_Vault_memory (sp_Vault_memory K)) {fd : FuncData} (F : FunD K "law" "law" (defArgs s_law) (defBody s_law) (defScope s_law) [] [] (He.ga K "law") fd) : FnOk P w K mg base CX0 10 (He.ga K "law") fd P_law (sp_law K) := by
  refine fnok_of F sc_law (fun vs H Q E h => ?_) (fun cdv A outer s H vs Q E hr h => ?_)
  · obtain ⟨a, ns, rfl, _⟩ := h; rfl
  · obtain ⟨a, ns, rfl, hs, hl, k⟩ := h
    refine ⟨_, (pss_cons (ps_set (i := 1) sc_law.nd rfl (Or.inr rfl) (pe_lst (pa_cons (pe_callR R_law_numbers (hr.mono (by decide)) rfl T.g__law_numbers (pa_cons (pv 0) pa_nil)) (pa_cons pe_int pa_nil))))
(pss_cons (ps_set (i := 2) sc_law.nd rfl (Or.inl rfl) (pe_op op_add pe_int (pe_op op_mod (pe_callR R_law_draw (hr.mono (by decide)) rfl T.g__law_draw (pa_cons (pv 1) pa_nil)) pe_int)))
(pss_cons (ps_set (i := 3) sc_law.nd rfl (Or.inr rfl) (pe_ix ix_list (pe_lst (pa_cons pe_int (pa_cons pe_int (pa_cons pe_int (pa_cons pe_int (pa_cons (pe_op op_pow pe_int pe_int) (pa_cons pe_int pa_nil))))))) (pe_op op_mod (pe_callR R_law_draw (hr.mono (by decide)) rfl T.g__law_draw (pa_cons (pv 1) pa_nil)) pe_int) (fun _ _ => rfl)))
(pss_cons (ps_setLc (i := 4) (own := [("_law_k", 5)]) (g := gName 5) (tt := tYes) (by rfl) sc_law.nd rfl rfl (sw_true rfl rfl rfl (by decide +kernel)) (pi_range1 (by rfl) T.z_range (pa_cons (pv 2) pa_nil)) (blkOk_by (N := N_law) (sc := defScope s_law) (by decide +kernel)) (fun _ _ _ _ _ => (pg_name (i := 5) sc_law.nd rfl (Or.inl rfl))) (fun _ _ _ _ _ => pts_nil) (fun _ _ _ _ _ => (pe_op op_mod (pe_op op_mul (pe_callR R_law_draw (hr.mono (by decide)) rfl T.g__law_draw (pa_cons (pv 1) pa_nil)) (pe_callR R_law_draw (hr.mono (by decide)) rfl T.g__law_draw (pa_cons (pv 1) pa_nil))) (pv 3))))
(pss_cons (ps_set (i := 6) sc_law.nd rfl (Or.inl rfl) (pe_makeR T.m_Vault R_Vault_init (hr.mono (by decide)) rfl T.g_Vault (pa_cons (pe_callTy call_list_of (by rfl) T.z_list (by decide +kernel) (pa_cons (pv 4) pa_nil)) (pa_cons (pv 3) pa_nil))))
(pss_cons (ps_set (i := 7) sc_law.nd rfl (Or.inl rfl) (pe_lst pa_nil))
(pss_cons (ps_set (i := 8) sc_law.nd rfl (Or.inl rfl) (pe_lst pa_nil))
(pss_cons (ps_for PassesOwn.never (by rfl) (pi_range1 (by rfl) T.z_range (pa_cons (pe_op op_add pe_int (pe_op op_mod (pe_callR R_law_draw (hr.mono (by decide)) rfl T.g__law_draw (pa_cons (pv 1) pa_nil)) pe_int)) pa_nil)) (pg_name (i := 9) sc_law.nd rfl (Or.inl rfl))
(pss_cons (ps_set (i := 10) sc_law.nd rfl (Or.inl rfl) (pe_callR R_law_source (hr.mono (by decide)) rfl T.g__law_source (pa_cons (pv 1) (pa_cons (pe_op op_add pe_int (pe_op op_mod (pe_callR R_law_draw (hr.mono (by decide)) rfl T.g__law_draw (pa_cons (pv 1) pa_nil)) pe_int)) (pa_cons (pe_op op_add pe_int (pe_op op_mod (pe_callR R_law_draw (hr.mono (by decide)) rfl T.g__law_draw (pa_cons (pv 1) pa_nil)) pe_int)) pa_nil)))))
(pss_cons (ps_set (i := 11) sc_law.nd rfl (Or.inl rfl) (pe_callR R_compile_source (hr.mono (by decide)) rfl T.g_compile_source (pa_cons (pv 10) (pa_cons (pv 3) pa_nil))))
(pss_cons (ps_cut (ps_if (pt_cmpR op_gt (pe_callB (pe_lenR T.l_Program T.l_fn R_Program_len (hr.mono (by decide))) (by rfl) T.z_len PySem.boot_len (pa_cons (pv 11) pa_nil)) pe_int (nomark _))
(pss_cons (ps_set (i := 10) sc_law.nd rfl (Or.inl rfl) (pe_tup (pa_cons (pe_tup (pa_cons pe_str (pa_cons pe_int pa_nil))) pa_nil)))
(pss_one (ps_set (i := 11) sc_law.nd rfl (Or.inl rfl) (pe_callR R_compile_source (hr.mono (by decide)) rfl T.g_compile_source (pa_cons (pv 10) (pa_cons (pv 3) pa_nil))))))
pss_nil))
(pss_cons (ps_setLc (i := 12) (own := [("_law_k", 5)]) (g := gName 5) (tt := tYes) (by rfl) sc_law.nd rfl rfl (sw_true rfl rfl rfl (by decide +kernel)) (pi_range1 (by rfl) T.z_range (pa_cons (pe_callR R_law_needs (hr.mono (by decide)) rfl T.g__law_needs (pa_cons (pv 10) pa_nil)) pa_nil)) (blkOk_by (N := N_law) (sc := defScope s_law) (by decide +kernel)) (fun _ _ _ _ _ => (pg_name (i := 5) sc_law.nd rfl (Or.inl rfl))) (fun _ _ _ _ _ => pts_nil) (fun _ _ _ _ _ => (pe_op op_mod (pe_op op_mul (pe_callR R_law_draw (hr.mono (by decide)) rfl T.g__law_draw (pa_cons (pv 1) pa_nil)) (pe_callR R_law_draw (hr.mono (by decide)) rfl T.g__law_draw (pa_cons (pv 1) pa_nil))) (pv 3))))
(pss_cons (ps_expr (pe_bm PySem.F.plainAttrs_list PySem.F.slot_list_append PySem.F.type_list_append mt_append (pv 7) (pa_cons (pe_callR R_law_meaning (hr.mono (by decide)) rfl T.g__law_meaning (pa_cons (pv 10) (pa_cons (pv 3) (pa_cons (pv 12) pa_nil)))) pa_nil)))
(pss_cons (ps_expr (pe_bm PySem.F.plainAttrs_list PySem.F.slot_list_append PySem.F.type_list_append mt_append (pv 8) (pa_cons (pe_callB (pe_lenR T.l_Program T.l_fn R_Program_len (hr.mono (by decide))) (by rfl) T.z_len PySem.boot_len (pa_cons (pv 11) pa_nil)) pa_nil)))
(pss_cons (ps_set (i := 13) sc_law.nd rfl (Or.inl rfl) (pe_methR (pv 6) T.c_Vault T.h_Vault_lend R_Vault_lend (hr.mono (by decide)) (pa_cons (pv 11) (pa_cons (pe_callR R_law_places (hr.mono (by decide)) rfl T.g__law_places (pa_cons (pv 1) (pa_cons (pv 2) pa_nil))) (pa_cons (pe_callTy call_list_of (by rfl) T.z_list (by decide +kernel) (pa_cons (pv 12) pa_nil)) pa_nil)))))
(pss_cons (ps_if (pt_not (pt_val (pe_callR R_law_equal (hr.mono (by decide)) rfl T.g__law_equal (pa_cons (pv 13) (pa_cons (pe_op op_sub (pe_callB call_len_seq (by rfl) T.z_len PySem.boot_len (pa_cons (pv 7) pa_nil)) pe_int) pa_nil)))))
pss_never
pss_nil)
(pss_cons (ps_set (i := 14) sc_law.nd rfl (Or.inl rfl) (pe_op op_mod (pe_callR R_law_draw (hr.mono (by decide)) rfl T.g__law_draw (pa_cons (pv 1) pa_nil)) (pe_op op_add (pe_callB (pe_lenR T.l_Program T.l_fn R_Program_len (hr.mono (by decide))) (by rfl) T.z_len PySem.boot_len (pa_cons (pv 11) pa_nil)) pe_int)))
(pss_cons (ps_if (pt_not (pt_val (pe_callR R_law_equal (hr.mono (by decide)) rfl T.g__law_equal (pa_cons (pe_methR (pv 6) T.c_Vault T.h_Vault_advance R_Vault_advance (hr.mono (by decide)) (pa_cons (pv 13) (pa_cons (pv 14) pa_nil))) (pa_cons (pv 14) pa_nil)))))
pss_never
pss_nil)
(pss_one (ps_asg (pe_op op_sub (pe_callB (pe_lenR T.l_Program T.l_fn R_Program_len (hr.mono (by decide))) (by rfl) T.z_len PySem.boot_len (pa_cons (pv 11) pa_nil)) (pv 14)) (pg_sub (pv 8) (pv 13) set_list))))))))))))))
(pss_cons (ps_for PassesOwn.never (by rfl) (pi_range1 (by rfl) T.z_range (pa_cons (pe_callB call_len_seq (by rfl) T.z_len PySem.boot_len (pa_cons (pv 7) pa_nil)) pa_nil)) (pg_name (i := 5) sc_law.nd rfl (Or.inl rfl))
(pss_cons (ps_set (i := 13) sc_law.nd rfl (Or.inl rfl) (pe_op op_sub (pe_op op_sub (pe_callB call_len_seq (by rfl) T.z_len PySem.boot_len (pa_cons (pv 7) pa_nil)) pe_int) (pv 5)))
(pss_cons (ps_if (pt_not (pt_val (pe_callR R_law_equal (hr.mono (by decide)) rfl T.g__law_equal (pa_cons (pe_methR (pv 6) T.c_Vault T.h_Vault_advance R_Vault_advance (hr.mono (by decide)) (pa_cons (pv 13) (pa_cons pe_int pa_nil))) (pa_cons (pe_ix ix_list (pv 8) (pv 13) (fun _ _ => rfl)) pa_nil)))))
pss_never
pss_nil)
(pss_cons (ps_if (pt_not (pt_val (pe_callR R_law_equal (hr.mono (by decide)) rfl T.g__law_equal (pa_cons (pe_methR (pv 6) T.c_Vault T.h_Vault_answer R_Vault_answer (hr.mono (by decide)) (pa_cons (pv 13) pa_nil)) (pa_cons (pe_ix ix_list (pv 7) (pv 13) (fun _ _ => rfl)) pa_nil)))))
pss_never
pss_nil)
(pss_one (ps_expr (pe_methR (pv 6) T.c_Vault T.h_Vault_recall R_Vault_recall (hr.mono (by decide)) (pa_cons (pv 13) pa_nil))))))))
(pss_one (ps_ret (pe_and (pe_callR R_law_equalL (hr.mono (by decide)) rfl T.g__law_equal (pa_cons (pe_propR (pv 6) T.c_Vault T.p_memory R_Vault_memory (hr.mono (by decide)) rfl) (pa_cons (pv 4) pa_nil))) (pe_one (pe_callR R_law_equalL (hr.mono (by decide)) rfl T.g__law_equal (pa_cons (pe_meth0R (pv 6) T.c_Vault T.h_Vault_open_loans R_Vault_open_loans (hr.mono (by decide))) (pa_cons (pe_lst pa_nil) pa_nil)))))))))))))))), ?_⟩
    refine ⟨_, rfl, a, ns, rfl, hs, hl, fun H1 N xs k1 hN eN rN => ⟨by show 2 ≤ sizeLine; decide, fun d hd => ?_⟩⟩
    have D0 : Draws (upd H1 d (.lst [.ref N, .int 0])) d N xs := ⟨⟨0, upd_same⟩, by rw [upd_ne (ne_of_none eN hd)]; exact eN, rN⟩
    generalize upd H1 d (.lst [.ref N, .int 0]) = G0 at D0
    refine ⟨_, rfl, d, N, xs, rfl, D0, fun G1 x k1 D1 _ _ => add_mod_ok x 3 4 (by decide) (by decide) fun sz s3 s7 => ?_⟩
    refine ⟨_, _, rfl, rfl, ⟨by decide, by decide, by decide⟩, by show 6 ≤ sizeLine; decide, fun p hp => ?_⟩
    have D1' := D1.kp (Kp.refl.new (S := []) (o := .lst [V.int 2, .int 3, .int 10, .int 97, .int (10 ^ (9 : Int).toNat), .int 999999937]) hp) (fun z => nomatch z) (fun z => nomatch z)
    obtain ⟨jd, hjd⟩ := id D1.d
    have npd : p ≠ d := Ne.symm (ne_of_none hjd hp)
    refine ⟨_, rfl, d, N, xs, rfl, D1', fun G2 x k2 D2 _ _ => ?_⟩
    obtain ⟨m, hat, m2, m9⟩ := mods_at x
    have hp2 := k2.keep _ _ (upd_same (H := G1) (a := p)) (fun z => npd (List.mem_singleton.mp z))
    refine ⟨_, _, rfl, rfl, (by decide : (0 : Int) < 6), p, _, _, _, rfl, rfl, SqL.of hp2, hat, ?_⟩
    clear hp2 D1' D1 k2 hp
    have hpos : 0 < m := by omega
    refine ⟨_, rfl, sz, rfl, Int.natCast_nonneg _, by omega, fun aM0 hM0 => lc_range (lo := 0) (n := ((sz : Nat) : Int).toNat) (fun i H' => Draws H' d N xs ∧ ∃ acc : List Int, H' aM0 = some (.lst (vis acc)) ∧ acc.length = i ∧ Rng m acc)
      ⟨D2.kp (Kp.refl.new (S := []) hM0) (fun z => nomatch z) (fun z => nomatch z), [], upd_same, rfl, fun x hx => nomatch hx⟩ ?_ ?_⟩
    · rintro i H' hi ⟨q1, acc, q2, q3, q4⟩
      obtain ⟨jd, hjd⟩ := id D2.d
      have nMd : aM0 ≠ d := Ne.symm (ne_of_none hjd hM0)
      have nMN : N ≠ aM0 := ne_of_none D2.n hM0
      refine ⟨rfl, _, rfl, d, N, xs, rfl, q1, fun H2 x k2 D3 x0 x1 => ⟨_, rfl, d, N, xs, rfl, D3, fun H3 y k3 D4 y0 y1 => ⟨_, _, rfl, rfl, .inr ⟨by omega, by omega⟩, _, rfl, _, _, rfl, rfl, hpos, ?_⟩⟩⟩
      have q2' := k3.keep _ _ (k2.keep _ _ q2 fun z => nMd (List.mem_singleton.mp z)) fun z => nMd (List.mem_singleton.mp z)
      refine ⟨_, q2', ?_, D4.kp (Kp.mut (S := [aM0]) Kp.refl (.inl mem1) (notT_l q2')) (fun z => nMd (List.mem_singleton.mp z).symm) (fun z => nMN (List.mem_singleton.mp z)), acc ++ [x * y % m], ?_, ?_, ?_⟩
      · rw [vis_len]; exact Nat.lt_of_lt_of_le (show acc.length < 100 by omega) (by decide)
      · rw [← vis_snoc]; exact upd_same
      · rw [List.length_append, q3]; rfl
      · intro z hz
        rcases List.mem_append.mp hz with hz | hz
        · exact q4 z hz
        · rw [List.mem_singleton.mp hz]; exact mod_rng m2 _
    · rintro H' ⟨q1, M0, q2, q3, q4⟩
      obtain ⟨jd, hjd⟩ := id D2.d
      have nd1 : ([d, N] : List Addr).Nodup := List.nodup_cons.mpr ⟨fun z => D2.ne (List.mem_singleton.mp z).symm, List.nodup_cons.mpr ⟨(fun z => nomatch z), List.nodup_nil⟩⟩
      have lv1 : ∀ x ∈ ([d, N] : List Addr), ∃ o, G2 x = some o := fun x hx => by
        rcases List.mem_cons.mp hx with rfl | hx
        · exact ⟨_, hjd⟩
        · rw [List.mem_singleton.mp hx]; exact ⟨_, D2.n⟩
      have nd2 := snoc_nd nd1 lv1 hM0
      have lv2 : ∀ x ∈ ([d, N] ++ [aM0] : List Addr), ∃ o, H' x = some o := fun x hx => by
        obtain ⟨j2, hj2⟩ := id q1.d
        simp only [List.mem_cons, List.mem_append, List.not_mem_nil, or_false] at hx
        rcases hx with (rfl | rfl) | rfl
        · exact ⟨_, hj2⟩
        · exact ⟨_, q1.n⟩
        · exact ⟨_, q2⟩
      clear D2 lv1 nd1 hjd hM0
      refine ⟨_, rfl, aM0, _, rfl, .inl (SqL.of q2), fun l2 hl2 => ⟨_, rfl, ?_⟩⟩
      intro v dx nx ndx nex
      have kv : Kp [] H' (upd (upd (upd H' l2 (.lst (vis M0))) dx (.own v)) v (.ins (He.ga K "Vault") dx [])) := ((Kp.refl.new hl2).new ndx).new (by rw [upd_ne (Ne.symm nex)]; exact nx)
      have el2 : upd (upd (upd H' l2 (.lst (vis M0))) dx (.own v)) v (.ins (He.ga K "Vault") dx []) l2 = some (.lst (vis M0)) := by
        have n1 : l2 ≠ dx := ne_of_none upd_same ndx
        have n2 : l2 ≠ v := ne_of_none upd_same nx
        rw [upd_ne n2, upd_ne n1]; exact upd_same
      have nx0 : H' v = none := by
        have n2 : l2 ≠ v := ne_of_none upd_same nx
        rw [upd_ne (Ne.symm n2)] at nx; exact nx
      refine ⟨v, dx, l2, M0, m, rfl, upd_same, el2, q4, ⟨by omega, by omega⟩, ⟨m2, m9⟩, fun H4 C L k4 eV hC hL nCL eC eL => ⟨rfl, ?_⟩⟩
      have nd3 := snoc_nd nd2 lv2 nx0
      have lv3 := snoc_lv lv2 kv (y := v) upd_same
      have nd4 := snoc_nd nd3 lv3 hC
      have nd5 : ([d, N] ++ [aM0] ++ [v] ++ [C] ++ [L] : List Addr).Nodup := by
        have lvC : ∀ x ∈ ([d, N] ++ [aM0] ++ [v] ++ [C] : List Addr), ∃ o, upd (upd (upd (upd H' l2 (.lst (vis M0))) dx (.own v)) v (.ins (He.ga K "Vault") dx [])) C (.lst []) x = some o := snoc_lv lv3 (Kp.refl.new (S := []) hC) upd_same
        exact snoc_nd nd4 lvC (by rw [upd_ne (Ne.symm nCL)]; exact hL)
      have lv5 := snoc_lv (snoc_lv lv3 k4 eC) (Kp.refl (S := [])) eL
      have kv4 : Kp [] H' H4 := by
        refine ⟨fun b o e _ => k4.keep _ _ (kv.keep _ _ e fun z => nomatch z) fun z => ?_, fun b xs e => k4.tup _ _ (kv.tup _ _ e), fun b o e => let ⟨o', e'⟩ := kv.there b o e; k4.there b o' e'⟩
        rw [List.mem_singleton.mp z, nx0] at e
        cases e
      have q1' := q1.kp kv4 (fun z => nomatch z) (fun z => nomatch z)
      have q2' := kv4.keep _ _ q2 fun z => nomatch z
      clear el2 hl2 nx ndx nex kv k4 nx0 hC hL lv2 lv3 nd2 nd3 nd4 q1 q2 kv4
      refine ⟨Nat.zero_le _, fun Du hDu => ⟨Nat.zero_le _, fun Co hCo => ?_⟩⟩
      have nd6 := snoc_nd nd5 lv5 hDu
      have lv6 := snoc_lv lv5 (Kp.refl.new (S := []) (o := .lst []) hDu) upd_same
      have nd7 := snoc_nd nd6 lv6 hCo
      have k7 : Kp [] H4 (upd (upd H4 Du (.lst [])) Co (.lst [])) := (Kp.refl.new hDu).new hCo
      have nDC : Du ≠ Co := ne_of_none upd_same hCo
      have W : Lw K ⟨d, N, aM0, v, C, L, Du, Co, xs, m, sz, M0⟩ [] 0 M0 (upd (upd H4 Du (.lst [])) Co (.lst [])) :=
        ⟨q1'.kp k7 (fun z => nomatch z) (fun z => nomatch z), ⟨[], rfl, (fun x hx => nomatch hx), ⟨⟨dx, k7.keep _ _ eV (fun z => nomatch z)⟩, k7.keep _ _ eC (fun z => nomatch z), k7.keep _ _ eL (fun z => nomatch z), q4, by rw [q3]; omega, ⟨m2, m9⟩, Nat.zero_le _, nCL⟩⟩,
          ⟨[], rfl, by rw [upd_ne nDC]; exact upd_same⟩, ⟨[], rfl, upd_same⟩, k7.keep _ _ q2' (fun z => nomatch z), nd7, q3, (fun e he => nomatch he), rfl⟩
      generalize upd (upd H4 Du (.lst [])) Co (.lst []) = G5 at W
      clear k7 nd7 lv6 nd6 hCo hDu lv5 nd5 eV eC eL q1' q2'
      generalize hc : (Cst.mk d N aM0 v C L Du Co xs m sz M0) = c at W
      obtain rfl : d = c.d := by rw [← hc]
      obtain rfl : N = c.N := by rw [← hc]
      obtain rfl : aM0 = c.aM := by rw [← hc]
      obtain rfl : v = c.v := by rw [← hc]
      obtain rfl : C = c.C := by rw [← hc]
      obtain rfl : L = c.L := by rw [← hc]
      obtain rfl : Du = c.Du := by rw [← hc]
      obtain rfl : Co = c.Co := by rw [← hc]
      obtain rfl : xs = c.xs := by rw [← hc]
      obtain rfl : m = c.m := by rw [← hc]
      obtain rfl : sz = c.sz := by rw [← hc]
      obtain rfl : M0 = c.M0 := by rw [← hc]
      clear hc
      refine ⟨_, rfl, c.d, c.N, c.xs, rfl, W.dr, fun G6 x k6 D6 _ _ => add_mod_ok x 2 3 (by decide) (by decide) fun tn t2 t5 => ?_⟩
      refine ⟨tn, rfl, Int.natCast_nonneg _, by omega, for_range (lo := 0) (n := ((tn : Nat) : Int).toNat) (fun i σ H' => (∃ es mem, es.length = i ∧ Lw K c es 0 mem H') ∧
          ∃ v5 v9 v10 v11 v12 v13 v14, σ = [some (.ref a), some (.ref c.d), some (.int (c.sz : Nat)), some (.int c.m), some (.ref c.aM), v5, some (.ref c.v), some (.ref c.Du), some (.ref c.Co), v9, v10, v11, v12, v13, v14])
        ⟨⟨[], c.M0, rfl, W.d k6 D6⟩, none, none, none, none, none, none, none, rfl⟩ ?_ ?_⟩
      · rintro i σ Gi hi ⟨⟨es, mem, hlen, W⟩, v5, v9, v10, v11, v12, v13, v14, rfl⟩
        refine ⟨_, rfl, _, rfl, c.d, c.N, c.xs, rfl, W.dr, fun H1 x k1 D1 _ _ => add_mod_ok x 1 7 (by decide) (by decide) fun many b1 b2 => ?_⟩
        refine ⟨_, rfl, c.d, c.N, c.xs, rfl, D1, fun H2 y k2 D2 _ _ => add_mod_ok y 1 3 (by decide) (by decide) fun inp c1 c2 => ?_⟩
        refine ⟨c.d, c.N, c.xs, many, inp, rfl, D2, ⟨by omega, by omega⟩, ⟨by omega, by omega⟩, fun H3 aS src k3 D3 haS hsrc so hcost hneed => ?_⟩
        refine ⟨_, rfl, _, rfl, aS, src, c.m, rfl, hsrc, so, hcost, ⟨m2, m9⟩, fun H4 p l ss k4 hp hl4 PA ST okS len does => ?_⟩
        have kk4 : Kp [c.d] Gi H4 := ((k1.trans k2).trans k3).trans k4.nil
        have D4 := D3.kp k4 (fun z => nomatch z) (fun z => nomatch z)
        have hsrc4 := hsrc.kp k4
        have hp0 : Gi p = none := ((k1.trans k2).trans k3).free hp
        have hl0 : Gi l = none := ((k1.trans k2).trans k3).free hl4
        obtain ⟨ys, hys, rry⟩ := ST
        have hyl : ys.length ≤ 300 := by rw [rry.1]; exact len
        clear k1 k2 k3 D1 D2 D3 haS hsrc hp hl4 k4 hcost
        refine ⟨fun σ H' => ∃ (aS p l : Addr) (src : List Nd) (ss : List Stp) (ys : List V), σ = [some (.ref a), some (.ref c.d), some (.int (c.sz : Nat)), some (.int c.m), some (.ref c.aM), v5, some (.ref c.v), some (.ref c.Du), some (.ref c.Co), some (.int (0 + (i : Int))), some (.ref aS), some (.ref p), v12, v13, v14] ∧
          Kp [c.d] Gi H' ∧ Draws H' c.d c.N c.xs ∧ Gi p = none ∧ Gi l = none ∧ SrcAt H' aS src ∧ SrcOk src ∧ PF K c H' p l (needs src) ss ys ∧ (∀ s ∈ ss, s.Ok c.m (needs src)) ∧ ys.length ≤ 300 ∧ Does c.m src ss, ?_, ?_⟩
        · obtain ⟨dp, hpi⟩ := id PA
          refine ⟨_, rfl, p, dp, _, rfl, hpi, p, l, c.m, needs src, ys, rfl, PA, hys, _, rfl, Int.natCast_nonneg _, by omega, _, _, rfl, rfl, _, rfl, ite2 (fun _ => ?_) (fun _ => ?_)⟩
          · refine ⟨by show 2 ≤ sizeLine; decide, fun t ht => ⟨by show 1 ≤ sizeLine; decide, fun b hb => ?_⟩⟩
            have kt : Kp [] H4 (upd (upd H4 t (.tup [.str "const", .int 5])) b (.tup [.ref t])) := (Kp.refl.new ht).new hb
            have et : upd (upd H4 t (.tup [.str "const", .int 5])) b (.tup [.ref t]) t = some (.tup [.str "const", .int 5]) := by rw [upd_ne (ne_of_none upd_same hb)]; exact upd_same
            have eb : upd (upd H4 t (.tup [.str "const", .int 5])) b (.tup [.ref t]) b = some (.tup [.ref t]) := upd_same
            refine ⟨_, rfl, _, rfl, b, [.const 5], c.m, rfl, ⟨_, eb, Refs.one et⟩, ⟨by decide, by decide, one_ok⟩, one_cost, ⟨m2, m9⟩, fun H5 p l ss k5 hp5 hl5 PA5 ST5 okS5 len5 does5 => ?_⟩
            obtain ⟨ys5, hys5, rry5⟩ := ST5
            have kx : Kp [c.d] Gi (upd (upd H4 t (.tup [.str "const", .int 5])) b (.tup [.ref t])) := kk4.trans kt.nil
            exact ⟨b, p, l, [.const 5], ss, ys5, rfl, kx.trans k5.nil, (D4.kp kt (fun z => nomatch z) (fun z => nomatch z)).kp k5 (fun z => nomatch z) (fun z => nomatch z), kx.free hp5, kx.free hl5, SrcAt.kp ⟨_, eb, Refs.one et⟩ k5, ⟨by decide, by decide, one_ok⟩, ⟨PA5, hys5, rry5⟩, okS5, by rw [rry5.1]; exact len5, does5⟩
          · exact ⟨aS, p, l, src, ss, ys, rfl, kk4, D4, hp0, hl0, hsrc4, so, ⟨PA, hys, rry⟩, okS, hyl, does⟩
        · clear kk4 D4 hsrc4 hp0 hl0 PA hys rry hyl okS len does so hneed
          rintro σ HM ⟨aS, p, l, src, ss, ys, rfl, kM, DM, hp0, hl0, hsrc, so, PF0, okS, hyl, does⟩
          have WM := W.d kM DM
          have pS := W.fr hp0
          have lS := W.fr hl0
          have sv := W.vs0
          refine ⟨_, rfl, aS, src, rfl, hsrc, so.le, fun H6 k6 => ⟨(needs src : Nat), rfl, Int.natCast_nonneg _, by have := needs_60 so; omega, fun gA hgA => lc_range (lo := 0) (n := ((needs src : Nat) : Int).toNat) (fun j H' => Kp [c.d] HM H' ∧ Draws H' c.d c.N c.xs ∧ ∃ acc : List Int, H' gA = some (.lst (vis acc)) ∧ acc.length = j ∧ Rng c.m acc)
            ⟨k6.nil.new hgA, DM.kp (k6.new hgA) (fun z => nomatch z) (fun z => nomatch z), [], upd_same, rfl, fun x hx => nomatch hx⟩ ?_ ?_⟩⟩
          · rintro j H' hj ⟨q0, q1, acc, q2, q3, q4⟩
            obtain ⟨jd, hjd⟩ := id q1.d
            have hgM : HM gA = none := k6.free hgA
            have nMd : gA ≠ c.d := fun e => by
              obtain ⟨jd, hjd⟩ := id DM.d
              rw [← e, hgM] at hjd
              cases hjd
            have nMN : c.N ≠ gA := fun e => by
              have := DM.n
              rw [e, hgM] at this
              cases this
            refine ⟨rfl, _, rfl, c.d, c.N, c.xs, rfl, q1, fun H2 x k2 D3 x0 x1 => ⟨_, rfl, c.d, c.N, c.xs, rfl, D3, fun H3 y k3 D4 y0 y1 => ⟨_, _, rfl, rfl, .inr ⟨by omega, by omega⟩, _, rfl, _, _, rfl, rfl, hpos, ?_⟩⟩⟩
            have q2' := k3.keep _ _ (k2.keep _ _ q2 fun z => nMd (List.mem_singleton.mp z)) fun z => nMd (List.mem_singleton.mp z)
            refine ⟨_, q2', ?_, Kp.mut ((q0.trans k2).trans k3) (.inr hgM) (notT_l q2'), D4.kp (Kp.mut (S := [gA]) Kp.refl (.inl mem1) (notT_l q2')) (fun z => nMd (List.mem_singleton.mp z).symm) (fun z => nMN (List.mem_singleton.mp z)), acc ++ [x * y % c.m], ?_, ?_, ?_⟩
            · rw [vis_len]; exact Nat.lt_of_lt_of_le (show acc.length < 100 by have := needs_60 so; omega) (by decide)
            · rw [← vis_snoc]; exact upd_same
            · rw [List.length_append, q3]; rfl
            · intro z hz
              rcases List.mem_append.mp hz with hz | hz
              · exact q4 z hz
              · rw [List.mem_singleton.mp hz]; exact mod_rng m2 _
          · rintro H7 ⟨k7, D7, given, eg7, gl, gr⟩
            have gl' : given.length = needs src := by omega
            have W7 := WM.d k7 D7
            have PF7 := PF0.kp k7 (out8 [0] pS rfl) (out8 [0] lS rfl)
            have kG7 : Kp [c.d, c.Du, c.Co, c.L, c.C] Gi H7 := (kM.trans k7).mono fun x hx => by rw [List.mem_singleton.mp hx]; exact List.mem_cons_self ..
            have hgG : Gi gA = none := kM.free (k6.free hgA)
            clear hgA k6
            refine ⟨_, rfl, .inl ⟨rfl, _, SqL.of W7.du0⟩, _, rfl, _, rfl, _, rfl, aS, gA, src, c.m, given, rfl, hsrc.kp k7, so, ⟨m2, m9⟩, eg7, gl', gr, fun H8 k8 => ?_⟩
            have W8 := W7.nil k8
            have PF8 := PF7.kp k8 (fun z => nomatch z) (fun z => nomatch z)
            have eg8 := k8.keep _ _ eg7 (fun z => nomatch z)
            have kG8 : Kp [c.d, c.Du, c.Co, c.L, c.C] Gi H8 := kG7.trans k8.nil
            clear k7 D7 eg7 W7 PF7 PF0 hsrc kG7 WM DM kM k8
            generalize hdue : val c.m given src (src.length - 1) = due
            have e8 := W8.du0
            have lnD : ∀ f : Ent → Int, (vis (es.reverse.map f)).length = i := fun f => by rw [vis_len, List.length_map, List.length_reverse, hlen]
            have lnS : i < sizeLine := Nat.lt_of_lt_of_le (show i < 100 by omega) (by decide)
            refine ⟨c.Du, _, _, rfl, rfl, e8, by rw [lnD]; exact lnS, ?_⟩
            have k9 : Kp [c.Du] H8 (upd H8 c.Du (.lst (vis (es.reverse.map Ent.due) ++ [.int due]))) := Kp.mut Kp.refl (.inl mem1) (notT_l e8)
            have eDu9 : upd H8 c.Du (.lst (vis (es.reverse.map Ent.due) ++ [.int due])) c.Du = some (.lst (vis (es.reverse.map Ent.due ++ [due]))) := by rw [← vis_snoc]; exact upd_same
            have eCo9 := k9.keep _ _ W8.co0 (ni8 W8.nd 7 [6] rfl rfl (by decide))
            have PF9 := PF8.kp k9 (out8 [6] pS rfl) (out8 [6] lS rfl)
            generalize upd H8 c.Du (.lst (vis (es.reverse.map Ent.due) ++ [.int due])) = H9 at k9 eDu9 eCo9 PF9
            obtain ⟨dp, hpi9⟩ := PF9.pa
            refine ⟨_, rfl, .inl ⟨rfl, _, SqL.of eCo9⟩, _, rfl, p, dp, _, rfl, hpi9, p, l, c.m, needs src, ys, rfl, PF9.pa, PF9.el, _, rfl, Int.natCast_nonneg _, by omega, c.Co, _, _, rfl, rfl, eCo9, by rw [lnD]; exact lnS, ?_⟩
            have k10 : Kp [c.Co] H9 (upd H9 c.Co (.lst (vis (es.reverse.map Ent.cost) ++ [.int (ys.length : Nat)]))) := Kp.mut Kp.refl (.inl mem1) (notT_l eCo9)
            have eCo10 : upd H9 c.Co (.lst (vis (es.reverse.map Ent.cost) ++ [.int (ys.length : Nat)])) c.Co = some (.lst (vis (es.reverse.map Ent.cost ++ [(ys.length : Int)]))) := by rw [← vis_snoc]; exact upd_same
            have eDu10 := k10.keep _ _ eDu9 (ni8 W8.nd 6 [7] rfl rfl (by decide))
            have PF10 := PF9.kp k10 (out8 [7] pS rfl) (out8 [7] lS rfl)
            generalize upd H9 c.Co (.lst (vis (es.reverse.map Ent.cost) ++ [.int (ys.length : Nat)])) = H10 at k10 eDu10 eCo10 PF10
            have gS := W.fr hgG
            have V10 : VSt K H10 c.m c.v c.C c.L mem (es.reverse.map Ent.ref) := (W8.vs0.kp k9 (ni8 W8.nd 3 [6] rfl rfl (by decide)) (ni8 W8.nd 4 [6] rfl rfl (by decide)) (ni8 W8.nd 5 [6] rfl rfl (by decide))).kp k10 (ni8 W8.nd 3 [7] rfl rfl (by decide)) (ni8 W8.nd 4 [7] rfl rfl (by decide)) (ni8 W8.nd 5 [7] rfl rfl (by decide))
            have D10 : Draws H10 c.d c.N c.xs := (W8.dr.kp k9 (ni8 W8.nd 0 [6] rfl rfl (by decide)) (ni8 W8.nd 1 [6] rfl rfl (by decide))).kp k10 (ni8 W8.nd 0 [7] rfl rfl (by decide)) (ni8 W8.nd 1 [7] rfl rfl (by decide))
            have eg10 := k10.keep _ _ (k9.keep _ _ eg8 (out8 [6] gS rfl)) (out8 [7] gS rfl)
            have kG10 : Kp [c.d, c.Du, c.Co, c.L, c.C] Gi H10 := (kG8.loc k9 fun x hx => .inl (by rw [List.mem_singleton.mp hx]; simp)).loc k10 fun x hx => .inl (by rw [List.mem_singleton.mp hx]; simp)
            have nd := W8.nd
            clear k9 k10 eDu9 eCo9 PF8 PF9 eg8 e8 kG8 W8 hpi9
            obtain ⟨dv, hv10⟩ := id V10.va
            refine ⟨_, rfl, c.v, dv, _, rfl, hv10, vf_1, _, rfl, _, rfl, _, rfl, c.d, c.N, c.xs, c.sz, rfl, D10, ⟨by omega, by omega⟩, fun H11 plA places k11 D11 hpl epl plok => ?_⟩
            have V11 := V10.kp k11 (ni8 nd 3 [0] rfl rfl (by decide)) (ni8 nd 4 [0] rfl rfl (by decide)) (ni8 nd 5 [0] rfl rfl (by decide))
            have PF11 := PF10.kp k11 (out8 [0] pS rfl) (out8 [0] lS rfl)
            have eg11 := k11.keep _ _ eg10 (out8 [0] gS rfl)
            have eDu11 := k11.keep _ _ eDu10 (ni8 nd 6 [0] rfl rfl (by decide))
            have eCo11 := k11.keep _ _ eCo10 (ni8 nd 7 [0] rfl rfl (by decide))
            have kG11 : Kp [c.d, c.Du, c.Co, c.L, c.C] Gi H11 := kG10.loc k11 fun x hx => .inl (by rw [List.mem_singleton.mp hx]; simp)
            clear V10 PF10 eg10 eDu10 eCo10 D10 hv10
            refine ⟨_, rfl, gA, _, rfl, .inl (SqL.of eg11), fun g2 hg2 => ?_⟩
            have k12 : Kp [] H11 (upd H11 g2 (.lst (vis given))) := Kp.refl.new hg2
            have eg12 : upd H11 g2 (.lst (vis given)) g2 = some (.lst (vis given)) := upd_same
            have V12 := V11.nil k12
            have PF12 := PF11.kp k12 (fun z => nomatch z) (fun z => nomatch z)
            have eDu12 := k12.keep _ _ eDu11 (fun z => nomatch z)
            have eCo12 := k12.keep _ _ eCo11 (fun z => nomatch z)
            have epl12 := k12.keep _ _ epl (fun z => nomatch z)
            have D12 := D11.kp k12 (fun z => nomatch z) (fun z => nomatch z)
            have kG12 : Kp [c.d, c.Du, c.Co, c.L, c.C] Gi (upd H11 g2 (.lst (vis given))) := kG11.trans k12.nil
            generalize upd H11 g2 (.lst (vis given)) = H12 at k12 eg12 V12 PF12 eDu12 eCo12 epl12 D12 kG12
            clear k12 V11 PF11 eDu11 eCo11 epl D11 kG11 k11 kG10 hg2 hpl
            refine ⟨c.v, p, plA, g2, c.C, c.L, c.m, mem, es.reverse.map Ent.ref, needs src, l, places, given, rfl, V12, PF12.pa, epl12, by rw [W.mz]; exact plok, eg12, gl', gr, fun H13 a0 pl' g' k13 ha hpl' hg' eL13 LA13 epl13 eg13 => ?_⟩
            have hls : (es.reverse.map Ent.ref).length = i := by rw [List.length_map, List.length_reverse, hlen]
            have V13 : VSt K H13 c.m c.v c.C c.L mem (es.reverse.map Ent.ref ++ [.ref a0]) := ⟨V12.va.kp k13 (ni8 nd 3 [5] rfl rfl (by decide)), k13.keep _ _ V12.ce (ni8 nd 4 [5] rfl rfl (by decide)), eL13, V12.r, V12.sz, V12.m2, by rw [List.length_append, hls]; show i + 1 ≤ 1000; omega, V12.ne⟩
            have PF13 := PF12.kp k13 (out8 [5] pS rfl) (out8 [5] lS rfl)
            have D13 := D12.kp k13 (ni8 nd 0 [5] rfl rfl (by decide)) (ni8 nd 1 [5] rfl rfl (by decide))
            have eDu13 := k13.keep _ _ eDu12 (ni8 nd 6 [5] rfl rfl (by decide))
            have eCo13 := k13.keep _ _ eCo12 (ni8 nd 7 [5] rfl rfl (by decide))
            have kG13 : Kp [c.d, c.Du, c.Co, c.L, c.C] Gi H13 := kG12.loc k13 fun x hx => .inl (by rw [List.mem_singleton.mp hx]; simp)
            have ga0 := kG12.free ha
            have gpl := kG12.free hpl'
            have gg := kG12.free hg'
            have aS0 := W.fr ga0
            have plS0 := W.fr gpl
            have gS0 := W.fr gg
            have LN13 : LoanIn K H13 c.m c.sz ⟨a0, p, l, pl', g', needs src, ss, places, given, mem.getD (places.getD 0 0) 0, 0⟩ := ⟨LA13, PF13.pa, ⟨ys, PF13.el, PF13.rf⟩, epl13, eg13, okS, plok, gl', gr⟩
            clear V12 PF12 D12 eDu12 eCo12 kG12 ha hpl' hg' k13 eg12 epl12 eL13 LA13 epl13 eg13
            refine ⟨_, rfl, _, rfl, c.Du, _, rfl, .inl (SqL.of eDu13), _, _, rfl, rfl, (i : Int), eq2 (by rw [hls]) (by rw [vis_len, List.length_append, List.length_map, List.length_reverse, hlen, List.length_singleton]; omega), true, rfl, ifF ?_⟩
            refine ⟨_, rfl, c.d, c.N, c.xs, rfl, D13, fun H14 x k14 D14 _ _ => ?_⟩
            have PF14 := PF13.kp k14 (out8 [0] pS rfl) (out8 [0] lS rfl)
            have V14 := V13.kp k14 (ni8 nd 3 [0] rfl rfl (by decide)) (ni8 nd 4 [0] rfl rfl (by decide)) (ni8 nd 5 [0] rfl rfl (by decide))
            have eDu14 := k14.keep _ _ eDu13 (ni8 nd 6 [0] rfl rfl (by decide))
            have eCo14 := k14.keep _ _ eCo13 (ni8 nd 7 [0] rfl rfl (by decide))
            have kG14 : Kp [c.d, c.Du, c.Co, c.L, c.C] Gi H14 := kG13.loc k14 fun x hx => .inl (by rw [List.mem_singleton.mp hx]; simp)
            have cmp : ∀ x ∈ ([a0, p, l, pl', g'] : List Addr), x ∉ c.S := fun x hx => by
              simp only [List.mem_cons, List.not_mem_nil, or_false] at hx
              rcases hx with rfl | rfl | rfl | rfl | rfl <;> assumption
            have LN14 := LN13.kp k14 fun x hx => out8 [0] (cmp x hx) rfl
            obtain ⟨dp14, hpi14⟩ := id PF14.pa
            have hp1 : 0 < ((ys.length : Nat) : Int) + 1 := by omega
            refine ⟨_, rfl, p, dp14, _, rfl, hpi14, p, l, c.m, needs src, ys, rfl, PF14.pa, PF14.el, _, rfl, Int.natCast_nonneg _, by omega, _, _, rfl, rfl, _, _, rfl, rfl, hp1, ?_⟩
            obtain ⟨part, ep⟩ := Int.eq_ofNat_of_zero_le (Int.emod_nonneg x (show ((ys.length : Nat) : Int) + 1 ≠ 0 by omega))
            have ep1 := Int.emod_lt_of_pos x hp1
            have hpart : part ≤ ss.length := by rw [← rry0 PF14]; omega
            have hcnt : ((ss.drop 0).take part).length = part := by rw [List.drop_zero, List.length_take, Nat.min_eq_left hpart]
            clear V13 PF13 eDu13 eCo13 D13 LN13 k14 kG13
            obtain ⟨dv, hv14⟩ := id V14.va
            refine ⟨_, rfl, c.v, dv, _, rfl, hv14, vf_5, _, rfl, _, rfl, c.v, c.C, c.L, c.m, mem, es.reverse.map Ent.ref ++ [.ref a0], ⟨a0, p, l, pl', g', needs src, ss, places, given, mem.getD (places.getD 0 0) 0, 0⟩, (es.reverse.map Ent.ref).length, part,
              congrArg (fun z => [V.ref c.v, V.int _, V.int z]) ep, V14, by rw [W.mz]; exact LN14, last_snoc _ _, fun hC => cmp _ hC (List.mem_of_getElem? (i := 4) rfl), Nat.zero_le _, by show ss.length ≤ 20000; rw [← rry0 PF14]; omega, by omega, fun H15 k15 eC15 LA15 => ?_⟩
            refine ⟨_, rfl, (part : Int), eq2 (congrArg _ hcnt) ep, true, rfl, ifF ?_⟩
            have k15' := k15
            have a0S : a0 ∉ c.S := aS0
            have nin : ∀ (j : Nat) (y : Addr), c.S[j]? = some y → j ∉ [4] → y ∉ [c.C, a0] := fun j y hj hn hT => by
              rcases List.mem_cons.mp hT with h1 | h1
              · exact ni8 nd j [4] hj (show [c.C].map some = _ from rfl) hn (h1 ▸ mem1)
              · exact a0S (List.mem_singleton.mp h1 ▸ List.mem_of_getElem? hj)
            have pa : p ≠ a0 := LN14.pa_ne
            have la : l ≠ a0 := by
              obtain ⟨_, e1⟩ := LN14.la
              exact ne_of PF14.el e1 (by intro q; cases q)
            have nCx : ∀ x ∈ ([a0, p, l, pl', g'] : List Addr), x ≠ c.C := fun x hx e => cmp x hx (e ▸ List.mem_of_getElem? (i := 4) rfl)
            have PF15 := PF14.kp k15 (fun hT => by
              rcases List.mem_cons.mp hT with h1 | h1
              · exact nCx p (by simp) h1
              · exact pa (List.mem_singleton.mp h1)) (fun hT => by
              rcases List.mem_cons.mp hT with h1 | h1
              · exact nCx l (by simp) h1
              · exact la (List.mem_singleton.mp h1))
            have LN15 := LN14.dn k15 (fun hC => cmp _ hC (List.mem_of_getElem? (i := 4) rfl)) LA15
            have D15 := D14.kp k15 (nin 0 _ rfl (by decide)) (nin 1 _ rfl (by decide))
            have eDu15 := k15.keep _ _ eDu14 (nin 6 _ rfl (by decide))
            have eCo15 := k15.keep _ _ eCo14 (nin 7 _ rfl (by decide))
            have V15 : VSt K H15 c.m c.v c.C c.L _ (es.reverse.map Ent.ref ++ [.ref a0]) := V14.cells (S := [a0]) k15 (fun z => a0S (List.mem_singleton.mp z ▸ List.mem_of_getElem? (i := 3) rfl)) (fun z => a0S (List.mem_singleton.mp z ▸ List.mem_of_getElem? (i := 5) rfl)) eC15 (vruns_rng m2 plok _ mem W.mz V14.r) (vruns_len _ _)
            have kG15 : Kp [c.d, c.Du, c.Co, c.L, c.C] Gi H15 := kG14.loc k15 fun x hx => by
              rcases List.mem_cons.mp hx with h1 | h1
              · exact .inl (by rw [h1]; simp)
              · exact .inr (by rw [List.mem_singleton.mp h1]; exact ga0)
            obtain ⟨dp15, hpi15⟩ := id PF15.pa
            refine ⟨_, rfl, p, dp15, _, rfl, hpi15, p, l, c.m, needs src, ys, rfl, PF15.pa, PF15.el, _, rfl, Int.natCast_nonneg _, by omega, _, rfl, _, _, rfl, rfl, _, rfl, _, rfl, c.Co, _, _, (es.reverse.map Ent.ref).length, rfl, rfl, eCo15, ixN_nat (by rw [hls, vis_len, List.length_append, List.length_map, List.length_reverse, hlen]; exact Nat.lt_succ_self _), ?_⟩
            have k16 : Kp [c.Co] H15 (upd H15 c.Co (.lst ((vis (es.reverse.map Ent.cost ++ [(ys.length : Int)])).set (es.reverse.map Ent.ref).length (.int ((ys.length : Nat) - x % ((ys.length : Nat) + 1)))))) := Kp.mut Kp.refl (.inl mem1) (notT_l eCo15)
            have eCo16 : upd H15 c.Co (.lst ((vis (es.reverse.map Ent.cost ++ [(ys.length : Int)])).set (es.reverse.map Ent.ref).length (.int ((ys.length : Nat) - x % ((ys.length : Nat) + 1))))) c.Co = some (.lst (vis (es.reverse.map Ent.cost ++ [(ys.length : Nat) - x % ((ys.length : Nat) + 1)]))) := by
              rw [set_snoc (by rw [List.length_map, List.length_map])]
              exact upd_same
            refine ⟨⟨⟨⟨a0, p, l, pl', g', needs src, ss, places, given, mem.getD (places.getD 0 0) 0, 0 + ((ss.drop 0).take part).length⟩, due, mem⟩ :: es, _, by rw [List.length_cons, hlen], W.push (kG15.loc k16 fun x hx => .inl (by rw [List.mem_singleton.mp hx]; simp)) (D15.kp k16 (ni8 nd 0 [7] rfl rfl (by decide)) (ni8 nd 1 [7] rfl rfl (by decide))) (k16.keep _ _ eDu15 (ni8 nd 6 [7] rfl rfl (by decide))) ?_
              (V15.kp k16 (ni8 nd 3 [7] rfl rfl (by decide)) (ni8 nd 4 [7] rfl rfl (by decide)) (ni8 nd 5 [7] rfl rfl (by decide))) ?_ rfl ?_ (LN15.kp k16 fun x hx => out8 [7] (cmp x hx) rfl) ?_ ?_ rfl ?_ ?_⟩, _, _, _, _, _, _, _, rfl⟩
            · rw [eCo16]
              refine congrArg (fun z => some (HO.lst (vis (_ ++ [z])))) ?_
              show ((ys.length : Nat) : Int) - x % ((ys.length : Nat) + 1) = ((ss.length : Nat) : Int) - ((0 + ((ss.drop 0).take part).length : Nat) : Int)
              rw [hcnt, rry0 PF14, ← rry0 PF14, ep, Nat.zero_add]
            · show vruns _ _ _ _ ((ss.drop 0).take part) = vruns _ _ _ _ (ss.take (0 + ((ss.drop 0).take part).length))
              rw [hcnt, Nat.zero_add, List.drop_zero]
            · intro x hx
              simp only [LD.comps, List.mem_cons, List.not_mem_nil, or_false] at hx
              rcases hx with rfl | rfl | rfl | rfl | rfl
              · exact ga0
              · exact hp0
              · exact hl0
              · exact gpl
              · exact gg
            · show 0 + ((ss.drop 0).take part).length ≤ ss.length
              rw [hcnt]; omega
            · show ss.length ≤ 300
              rw [← rry0 PF14]; exact hyl
            · exact fun cs hm => by rw [← hdue]; exact does given cs hm
            · rw [← hdue]
              exact val_rng m2 so gl' gr (by have := so.ne; omega)
      · rintro σ Gf ⟨⟨es, mem, hlen, W⟩, v5, v9, v10, v11, v12, v13, v14, rfl⟩
        have hlen' : es.length = tn := by omega
        clear hlen
        have dul : (vis (es.reverse.map Ent.due)).length = tn := by rw [vis_len, List.length_map, List.length_reverse, hlen']
        refine ⟨_, rfl, c.Du, _, rfl, .inl (SqL.of W.du0), _, rfl, Int.natCast_nonneg _, by omega, for_range (lo := 0) (n := (((vis (es.reverse.map Ent.due)).length : Nat) : Int).toNat) (fun k σ H' => (∃ es mem, es.length + k = tn ∧ Lw K c es k mem H') ∧
          ∃ v5 v9 v10 v11 v12 v13 v14, σ = [some (.ref a), some (.ref c.d), some (.int (c.sz : Nat)), some (.int c.m), some (.ref c.aM), v5, some (.ref c.v), some (.ref c.Du), some (.ref c.Co), v9, v10, v11, v12, v13, v14])
          ⟨⟨es, mem, hlen', W⟩, _, _, _, _, _, _, _, rfl⟩ ?_ ?_⟩
        · clear W hlen'
          rintro k σ H0 hk ⟨⟨es, mem, hlen, W⟩, v5, v9, v10, v11, v12, v13, v14, rfl⟩
          cases es with
          | nil => exact absurd hlen (by show ¬ 0 + k = tn; omega)
          | cons e r =>
            obtain ⟨tl, l1, l2, V⟩ := W.vs
            obtain ⟨td, l3, eDu⟩ := W.du
            obtain ⟨tc, l4, eCo⟩ := W.co
            obtain ⟨ch1, ch2, ch3⟩ := W.ch
            have E := W.en e (List.mem_cons_self ..)
            have nd := W.nd
            have hrl : r.length + 1 + k = tn := hlen
            have lnA : ∀ {f : Ent → Int} {t : List Int}, t.length = k → ((vis ((e :: r).reverse.map f ++ t)).length : Int) - 1 - (0 + (k : Int)) = (r.length : Nat) := fun {f t} h => by
              rw [vis_len, List.length_append, List.length_map, List.length_reverse, List.length_cons, h]; omega
            obtain ⟨dv, hv⟩ := id V.va
            have hC : c.C ∉ e.ld.comps := fun h => E.sep _ h (List.mem_of_getElem? (i := 4) rfl)
            have aS : e.ld.a ∉ c.S := E.sep _ (by simp [LD.comps])
            have hcnt : ((e.ld.ss.drop e.ld.done).take 1000) = e.ld.ss.drop e.ld.done := List.take_of_length_le (by rw [List.length_drop]; have := E.le; omega)
            have hcl : ((e.ld.ss.drop e.ld.done).take 1000).length = e.ld.ss.length - e.ld.done := by rw [hcnt, List.length_drop]
            have hdn := E.dn
            have tk := lnA (f := Ent.due) l3
            refine ⟨_, rfl, c.Du, _, rfl, .inl (SqL.of eDu), _, _, rfl, rfl, _, rfl, _, _, rfl, rfl, ?_⟩
            refine ⟨_, rfl, c.v, dv, _, rfl, hv, vf_5, _, rfl, c.v, c.C, c.L, c.m, mem, (e :: r).reverse.map Ent.ref ++ tl, e.ld, r.length, 1000, congrArg (fun z => [L2.V.ref c.v, L2.V.int z, L2.V.int 1000]) tk, V, by rw [W.mz]; exact E.ln, Lw.last l2, hC, hdn, by have := E.le; omega, by decide, fun H1 k1 eC1 LA1 => ?_⟩
            have nin : ∀ (j : Nat) (y : Addr), c.S[j]? = some y → j ∉ [4] → y ∉ [c.C, e.ld.a] := fun j y hj hn hT => by
              rcases List.mem_cons.mp hT with h1 | h1
              · exact ni8 nd j [4] hj (show [c.C].map some = _ from rfl) hn (h1 ▸ mem1)
              · exact aS (List.mem_singleton.mp h1 ▸ List.mem_of_getElem? hj)
            have eCo1 := k1.keep _ _ eCo (nin 7 _ rfl (by decide))
            have eDu1 := k1.keep _ _ eDu (nin 6 _ rfl (by decide))
            refine ⟨_, rfl, _, rfl, c.Co, _, _, _, rfl, rfl, SqL.of eCo1, vis_mid tk, e.cost, eq2 (by rw [hcl]; show ((e.ld.ss.length - e.ld.done : Nat) : Int) = (e.ld.ss.length : Int) - (e.ld.done : Int); omega) rfl, true, rfl, ifF ?_⟩
            have LN1 := E.ln.dn k1 hC LA1
            have hdf : e.ld.done + ((e.ld.ss.drop e.ld.done).take 1000).length = e.ld.ss.length := by rw [hcl]; omega
            have hm1 : vruns c.m e.ld.given e.ld.places mem ((e.ld.ss.drop e.ld.done).take 1000) = vruns c.m e.ld.given e.ld.places e.M e.ld.ss := by
              rw [hcnt, ch1, ← vruns_app, List.take_append_drop]
            rw [hm1] at eC1
            have V1 : VSt K H1 c.m c.v c.C c.L (vruns c.m e.ld.given e.ld.places e.M e.ld.ss) ((e :: r).reverse.map Ent.ref ++ tl) := V.cells (S := [e.ld.a]) k1 (fun z => aS (List.mem_singleton.mp z ▸ List.mem_of_getElem? (i := 3) rfl)) (fun z => aS (List.mem_singleton.mp z ▸ List.mem_of_getElem? (i := 5) rfl)) eC1 (vruns_rng m2 E.ln.po _ e.M E.ml E.mr) (by rw [vruns_len, E.ml, W.mz])
            have hv1 := k1.keep _ _ hv (nin 3 _ rfl (by decide))
            have hml : (vruns c.m e.ld.given e.ld.places e.M e.ld.ss).length = c.sz := by rw [vruns_len, E.ml]
            refine ⟨_, rfl, c.v, dv, _, rfl, hv1, vf_6, _, rfl, c.v, c.C, c.L, c.m, _, (e :: r).reverse.map Ent.ref ++ tl, e.ld.dn (e.ld.done + ((e.ld.ss.drop e.ld.done).take 1000).length), r.length, congrArg (fun z => [L2.V.ref c.v, L2.V.int z]) tk, V1, by rw [hml]; exact LN1, Lw.last l2, hdf, fun H2 k2 => ?_⟩
            have hfirst : ((vruns c.m e.ld.given e.ld.places e.M e.ld.ss).getD (e.ld.places.getD 0 0) 0 - e.ld.begun) % c.m = e.due := by
              rw [E.bg]
              refine vruns_first m2 E.ln.po E.ml E.mr E.dr E.ef ?_
              have h0 : 0 < e.ld.places.length := by rw [E.ln.po.len]; decide
              rw [List.getD_eq_getElem?_getD, List.getElem?_eq_getElem h0]; rfl
            have eDu2 := k2.keep _ _ eDu1 (fun z => nomatch z)
            refine ⟨_, rfl, _, rfl, c.Du, _, _, _, rfl, rfl, SqL.of eDu2, vis_mid tk, e.due, eq2 hfirst rfl, true, rfl, ifF ?_⟩
            have V2 := V1.nil k2
            have LN2 := LN1.nil k2
            have hv2 := k2.keep _ _ hv1 (fun z => nomatch z)
            refine ⟨_, rfl, c.v, dv, _, rfl, hv2, vf_7, _, rfl, c.v, c.C, c.L, c.m, _, (e :: r).reverse.map Ent.ref ++ tl, e.ld.dn (e.ld.done + ((e.ld.ss.drop e.ld.done).take 1000).length), r.length, congrArg (fun z => [L2.V.ref c.v, L2.V.int z]) tk, V2, by rw [hml]; exact LN2, Lw.last l2, hC, hdf, by show e.ld.ss.length ≤ 20000; have := E.le; omega, fun H3 z k3 eC3 eL3 => ?_⟩
            have hinv : vruns c.m e.ld.given e.ld.places (vruns c.m e.ld.given e.ld.places e.M e.ld.ss) (e.ld.ss.reverse.map (Stp.inv c.m)) = e.M := vruns_inv m2 E.ln.po E.ln.ok E.ml E.mr
            refine ⟨⟨r, e.M, by omega, W.pop (((k1.mono ?_).trans k2.nil).trans (k3.mono ?_)) (by rw [eC3]; exact congrArg (fun z => some (HO.lst (vis z))) hinv) fun tl' h' => ?_⟩, _, _, _, _, _, _, _, rfl⟩
            · intro x hx
              simp only [List.mem_cons, List.not_mem_nil, or_false] at hx ⊢
              rcases hx with h | h
              · exact .inl h
              · exact .inr (.inr h)
            · intro x hx
              simp only [List.mem_cons, List.not_mem_nil, or_false] at hx ⊢
              rcases hx with h | h
              · exact .inl h
              · exact .inr (.inl h)
            · have := V.lo.symm.trans h'
              rw [← HO.lst.inj (Option.some.inj this)]
              exact eL3
        · clear W hlen'
          rintro σ H0 ⟨⟨es, mem, hlen, W⟩, v5, v9, v10, v11, v12, v13, v14, rfl⟩
          obtain rfl : es = [] := List.length_eq_zero_iff.mp (by omega)
          obtain ⟨tl, l1, l2, V⟩ := W.vs
          obtain ⟨dv, hv⟩ := id V.va
          have hch : mem = c.M0 := W.ch
          subst hch
          refine ⟨_, rfl, c.v, dv, _, rfl, hv, c.v, c.C, c.L, c.m, _, rfl, V.va, V.ce, fun p hp => ?_⟩
          have kp : Kp [] H0 (upd H0 p (.lst (vis c.M0))) := Kp.refl.new hp
          have V1 := V.nil kp
          have hv1 := kp.keep _ _ hv (fun z => nomatch z)
          have me1 := kp.keep _ _ W.me (fun z => nomatch z)
          have ep : upd H0 p (.lst (vis c.M0)) p = some (.lst (vis c.M0)) := upd_same
          generalize upd H0 p (.lst (vis c.M0)) = H1 at kp V1 hv1 me1 ep
          refine ⟨_, rfl, p, c.aM, c.M0, rfl, ep, me1, by rw [W.mz]; omega, true, rfl, ifT ?_⟩
          refine ⟨_, rfl, c.v, dv, _, rfl, hv1, vf_8, c.v, c.C, c.L, c.m, _, _, rfl, V1, l2, fun H2 q k2 hq eq => ⟨Nat.zero_le _, fun b hb => ?_⟩⟩
          refine ⟨q, b, [], rfl, ?_, upd_same, by decide, k _⟩
          rw [upd_ne (ne_of_none eq hb)]
          exact eq
end
end BF

namespace BF
open PySem PySem.Spec PyProof.Rows L2
/-! ### what the head tells: the facts, the defs, the table, the property -/
def fa : List He.Fa := [.glo "is_integer", .glo "is_number", .glo "is_factor", .glo "is_add", .glo "is_step", .glo "inverse_step", .glo "perform", .glo "check_steps", .glo "check_numbers", .glo "is_node", .glo "check_source", .glo "needs", .glo "cost", .glo "leaf_step", .glo "product_tasks", .glo "inner_tasks", .glo "compile_source", .glo "_law_mixed", .glo "_law_numbers", .glo "_law_draw", .glo "_law_equal", .glo "_law_all_equal", .glo "_law_source", .glo "_law_meaning", .glo "_law_needs", .glo "_law_places", .glo "law", .glo "perform_steps", .glo "LENGTHS", .glo "Loan", .cls "Loan", .mkr "Loan", .glo "Program", .cls "Program", .mkr "Program", .glo "Vault", .cls "Vault", .mkr "Vault", .meth "Vault" "lend", .meth "Vault" "found", .meth "Vault" "blocked", .meth "Vault" "perform", .meth "Vault" "advance", .meth "Vault" "answer", .meth "Vault" "recall", .meth "Vault" "open_loans", .noat "Program" "modulus", .noat "Program" "cells", .noat "Program" "inputs", .noat "Program" "steps", .noat "Loan" "program", .noat "Loan" "places", .noat "Loan" "given", .noat "Loan" "begun", .noat "Loan" "done", .noat "Vault" "modulus", .noat "Vault" "cells", .noat "Vault" "loans", .int "FACTORS" 3, .int "MODULUS" 1000000000, .int "CELLS" 60, .int "INPUTS_programs" 60, .int "STEPS" 20000, .int "MOST_vault" 200, .int "NODES" 200, .int "CONSTANT" 1000000000, .int "INPUTS_sources" 60, .int "MOST_three" 20000, .free "isinstance", .free "len", .free "range", .free "max", .free "list", .free "tuple", .free "enumerate", .free "zip", .free "any", .free "int", .free "bool", .free "str", .meth "Program" "__len__"]
def dn_is_integer : He.DefD := ⟨("is_integer", none), "is_integer", "is_integer", defArgs s_is_integer, defBody s_is_integer, defScope s_is_integer, [], []⟩
def dn_is_number : He.DefD := ⟨("is_number", none), "is_number", "is_number", defArgs s_is_number, defBody s_is_number, defScope s_is_number, [], []⟩
def dn_is_factor : He.DefD := ⟨("is_factor", none), "is_factor", "is_factor", defArgs s_is_factor, defBody s_is_factor, defScope s_is_factor, [], []⟩
def dn_is_add : He.DefD := ⟨("is_add", none), "is_add", "is_add", defArgs s_is_add, defBody s_is_add, defScope s_is_add, [], []⟩
def dn_is_step : He.DefD := ⟨("is_step", none), "is_step", "is_step", defArgs s_is_step, defBody s_is_step, defScope s_is_step, [], []⟩
def dn_inverse_step : He.DefD := ⟨("inverse_step", none), "inverse_step", "inverse_step", defArgs s_inverse_step, defBody s_inverse_step, defScope s_inverse_step, [], []⟩
def dn_perform : He.DefD := ⟨("perform", none), "perform", "perform", defArgs s_perform, defBody s_perform, defScope s_perform, [], []⟩
def dn_check_steps : He.DefD := ⟨("check_steps", none), "check_steps", "check_steps", defArgs s_check_steps, defBody s_check_steps, defScope s_check_steps, [], []⟩
def dn_check_numbers : He.DefD := ⟨("check_numbers", none), "check_numbers", "check_numbers", defArgs s_check_numbers, defBody s_check_numbers, defScope s_check_numbers, [], []⟩
def dn_Program_init : He.DefD := ⟨("Program", some "__init__"), "__init__", "Program.__init__", defArgs s_Program_init, defBody s_Program_init, defScope s_Program_init, [], []⟩
def dn_Program_len : He.DefD := ⟨("Program", some "__len__"), "__len__", "Program.__len__", defArgs s_Program_len, defBody s_Program_len, defScope s_Program_len, [], []⟩
def dn_Loan_init : He.DefD := ⟨("Loan", some "__init__"), "__init__", "Loan.__init__", defArgs s_Loan_init, defBody s_Loan_init, defScope s_Loan_init, [], []⟩
def dn_Vault_init : He.DefD := ⟨("Vault", some "__init__"), "__init__", "Vault.__init__", defArgs s_Vault_init, defBody s_Vault_init, defScope s_Vault_init, [], []⟩
def dn_Vault_lend : He.DefD := ⟨("Vault", some "lend"), "lend", "Vault.lend", defArgs s_Vault_lend, defBody s_Vault_lend, defScope s_Vault_lend, [], []⟩
def dn_Vault_found : He.DefD := ⟨("Vault", some "found"), "found", "Vault.found", defArgs s_Vault_found, defBody s_Vault_found, defScope s_Vault_found, [], []⟩
def dn_Vault_blocked : He.DefD := ⟨("Vault", some "blocked"), "blocked", "Vault.blocked", defArgs s_Vault_blocked, defBody s_Vault_blocked, defScope s_Vault_blocked, [], []⟩
def dn_Vault_perform : He.DefD := ⟨("Vault", some "perform"), "perform", "Vault.perform", defArgs s_Vault_perform, defBody s_Vault_perform, defScope s_Vault_perform, [], []⟩
def dn_Vault_advance : He.DefD := ⟨("Vault", some "advance"), "advance", "Vault.advance", defArgs s_Vault_advance, defBody s_Vault_advance, defScope s_Vault_advance, [], []⟩
def dn_Vault_answer : He.DefD := ⟨("Vault", some "answer"), "answer", "Vault.answer", defArgs s_Vault_answer, defBody s_Vault_answer, defScope s_Vault_answer, [], []⟩
def dn_Vault_recall : He.DefD := ⟨("Vault", some "recall"), "recall", "Vault.recall", defArgs s_Vault_recall, defBody s_Vault_recall, defScope s_Vault_recall, [], []⟩
def dn_Vault_open_loans : He.DefD := ⟨("Vault", some "open_loans"), "open_loans", "Vault.open_loans", defArgs s_Vault_open_loans, defBody s_Vault_open_loans, defScope s_Vault_open_loans, [], []⟩
def dn_is_node : He.DefD := ⟨("is_node", none), "is_node", "is_node", defArgs s_is_node, defBody s_is_node, defScope s_is_node, [], []⟩
def dn_check_source : He.DefD := ⟨("check_source", none), "check_source", "check_source", defArgs s_check_source, defBody s_check_source, defScope s_check_source, [], []⟩
def dn_needs : He.DefD := ⟨("needs", none), "needs", "needs", defArgs s_needs, defBody s_needs, defScope s_needs, [], []⟩
def dn_cost : He.DefD := ⟨("cost", none), "cost", "cost", defArgs s_cost, defBody s_cost, defScope s_cost, [], []⟩
def dn_leaf_step : He.DefD := ⟨("leaf_step", none), "leaf_step", "leaf_step", defArgs s_leaf_step, defBody s_leaf_step, defScope s_leaf_step, [], []⟩
def dn_product_tasks : He.DefD := ⟨("product_tasks", none), "product_tasks", "product_tasks", defArgs s_product_tasks, defBody s_product_tasks, defScope s_product_tasks, [], []⟩
def dn_inner_tasks : He.DefD := ⟨("inner_tasks", none), "inner_tasks", "inner_tasks", defArgs s_inner_tasks, defBody s_inner_tasks, defScope s_inner_tasks, [], []⟩
def dn_compile_source : He.DefD := ⟨("compile_source", none), "compile_source", "compile_source", defArgs s_compile_source, defBody s_compile_source, defScope s_compile_source, [], []⟩
def dn_law_mixed : He.DefD := ⟨("_law_mixed", none), "_law_mixed", "_law_mixed", defArgs s_law_mixed, defBody s_law_mixed, defScope s_law_mixed, [], []⟩
def dn_law_numbers : He.DefD := ⟨("_law_numbers", none), "_law_numbers", "_law_numbers", defArgs s_law_numbers, defBody s_law_numbers, defScope s_law_numbers, [], []⟩
def dn_law_draw : He.DefD := ⟨("_law_draw", none), "_law_draw", "_law_draw", defArgs s_law_draw, defBody s_law_draw, defScope s_law_draw, [], []⟩
def dn_law_equal : He.DefD := ⟨("_law_equal", none), "_law_equal", "_law_equal", defArgs s_law_equal, defBody s_law_equal, defScope s_law_equal, [], []⟩
def dn_law_all_equal : He.DefD := ⟨("_law_all_equal", none), "_law_all_equal", "_law_all_equal", defArgs s_law_all_equal, defBody s_law_all_equal, defScope s_law_all_equal, [], []⟩
def dn_law_source : He.DefD := ⟨("_law_source", none), "_law_source", "_law_source", defArgs s_law_source, defBody s_law_source, defScope s_law_source, [], []⟩
def dn_law_meaning : He.DefD := ⟨("_law_meaning", none), "_law_meaning", "_law_meaning", defArgs s_law_meaning, defBody s_law_meaning, defScope s_law_meaning, [], []⟩
def dn_law_needs : He.DefD := ⟨("_law_needs", none), "_law_needs", "_law_needs", defArgs s_law_needs, defBody s_law_needs, defScope s_law_needs, [], []⟩
def dn_law_places : He.DefD := ⟨("_law_places", none), "_law_places", "_law_places", defArgs s_law_places, defBody s_law_places, defScope s_law_places, [], []⟩
def dn_law : He.DefD := ⟨("law", none), "law", "law", defArgs s_law, defBody s_law, defScope s_law, [], []⟩
def fn : List He.DefD := [dn_is_integer, dn_is_number, dn_is_factor, dn_is_add, dn_is_step, dn_inverse_step, dn_perform, dn_check_steps, dn_check_numbers, dn_Program_init, dn_Program_len, dn_Loan_init, dn_Vault_init, dn_Vault_lend, dn_Vault_found, dn_Vault_blocked, dn_Vault_perform, dn_Vault_advance, dn_Vault_answer, dn_Vault_recall, dn_Vault_open_loans, dn_is_node, dn_check_source, dn_needs, dn_cost, dn_leaf_step, dn_product_tasks, dn_inner_tasks, dn_compile_source, dn_law_mixed, dn_law_numbers, dn_law_draw, dn_law_equal, dn_law_all_equal, dn_law_source, dn_law_meaning, dn_law_needs, dn_law_places, dn_law]
def ts : List He.Tab := [((fun K => He.ga K "LENGTHS"), ["const", "input", "sum", "product", "scaled", "choose"])]
def lens : List (Str × He.Dv) := [("const", .int 2), ("input", .int 2), ("sum", .int 3), ("product", .int 3), ("scaled", .int 3), ("choose", .int 4)]
/-- the getter's function object -/
def gSeen (K : PySem.W.Frag) : He.FnW := match K.lookup (gM K) with
  | some ⟨_, _, .func fd, _⟩ => some (fd.name, fd.qualname, fd.params, fd.body, fd.scope, fd.globals, fd.closure, fd.builtins)
  | _ => none
def gDue : He.FnW := some ("memory", "Vault.memory", defArgs s_Vault_memory, .stmts (defBody s_Vault_memory), defScope s_Vault_memory, mainGlobals, [], builtinsNs)
def gCode (K : PySem.W.Frag) : Bool := PySem.W.keepIn K (.ref (gM K)) && (match K.lookup (gM K) with
  | some ⟨_, _, .func fd, _⟩ => PySem.W.codeIn K fd.code "Vault.memory" && (He.dflB K fd.defaults [] && He.kwdB K fd.kwdefaults [])
  | _ => false)
def pSeen (K : PySem.W.Frag) : Bool := (He.eqO (PySem.W.findIn K (.ref (He.ga K "Vault")) "memory") (some (some (.ref (pM K)))) && He.eqO (PySem.W.specialIn K (.ref (pM K)) "__get__") (some (some (.builtin "property.__get__")))) &&
  (decide (PySem.W.takesIn K (.ref (pM K)) = some true) && (match PySem.W.recIn K (pM K) "property" with
    | some (.ref _ :: _) => true
    | _ => false))
def more (K : PySem.W.Frag) : Bool := (gCode K && pSeen K) && (decide (He.ga K "perform_steps" = He.ga K "perform") && He.valsB K (He.ga K "LENGTHS") lens)
abbrev AlP : Type := He.AlT × Bool × He.FnW
def obsP (K : PySem.W.Frag) : AlP := (He.obsT fa fn ts K, more K, gSeen K)
def valP (w : World) : AlP := (He.valT fn ts w, true, gDue)
structure SaysP (w : World) (K : PySem.W.Frag) : Prop where
  t : He.SaysT fa fn ts w K
  gk : gCode K = true
  pk : pSeen K = true
  al : He.ga K "perform_steps" = He.ga K "perform"
  vk : He.valsB K (He.ga K "LENGTHS") lens = true
  gw : gSeen K = gDue
theorem saysP_of {w : World} {K : PySem.W.Frag} (e : obsP K = valP w) : SaysP w K := by
  have e1 : He.obsT fa fn ts K = He.valT fn ts w := congrArg (fun z : AlP => z.1) e
  have e2 : more K = true := congrArg (fun z : AlP => z.2.1) e
  have e3 : gSeen K = gDue := congrArg (fun z : AlP => z.2.2) e
  obtain ⟨h1, h2⟩ := He.ba e2
  obtain ⟨h3, h4⟩ := He.ba h1
  obtain ⟨h5, h6⟩ := He.ba h2
  exact ⟨e1, h3, h4, of_decide_eq_true h5, h6, e3⟩
def obsPG (g : Addr → Option Obj) : AlP := obsP (He.frG g (He.asD g 6))
def hookP : PySem.W.Hook where
  α := AlP
  obs := fun s => obsPG s.heap.get?
  val := fun w => valP w
  says := fun w h => ∃ K : PySem.W.Frag, K.In h ∧ SaysP w K
  of := fun _ _ e => ⟨_, He.frG_in, saysP_of e⟩
  keeps := fun _ _ _ ⟨K, hK, c⟩ k => ⟨K, PySem.W.Frag.In.keeps hK k, c⟩
theorem obsPG_eq {g : Addr → Option Obj} {s : Shared} (h : ∀ a, g a = s.heap.get? a) : obsPG g = hookP.obs s := by
  have e : g = s.heap.get? := funext h
  rw [e] <;> rfl
theorem gAlias {K : PySem.W.Frag} (h : He.ga K "perform_steps" = He.ga K "perform") : (some (Value.ref (He.ga K "perform_steps")) : Option Value) = some (.ref (He.ga K "perform")) := by rw [h]
theorem gProp {K : PySem.W.Frag} (h : pSeen K = true) : PropOf K (He.ga K "Vault") "memory" (pM K) (gM K) := by
  obtain ⟨h1, h2⟩ := He.ba h
  obtain ⟨h3, h4⟩ := He.ba h1
  obtain ⟨h5, h6⟩ := He.ba h2
  refine ⟨He.eqO_ok h3, He.eqO_ok h4, of_decide_eq_true h5, ?_⟩
  unfold gM
  cases q : PySem.W.recIn K (pM K) "property" with
  | none => rw [q] at h6; cases h6
  | some l =>
    rw [q] at h6
    cases l with
    | nil => cases h6
    | cons x r =>
      cases x with
      | ref a => exact ⟨r, rfl⟩
      | _ => cases h6
theorem gFun {K : PySem.W.Frag} (e : gSeen K = gDue) (c : gCode K = true) : ∃ fd, FunD K "memory" "Vault.memory" (defArgs s_Vault_memory) (defBody s_Vault_memory) (defScope s_Vault_memory) [] [] (gM K) fd := by
  obtain ⟨kp, c2⟩ := He.ba c
  unfold gSeen at e
  cases q : K.lookup (gM K) with
  | none => rw [q] at c2; cases c2
  | some o =>
    obtain ⟨oc, od, dt, osl⟩ := o
    rw [q] at c2 e
    cases dt with
    | func fd =>
      obtain ⟨k1, k2⟩ := He.ba (show (PySem.W.codeIn K fd.code "Vault.memory" && (He.dflB K fd.defaults [] && He.kwdB K fd.kwdefaults [])) = true from c2)
      obtain ⟨k3, k4⟩ := He.ba k2
      have e2 := Option.some.inj (show (some (fd.name, fd.qualname, fd.params, fd.body, fd.scope, fd.globals, fd.closure, fd.builtins) : He.FnW) = some _ from e)
      obtain ⟨n1, n2, n3, n4, n5, n6, n7, n8, n9, n10, n11, n12, n13, n14, n15⟩ := fd
      simp only [Prod.mk.injEq] at e2
      obtain ⟨h1, h2, h3, h4, h5, h6, h7, h8⟩ := e2
      refine ⟨_, ⟨oc, od, n8, n9, n10, n11, n12, n13, n14, osl, ?_, q, k1, He.dflB_ok k3, He.kwdB_ok k4⟩, kp⟩
      rw [h1, h2, h3, h4, h5, h6, h7, h8]
    | _ => cases c2
theorem txt_of {K : PySem.W.Frag} {w : World} {h : Heap} {mg : Str → Option Value} (X : K.In h) (G : h.Ns mainGlobals mg) (c : SaysP w K) : Txt K w mg :=
  ⟨c.t.d.def_ 0 (d := dn_is_integer) rfl,
   c.t.d.def_ 1 (d := dn_is_number) rfl,
   c.t.d.def_ 2 (d := dn_is_factor) rfl,
   c.t.d.def_ 3 (d := dn_is_add) rfl,
   c.t.d.def_ 4 (d := dn_is_step) rfl,
   c.t.d.def_ 5 (d := dn_inverse_step) rfl,
   c.t.d.def_ 6 (d := dn_perform) rfl,
   c.t.d.def_ 7 (d := dn_check_steps) rfl,
   c.t.d.def_ 8 (d := dn_check_numbers) rfl,
   c.t.d.def_ 9 (d := dn_Program_init) rfl,
   c.t.d.def_ 10 (d := dn_Program_len) rfl,
   c.t.d.def_ 11 (d := dn_Loan_init) rfl,
   c.t.d.def_ 12 (d := dn_Vault_init) rfl,
   gFun c.gw c.gk,
   c.t.d.def_ 13 (d := dn_Vault_lend) rfl,
   c.t.d.def_ 14 (d := dn_Vault_found) rfl,
   c.t.d.def_ 15 (d := dn_Vault_blocked) rfl,
   c.t.d.def_ 16 (d := dn_Vault_perform) rfl,
   c.t.d.def_ 17 (d := dn_Vault_advance) rfl,
   c.t.d.def_ 18 (d := dn_Vault_answer) rfl,
   c.t.d.def_ 19 (d := dn_Vault_recall) rfl,
   c.t.d.def_ 20 (d := dn_Vault_open_loans) rfl,
   c.t.d.def_ 21 (d := dn_is_node) rfl,
   c.t.d.def_ 22 (d := dn_check_source) rfl,
   c.t.d.def_ 23 (d := dn_needs) rfl,
   c.t.d.def_ 24 (d := dn_cost) rfl,
   c.t.d.def_ 25 (d := dn_leaf_step) rfl,
   c.t.d.def_ 26 (d := dn_product_tasks) rfl,
   c.t.d.def_ 27 (d := dn_inner_tasks) rfl,
   c.t.d.def_ 28 (d := dn_compile_source) rfl,
   c.t.d.def_ 29 (d := dn_law_mixed) rfl,
   c.t.d.def_ 30 (d := dn_law_numbers) rfl,
   c.t.d.def_ 31 (d := dn_law_draw) rfl,
   c.t.d.def_ 32 (d := dn_law_equal) rfl,
   c.t.d.def_ 33 (d := dn_law_all_equal) rfl,
   c.t.d.def_ 34 (d := dn_law_source) rfl,
   c.t.d.def_ 35 (d := dn_law_meaning) rfl,
   c.t.d.def_ 36 (d := dn_law_needs) rfl,
   c.t.d.def_ 37 (d := dn_law_places) rfl,
   c.t.d.def_ 38 (d := dn_law) rfl,
   He.glo_ok X G (c.t.d.fact 0 (f := .glo "is_integer") rfl),
   He.glo_ok X G (c.t.d.fact 1 (f := .glo "is_number") rfl),
   He.glo_ok X G (c.t.d.fact 2 (f := .glo "is_factor") rfl),
   He.glo_ok X G (c.t.d.fact 3 (f := .glo "is_add") rfl),
   He.glo_ok X G (c.t.d.fact 4 (f := .glo "is_step") rfl),
   He.glo_ok X G (c.t.d.fact 5 (f := .glo "inverse_step") rfl),
   He.glo_ok X G (c.t.d.fact 6 (f := .glo "perform") rfl),
   He.glo_ok X G (c.t.d.fact 7 (f := .glo "check_steps") rfl),
   He.glo_ok X G (c.t.d.fact 8 (f := .glo "check_numbers") rfl),
   He.glo_ok X G (c.t.d.fact 9 (f := .glo "is_node") rfl),
   He.glo_ok X G (c.t.d.fact 10 (f := .glo "check_source") rfl),
   He.glo_ok X G (c.t.d.fact 11 (f := .glo "needs") rfl),
   He.glo_ok X G (c.t.d.fact 12 (f := .glo "cost") rfl),
   He.glo_ok X G (c.t.d.fact 13 (f := .glo "leaf_step") rfl),
   He.glo_ok X G (c.t.d.fact 14 (f := .glo "product_tasks") rfl),
   He.glo_ok X G (c.t.d.fact 15 (f := .glo "inner_tasks") rfl),
   He.glo_ok X G (c.t.d.fact 16 (f := .glo "compile_source") rfl),
   He.glo_ok X G (c.t.d.fact 17 (f := .glo "_law_mixed") rfl),
   He.glo_ok X G (c.t.d.fact 18 (f := .glo "_law_numbers") rfl),
   He.glo_ok X G (c.t.d.fact 19 (f := .glo "_law_draw") rfl),
   He.glo_ok X G (c.t.d.fact 20 (f := .glo "_law_equal") rfl),
   He.glo_ok X G (c.t.d.fact 21 (f := .glo "_law_all_equal") rfl),
   He.glo_ok X G (c.t.d.fact 22 (f := .glo "_law_source") rfl),
   He.glo_ok X G (c.t.d.fact 23 (f := .glo "_law_meaning") rfl),
   He.glo_ok X G (c.t.d.fact 24 (f := .glo "_law_needs") rfl),
   He.glo_ok X G (c.t.d.fact 25 (f := .glo "_law_places") rfl),
   He.glo_ok X G (c.t.d.fact 26 (f := .glo "law") rfl),
   by rw [← gAlias c.al]; exact He.glo_ok X G (c.t.d.fact 27 (f := .glo "perform_steps") rfl),
   He.glo_ok X G (c.t.d.fact 28 (f := .glo "LENGTHS") rfl),
   He.glo_ok X G (c.t.d.fact 29 (f := .glo "Loan") rfl),
   He.cls_ok (c.t.d.fact 30 (f := .cls "Loan") rfl),
   He.mkr_ok (c.t.d.fact 31 (f := .mkr "Loan") rfl),
   He.glo_ok X G (c.t.d.fact 32 (f := .glo "Program") rfl),
   He.cls_ok (c.t.d.fact 33 (f := .cls "Program") rfl),
   He.mkr_ok (c.t.d.fact 34 (f := .mkr "Program") rfl),
   He.glo_ok X G (c.t.d.fact 35 (f := .glo "Vault") rfl),
   He.cls_ok (c.t.d.fact 36 (f := .cls "Vault") rfl),
   He.mkr_ok (c.t.d.fact 37 (f := .mkr "Vault") rfl),
   He.meth_ok (c.t.d.fact 38 (f := .meth "Vault" "lend") rfl),
   He.meth_ok (c.t.d.fact 39 (f := .meth "Vault" "found") rfl),
   He.meth_ok (c.t.d.fact 40 (f := .meth "Vault" "blocked") rfl),
   He.meth_ok (c.t.d.fact 41 (f := .meth "Vault" "perform") rfl),
   He.meth_ok (c.t.d.fact 42 (f := .meth "Vault" "advance") rfl),
   He.meth_ok (c.t.d.fact 43 (f := .meth "Vault" "answer") rfl),
   He.meth_ok (c.t.d.fact 44 (f := .meth "Vault" "recall") rfl),
   He.meth_ok (c.t.d.fact 45 (f := .meth "Vault" "open_loans") rfl),
   He.noat_ok (c.t.d.fact 46 (f := .noat "Program" "modulus") rfl),
   He.noat_ok (c.t.d.fact 47 (f := .noat "Program" "cells") rfl),
   He.noat_ok (c.t.d.fact 48 (f := .noat "Program" "inputs") rfl),
   He.noat_ok (c.t.d.fact 49 (f := .noat "Program" "steps") rfl),
   He.noat_ok (c.t.d.fact 50 (f := .noat "Loan" "program") rfl),
   He.noat_ok (c.t.d.fact 51 (f := .noat "Loan" "places") rfl),
   He.noat_ok (c.t.d.fact 52 (f := .noat "Loan" "given") rfl),
   He.noat_ok (c.t.d.fact 53 (f := .noat "Loan" "begun") rfl),
   He.noat_ok (c.t.d.fact 54 (f := .noat "Loan" "done") rfl),
   He.noat_ok (c.t.d.fact 55 (f := .noat "Vault" "modulus") rfl),
   He.noat_ok (c.t.d.fact 56 (f := .noat "Vault" "cells") rfl),
   He.noat_ok (c.t.d.fact 57 (f := .noat "Vault" "loans") rfl),
   He.int_ok X G (c.t.d.fact 58 (f := .int "FACTORS" 3) rfl),
   He.int_ok X G (c.t.d.fact 59 (f := .int "MODULUS" 1000000000) rfl),
   He.int_ok X G (c.t.d.fact 60 (f := .int "CELLS" 60) rfl),
   He.int_ok X G (c.t.d.fact 61 (f := .int "INPUTS_programs" 60) rfl),
   He.int_ok X G (c.t.d.fact 62 (f := .int "STEPS" 20000) rfl),
   He.int_ok X G (c.t.d.fact 63 (f := .int "MOST_vault" 200) rfl),
   He.int_ok X G (c.t.d.fact 64 (f := .int "NODES" 200) rfl),
   He.int_ok X G (c.t.d.fact 65 (f := .int "CONSTANT" 1000000000) rfl),
   He.int_ok X G (c.t.d.fact 66 (f := .int "INPUTS_sources" 60) rfl),
   He.int_ok X G (c.t.d.fact 67 (f := .int "MOST_three" 20000) rfl),
   He.free_ok X G (c.t.d.fact 68 (f := .free "isinstance") rfl),
   He.free_ok X G (c.t.d.fact 69 (f := .free "len") rfl),
   He.free_ok X G (c.t.d.fact 70 (f := .free "range") rfl),
   He.free_ok X G (c.t.d.fact 71 (f := .free "max") rfl),
   He.free_ok X G (c.t.d.fact 72 (f := .free "list") rfl),
   He.free_ok X G (c.t.d.fact 73 (f := .free "tuple") rfl),
   He.free_ok X G (c.t.d.fact 74 (f := .free "enumerate") rfl),
   He.free_ok X G (c.t.d.fact 75 (f := .free "zip") rfl),
   He.free_ok X G (c.t.d.fact 76 (f := .free "any") rfl),
   He.free_ok X G (c.t.d.fact 77 (f := .free "int") rfl),
   He.free_ok X G (c.t.d.fact 78 (f := .free "bool") rfl),
   He.free_ok X G (c.t.d.fact 79 (f := .free "str") rfl),
   (He.meth_ok (c.t.d.fact 80 (f := .meth "Program" "__len__") rfl)).1,
   (He.meth_ok (c.t.d.fact 80 (f := .meth "Program" "__len__") rfl)).2,
   gProp c.pk,
   c.t.tab 0,
   He.valsB_ok c.vk (q := ("const", .int 2)) (by simp [lens]),
   He.valsB_ok c.vk (q := ("input", .int 2)) (by simp [lens]),
   He.valsB_ok c.vk (q := ("sum", .int 3)) (by simp [lens]),
   He.valsB_ok c.vk (q := ("product", .int 3)) (by simp [lens]),
   He.valsB_ok c.vk (q := ("scaled", .int 3)) (by simp [lens]),
   He.valsB_ok c.vk (q := ("choose", .int 4)) (by simp [lens])⟩
end BF

namespace BF
open PySem PySem.Spec PyProof.Rows L2
/-! ### every def's promise, the law's at the end -/
theorem law_fn {P : Program} {w : World} {K : PySem.W.Frag} {mg : Str → Option Value} {base : Heap} {fd : FuncData} (T : Txt K w mg) (F : FunD K "law" "law" (defArgs s_law) (defBody s_law) (defScope s_law) [] [] (He.ga K "law") fd) :
    FnOk P w K mg base CX0 10 (He.ga K "law") fd P_law (sp_law K) := by
  have R_law_mixed := ok_law_mixed (P := P) (base := base) T
  have R_law_numbers := ok_law_numbers (P := P) (base := base) T R_law_mixed
  have R_law_draw := ok_law_draw (P := P) (base := base) T R_law_mixed
  have R_is_integer := ok_is_integer (P := P) (base := base) T
  have R_is_number := ok_is_number (P := P) (base := base) T R_is_integer
  have R_check_numbers := ok_check_numbers (P := P) (base := base) T R_is_number
  have R_Vault_init := ok_Vault_init (P := P) (base := base) T R_is_integer R_check_numbers
  have R_law_source := ok_law_source (P := P) (base := base) T R_law_draw
  have R_is_node := ok_is_node (P := P) (base := base) T R_is_number
  have R_check_source := ok_check_source (P := P) (base := base) T R_is_node
  have R_cost := ok_cost (P := P) (base := base) T R_check_source
  have R_is_factor := ok_is_factor (P := P) (base := base) T R_is_number
  have R_is_add := ok_is_add (P := P) (base := base) T R_is_number R_is_factor
  have R_is_step := ok_is_step (P := P) (base := base) T R_is_add
  have R_check_steps := ok_check_steps (P := P) (base := base) T R_is_step
  have R_Program_init := ok_Program_init (P := P) (base := base) T R_is_integer R_check_steps
  have R_needs := ok_needs (P := P) (base := base) T R_check_source
  have R_leaf_step := ok_leaf_step (P := P) (base := base) T
  have R_product_tasks := ok_product_tasks (P := P) (base := base) T
  have R_inner_tasks := ok_inner_tasks (P := P) (base := base) T R_product_tasks
  have R_compile_source := ok_compile_source (P := P) (base := base) T R_cost R_Program_init R_needs R_leaf_step R_inner_tasks
  have R_law_needs := ok_law_needs (P := P) (base := base) T
  have R_law_meaning := ok_law_meaning (P := P) (base := base) T
  have R_Loan_init := ok_Loan_init (P := P) (base := base) T
  have R_Vault_lend := ok_Vault_lend (P := P) (base := base) T R_is_number R_check_numbers R_Loan_init
  have R_law_places := ok_law_places (P := P) (base := base) T R_law_draw
  have R_law_equal := ok_law_equalI (P := P) (base := base) T
  have R_law_all_equal := ok_law_all_equal (P := P) (base := base) T R_law_equal
  have R_law_equalL := ok_law_equalL (P := P) (base := base) T R_law_all_equal
  have R_Vault_found := ok_Vault_found (P := P) (base := base) T R_is_number
  have R_Vault_blocked := ok_Vault_blocked (P := P) (base := base) T
  have R_perform := ok_perform (P := P) (base := base) T
  have R_Vault_perform := ok_Vault_perform (P := P) (base := base) T R_perform
  have R_Vault_advance := ok_Vault_advance (P := P) (base := base) T R_Vault_found R_is_integer R_Vault_blocked R_Vault_perform
  have R_Vault_answer := ok_Vault_answer (P := P) (base := base) T R_Vault_found R_Vault_blocked
  have R_inverse_step := ok_inverse_step (P := P) (base := base) T
  have R_Vault_recall := ok_Vault_recall (P := P) (base := base) T R_Vault_found R_Vault_blocked R_Vault_perform R_inverse_step
  have R_Vault_open_loans := ok_Vault_open_loans (P := P) (base := base) T
  have R_Program_len := ok_Program_len (P := P) (base := base) T
  have R_Vault_memory := ok_Vault_memory (P := P) (base := base) T
  exact okF_law T R_law_numbers R_law_draw R_Vault_init R_law_source R_compile_source R_law_needs R_law_meaning R_Vault_lend R_law_places R_law_equal R_law_equalL R_Vault_advance R_Vault_answer R_Vault_recall R_Vault_open_loans R_Program_len R_Vault_memory F
theorem facts {P : Program} {w : World} {K : PySem.W.Frag} {h : Heap} {mg : Str → Option Value} {f : Addr} (X : K.In h) (G : h.Ns mainGlobals mg) (hfa : mg ("law" : Str) = some (.ref f)) (c : SaysP w K) :
    ∃ fd : FuncData, (∀ (s : Shared) (v : Value), BindsTo s fd ⟨[v], []⟩ [("_law_script", v)]) ∧ ∀ base : Heap, K.In base → base.Ns mainGlobals mg → FnOk P w K mg base CX0 10 f fd ["_law_script"] (sp_law K) := by
  have T := txt_of X G c
  obtain ⟨fd, F⟩ := T.f_law
  have e := hfa.symm.trans T.g_law
  cases e
  have b := FunD.bindsA (ps := ["_law_script"]) F fun _ _ _ _ _ _ us hl => match us, hl with | [_], _ => rfl
  exact ⟨fd, fun s v => b s [v] rfl, fun base _ _ => law_fn T F⟩
end BF

set_option maxHeartbeats 0
namespace BF
open PySem PySem.Spec PyProof.Rows L2
abbrev Rw : PySem.W.OpenRow := PySem.W.OpenLaw.row PySem.Challenge.rw_brimful_k55_whole_nested_lending
def ob (s : PySem.W.SharedT) : AlP := obsPG (HandSHeadRun.getT s)
theorem ob_eq (s : PySem.W.SharedT) : ob s = hookP.obs s.abs := obsPG_eq (HandSHeadRun.getT_eq s)
def loose1 : List Str := ["_wall", "BrimfulError", "BadStep", "BadMemory", "BadSource", "TooLong", "Busy", "BadTicket", "is_integer", "is_number", "is_prime", "inverse_of", "weights", "interpolate", "FACTORS", "is_factor", "is_table", "is_add", "is_look", "is_step", "inverse_step", "perform", "perform_steps", "check_steps"]
def loose2 : List Str := ["MODULUS", "CELLS", "INPUTS_programs", "STEPS", "check_numbers", "Program", "MOST_vault", "Loan", "Vault", "NODES", "CONSTANT", "INPUTS_sources", "LENGTHS", "is_node", "check_source", "needs", "cost", "MOST_three", "leaf_step", "product_tasks", "inner_tasks", "compile_source"]
def loose3 : List Str := ["_law_mixed", "_law_numbers", "_law_draw", "_law_equal", "_law_all_equal", "_law_source", "_law_meaning", "_law_needs", "_law_places"]
def loose : List Str := loose1 ++ (loose2 ++ loose3)
theorem runF (w : World) : HandSHeadRun.RunEq Rw (PySem.W.view Rw.prog [63]) hookP ob 9000 loose (w.withFollow "special-get-raises" false) := by
  intro os
  kernel_rfl
theorem runT (w : World) : HandSHeadRun.RunEq Rw (PySem.W.view Rw.prog [63]) hookP ob 9000 loose (w.withFollow "special-get-raises" true) := by
  intro os
  kernel_rfl
theorem run (w : World) : HandSHeadRun.RunEq Rw (PySem.W.view Rw.prog [63]) hookP ob 9000 loose w := PySem.W.byRow2 "special-get-raises" (P := fun w => HandSHeadRun.RunEq Rw (PySem.W.view Rw.prog [63]) hookP ob 9000 loose w) runF runT w
end BF

set_option maxHeartbeats 0
open PySem PySem.W PySem.Calls PyProof.Rows
theorem PySem.Challenge.cw_brimful_k55_whole_nested_lending_holds : PySem.Challenge.rw_brimful_k55_whole_nested_lending.Holds := by
  w_on; o_law
  refine HandSHeadRun.head_any (r := BF.Rw) (q := view BF.Rw.prog [63]) (H := BF.hookP) (ob := BF.ob) (M := 9000) (loose := BF.loose) (d := HandSHeadRun.topDef BF.Rw.prog 63) (kwd := []) BF.ob_eq
    (by kernel_rfl) (fun s => by kernel_rfl) BF.run (by kernel_rfl) (by kernel_rfl) (by kernel_rfl) (by rfl) (by first | assumption | decide +kernel) (by decide +kernel) ⟨rfl, rfl, rfl, rfl, rfl, by decide +kernel⟩ ?hw ?hc
  case hw => w_witness2
  case hc =>
    refine L2.walk_ofE (l := PySem.Challenge.rw_brimful_k55_whole_nested_lending) (n := 63) (k := 10) (x := "_law_script") (CX := L2.CX0) rfl (by decide) (by kernel_rfl) ⟨rfl, by decide, by decide⟩ ?F (fun _ _ _ _ z => z)
    intro w mg fa h Y G hmg0
    obtain ⟨K, KX, c⟩ := Y
    have hmg : mg ("law" : PySem.Str) = some (.ref fa) := by
      have e : (HandSHeadRun.topDef BF.Rw.prog 63).name = ("law" : PySem.Str) := by kernel_rfl
      rw [← e]
      exact hmg0
    obtain ⟨fd, hb, hF⟩ := BF.facts (P := PySem.Challenge.rw_brimful_k55_whole_nested_lending.prog) (w := w) KX G hmg c
    exact ⟨K, fd, BF.sp_law K, KX, hb, fun H a ns hl _ hS => ⟨a, ns, rfl, hS, hl, fun _ => rfl⟩, hF⟩
