import PyProof.Rows.All
import Wide.All
import OpenK.AllK
import Wide.FinOn
import KE.KStateDown
import HandS.Head0
import HandS.Head1
import HandS.Head2
import HandS.Head3
import HandS.HeadEnd
import HandS.HeadHook1
import HandS.HeadHook2
import HandS.ForMost
import HandS.Defaults
import HandS.Wide
import HandS.WideBits
import HandS.Gcd
import HandS.Style
import HandS.NoneIn
import HandS.Deep
import HandS.IsInst
import PyProof.ReprRoads
import PyProof.FitsInt
import PyProof.ReprLen
import PySem.Challenge.RW_wheretrue_k23_whole_signs_at_roots
set_option Elab.async false
set_option linter.all false
set_option maxRecDepth 100000
set_option maxHeartbeats 0
namespace W23
open PySem PySem.Spec PyProof.Rows L2
def stm (i : Nat) : Stmt := PySem.Challenge.pw_wheretrue_k23_whole_signs_at_roots.main.body.getD i (.Pass ⟨0, 0, 0, 0⟩)
def ent (x : Str) (i : Nat) : Str × Nat := (x, i)
def fnl : List (Str × Nat) := [ent "number" 3, ent "compare" 4, ent "plus" 5, ent "minus" 6, ent "times" 7, ent "trimmed" 9, ent "coefficient_of" 10, ent "add" 11, ent "scale" 12, ent "subtract" 13, ent "derivative" 14, ent "value_at" 15, ent "content" 16, ent "plain" 17, ent "shifted" 18, ent "false_rest" 19, ent "common_divisor" 20, ent "quotient" 21, ent "square_free" 22, ent "sign_of" 24] ++ [ent "sign_at" 25, ent "bare" 26, ent "chain_of" 27, ent "changes" 28, ent "variations" 29, ent "variations_far" 30, ent "count_roots" 31, ent "count_up_to" 32, ent "bound_of" 33, ent "half" 34, ent "near" 35, ent "intervals_of" 36, ent "intervals_by" 37, ent "in_order" 38, ent "compare_root" 39, ent "compare_by" 40, ent "floor_of" 41, ent "floor_by" 42, ent "interval_of" 43, ent "free_chain" 44] ++ [ent "has_root_by" 45, ent "has_root_in" 46, ent "halved" 47, ent "sign_inside" 48, ent "sign_at_root" 49, ent "rational_roots" 50, ent "_law_draws" 52, ent "_law_gcd" 53, ent "_law_number" 54, ent "_law_plus" 55, ent "_law_times" 56, ent "_law_minus" 57, ent "_law_trim" 62, ent "_law_mul" 64, ent "_law_at" 65, ent "_law_sign" 66, ent "_law_sign_at" 67, ent "_law_factors" 68, ent "_law_root_signs" 69, ent "_law_below" 70] ++ [ent "_law_count" 71, ent "_law_drawn" 72, ent "_law_product" 73, ent "_law_polynomial" 74, ent "_law_is_whole" 76, ent "_law_bracket" 77, ent "_law_sign_at_root" 78, ent "law" 79]
def bll : List Str := ["len", "max", "int", "abs", "list", "range", "enumerate", "repr", "isinstance", "bool"]
def dd (p : Str × Nat) : He.DefD := ⟨(p.1, none), p.1, p.1, defArgs (stm p.2), defBody (stm p.2), defScope (stm p.2), [], []⟩
def fds : List He.DefD := fnl.map dd
def fas : List He.Fa := fnl.map (fun p => .glo p.1) ++ bll.map .free
def xok (K : PySem.W.Frag) : Bool := He.eqO (PySem.W.nsIn K mainGlobals "gcd") (some (some (.builtin "math.gcd"))) && ((He.Fa.glo "NOUGHT").ok K && He.tupB K "NOUGHT" [.int 0, .int 1])
def obX (K : PySem.W.Frag) : Bool × He.AlD := (xok K, He.obsD fas fds K)
def obXG (g : Addr → Option Obj) : Bool × He.AlD := obX (He.frG g (He.asD g 2))
def hkX : PySem.W.Hook where
  α := Bool × He.AlD
  obs := fun s => obXG s.heap.get?
  val := fun _ => (true, He.valD fds)
  says := fun _ h => ∃ K : PySem.W.Frag, K.In h ∧ obX K = (true, He.valD fds)
  of := fun _ _ e => ⟨_, He.frG_in, e⟩
  keeps := fun _ _ _ ⟨K, i, c⟩ k => ⟨K, PySem.W.Frag.In.keeps i k, c⟩
def obS (s : PySem.W.SharedT) : Bool × He.AlD := obXG (HandSHeadRun.getT s)
theorem obS_eq (s : PySem.W.SharedT) : obS s = hkX.obs s.abs := by
  have e : HandSHeadRun.getT s = s.abs.heap.get? := funext (HandSHeadRun.getT_eq s)
  show obXG _ = obXG _
  rw [e]
abbrev R : PySem.W.OpenRow := PySem.W.OpenLaw.row PySem.Challenge.rw_wheretrue_k23_whole_signs_at_roots
def nm0 : List PySem.Str := ["gcd", "NOUGHT", "number", "compare", "plus", "minus", "times", "trimmed", "coefficient_of", "add", "scale", "subtract", "derivative", "value_at", "content", "plain", "shifted", "false_rest", "common_divisor", "quotient", "square_free", "sign_of", "sign_at", "bare", "chain_of", "changes", "variations", "variations_far", "count_roots", "count_up_to"]
def nm1 : List PySem.Str := ["bound_of", "half", "near", "intervals_of", "intervals_by", "in_order", "compare_root", "compare_by", "floor_of", "floor_by", "interval_of", "free_chain", "has_root_by", "has_root_in", "halved", "sign_inside", "sign_at_root", "rational_roots", "_law_draws", "_law_gcd", "_law_number", "_law_plus", "_law_times", "_law_minus", "_law_over", "_law_less", "_law_sum", "_law_dot", "_law_trim", "_law_add"]
def nm2 : List PySem.Str := ["_law_mul", "_law_at", "_law_sign", "_law_sign_at", "_law_factors", "_law_root_signs", "_law_below", "_law_count", "_law_drawn", "_law_product", "_law_polynomial", "_law_x", "_law_is_whole", "_law_bracket", "_law_sign_at_root"]
def names : List PySem.Str := nm0 ++ nm1 ++ nm2
theorem run (w : World) : HandSHeadRun.RunEqI R (PySem.W.view R.prog [79]) hkX obS 8000 names w := by
  unfold HandSHeadRun.RunEqI
  kernel_rfl
end W23
/-! polynomials over Rat as lists of coefficients; functions that are polynomial -/
namespace K23

def ab (x : Rat) : Rat := if x < 0 then -x else x
theorem ab_nonneg (x : Rat) : 0 ≤ ab x := by unfold ab; grind
theorem ab_le {x : Rat} : x ≤ ab x ∧ -(ab x) ≤ x := by unfold ab; grind

theorem bmul {x y A B : Rat} (h1 : -A ≤ x) (h2 : x ≤ A) (h3 : -B ≤ y) (h4 : y ≤ B) : -(A * B) ≤ x * y ∧ x * y ≤ A * B := by
  have a1 : 0 ≤ (A - x) * (B + y) := Rat.mul_nonneg (by grind) (by grind)
  have a2 : 0 ≤ (A + x) * (B - y) := Rat.mul_nonneg (by grind) (by grind)
  have a3 : 0 ≤ (A - x) * (B - y) := Rat.mul_nonneg (by grind) (by grind)
  have a4 : 0 ≤ (A + x) * (B + y) := Rat.mul_nonneg (by grind) (by grind)
  constructor <;> grind

theorem mul_le_l {a b c : Rat} (h : a ≤ b) (hc : 0 ≤ c) : c * a ≤ c * b := Rat.mul_le_mul_of_nonneg_left h hc
theorem mul_lt_l {a b c : Rat} (h : a < b) (hc : 0 < c) : c * a < c * b := Rat.mul_lt_mul_of_pos_left h hc
theorem mul_pos' {a b : Rat} (ha : 0 < a) (hb : 0 < b) : 0 < a * b := Rat.mul_pos ha hb
theorem mul_ne {a b : Rat} (ha : a ≠ 0) (hb : b ≠ 0) : a * b ≠ 0 := fun h => by
  rcases Rat.mul_eq_zero.mp h with h | h
  · exact ha h
  · exact hb h
theorem inv_pos' {a : Rat} (ha : 0 < a) : 0 < a⁻¹ := Rat.inv_pos.mpr ha
theorem mul_inv' {a : Rat} (ha : a ≠ 0) : a * a⁻¹ = 1 := Rat.mul_inv_cancel a ha
theorem div_pos' {a b : Rat} (ha : 0 < a) (hb : 0 < b) : 0 < a / b := by
  rw [Rat.div_def]; exact Rat.mul_pos ha (Rat.inv_pos.mpr hb)

/-- value of a list of coefficients, the constant first -/
def ev : List Rat → Rat → Rat
  | [], _ => 0
  | c :: t, x => c + x * ev t x
@[simp] theorem ev_nil (x : Rat) : ev [] x = 0 := rfl
@[simp] theorem ev_cons (c : Rat) (t : List Rat) (x : Rat) : ev (c :: t) x = c + x * ev t x := rfl

def addL : List Rat → List Rat → List Rat
  | [], m => m
  | l, [] => l
  | a :: l, b :: m => (a + b) :: addL l m
def smulL (c : Rat) (l : List Rat) : List Rat := l.map (c * ·)
def mulL : List Rat → List Rat → List Rat
  | [], _ => []
  | a :: l, m => addL (smulL a m) (0 :: mulL l m)
theorem ev_addL : ∀ (l m : List Rat) (x : Rat), ev (addL l m) x = ev l x + ev m x
  | [], m, x => by simp [addL]; grind
  | a :: l, [], x => by simp [addL]; grind
  | a :: l, b :: m, x => by simp only [addL, ev_cons, ev_addL l m x]; grind
theorem ev_smulL (c : Rat) : ∀ (l : List Rat) (x : Rat), ev (smulL c l) x = c * ev l x
  | [], x => by simp [smulL]
  | a :: l, x => by
    have := ev_smulL c l x
    simp only [smulL, List.map_cons, ev_cons] at *
    rw [this]; grind
theorem ev_mulL : ∀ (l m : List Rat) (x : Rat), ev (mulL l m) x = ev l x * ev m x
  | [], m, x => by simp [mulL]
  | a :: l, m, x => by
    simp only [mulL, ev_addL, ev_smulL, ev_cons, ev_mulL l m x]; grind

/-- a polynomial function -/
def Pol (f : Rat → Rat) : Prop := ∃ l, ∀ x, f x = ev l x
theorem Pol.of (l : List Rat) : Pol (ev l) := ⟨l, fun _ => rfl⟩
theorem Pol.const (c : Rat) : Pol fun _ => c := ⟨[c], fun x => by simp [K23.ev]; grind⟩
theorem Pol.id : Pol fun x => x := ⟨[0, 1], fun x => by simp [K23.ev]; grind⟩
theorem Pol.add {f g : Rat → Rat} (hf : Pol f) (hg : Pol g) : Pol fun x => f x + g x := by
  obtain ⟨l, h⟩ := hf; obtain ⟨m, k⟩ := hg
  exact ⟨addL l m, fun x => by show f x + g x = _; rw [ev_addL, h, k]⟩
theorem Pol.mul {f g : Rat → Rat} (hf : Pol f) (hg : Pol g) : Pol fun x => f x * g x := by
  obtain ⟨l, h⟩ := hf; obtain ⟨m, k⟩ := hg
  exact ⟨mulL l m, fun x => by show f x * g x = _; rw [ev_mulL, h, k]⟩
theorem Pol.smul (c : Rat) {f : Rat → Rat} (hf : Pol f) : Pol fun x => c * f x := (Pol.const c).mul hf
theorem Pol.neg {f : Rat → Rat} (hf : Pol f) : Pol fun x => - f x := by
  obtain ⟨l, h⟩ := hf.smul (-1)
  exact ⟨l, fun x => by rw [← h]; grind⟩
theorem Pol.sub {f g : Rat → Rat} (hf : Pol f) (hg : Pol g) : Pol fun x => f x - g x := by
  obtain ⟨l, h⟩ := hf.add hg.neg
  exact ⟨l, fun x => by rw [← h]; grind⟩
theorem Pol.congr {f g : Rat → Rat} (hf : Pol f) (h : ∀ x, g x = f x) : Pol g := by
  obtain ⟨l, k⟩ := hf
  exact ⟨l, fun x => by rw [h, k]⟩

/-! ### bounds -/
theorem bd_ev (M : Rat) (hM : 0 ≤ M) : ∀ l : List Rat, ∃ K, 0 ≤ K ∧ ∀ t, -M ≤ t → t ≤ M → -K ≤ ev l t ∧ ev l t ≤ K
  | [] => ⟨0, by grind, fun t _ _ => by simp⟩
  | c :: l => by
    obtain ⟨K, h0, h⟩ := bd_ev M hM l
    have hc := ab_nonneg c
    have hc2 := @ab_le c
    have hm : 0 ≤ M * K := Rat.mul_nonneg hM h0
    refine ⟨ab c + M * K, by grind, fun t h1 h2 => ?_⟩
    obtain ⟨k1, k2⟩ := h t h1 h2
    have := bmul h1 h2 k1 k2
    simp only [ev_cons]
    constructor <;> grind
theorem lip_ev (M : Rat) (hM : 0 ≤ M) : ∀ l : List Rat, ∃ L, 0 ≤ L ∧ ∀ u v, -M ≤ u → u ≤ v → v ≤ M → -(L * (v - u)) ≤ ev l v - ev l u ∧ ev l v - ev l u ≤ L * (v - u)
  | [] => ⟨0, by grind, fun u v _ _ _ => by simp; grind⟩
  | c :: l => by
    obtain ⟨K, k0, hK⟩ := bd_ev M hM l
    obtain ⟨L, l0, hL⟩ := lip_ev M hM l
    have hm : 0 ≤ M * L := Rat.mul_nonneg hM l0
    refine ⟨M * L + K, by grind, fun u v h1 h2 h3 => ?_⟩
    obtain ⟨a1, a2⟩ := hK u h1 (by grind)
    obtain ⟨b1, b2⟩ := hL u v h1 h2 h3
    have c1 := bmul (show -M ≤ v by grind) h3 b1 b2
    have c2 := bmul (show -(v - u) ≤ v - u by grind) (show v - u ≤ v - u by grind) a1 a2
    simp only [ev_cons]
    constructor <;> grind
theorem Pol.bd {f : Rat → Rat} (hf : Pol f) (M : Rat) (hM : 0 ≤ M) : ∃ K, 0 ≤ K ∧ ∀ t, -M ≤ t → t ≤ M → -K ≤ f t ∧ f t ≤ K := by
  obtain ⟨l, h⟩ := hf
  obtain ⟨K, k, b⟩ := bd_ev M hM l
  exact ⟨K, k, fun t a c => by rw [h]; exact b t a c⟩
theorem Pol.lip {f : Rat → Rat} (hf : Pol f) (M : Rat) (hM : 0 ≤ M) : ∃ L, 0 ≤ L ∧ ∀ u v, -M ≤ u → u ≤ v → v ≤ M → -(L * (v - u)) ≤ f v - f u ∧ f v - f u ≤ L * (v - u) := by
  obtain ⟨l, h⟩ := hf
  obtain ⟨K, k, b⟩ := lip_ev M hM l
  exact ⟨K, k, fun u v a c d => by rw [h, h]; exact b u v a c d⟩

/-! ### uniqueness of coefficients -/
theorem small_zero {e L : Rat} (hL : 0 ≤ L) (h : ∀ v, 0 < v → v ≤ 1 → -(L * v) ≤ e ∧ e ≤ L * v) : e = 0 := by
  have key : ∀ e : Rat, 0 < e → (∀ v, 0 < v → v ≤ 1 → e ≤ L * v) → False := fun e he hv => by
    have hp : 0 < L + e + 1 := by grind
    have hi := inv_pos' hp
    have hm := mul_inv' (show L + e + 1 ≠ 0 by grind)
    have ep : 0 < e * (L + e + 1)⁻¹ := mul_pos' he hi
    have h1 : e * (L + e + 1)⁻¹ ≤ 1 := by
      have := mul_le_l (show e ≤ L + e + 1 by grind) (show 0 ≤ (L + e + 1)⁻¹ by grind)
      grind
    have h2 := hv _ ep h1
    have h3 : L * (e * (L + e + 1)⁻¹) < e := by
      have h4 : L * (L + e + 1)⁻¹ < 1 := by
        have := mul_lt_l (show L < L + e + 1 by grind) hi
        grind
      have := mul_lt_l h4 he
      grind
    grind
  rcases Rat.le_total (a := 0) (b := e) with h0 | h0
  · rcases Rat.le_iff_lt_or_eq.mp h0 with h1 | h1
    · exact (key e h1 fun v a b => (h v a b).2).elim
    · exact h1.symm
  · rcases Rat.le_iff_lt_or_eq.mp h0 with h1 | h1
    · exact (key (-e) (by grind) fun v a b => by have := (h v a b).1; grind).elim
    · exact h1
theorem zero_ev : ∀ l : List Rat, (∀ x, ev l x = 0) → ∀ c ∈ l, c = 0
  | [], _, c, hc => by simp at hc
  | a :: l, h, c, hc => by
    have ha : a = 0 := by
      have := h 0
      simp only [ev_cons] at this
      grind
    have hl : ∀ x, x ≠ 0 → ev l x = 0 := fun x hx => by
      have := h x
      simp only [ev_cons, ha] at this
      rcases Rat.mul_eq_zero.mp (show x * ev l x = 0 by grind) with h | h
      · exact absurd h hx
      · exact h
    have h0 : ev l 0 = 0 := by
      obtain ⟨L, l0, hL⟩ := lip_ev 1 (by grind) l
      refine small_zero l0 fun v h1 h2 => ?_
      have := hL 0 v (by grind) (by grind) h2
      rw [hl v (by grind)] at this
      grind
    rcases List.mem_cons.mp hc with e | e
    · rw [e]; exact ha
    · refine zero_ev l (fun x => ?_) c e
      by_cases hx : x = 0
      · rw [hx]; exact h0
      · exact hl x hx
def cf (l : List Rat) (i : Nat) : Rat := l.getD i 0
theorem cf_addL : ∀ (l m : List Rat) (i : Nat), cf (addL l m) i = cf l i + cf m i
  | [], m, i => by simp [addL, cf]; grind
  | a :: l, [], i => by simp [addL, cf]; grind
  | a :: l, b :: m, 0 => by simp [addL, cf]
  | a :: l, b :: m, i + 1 => by
    have := cf_addL l m i
    simp only [cf, addL, List.getD_cons_succ] at *
    exact this
theorem cf_smulL (c : Rat) (l : List Rat) (i : Nat) : cf (smulL c l) i = c * cf l i := by
  simp only [cf, smulL, List.getD_eq_getElem?_getD, List.getElem?_map]
  cases l[i]? <;> simp
/-- equal values, equal coefficients -/
theorem cf_of_ev {l m : List Rat} (h : ∀ x, ev l x = ev m x) (i : Nat) : cf l i = cf m i := by
  have z := zero_ev (addL l (smulL (-1) m)) (fun x => by rw [ev_addL, ev_smulL, h]; grind)
  have e : cf (addL l (smulL (-1) m)) i = 0 := by
    unfold cf
    rw [List.getD_eq_getElem?_getD]
    cases q : (addL l (smulL (-1) m))[i]? with
    | none => rfl
    | some c => exact z c (List.mem_of_getElem? q)
  rw [cf_addL, cf_smulL] at e
  grind
theorem cf_cons_zero (c : Rat) (l : List Rat) : cf (c :: l) 0 = c := rfl
theorem cf_cons_succ (c : Rat) (l : List Rat) (i : Nat) : cf (c :: l) (i + 1) = cf l i := rfl
theorem cf_nil (i : Nat) : cf [] i = 0 := rfl
theorem ev_of_cf : ∀ {l m : List Rat} (_ : ∀ i, cf l i = cf m i) (x : Rat), ev l x = ev m x
  | [], [], _, _ => rfl
  | a :: l, [], h, x => by
    have h0 := h 0
    have := ev_of_cf (l := l) (m := []) (fun i => h (i + 1)) x
    rw [cf_cons_zero, cf_nil] at h0
    simp only [ev_cons, this, h0, ev_nil]; grind
  | [], b :: m, h, x => by
    have h0 := h 0
    have := ev_of_cf (l := []) (m := m) (fun i => h (i + 1)) x
    rw [cf_cons_zero, cf_nil] at h0
    simp only [ev_cons, ← this, ← h0, ev_nil]; grind
  | a :: l, b :: m, h, x => by
    have h0 := h 0
    rw [cf_cons_zero, cf_cons_zero] at h0
    have := ev_of_cf (l := l) (m := m) (fun i => h (i + 1)) x
    simp only [ev_cons, this, h0]

/-! ### the derivative -/
def dev : List Rat → Rat → Rat
  | [], _ => 0
  | _ :: t, x => ev t x + x * dev t x
def dL : List Rat → List Rat
  | [] => []
  | _ :: t => addL t (0 :: dL t)
theorem ev_dL : ∀ (l : List Rat) (x : Rat), ev (dL l) x = dev l x
  | [], x => rfl
  | c :: t, x => by simp only [dL, dev, ev_addL, ev_cons, ev_dL t x]; grind
theorem cf_dL : ∀ (l : List Rat) (i : Nat), cf (dL l) i = ((i : Rat) + 1) * cf l (i + 1)
  | [], i => by simp [dL, cf_nil]
  | c :: t, 0 => by simp only [dL, cf_addL, cf_cons_zero, cf_cons_succ]; grind
  | c :: t, i + 1 => by
    simp only [dL, cf_addL, cf_cons_succ, cf_dL t i]
    have : ((i + 1 : Nat) : Rat) = (i : Rat) + 1 := by push_cast; rfl
    rw [this]; grind
theorem dev_congr {l m : List Rat} (h : ∀ x, ev l x = ev m x) (x : Rat) : dev l x = dev m x := by
  rw [← ev_dL, ← ev_dL]
  exact ev_of_cf (fun i => by rw [cf_dL, cf_dL, cf_of_ev h]) x
theorem dev_addL : ∀ (l m : List Rat) (x : Rat), dev (addL l m) x = dev l x + dev m x
  | [], m, x => by simp [addL, dev]; grind
  | a :: l, [], x => by simp [addL, dev]; grind
  | a :: l, b :: m, x => by simp only [addL, dev, dev_addL l m x, ev_addL]; grind
theorem dev_smulL (c : Rat) : ∀ (l : List Rat) (x : Rat), dev (smulL c l) x = c * dev l x
  | [], x => by simp [smulL, dev]
  | a :: l, x => by
    have h1 := dev_smulL c l x
    have h2 := ev_smulL c l x
    simp only [smulL, List.map_cons, dev] at *
    rw [h1, h2]; grind
theorem dev_mulL : ∀ (l m : List Rat) (x : Rat), dev (mulL l m) x = dev l x * ev m x + ev l x * dev m x
  | [], m, x => by simp [mulL, dev]; grind
  | a :: l, m, x => by
    have := dev_mulL l m x
    simp only [mulL, dev_addL, dev_smulL, dev, ev_cons, this, ev_mulL]; grind
end K23
/-! degrees; units; coprime functions -/
namespace K23
/-- exact degree: the last coefficient is not 0 -/
def Tr (l : List Rat) : Prop := ∀ c, l.getLast? = some c → c ≠ 0
theorem exists_trim : ∀ l : List Rat, ∃ m, Tr m ∧ ∀ x, ev m x = ev l x
  | [] => ⟨[], fun c h => by simp at h, fun _ => rfl⟩
  | a :: l => by
    obtain ⟨m, h1, h2⟩ := exists_trim l
    cases m with
    | nil =>
      by_cases ha : a = 0
      · refine ⟨[], fun c h => by simp at h, fun x => ?_⟩
        rw [ev_cons, ← h2 x, ha]; simp; grind
      · refine ⟨[a], fun c h => ?_, fun x => ?_⟩
        · simp at h; rw [← h]; exact ha
        · rw [ev_cons, ev_cons, ← h2 x]
    | cons b m =>
      refine ⟨a :: b :: m, fun c h => ?_, fun x => by rw [ev_cons a (b :: m), ev_cons a l, h2 x]⟩
      rw [List.getLast?_cons_cons] at h
      exact h1 c h
theorem Pol.trim {f : Rat → Rat} (hf : Pol f) : ∃ m, Tr m ∧ ∀ x, f x = ev m x := by
  obtain ⟨l, h⟩ := hf
  obtain ⟨m, a, b⟩ := exists_trim l
  exact ⟨m, a, fun x => by rw [b, h]⟩
theorem cf_last {l : List Rat} (h : Tr l) (hl : l ≠ []) : cf l (l.length - 1) ≠ 0 := by
  have e : l.getLast? = some (l.getLast hl) := List.getLast?_eq_getLast hl
  have := h _ e
  rw [List.getLast_eq_getElem] at this
  unfold cf
  rw [List.getD_eq_getElem?_getD, List.getElem?_eq_getElem]
  exact this
theorem cf_out {l : List Rat} {i : Nat} (h : l.length ≤ i) : cf l i = 0 := by
  unfold cf
  rw [List.getD_eq_getElem?_getD, List.getElem?_eq_none h]
  rfl
/-- equal functions, equal degrees -/
theorem len_of_ev {l m : List Rat} (hl : Tr l) (hm : Tr m) (h : ∀ x, ev l x = ev m x) : l.length = m.length := by
  have key : ∀ {l m : List Rat}, Tr l → (∀ x, ev l x = ev m x) → l.length ≤ m.length := fun {l m} hl h => by
    by_cases hn : l = []
    · subst hn; exact Nat.zero_le _
    · have a := cf_last hl hn
      rw [cf_of_ev h] at a
      apply Decidable.byContradiction
      intro q
      have hp := List.length_pos_iff.mpr hn
      exact a (cf_out (by omega))
  exact Nat.le_antisymm (key hl h) (key hm fun x => (h x).symm)
theorem cf_mulL_out : ∀ (l m : List Rat) (i : Nat), l.length + m.length ≤ i + 1 → cf (mulL l m) i = 0
  | [], m, i, _ => by simp [mulL, cf_nil]
  | a :: l, m, i, h => by
    rw [mulL, cf_addL, cf_smulL]
    simp only [List.length_cons] at h
    rw [cf_out (show m.length ≤ i by omega)]
    cases i with
    | zero => rw [cf_cons_zero]; grind
    | succ i => rw [cf_cons_succ, cf_mulL_out l m i (by omega)]; grind
theorem cf_mulL_top : ∀ (l m : List Rat), l ≠ [] → m ≠ [] → cf (mulL l m) (l.length + m.length - 2) = cf l (l.length - 1) * cf m (m.length - 1)
  | [], m, h, _ => absurd rfl h
  | [a], m, _, hm => by
    rw [mulL, cf_addL, cf_smulL]
    have : cf (0 :: mulL [] m) ([a].length + m.length - 2) = 0 := by
      rw [mulL]
      cases ([a].length + m.length - 2) with
      | zero => rfl
      | succ i => rfl
    rw [this]
    have e : [a].length + m.length - 2 = m.length - 1 := by simp only [List.length_cons, List.length_nil]; omega
    rw [e]
    show _ = cf [a] 0 * _
    rw [cf_cons_zero]; grind
  | a :: b :: l, m, _, hm => by
    have hp := List.length_pos_iff.mpr hm
    have ih := cf_mulL_top (b :: l) m (List.cons_ne_nil _ _) hm
    rw [mulL, cf_addL, cf_smulL]
    simp only [List.length_cons] at *
    rw [cf_out (show m.length ≤ l.length + 1 + 1 + m.length - 2 by omega)]
    have e1 : l.length + 1 + 1 + m.length - 2 = (l.length + 1 + m.length - 2) + 1 := by omega
    have e2 : l.length + 1 + 1 - 1 = (l.length + 1 - 1) + 1 := by omega
    rw [e1, e2, cf_cons_succ, cf_cons_succ, ih]; grind
/-- the product's degree -/
theorem mul_trim {l m : List Rat} (hl : Tr l) (hm : Tr m) (h1 : l ≠ []) (h2 : m ≠ []) : ∃ r, Tr r ∧ r.length + 1 = l.length + m.length ∧ ∀ x, ev r x = ev l x * ev m x := by
  obtain ⟨r, a, b⟩ := exists_trim (mulL l m)
  refine ⟨r, a, ?_, fun x => by rw [b, ev_mulL]⟩
  have top := cf_mulL_top l m h1 h2
  have nz : cf r (l.length + m.length - 2) ≠ 0 := by
    rw [cf_of_ev b, top]
    exact mul_ne (cf_last hl h1) (cf_last hm h2)
  have p1 := List.length_pos_iff.mpr h1
  have p2 := List.length_pos_iff.mpr h2
  have lo : l.length + m.length - 2 < r.length := by
    apply Decidable.byContradiction
    intro q
    exact nz (cf_out (by omega))
  have rn : r ≠ [] := List.length_pos_iff.mp (by omega)
  have hi : r.length - 1 ≤ l.length + m.length - 2 := by
    apply Decidable.byContradiction
    intro q
    have z := cf_last a rn
    rw [cf_of_ev b, cf_mulL_out l m _ (by omega)] at z
    exact z rfl
  omega
/-- a function that is not 0 everywhere -/
def NZ (f : Rat → Rat) : Prop := ∃ x, f x ≠ 0
theorem NZ.list {f : Rat → Rat} (h : NZ f) {l : List Rat} (e : ∀ x, f x = ev l x) : l ≠ [] := fun z => by
  obtain ⟨x, hx⟩ := h
  rw [e, z] at hx
  exact hx rfl
theorem nz_of_tr {l : List Rat} (h : Tr l) (hl : l ≠ []) : NZ (ev l) := by
  apply Classical.byContradiction
  intro q
  have z : ∀ x, ev l x = 0 := fun x => Decidable.byContradiction fun hx => q ⟨x, hx⟩
  have := zero_ev l z (l.getLast hl) (List.getLast_mem hl)
  exact h _ (List.getLast?_eq_getLast hl) this
theorem NZ.mul {f g : Rat → Rat} (pf : Pol f) (pg : Pol g) (hf : NZ f) (hg : NZ g) : NZ fun x => f x * g x := by
  obtain ⟨l, a, b⟩ := pf.trim
  obtain ⟨m, c, d⟩ := pg.trim
  obtain ⟨r, e1, e2, e3⟩ := mul_trim a c (hf.list b) (hg.list d)
  have p1 := List.length_pos_iff.mpr (hf.list b)
  have p2 := List.length_pos_iff.mpr (hg.list d)
  obtain ⟨x, hx⟩ := nz_of_tr e1 (List.length_pos_iff.mp (by omega))
  exact ⟨x, by show f x * g x ≠ 0; rw [b, d, ← e3]; exact hx⟩
/-- cancel a factor -/
theorem cancel {f g d : Rat → Rat} (pf : Pol f) (pg : Pol g) (pd : Pol d) (hd : NZ d) (h : ∀ x, f x * d x = g x * d x) (x : Rat) : f x = g x := by
  apply Decidable.byContradiction
  intro q
  obtain ⟨y, hy⟩ := NZ.mul (pf.sub pg) pd ⟨x, by show f x - g x ≠ 0; grind⟩ hd
  have := h y
  exact hy (by show (f y - g y) * d y = 0; grind)
/-- a unit is a constant -/
theorem unit_const {t u : Rat → Rat} (pt : Pol t) (pu : Pol u) (h : ∀ x, t x * u x = 1) : ∃ c, c ≠ 0 ∧ ∀ x, t x = c := by
  obtain ⟨l, a, b⟩ := pt.trim
  obtain ⟨m, c, d⟩ := pu.trim
  have ht : NZ t := ⟨0, fun z => by have := h 0; rw [z] at this; grind⟩
  have hu : NZ u := ⟨0, fun z => by have := h 0; rw [z] at this; grind⟩
  obtain ⟨r, e1, e2, e3⟩ := mul_trim a c (ht.list b) (hu.list d)
  have e4 : r.length = [(1 : Rat)].length := len_of_ev e1 (fun c h => by simp at h; rw [← h]; grind) fun x => by
    rw [e3, ← b, ← d, h]; simp; grind
  have p1 := List.length_pos_iff.mpr (ht.list b)
  have p2 := List.length_pos_iff.mpr (hu.list d)
  simp only [List.length_cons, List.length_nil] at e4
  have hl : l.length = 1 := by omega
  obtain ⟨k, rfl⟩ := List.length_eq_one_iff.mp hl
  refine ⟨k, a k rfl, fun x => ?_⟩
  rw [b]; simp; grind
theorem unit_const' {t u p : Rat → Rat} (pt : Pol t) (pu : Pol u) (pp : Pol p) (hp : NZ p) (h : ∀ x, t x * u x * p x = p x) : ∃ c, c ≠ 0 ∧ ∀ x, t x = c :=
  unit_const pt pu fun x => cancel (g := fun _ => 1) (pt.mul pu) (.const 1) pp hp (fun x => by have := h x; grind) x

/-! ### coprime -/
def Cop (f g : Rat → Rat) : Prop := ∃ u v, Pol u ∧ Pol v ∧ ∀ x, u x * f x + v x * g x = 1
theorem Cop.symm {f g : Rat → Rat} (h : Cop f g) : Cop g f := by
  obtain ⟨u, v, a, b, c⟩ := h
  exact ⟨v, u, b, a, fun x => by have := c x; grind⟩
theorem Cop.mul_r {f g k : Rat → Rat} (pf : Pol f) (pg : Pol g) (pk : Pol k) (h1 : Cop f g) (h2 : Cop f k) : Cop f fun x => g x * k x := by
  obtain ⟨u, v, a, b, c⟩ := h1
  obtain ⟨u', v', a', b', c'⟩ := h2
  refine ⟨fun x => u x * u' x * f x + u x * v' x * k x + v x * g x * u' x, fun x => v x * v' x, (((a.mul a').mul pf).add ((a.mul b').mul pk)).add ((b.mul pg).mul a'), b.mul b', fun x => ?_⟩
  have e1 := c x
  have e2 := c' x
  have e3 : (u x * f x + v x * g x) * (u' x * f x + v' x * k x) = 1 := by rw [e1, e2]; grind
  grind
theorem Cop.mul_l {f g k : Rat → Rat} (pf : Pol f) (pg : Pol g) (pk : Pol k) (h1 : Cop f k) (h2 : Cop g k) : Cop (fun x => f x * g x) k :=
  (Cop.mul_r pk pf pg h1.symm h2.symm).symm
/-- modulo f -/
theorem Cop.mod {f g k q : Rat → Rat} (pq : Pol q) (h : Cop f g) (e : ∀ x, k x = g x + f x * q x) : Cop f k := by
  obtain ⟨u, v, a, b, c⟩ := h
  refine ⟨fun x => u x - v x * q x, v, a.sub (b.mul pq), b, fun x => ?_⟩
  have := c x
  rw [e]; grind
theorem Cop.smul_r {f g : Rat → Rat} {c : Rat} (hc : c ≠ 0) (h : Cop f g) : Cop f fun x => c * g x := by
  obtain ⟨u, v, a, b, d⟩ := h
  refine ⟨u, fun x => c⁻¹ * v x, a, b.smul _, fun x => ?_⟩
  have := d x
  have e := mul_inv' hc
  have e2 : c⁻¹ * v x * (c * g x) = (c * c⁻¹) * (v x * g x) := by grind
  rw [e2, e]; grind
theorem Cop.smul_l {f g : Rat → Rat} {c : Rat} (hc : c ≠ 0) (h : Cop f g) : Cop (fun x => c * f x) g := (Cop.smul_r hc h.symm).symm
theorem Cop.congr {f g f' g' : Rat → Rat} (h : Cop f g) (e1 : ∀ x, f' x = f x) (e2 : ∀ x, g' x = g x) : Cop f' g' := by
  obtain ⟨u, v, a, b, c⟩ := h
  exact ⟨u, v, a, b, fun x => by rw [e1, e2]; exact c x⟩
theorem Cop.one_r (f : Rat → Rat) : Cop f fun _ => 1 := ⟨fun _ => 0, fun _ => 1, .const 0, .const 1, fun x => by grind⟩
theorem Cop.const_r (f : Rat → Rat) {c : Rat} (hc : c ≠ 0) : Cop f fun _ => c := ⟨fun _ => 0, fun _ => c⁻¹, .const 0, .const _, fun x => by have := mul_inv' hc; grind⟩
end K23
/-! polynomials with whole coefficients: what the program's functions compute -/
namespace K23
def cI (a : List Int) (i : Nat) : Int := a.getD i 0
def toQ (a : List Int) : List Rat := a.map fun (i : Int) => (i : Rat)
def evI (a : List Int) (x : Rat) : Rat := ev (toQ a) x
theorem evI_nil (x : Rat) : evI [] x = 0 := rfl
theorem evI_cons (c : Int) (t : List Int) (x : Rat) : evI (c :: t) x = c + x * evI t x := rfl
theorem Pol.evI (a : List Int) : Pol (evI a) := .of _
theorem cf_toQ (a : List Int) (i : Nat) : cf (toQ a) i = (cI a i : Rat) := by
  unfold cf cI toQ
  rw [List.getD_eq_getElem?_getD, List.getD_eq_getElem?_getD, List.getElem?_map]
  cases a[i]? <;> rfl
theorem evI_congr {a b : List Int} (h : ∀ i, cI a i = cI b i) (x : Rat) : evI a x = evI b x :=
  ev_of_cf (fun i => by rw [cf_toQ, cf_toQ, h]) x
theorem evI_add_of {a b c : List Int} (h : ∀ i, cI c i = cI a i + cI b i) (x : Rat) : evI c x = evI a x + evI b x := by
  have : evI c x = ev (addL (toQ a) (toQ b)) x := ev_of_cf (fun i => by rw [cf_toQ, cf_addL, cf_toQ, cf_toQ, h]; push_cast; rfl) x
  rw [this, ev_addL]; rfl
theorem evI_smul_of {a c : List Int} {k : Int} (h : ∀ i, cI c i = k * cI a i) (x : Rat) : evI c x = k * evI a x := by
  have : evI c x = ev (smulL k (toQ a)) x := ev_of_cf (fun i => by rw [cf_toQ, cf_smulL, cf_toQ, h]; push_cast; rfl) x
  rw [this, ev_smulL]; rfl
theorem cI_nil (i : Nat) : cI [] i = 0 := by simp [cI]
theorem cI_zero (c : Int) (t : List Int) : cI (c :: t) 0 = c := rfl
theorem cI_succ (c : Int) (t : List Int) (i : Nat) : cI (c :: t) (i + 1) = cI t i := rfl
theorem cI_out {a : List Int} {i : Nat} (h : a.length ≤ i) : cI a i = 0 := by
  unfold cI; rw [List.getD_eq_getElem?_getD, List.getElem?_eq_none h]; rfl
theorem cI_get {a : List Int} {i : Nat} (h : i < a.length) : cI a i = a[i] := by
  unfold cI; rw [List.getD_eq_getElem?_getD, List.getElem?_eq_getElem h]; rfl
theorem cI_mem {a : List Int} {i : Nat} (h : cI a i ≠ 0) : cI a i ∈ a := by
  by_cases q : i < a.length
  · rw [cI_get q]; exact List.getElem_mem q
  · exact absurd (cI_out (by omega)) h

/-! trimmed -/
def TrI (a : List Int) : Prop := a = [] ∨ cI a (a.length - 1) ≠ 0
def trimI : List Int → List Int
  | [] => []
  | c :: t => match trimI t with
    | [] => if c = 0 then [] else [c]
    | d :: r => c :: d :: r
theorem trimI_spec : ∀ a : List Int, TrI (trimI a) ∧ ∃ k, a = trimI a ++ List.replicate k 0
  | [] => ⟨.inl rfl, 0, rfl⟩
  | c :: t => by
    obtain ⟨h1, k, h2⟩ := trimI_spec t
    unfold trimI
    cases q : trimI t with
    | nil =>
      rw [q] at h2
      simp only
      by_cases hc : c = 0
      · rw [if_pos hc]
        exact ⟨.inl rfl, k + 1, by rw [hc]; show 0 :: t = List.replicate (k + 1) 0; rw [List.replicate_succ]; congr 1⟩
      · rw [if_neg hc]
        exact ⟨.inr (by show c ≠ 0; exact hc), k, by show c :: t = c :: _; congr 1⟩
    | cons d r =>
      rw [q] at h1 h2
      refine ⟨.inr ?_, k, by show c :: t = c :: _; congr 1⟩
      rcases h1 with h1 | h1
      · cases h1
      · exact h1
theorem cI_append_zeros (a : List Int) (k i : Nat) : cI (a ++ List.replicate k 0) i = cI a i := by
  unfold cI
  rw [List.getD_eq_getElem?_getD, List.getD_eq_getElem?_getD]
  by_cases h : i < a.length
  · rw [List.getElem?_append_left h]
  · rw [List.getElem?_append_right (by omega), List.getElem?_eq_none (show a.length ≤ i by omega), List.getElem?_replicate]
    split <;> rfl
theorem cI_trim (a : List Int) (i : Nat) : cI (trimI a) i = cI a i := by
  obtain ⟨_, k, h⟩ := trimI_spec a
  have := cI_append_zeros (trimI a) k i
  rw [← h] at this
  exact this.symm
theorem trim_tr (a : List Int) : TrI (trimI a) := (trimI_spec a).1
theorem trim_len (a : List Int) : (trimI a).length ≤ a.length := by
  obtain ⟨_, k, h⟩ := trimI_spec a
  have := congrArg List.length h
  rw [List.length_append] at this
  omega
/-- from the other side: what «trimmed» of the program does -/
theorem trimI_take {a : List Int} {m : Nat} (hm : m ≤ a.length) (h0 : ∀ i, m ≤ i → cI a i = 0) (h1 : m = 0 ∨ cI a (m - 1) ≠ 0) : a.take m = trimI a := by
  obtain ⟨t, k, e⟩ := trimI_spec a
  have hl := congrArg List.length e
  rw [List.length_append, List.length_replicate] at hl
  have em : (trimI a).length = m := by
    rcases Nat.lt_trichotomy (trimI a).length m with q | q | q
    · rcases h1 with z | z
      · omega
      · rw [← cI_trim, cI_out (by omega)] at z
        exact absurd rfl z
    · exact q
    · rcases t with z | z
      · rw [z] at q; simp at q
      · rw [cI_trim, h0 _ (by omega)] at z
        exact absurd rfl z
  rw [e, ← em, List.take_left' rfl]
  rw [← e]
theorem TrI.len_le {a : List Int} (h : TrI a) {n : Nat} (z : ∀ i, n ≤ i → cI a i = 0) : a.length ≤ n := by
  rcases h with rfl | h
  · exact Nat.zero_le _
  · apply Decidable.byContradiction
    intro q
    exact h (z _ (by omega))
theorem TrI.last {a : List Int} (h : TrI a) (hn : a ≠ []) : cI a (a.length - 1) ≠ 0 := h.resolve_left hn
theorem TrI.tr {a : List Int} (h : TrI a) : Tr (toQ a) := fun c e => by
  by_cases hn : a = []
  · subst hn; cases e
  · have := h.last hn
    have hp := List.length_pos_iff.mpr hn
    rw [List.getLast?_eq_getElem?] at e
    unfold toQ at e
    rw [List.length_map, List.getElem?_map, List.getElem?_eq_getElem (by omega)] at e
    rw [cI_get (by omega)] at this
    have e' := Option.some.inj e
    intro z
    rw [z] at e'
    exact this (by simpa using e')
theorem TrI.nz {a : List Int} (h : TrI a) (hn : a ≠ []) : NZ (evI a) := nz_of_tr h.tr (fun z => hn (by unfold toQ at z; simpa using z))
theorem toQ_len (a : List Int) : (toQ a).length = a.length := List.length_map _

/-! the program's functions -/
def addI (a b : List Int) : List Int := trimI ((List.range (max a.length b.length)).map fun k => cI a k + cI b k)
def scaleI (a : List Int) (f : Int) : List Int := trimI (a.map (· * f))
def subI (a b : List Int) : List Int := addI a (scaleI b (-1))
def derI (a : List Int) : List Int := (List.range (a.length - 1)).map fun i => cI a (i + 1) * ((i + 1 : Nat) : Int)
def shiftI (a : List Int) (n : Nat) : List Int := if a = [] then [] else List.replicate n 0 ++ a
theorem cI_map_range (f : Nat → Int) (n i : Nat) : cI ((List.range n).map f) i = if i < n then f i else 0 := by
  by_cases h : i < n
  · rw [cI_get (by simpa using h), if_pos h]; simp
  · rw [cI_out (by simp; omega), if_neg h]
theorem cI_add (a b : List Int) (i : Nat) : cI (addI a b) i = cI a i + cI b i := by
  unfold addI
  rw [cI_trim, cI_map_range]
  split
  · rfl
  · rename_i h
    rw [cI_out (show a.length ≤ i by omega), cI_out (show b.length ≤ i by omega)]; rfl
theorem cI_map_mul (a : List Int) (f : Int) (i : Nat) : cI (a.map (· * f)) i = cI a i * f := by
  by_cases h : i < a.length
  · rw [cI_get (by simpa using h), cI_get h, List.getElem_map]
  · rw [cI_out (by simp; omega), cI_out (by omega)]; omega
theorem cI_scale (a : List Int) (f : Int) (i : Nat) : cI (scaleI a f) i = cI a i * f := by
  unfold scaleI
  rw [cI_trim, cI_map_mul]
theorem cI_sub (a b : List Int) (i : Nat) : cI (subI a b) i = cI a i - cI b i := by
  unfold subI
  rw [cI_add, cI_scale]; omega
theorem cI_shift (a : List Int) (n i : Nat) : cI (shiftI a n) i = if i < n then 0 else cI a (i - n) := by
  unfold shiftI
  by_cases ha : a = []
  · subst ha; rw [if_pos rfl, cI_nil, cI_nil]; simp
  · rw [if_neg ha]
    by_cases h : i < n
    · rw [if_pos h]
      unfold cI
      rw [List.getD_eq_getElem?_getD, List.getElem?_append_left (by simpa using h), List.getElem?_replicate, if_pos h]; rfl
    · rw [if_neg h]
      unfold cI
      rw [List.getD_eq_getElem?_getD, List.getElem?_append_right (by simp; omega), List.getD_eq_getElem?_getD, List.length_replicate]
theorem cI_der (a : List Int) (i : Nat) : cI (derI a) i = cI a (i + 1) * ((i + 1 : Nat) : Int) := by
  unfold derI
  rw [cI_map_range]
  split
  · rfl
  · rw [cI_out (show a.length ≤ i + 1 by omega)]; simp
theorem evI_add (a b : List Int) (x : Rat) : evI (addI a b) x = evI a x + evI b x := evI_add_of (cI_add a b) x
theorem evI_scale (a : List Int) (f : Int) (x : Rat) : evI (scaleI a f) x = f * evI a x := evI_smul_of (fun i => by rw [cI_scale, Int.mul_comm]) x
theorem evI_sub (a b : List Int) (x : Rat) : evI (subI a b) x = evI a x - evI b x := by
  unfold subI
  rw [evI_add, evI_scale]; push_cast; grind
def pw : Nat → Rat → Rat
  | 0, _ => 1
  | n + 1, x => x * pw n x
theorem Pol.pw : ∀ n, Pol (pw n)
  | 0 => .const 1
  | n + 1 => Pol.id.mul (Pol.pw n)
theorem evI_shift (a : List Int) (n : Nat) (x : Rat) : evI (shiftI a n) x = pw n x * evI a x := by
  have key : ∀ n, evI (List.replicate n 0 ++ a) x = pw n x * evI a x := fun n => by
    induction n with
    | zero => simp [pw]
    | succ n ih =>
      rw [List.replicate_succ, List.cons_append, evI_cons, ih]
      show _ = x * pw n x * evI a x
      push_cast; grind
  unfold shiftI
  by_cases ha : a = []
  · subst ha; rw [if_pos rfl, evI_nil]; grind
  · rw [if_neg ha, key]
theorem evI_der (a : List Int) (x : Rat) : evI (derI a) x = dev (toQ a) x := by
  rw [← ev_dL]
  refine ev_of_cf (fun i => ?_) x
  rw [cf_toQ, cf_dL, cf_toQ, cI_der]; push_cast; grind
theorem add_tr (a b : List Int) : TrI (addI a b) := trim_tr _
theorem scale_tr (a : List Int) (f : Int) : TrI (scaleI a f) := trim_tr _
theorem sub_tr (a b : List Int) : TrI (subI a b) := add_tr _ _
theorem der_tr {a : List Int} (h : TrI a) : TrI (derI a) := by
  by_cases hl : a.length ≤ 1
  · left; unfold derI; rw [show a.length - 1 = 0 by omega]; rfl
  · right
    have hn : a ≠ [] := fun z => by rw [z] at hl; simp at hl
    have := h.last hn
    rw [cI_der]
    have e : (derI a).length = a.length - 1 := by simp [derI]
    rw [e, show a.length - 1 - 1 + 1 = a.length - 1 by omega]
    exact Int.mul_ne_zero this (by omega)
theorem der_len (a : List Int) : (derI a).length = a.length - 1 := by simp [derI]
theorem len_le_of_cI {a : List Int} (h : TrI a) {b : List Int} (e : ∀ i, b.length ≤ i → cI a i = 0) : a.length ≤ b.length := h.len_le e
theorem scale_len {a : List Int} (h : TrI a) {f : Int} (hf : f ≠ 0) : (scaleI a f).length = a.length := by
  refine Nat.le_antisymm ((scale_tr a f).len_le fun i hi => by rw [cI_scale, cI_out hi]; simp) ?_
  refine h.len_le fun i hi => ?_
  have := cI_scale a f i
  rw [cI_out hi] at this
  rcases Int.mul_eq_zero.mp this.symm with z | z
  · exact z
  · exact absurd z hf

/-! the false rest -/
def frStep (b : List Int) (lead : Int) (n : Nat) (rest : List Int) : List Int :=
  subI (scaleI rest lead) (shiftI (scaleI b (cI rest (n + b.length - 1))) n)
/-- n + 1 steps, at n, n - 1, .., 0 -/
def frLoop (b : List Int) (lead : Int) : Nat → List Int → List Int
  | 0, rest => frStep b lead 0 rest
  | n + 1, rest => frLoop b lead n (frStep b lead (n + 1) rest)
def frI (a b : List Int) : List Int :=
  if a.length < b.length then a else frLoop b (cI b (b.length - 1)) (a.length - b.length) a
theorem frStep_spec {b : List Int} (hb : b ≠ []) (n : Nat) (rest : List Int) (hr : rest.length ≤ n + b.length) :
    TrI (frStep b (cI b (b.length - 1)) n rest) ∧ (frStep b (cI b (b.length - 1)) n rest).length ≤ n + b.length - 1 ∧
    ∃ q, Pol q ∧ ∀ x, (cI b (b.length - 1) : Rat) * evI rest x = q x * evI b x + evI (frStep b (cI b (b.length - 1)) n rest) x := by
  have hp := List.length_pos_iff.mpr hb
  have ht : TrI (frStep b (cI b (b.length - 1)) n rest) := sub_tr _ _
  refine ⟨ht, ht.len_le fun i hi => ?_, fun x => cI rest (n + b.length - 1) * pw n x, (Pol.pw n).smul _, fun x => ?_⟩
  · unfold frStep
    rw [cI_sub, cI_scale, cI_shift, if_neg (by omega), cI_scale]
    by_cases e : i = n + b.length - 1
    · subst e
      rw [show n + b.length - 1 - n = b.length - 1 by omega]
      have := Int.mul_comm (cI rest (n + b.length - 1)) (cI b (b.length - 1))
      omega
    · rw [cI_out (show rest.length ≤ i by omega), cI_out (show b.length ≤ i - n by omega)]; omega
  · unfold frStep
    rw [evI_sub, evI_scale, evI_shift, evI_scale]; grind
def pwI (c : Int) : Nat → Int
  | 0 => 1
  | n + 1 => pwI c n * c
theorem frLoop_spec {b : List Int} (hb : b ≠ []) : ∀ (n : Nat) (rest : List Int), rest.length ≤ n + b.length →
    TrI (frLoop b (cI b (b.length - 1)) n rest) ∧ (frLoop b (cI b (b.length - 1)) n rest).length < b.length ∧
    ∃ q, Pol q ∧ ∀ x, (pwI (cI b (b.length - 1)) (n + 1) : Rat) * evI rest x = q x * evI b x + evI (frLoop b (cI b (b.length - 1)) n rest) x
  | 0, rest, hr => by
    have hp := List.length_pos_iff.mpr hb
    obtain ⟨h1, h2, q, h3, h4⟩ := frStep_spec hb 0 rest hr
    refine ⟨h1, by show (frStep _ _ 0 rest).length < _; omega, q, h3, fun x => ?_⟩
    show ((1 * cI b (b.length - 1) : Int) : Rat) * _ = _ + evI (frStep _ _ 0 rest) x
    rw [← h4]; push_cast; grind
  | n + 1, rest, hr => by
    obtain ⟨h1, h2, q, h3, h4⟩ := frStep_spec hb (n + 1) rest hr
    obtain ⟨k1, k2, q', k3, k4⟩ := frLoop_spec hb n (frStep b (cI b (b.length - 1)) (n + 1) rest) (by omega)
    refine ⟨k1, k2, fun x => pwI (cI b (b.length - 1)) (n + 1) * q x + q' x, (h3.smul _).add k3, fun x => ?_⟩
    show ((pwI (cI b (b.length - 1)) (n + 1) * cI b (b.length - 1) : Int) : Rat) * _ = _ + evI (frLoop _ _ n _) x
    have e1 := h4 x
    have e2 := k4 x
    push_cast
    grind
theorem pwI_ne {c : Int} (h : c ≠ 0) : ∀ n, pwI c n ≠ 0
  | 0 => by show (1 : Int) ≠ 0; decide
  | n + 1 => Int.mul_ne_zero (pwI_ne h n) h
theorem pwI_sign {c : Int} : ∀ n, (0 < c → 0 < pwI c n) ∧ (c < 0 → (n % 2 = 0 → 0 < pwI c n) ∧ (n % 2 = 1 → pwI c n < 0))
  | 0 => ⟨fun _ => by show (0 : Int) < 1; decide, fun _ => ⟨fun _ => by show (0 : Int) < 1; decide, fun h => by simp at h⟩⟩
  | n + 1 => by
    obtain ⟨h1, h2⟩ := pwI_sign (c := c) n
    refine ⟨fun h => Int.mul_pos (h1 h) h, fun h => ⟨fun e => ?_, fun e => ?_⟩⟩
    · exact Int.mul_pos_of_neg_of_neg ((h2 h).2 (by omega)) h
    · exact Int.mul_neg_of_pos_of_neg ((h2 h).1 (by omega)) h
/-- the false rest's law -/
theorem frI_spec {a b : List Int} (ha : TrI a) (hb : TrI b) (hn : b ≠ []) : TrI (frI a b) ∧ (frI a b).length < max b.length (a.length + 1) ∧ (b.length ≤ a.length → (frI a b).length < b.length) ∧
    ∃ q c, Pol q ∧ c ≠ (0 : Int) ∧ (∀ x, (c : Rat) * evI a x = q x * evI b x + evI (frI a b) x) ∧ (b.length ≤ a.length → c = pwI (cI b (b.length - 1)) (a.length - b.length + 1)) := by
  unfold frI
  have hp := List.length_pos_iff.mpr hn
  by_cases h : a.length < b.length
  · rw [if_pos h]
    exact ⟨ha, by omega, fun z => by omega, fun _ => 0, 1, .const 0, by decide, fun x => by push_cast; grind, fun z => by omega⟩
  · rw [if_neg h]
    obtain ⟨h1, h2, q, h3, h4⟩ := frLoop_spec hn (a.length - b.length) a (by omega)
    exact ⟨h1, by omega, fun _ => h2, q, _, h3, pwI_ne (hb.last hn) _, h4, fun _ => rfl⟩
end K23
/-! content, plain form, greatest common divisors, chains, quotients -/
namespace K23
def contentI (a : List Int) : Int := a.foldl (fun g c => ((Nat.gcd g.natAbs c.natAbs : Nat) : Int)) 0
theorem foldl_gcd : ∀ (a : List Int) (g : Nat), a.foldl (fun g c => ((Nat.gcd g.natAbs c.natAbs : Nat) : Int)) (g : Int) = ((a.foldl (fun g c => Nat.gcd g c.natAbs) g : Nat) : Int)
  | [], g => rfl
  | c :: t, g => by
    rw [List.foldl_cons, List.foldl_cons]
    exact foldl_gcd t _
def contN (a : List Int) : Nat := a.foldl (fun g c => Nat.gcd g c.natAbs) 0
theorem content_eq (a : List Int) : contentI a = (contN a : Int) := foldl_gcd a 0
theorem foldN_dvd : ∀ (a : List Int) (g : Nat), a.foldl (fun g c => Nat.gcd g c.natAbs) g ∣ g ∧ ∀ c ∈ a, a.foldl (fun g c => Nat.gcd g c.natAbs) g ∣ c.natAbs
  | [], g => ⟨Nat.dvd_refl _, fun c h => by simp at h⟩
  | c :: t, g => by
    obtain ⟨h1, h2⟩ := foldN_dvd t (Nat.gcd g c.natAbs)
    rw [List.foldl_cons]
    refine ⟨Nat.dvd_trans h1 (Nat.gcd_dvd_left _ _), fun d hd => ?_⟩
    rcases List.mem_cons.mp hd with e | e
    · rw [e]; exact Nat.dvd_trans h1 (Nat.gcd_dvd_right _ _)
    · exact h2 d e
theorem dvd_foldN : ∀ (a : List Int) (g d : Nat), d ∣ g → (∀ c ∈ a, d ∣ c.natAbs) → d ∣ a.foldl (fun g c => Nat.gcd g c.natAbs) g
  | [], g, d, h, _ => h
  | c :: t, g, d, h, k => by
    rw [List.foldl_cons]
    exact dvd_foldN t _ d (Nat.dvd_gcd h (k c List.mem_cons_self)) fun e he => k e (List.mem_cons_of_mem _ he)
theorem cont_dvd {a : List Int} {c : Int} (h : c ∈ a) : contentI a ∣ c := by
  rw [content_eq]
  exact Int.dvd_natAbs.mp (Int.ofNat_dvd.mpr ((foldN_dvd a 0).2 c h))
theorem dvd_cont {a : List Int} {d : Int} (h : ∀ c ∈ a, d ∣ c) : d ∣ contentI a := by
  rw [content_eq]
  have := dvd_foldN a 0 d.natAbs (Nat.dvd_zero _) fun c hc => Int.natAbs_dvd_natAbs.mpr (h c hc)
  exact Int.natAbs_dvd.mp (Int.ofNat_dvd.mpr this)
theorem cont_nonneg (a : List Int) : 0 ≤ contentI a := by rw [content_eq]; omega
theorem cont_pos {a : List Int} (h : TrI a) (hn : a ≠ []) : 0 < contentI a := by
  have := cont_nonneg a
  rcases Int.lt_or_eq_of_le this with q | q
  · exact q
  · have z := h.last hn
    have d := cont_dvd (cI_mem z)
    rw [← q] at d
    exact absurd (Int.zero_dvd.mp d) z
theorem cont_le {a : List Int} {c : Int} (h : c ∈ a) (hc : c ≠ 0) : (contentI a).natAbs ≤ c.natAbs :=
  Nat.le_of_dvd (by omega) (Int.natAbs_dvd_natAbs.mpr (cont_dvd h))
theorem fdiv_of_dvd {c k : Int} (hk : k ≠ 0) (h : k ∣ c) : k * c.fdiv k = c := by
  obtain ⟨m, rfl⟩ := h
  rw [Int.mul_fdiv_cancel_left _ hk]
def bareI (a : List Int) (f : Int) : List Int := a.map fun c => f * c.fdiv (contentI a)
def plainI (a : List Int) : List Int :=
  if a = [] then [] else a.map fun c => c.fdiv (if cI a (a.length - 1) < 0 then - contentI a else contentI a)
def Prim (a : List Int) : Prop := ∀ d : Int, (∀ c ∈ a, d ∣ c) → d ∣ 1
theorem cI_map {f : Int → Int} (h0 : f 0 = 0) (a : List Int) (i : Nat) : cI (a.map f) i = f (cI a i) := by
  by_cases h : i < a.length
  · rw [cI_get (by simpa using h), cI_get h, List.getElem_map]
  · rw [cI_out (by simp; omega), cI_out (by omega), h0]
theorem div_list {a : List Int} {k : Int} (hk : k ≠ 0) (hd : ∀ c ∈ a, k ∣ c) : (∀ i, k * cI (a.map (·.fdiv k)) i = cI a i) ∧ (TrI a → TrI (a.map (·.fdiv k))) ∧ ∀ x, (k : Rat) * evI (a.map (·.fdiv k)) x = evI a x := by
  have e : ∀ i, k * cI (a.map (·.fdiv k)) i = cI a i := fun i => by
    rw [cI_map (f := (·.fdiv k)) (by simp)]
    by_cases z : cI a i = 0
    · rw [z]; simp
    · exact fdiv_of_dvd hk (hd _ (cI_mem z))
  refine ⟨e, fun t => ?_, fun x => ?_⟩
  · rcases t with rfl | t
    · exact .inl rfl
    · right
      rw [List.length_map]
      intro z
      rw [← e, z] at t
      simp at t
  · rw [evI_smul_of (k := k) (c := a) (a := a.map (·.fdiv k)) fun i => (e i).symm]
theorem prim_div {a : List Int} {k : Int} (hk : k = contentI a ∨ k = - contentI a) (h0 : k ≠ 0) : Prim (a.map (·.fdiv k)) := fun d h => by
  have h2 : ∀ c ∈ a, k * d ∣ c := fun c hc => by
    have hkc : k ∣ c := by
      rcases hk with e | e
      · rw [e]; exact cont_dvd hc
      · rw [e]; exact Int.neg_dvd.mpr (cont_dvd hc)
    obtain ⟨m, hm⟩ := h (c.fdiv k) (List.mem_map.mpr ⟨c, hc, rfl⟩)
    refine ⟨m, ?_⟩
    rw [← fdiv_of_dvd h0 hkc, hm, Int.mul_assoc]
  have h3 : k * d ∣ k := by
    have := dvd_cont h2
    rcases hk with e | e
    · rw [← e] at this; exact this
    · have z := Int.dvd_neg.mpr this
      rw [← e] at z; exact z
  obtain ⟨m, hm⟩ := h3
  refine ⟨m, ?_⟩
  have : k * (d * m) = k * 1 := by rw [← Int.mul_assoc]; omega
  exact (Int.eq_of_mul_eq_mul_left h0 this).symm
theorem plain_spec {a : List Int} (h : TrI a) : TrI (plainI a) ∧ (plainI a).length = a.length ∧ (a ≠ [] → Prim (plainI a) ∧ 0 < cI (plainI a) (a.length - 1)) ∧ ∃ k : Int, k ≠ 0 ∧ ∀ x, (k : Rat) * evI (plainI a) x = evI a x := by
  unfold plainI
  by_cases hn : a = []
  · subst hn; rw [if_pos rfl]; exact ⟨.inl rfl, rfl, fun z => absurd rfl z, 1, by decide, fun x => by rw [evI_nil]; grind⟩
  · rw [if_neg hn]
    have hp := cont_pos h hn
    generalize hk : (if cI a (a.length - 1) < 0 then - contentI a else contentI a) = k
    have hk' : k = contentI a ∨ k = - contentI a := by rw [← hk]; split; exact .inr rfl; exact .inl rfl
    have h0 : k ≠ 0 := by omega
    have hd : ∀ c ∈ a, k ∣ c := fun c hc => by
      rcases hk' with e | e
      · rw [e]; exact cont_dvd hc
      · rw [e]; exact Int.neg_dvd.mpr (cont_dvd hc)
    obtain ⟨e, t, v⟩ := div_list h0 hd
    refine ⟨t h, List.length_map _, fun _ => ⟨prim_div hk' h0, ?_⟩, k, h0, v⟩
    have e1 := e (a.length - 1)
    have nz := h.last hn
    rw [← hk] at e1
    rw [← hk]
    split at e1
    · rename_i q
      rw [if_pos q]
      apply Decidable.byContradiction
      intro z
      have := Int.mul_nonneg_of_nonpos_of_nonpos (show -contentI a ≤ 0 by omega) (show cI (List.map (fun x => x.fdiv (-contentI a)) a) (a.length - 1) ≤ 0 by omega)
      omega
    · rename_i q
      rw [if_neg q]
      apply Decidable.byContradiction
      intro z
      have := Int.mul_nonpos_of_nonneg_of_nonpos (show 0 ≤ contentI a by omega) (show cI (List.map (fun x => x.fdiv (contentI a)) a) (a.length - 1) ≤ 0 by omega)
      omega
theorem bare_spec {a : List Int} (h : TrI a) (hn : a ≠ []) {f : Int} (hf : f = 1 ∨ f = -1) : TrI (bareI a f) ∧ (bareI a f).length = a.length ∧ ∀ x, (contentI a : Rat) * evI (bareI a f) x = f * evI a x := by
  have hp := cont_pos h hn
  have e0 : bareI a f = (a.map (·.fdiv (contentI a))).map (f * ·) := by unfold bareI; rw [List.map_map]; rfl
  obtain ⟨e, t, v⟩ := div_list (a := a) (k := contentI a) (by omega) fun c hc => cont_dvd hc
  have c1 : ∀ i, cI (bareI a f) i = f * cI (a.map (·.fdiv (contentI a))) i := fun i => by rw [e0, cI_map (f := (f * ·)) (by simp)]
  refine ⟨?_, by simp [bareI], fun x => ?_⟩
  · rcases t h with z | z
    · exact absurd (by simpa using z) hn
    · right
      have l1 : (bareI a f).length = a.length := by simp [bareI]
      rw [List.length_map] at z
      rw [l1, c1]
      rcases hf with e | e <;> rw [e] <;> omega
  · rw [evI_smul_of (k := f) c1, ← v]; grind

/-! ### combinations -/
def Comb (f g h : Rat → Rat) : Prop := ∃ u v, Pol u ∧ Pol v ∧ ∀ x, h x = u x * f x + v x * g x
theorem Comb.left (f g : Rat → Rat) : Comb f g f := ⟨fun _ => 1, fun _ => 0, .const _, .const _, fun x => by grind⟩
theorem Comb.right (f g : Rat → Rat) : Comb f g g := ⟨fun _ => 0, fun _ => 1, .const _, .const _, fun x => by grind⟩
theorem Comb.trans {f g f' g' h : Rat → Rat} (a : Comb f g f') (b : Comb f g g') (c : Comb f' g' h) : Comb f g h := by
  obtain ⟨u1, v1, p1, q1, e1⟩ := a
  obtain ⟨u2, v2, p2, q2, e2⟩ := b
  obtain ⟨u, v, p, q, e⟩ := c
  refine ⟨fun x => u x * u1 x + v x * u2 x, fun x => u x * v1 x + v x * v2 x, (p.mul p1).add (q.mul p2), (p.mul q1).add (q.mul q2), fun x => ?_⟩
  rw [e, e1, e2]; grind
theorem Comb.smul {f g h : Rat → Rat} (c : Rat) (a : Comb f g h) : Comb f g fun x => c * h x := by
  obtain ⟨u, v, p, q, e⟩ := a
  exact ⟨fun x => c * u x, fun x => c * v x, p.smul _, q.smul _, fun x => by show c * h x = _; rw [e]; grind⟩
theorem Comb.congr {f g h h' : Rat → Rat} (a : Comb f g h) (e' : ∀ x, h' x = h x) : Comb f g h' := by
  obtain ⟨u, v, p, q, e⟩ := a
  exact ⟨u, v, p, q, fun x => by rw [e', e]⟩
theorem Comb.of {f g : Rat → Rat} {q : Rat → Rat} {a : Rat} (hq : Pol q) : Comb f g fun x => a * f x + q x * g x := ⟨fun _ => a, q, .const _, hq, fun x => rfl⟩
/-- what the loop of common_divisor keeps -/
structure CdInv (a b : List Int) (f s : List Int) : Prop where
  trF : TrI f
  neF : f ≠ []
  primF : Prim f
  leadF : 0 < cI f (f.length - 1)
  trS : TrI s
  primS : s ≠ [] → Prim s
  leadS : s ≠ [] → 0 < cI s (s.length - 1)
  f1 : Comb (evI a) (evI b) (evI f)
  s1 : Comb (evI a) (evI b) (evI s)
  a1 : Comb (evI f) (evI s) (evI a)
  b1 : Comb (evI f) (evI s) (evI b)
theorem unscale {k : Int} (hk : k ≠ 0) {p q : Rat} (h : (k : Rat) * p = q) : p = (k : Rat)⁻¹ * q := by
  have := mul_inv' (show (k : Rat) ≠ 0 by exact_mod_cast hk)
  rw [← h]; grind
theorem CdInv.start {a b : List Int} (ha : TrI a) (hn : a ≠ []) (hb : TrI b) : CdInv a b (plainI a) (plainI b) := by
  obtain ⟨h1, h2, h3, k, h4, h5⟩ := plain_spec ha
  obtain ⟨i1, i2, i3, l, i4, i5⟩ := plain_spec hb
  have nb : plainI b ≠ [] → b ≠ [] := fun z e => z (by rw [e]; rfl)
  refine ⟨h1, ?_, (h3 hn).1, ?_, i1, fun z => (i3 (nb z)).1, fun z => ?_, ?_, ?_, ?_, ?_⟩
  · intro z; rw [z] at h2; exact hn (List.length_eq_zero_iff.mp h2.symm)
  · rw [h2]; exact (h3 hn).2
  · rw [i2]; exact (i3 (nb z)).2
  · exact ((Comb.left (evI a) (evI b)).smul (k : Rat)⁻¹).congr fun x => unscale h4 (h5 x)
  · exact ((Comb.right (evI a) (evI b)).smul (l : Rat)⁻¹).congr fun x => unscale i4 (i5 x)
  · exact ((Comb.left (evI (plainI a)) (evI (plainI b))).smul k).congr fun x => (h5 x).symm
  · exact ((Comb.right (evI (plainI a)) (evI (plainI b))).smul l).congr fun x => (i5 x).symm
theorem CdInv.step {a b f s : List Int} (I : CdInv a b f s) (hs : s ≠ []) : CdInv a b s (plainI (frI f s)) := by
  obtain ⟨t1, t2, t3, q, c, pq, hc, e, _⟩ := frI_spec I.trF I.trS hs
  obtain ⟨i1, i2, i3, l, i4, i5⟩ := plain_spec t1
  have nb : plainI (frI f s) ≠ [] → frI f s ≠ [] := fun z e => z (by rw [e]; rfl)
  have r1 : Comb (evI f) (evI s) (evI (plainI (frI f s))) := by
    have := (Comb.of (f := evI f) (g := evI s) (q := fun x => - q x) (a := c) pq.neg).smul (l : Rat)⁻¹
    refine this.congr fun x => unscale i4 ?_
    rw [i5, e]; grind
  have r2 : Comb (evI s) (evI (plainI (frI f s))) (evI f) := by
    have := (Comb.of (f := evI (plainI (frI f s))) (g := evI s) (q := q) (a := l) pq).smul (c : Rat)⁻¹
    obtain ⟨u, v, p1, p2, e'⟩ := this
    refine ⟨v, u, p2, p1, fun x => ?_⟩
    have e2 := e' x
    have e3 : evI f x = (c : Rat)⁻¹ * (l * evI (plainI (frI f s)) x + q x * evI s x) := unscale hc (by rw [i5, e]; grind)
    refine e3.trans (e2.trans ?_)
    grind
  exact ⟨I.trS, hs, I.primS hs, I.leadS hs, i1, fun z => (i3 (nb z)).1, fun z => by rw [i2]; exact (i3 (nb z)).2, I.s1, .trans I.f1 I.s1 r1, .trans r2 (Comb.left _ _) I.a1, .trans r2 (Comb.left _ _) I.b1⟩
theorem plain_len (a : List Int) : (plainI a).length = a.length := by
  unfold plainI
  split
  · rename_i h; rw [h]
  · exact List.length_map _
/-- what common_divisor answers -/
structure CD (a b g : List Int) : Prop where
  tr : TrI g
  ne : g ≠ []
  prim : Prim g
  lead : 0 < cI g (g.length - 1)
  comb : Comb (evI a) (evI b) (evI g)
  dvA : ∃ w, Pol w ∧ ∀ x, evI a x = w x * evI g x
  dvB : ∃ w, Pol w ∧ ∀ x, evI b x = w x * evI g x
theorem CdInv.done {a b f : List Int} (I : CdInv a b f []) : CD a b f := by
  have key : ∀ h, Comb (evI f) (evI []) h → ∃ w, Pol w ∧ ∀ x, h x = w x * evI f x := fun h ⟨u, v, p, q, e⟩ => ⟨u, p, fun x => by rw [e, evI_nil]; grind⟩
  exact ⟨I.trF, I.neF, I.primF, I.leadF, I.f1, key _ I.a1, key _ I.b1⟩

/-! ### chains -/
def Trip (a b c : List Int) : Prop := ∃ (q : Rat → Rat) (α β : Rat), Pol q ∧ 0 < α ∧ 0 < β ∧ ∀ x, α * evI a x = q x * evI b x - β * evI c x
def Fin2 (a b : List Int) : Prop := ∃ (q : Rat → Rat) (α : Rat), Pol q ∧ 0 < α ∧ ∀ x, α * evI a x = q x * evI b x
def Pre : List (List Int) → Prop
  | a :: b :: c :: t => Trip a b c ∧ Pre (b :: c :: t)
  | _ => True
def Fin : List (List Int) → Prop
  | a :: b :: c :: t => Fin (b :: c :: t)
  | [a, b] => Fin2 a b
  | _ => False
theorem Pre.snoc : ∀ {S : List (List Int)} {a b c : List Int}, Pre (S ++ [a, b]) → Trip a b c → Pre (S ++ [a, b, c])
  | [], _, _, _, _, t => ⟨t, trivial⟩
  | [s], a, b, c, h, t => ⟨h.1, t, trivial⟩
  | s :: r :: [], a, b, c, h, t => ⟨h.1, h.2.1, t, trivial⟩
  | s :: r :: u :: S, a, b, c, h, t => ⟨h.1, Pre.snoc (S := r :: u :: S) h.2 t⟩
theorem Fin.of : ∀ {S : List (List Int)} {a b : List Int}, Fin2 a b → Fin (S ++ [a, b])
  | [], _, _, t => t
  | [s], a, b, t => t
  | s :: r :: [], a, b, t => t
  | s :: r :: u :: S, a, b, t => Fin.of (S := r :: u :: S) t
/-- the next of a chain -/
def turnedB (a b : List Int) : Bool := decide (0 < cI b (b.length - 1)) || decide ((a.length - b.length) % 2 = 1)
theorem chain_step {a b : List Int} (ha : TrI a) (hb : TrI b) (hn : b ≠ []) (hl : b.length ≤ a.length) :
    (frI a b = [] → Fin2 a b) ∧ (frI a b ≠ [] → Trip a b (bareI (frI a b) (if turnedB a b = true then -1 else 1))) := by
  obtain ⟨t1, t2, t3, q, c, pq, hc, e, ec⟩ := frI_spec ha hb hn
  have ec := ec hl
  have hb0 := hb.last hn
  obtain ⟨s1, s2⟩ := pwI_sign (c := cI b (b.length - 1)) (a.length - b.length + 1)
  refine ⟨fun z => ?_, fun z => ?_⟩
  · rcases Int.lt_or_gt_of_ne hc with h | h
    · refine ⟨fun x => - q x, -(c : Rat), pq.neg, ?_, fun x => ?_⟩
      · have : (c : Rat) < 0 := by exact_mod_cast h
        grind
      · have := e x; rw [z, evI_nil] at this; grind
    · refine ⟨q, c, pq, by exact_mod_cast h, fun x => ?_⟩
      have := e x; rw [z, evI_nil] at this; grind
  · have hk := cont_pos t1 z
    have hkq : (0 : Rat) < contentI (frI a b) := by exact_mod_cast hk
    by_cases ht : turnedB a b = true
    · rw [if_pos ht]
      obtain ⟨_, _, v⟩ := bare_spec t1 z (f := -1) (.inr rfl)
      have hc0 : 0 < c := by
        rw [ec]
        unfold turnedB at ht
        rcases Bool.or_eq_true_iff.mp ht with u | u
        · exact s1 (of_decide_eq_true u)
        · have u := of_decide_eq_true u
          by_cases p : 0 < cI b (b.length - 1)
          · exact s1 p
          · exact (s2 (by omega)).1 (by omega)
      refine ⟨q, c, contentI (frI a b), pq, by exact_mod_cast hc0, hkq, fun x => ?_⟩
      have e1 := e x
      have e2 := v x
      push_cast at e2
      grind
    · rw [if_neg ht]
      obtain ⟨_, _, v⟩ := bare_spec t1 z (f := 1) (.inl rfl)
      have hc0 : c < 0 := by
        rw [ec]
        unfold turnedB at ht
        rw [Bool.or_eq_true_iff] at ht
        have p : ¬ 0 < cI b (b.length - 1) := fun u => ht (.inl (decide_eq_true u))
        have p2 : ¬ (a.length - b.length) % 2 = 1 := fun u => ht (.inr (decide_eq_true u))
        exact (s2 (by omega)).2 (by omega)
      refine ⟨fun x => - q x, -(c : Rat), contentI (frI a b), pq.neg, ?_, hkq, fun x => ?_⟩
      · have : (c : Rat) < 0 := by exact_mod_cast hc0
        grind
      · have e1 := e x
        have e2 := v x
        push_cast at e2
        grind
end K23
/-! the mesh: Sturm's chain over Rat without real numbers -/
namespace K23
def Ev (M : Rat) (P : Rat → Rat → Prop) : Prop := ∃ δ, 0 < δ ∧ ∀ u v, -M ≤ u → u ≤ v → v ≤ M → v - u ≤ δ → P u v
theorem two_min {a b : Rat} (ha : 0 < a) (hb : 0 < b) : ∃ e, 0 < e ∧ e ≤ a ∧ e ≤ b := by
  by_cases h : a ≤ b
  · exact ⟨a, ha, Rat.le_refl, h⟩
  · exact ⟨b, hb, by grind, Rat.le_refl⟩
theorem Ev.and {M : Rat} {P Q : Rat → Rat → Prop} (h : Ev M P) (k : Ev M Q) : Ev M fun u v => P u v ∧ Q u v := by
  obtain ⟨d, d0, hd⟩ := h
  obtain ⟨e, e0, he⟩ := k
  obtain ⟨m, m0, m1, m2⟩ := two_min d0 e0
  exact ⟨m, m0, fun u v a b c x => ⟨hd u v a b c (by grind), he u v a b c (by grind)⟩⟩
theorem Ev.mono {M : Rat} {P Q : Rat → Rat → Prop} (h : Ev M P) (k : ∀ u v, u ≤ v → P u v → Q u v) : Ev M Q := by
  obtain ⟨d, d0, hd⟩ := h
  exact ⟨d, d0, fun u v a b c x => k u v b (hd u v a b c x)⟩
theorem Ev.true {M : Rat} {P : Rat → Rat → Prop} (h : ∀ u v, P u v) : Ev M P := ⟨1, by grind, fun u v _ _ _ _ => h u v⟩
theorem Ev.small {M : Rat} : Ev M fun u v => v - u ≤ 1 := ⟨1, by grind, fun u v _ _ _ h => h⟩
theorem Ev.all {α : Type} {M : Rat} {P : α → Rat → Rat → Prop} : ∀ (l : List α), (∀ a ∈ l, Ev M (P a)) → Ev M fun u v => ∀ a ∈ l, P a u v
  | [], _ => .true fun _ _ a h => by simp at h
  | a :: l, h => ((h a List.mem_cons_self).and (Ev.all l fun b hb => h b (List.mem_cons_of_mem _ hb))).mono fun u v _ ⟨h1, h2⟩ b hb => by
    rcases List.mem_cons.mp hb with e | e
    · rw [e]; exact h1
    · exact h2 b e
abbrev SS (f : Rat → Rat) (u v : Rat) : Prop := 0 < f u * f v
theorem inv_ex {a : Rat} (h : 0 < a) : ∃ i, 0 < i ∧ a * i = 1 := ⟨a⁻¹, inv_pos' h, mul_inv' (fun z => by rw [z] at h; exact absurd h (by decide))⟩
/-- a function that is away from 0 at u keeps its sign near u -/
theorem lip_ss {f : Rat → Rat} (pf : Pol f) (M : Rat) (hM : 0 ≤ M) {η : Rat} (hη : 0 < η) : Ev M fun u v => (η ≤ f u → 0 < f v) ∧ (f u ≤ -η → f v < 0) := by
  obtain ⟨L, l0, hL⟩ := pf.lip M hM
  obtain ⟨i, hi, hm⟩ := inv_ex (show 0 < L + 1 by grind)
  have d0 : 0 < η * i := mul_pos' hη hi
  refine ⟨η * i, d0, fun u v a b c d => ?_⟩
  obtain ⟨k1, k2⟩ := hL u v a b c
  have e1 : L * (v - u) ≤ L * (η * i) := mul_le_l d l0
  have e3 : η * ((L + 1) * i) = η := by rw [hm]; exact Rat.mul_one η
  have e2 : L * (η * i) = η - η * i := by clear hL k1 k2 e1 d; grind
  clear hm e3 hL
  constructor <;> intro h <;> grind
theorem inv_half {K : Rat} (hK : 0 < K) : ∃ r, 0 < r ∧ K * r = 1 / 2 := by
  obtain ⟨i, hi, hm⟩ := inv_ex hK
  exact ⟨i * (1 / 2), by grind, by grind⟩
/-- E2 -/
theorem mesh {f g h q : Rat → Rat} {α β : Rat} (pf : Pol f) (pg : Pol g) (ph : Pol h) (pq : Pol q) (hα : 0 < α) (hβ : 0 < β) (cop : Cop g f) (e : ∀ x, α * g x = q x * f x - β * h x) (M : Rat) (hM : 0 ≤ M) :
    Ev M fun u v => SS f u v ∨ (SS g u v ∧ SS h u v ∧ g u * h u < 0) := by
  obtain ⟨A, B, pA, pB, hAB⟩ := cop
  obtain ⟨K1, k1, b1⟩ := pA.bd M hM
  obtain ⟨K2, k2, b2⟩ := pB.bd M hM
  obtain ⟨K3, k3, b3⟩ := pq.bd M hM
  obtain ⟨K, hK⟩ : ∃ K, K = K1 + K2 + K3 + 1 := ⟨_, rfl⟩
  have K0 : 0 < K := by grind
  obtain ⟨ρ, r0, rK⟩ := inv_half K0
  -- the bound for f
  have a1 : 0 < α * ρ * (1 / 2) := by
    have := mul_pos' hα r0
    grind
  obtain ⟨e0, e0p, e1, e2⟩ := two_min (show (0 : Rat) < 1 / 2 by grind) a1
  obtain ⟨Ki, Ki0, Kii⟩ := inv_ex K0
  obtain ⟨η, hη⟩ : ∃ η, η = e0 * Ki := ⟨_, rfl⟩
  have η0 : 0 < η := by rw [hη]; exact mul_pos' e0p Ki0
  have ηK : K * η = e0 := by rw [hη]; grind
  obtain ⟨βi, hβi, hβii⟩ := inv_ex hβ
  obtain ⟨σ, hσ⟩ : ∃ σ, σ = α * ρ * (1 / 2) * βi := ⟨_, rfl⟩
  have σ0 : 0 < σ := by rw [hσ]; exact mul_pos' a1 hβi
  have σβ : β * σ = α * ρ * (1 / 2) := by rw [hσ]; grind
  refine (((lip_ss pf M hM η0).and ((lip_ss pg M hM r0).and (lip_ss ph M hM σ0))).and (⟨1, by grind, fun u v a b c _ => ⟨a, Rat.le_trans b c⟩⟩ : Ev M fun u v => -M ≤ u ∧ u ≤ M)).mono fun u v huv hh => ?_
  obtain ⟨⟨⟨f1, f2⟩, ⟨g1, g2⟩, ⟨h1, h2⟩⟩, u1, u2⟩ := hh
  by_cases c1 : η ≤ f u
  · exact .inl (mul_pos' (by grind) (f1 c1))
  by_cases c2 : f u ≤ -η
  · left
    have := mul_pos' (show 0 < - f u by grind) (show 0 < - f v by have := f2 c2; grind)
    show 0 < f u * f v
    grind
  right
  have s1 : -η ≤ f u := by grind
  have s2 : f u ≤ η := by grind
  obtain ⟨A1, A2⟩ := b1 u u1 u2
  obtain ⟨B1, B2⟩ := b2 u u1 u2
  obtain ⟨Q1, Q2⟩ := b3 u u1 u2
  have m1 := bmul (A := K) (B := η) (x := B u) (y := f u) (by grind) (by grind) s1 s2
  have m2 := bmul (A := K) (B := η) (x := q u) (y := f u) (by grind) (by grind) s1 s2
  have eA := hAB u
  have Ag : 1 / 2 ≤ A u * g u := by grind
  have ee := e u
  have sg : ρ ≤ g u ∨ g u ≤ -ρ := by
    apply Decidable.byContradiction
    intro z
    have z1 : g u < ρ := by grind
    have z2 : -ρ < g u := by grind
    have m3 := bmul (A := K) (B := ab (g u)) (x := A u) (y := g u) (by grind) (by grind) ab_le.2 ab_le.1
    have z3 : ab (g u) < ρ := by unfold ab; grind
    have := mul_lt_l z3 K0
    grind
  rcases sg with s | s
  · have ag := mul_le_l s (show 0 ≤ α by grind)
    have hb : β * h u ≤ β * (-σ) := by grind
    have hu : h u ≤ -σ := by
      apply Decidable.byContradiction
      intro z
      have := mul_lt_l (show -σ < h u by grind) hβ
      grind
    refine ⟨mul_pos' (by grind) (g1 s), ?_, ?_⟩
    · have := mul_pos' (show 0 < - h u by grind) (show 0 < - h v by have := h2 hu; grind)
      show 0 < h u * h v
      grind
    · have := mul_pos' (show 0 < g u by grind) (show 0 < - h u by grind)
      grind
  · have ag := mul_le_l s (show 0 ≤ α by grind)
    have hb : β * σ ≤ β * h u := by grind
    have hu : σ ≤ h u := by
      apply Decidable.byContradiction
      intro z
      have := mul_lt_l (show h u < σ by grind) hβ
      grind
    refine ⟨?_, mul_pos' (by grind) (h1 hu), ?_⟩
    · have := mul_pos' (show 0 < - g u by grind) (show 0 < - g v by have := g2 s; grind)
      show 0 < g u * g v
      grind
    · have := mul_pos' (show 0 < - g u by grind) (show 0 < h u by grind)
      grind
theorem mesh1 {f g : Rat → Rat} (pf : Pol f) (pg : Pol g) (cop : Cop f g) (M : Rat) (hM : 0 ≤ M) : Ev M fun u v => SS f u v ∨ SS g u v :=
  (mesh (h := fun x => - g x) (q := fun _ => 0) (α := 1) (β := 1) pf pg pg.neg (.const 0) (by grind) (by grind) cop.symm (fun x => by grind) M hM).mono fun u v _ h => h.imp id fun z => z.1

/-! the chain near u, v -/
def Loc (u v : Rat) : List (List Int) → Prop
  | a :: b :: c :: t => (SS (evI b) u v ∨ (SS (evI a) u v ∧ SS (evI c) u v ∧ evI a u * evI c u < 0)) ∧ Loc u v (b :: c :: t)
  | [_, b] => SS (evI b) u v
  | _ => True
theorem ev_loc (M : Rat) (hM : 0 ≤ M) : ∀ (a b : List Int) (t : List (List Int)), Pre (a :: b :: t) → Fin (a :: b :: t) → Cop (evI a) (evI b) → Ev M fun u v => Loc u v (a :: b :: t)
  | a, b, [], _, hf, hc => by
    obtain ⟨q, α, pq, hα, e⟩ := hf
    obtain ⟨A, B, pA, pB, hAB⟩ := hc
    obtain ⟨αi, hi0, hi⟩ := inv_ex hα
    have cop : Cop (evI b) fun _ => 0 := ⟨fun x => αi * (A x * q x) + B x, fun _ => 0, ((pA.mul pq).smul _).add pB, .const 0, fun x => by
      have e1 := e x
      have e2 := hAB x
      have e3 : evI a x = αi * (q x * evI b x) := by rw [← e1]; grind
      rw [e3] at e2
      grind⟩
    exact (mesh1 (.evI b) (.const 0) cop M hM).mono fun u v _ h => h.elim id fun z => absurd z (by grind)
  | a, b, c :: t, hp, hf, hc => by
    obtain ⟨⟨q, α, β, pq, hα, hβ, e⟩, hp⟩ := hp
    obtain ⟨αi, hi0, hi⟩ := inv_ex hα
    have h1 := mesh (.evI b) (.evI a) (.evI c) pq hα hβ hc e M hM
    have hc2 : Cop (evI b) (evI c) := by
      obtain ⟨A, B, pA, pB, hAB⟩ := hc
      refine ⟨fun x => αi * (A x * q x) + B x, fun x => (-(αi * β)) * A x, ((pA.mul pq).smul _).add pB, pA.smul _, fun x => ?_⟩
      have e1 := e x
      have e2 := hAB x
      have e3 : evI a x = αi * (q x * evI b x - β * evI c x) := by rw [← e1]; grind
      rw [e3] at e2
      grind
    exact (h1.and (ev_loc M hM b c t hp hf hc2)).mono fun u v _ h => h

/-! variations -/
def sg (x : Rat) : Int := if 0 < x then 1 else if x < 0 then -1 else 0
theorem sg_pos {x : Rat} (h : 0 < x) : sg x = 1 := if_pos h
theorem sg_neg {x : Rat} (h : x < 0) : sg x = -1 := by unfold sg; rw [if_neg (by grind), if_pos h]
theorem sg_zero : sg 0 = 0 := by decide +kernel
def chgK : List Int → Int
  | a :: b :: t => (if b ≠ a then 1 else 0) + chgK (b :: t)
  | _ => 0
def chg (l : List Int) : Int := chgK (l.filter (· ≠ 0))
theorem chg_zero (l : List Int) : chg (0 :: l) = chg l := by
  unfold chg; rw [List.filter_cons_of_neg (by simp)]
theorem chg_two {a b : Int} (ha : a ≠ 0) (hb : b ≠ 0) (l : List Int) : chg (a :: b :: l) = (if b ≠ a then 1 else 0) + chg (b :: l) := by
  unfold chg
  rw [List.filter_cons_of_pos (by simpa using ha), List.filter_cons_of_pos (by simpa using hb)]; rfl
theorem chg_skip (a : Int) (l : List Int) : chg (a :: 0 :: l) = chg (a :: l) := by
  unfold chg
  by_cases ha : a = 0
  · subst ha; simp
  · simp [ha]
def sgs (x : Rat) (S : List (List Int)) : List Int := S.map fun a => sg (evI a x)
def vr (x : Rat) (S : List (List Int)) : Int := chg (sgs x S)
theorem ss_sg {f : Rat → Rat} {u v : Rat} (h : SS f u v) : sg (f u) = sg (f v) ∧ sg (f u) ≠ 0 ∧ sg (f v) ≠ 0 := by
  have h : 0 < f u * f v := h
  by_cases a : 0 < f u
  · have b : 0 < f v := by
      apply Decidable.byContradiction
      intro z
      have := mul_le_l (show f v ≤ 0 by grind) (show 0 ≤ f u by grind)
      grind
    rw [sg_pos a, sg_pos b]; decide
  · have a' : f u < 0 := by
      by_cases z : f u = 0
      · rw [z] at h; grind
      · grind
    have b : f v < 0 := by
      apply Decidable.byContradiction
      intro z
      have := mul_le_l (show 0 ≤ f v by grind) (show 0 ≤ - f u by grind)
      grind
    rw [sg_neg a', sg_neg b]; decide
theorem sg_vals (x : Rat) : sg x = 1 ∨ sg x = -1 ∨ sg x = 0 := by
  unfold sg; split
  · exact .inl rfl
  · split
    · exact .inr (.inl rfl)
    · exact .inr (.inr rfl)
theorem mul_neg_sg {x y : Rat} (h : x * y < 0) : sg x = - sg y ∧ sg x ≠ 0 := by
  by_cases a : 0 < x
  · have b : y < 0 := by
      apply Decidable.byContradiction
      intro z
      have := mul_le_l (show 0 ≤ y by grind) (show 0 ≤ x by grind)
      grind
    rw [sg_pos a, sg_neg b]; decide
  · have a' : x < 0 := by
      by_cases z : x = 0
      · rw [z] at h; grind
      · grind
    have b : 0 < y := by
      apply Decidable.byContradiction
      intro z
      have := mul_le_l (show y ≤ 0 by grind) (show 0 ≤ - x by grind)
      grind
    rw [sg_neg a', sg_pos b]; decide
theorem sgs_cons (x : Rat) (a : List Int) (S : List (List Int)) : sgs x (a :: S) = sg (evI a x) :: sgs x S := rfl
/-- three with opposite outer signs: the middle does not matter -/
theorem chg_mid {a b c : Int} (h : a = -c) (ha : a ≠ 0) (hb : b = a ∨ b = c ∨ b = 0) (l : List Int) : chg (a :: b :: c :: l) = 1 + chg (c :: l) := by
  have hc : c ≠ 0 := by omega
  have hca : c ≠ a := by omega
  rcases hb with e | e | e
  · subst e; rw [chg_two ha ha, chg_two ha hc, if_neg (by simp), if_pos hca]; omega
  · subst e; rw [chg_two ha hc, chg_two hc hc, if_pos hca, if_neg (by simp)]; omega
  · subst e; rw [chg_skip, chg_two ha hc, if_pos hca]
theorem vr_loc {u v : Rat} : ∀ (n : Nat) (a : List Int) (t : List (List Int)), t.length ≤ n → Loc u v (a :: t) → SS (evI a) u v → vr u (a :: t) = vr v (a :: t)
  | _, a, [], _, _, _ => by
    unfold vr; rw [sgs_cons, sgs_cons]
    unfold chg sgs
    by_cases h1 : sg (evI a u) = 0 <;> by_cases h2 : sg (evI a v) = 0 <;> simp [h1, h2, chgK]
  | _, a, [b], _, h, ha => by
    obtain ⟨a1, a2, a3⟩ := ss_sg ha
    obtain ⟨b1, b2, b3⟩ := ss_sg (show SS (evI b) u v from h)
    unfold vr; simp only [sgs_cons, a1, b1]; rfl
  | 0, a, b :: c :: t, hl, _, _ => by simp at hl
  | n + 1, a, b :: c :: t, hl, h, ha => by
    obtain ⟨h1, h2⟩ := h
    simp only [List.length_cons] at hl
    obtain ⟨a1, a2, a3⟩ := ss_sg ha
    by_cases hb : SS (evI b) u v
    · obtain ⟨b1, b2, b3⟩ := ss_sg hb
      have ih := vr_loc n b (c :: t) (by simp only [List.length_cons]; omega) h2 hb
      unfold vr at *
      rw [sgs_cons, sgs_cons u b, sgs_cons v a, sgs_cons v b, chg_two a2 b2, chg_two a3 b3, a1, b1]
      rw [sgs_cons, sgs_cons v b, b1] at ih
      rw [ih]
    · obtain ⟨_, hc, hac⟩ := h1.resolve_left hb
      obtain ⟨c1, c2, c3⟩ := ss_sg hc
      have lc : Loc u v (c :: t) := by
        cases t with
        | nil => trivial
        | cons d t => exact h2.2
      have ih := vr_loc n c t (by omega) lc hc
      obtain ⟨o1, o2⟩ := mul_neg_sg hac
      have m : ∀ x, (sg (evI a x) = -sg (evI c x) ∧ sg (evI a x) ≠ 0) → vr x (a :: b :: c :: t) = 1 + vr x (c :: t) := fun x ⟨p, q⟩ => by
        unfold vr
        rw [sgs_cons, sgs_cons x b, sgs_cons x c]
        refine chg_mid p q ?_ _
        have := sg_vals (evI b x)
        have := sg_vals (evI c x)
        omega
      rw [m u ⟨o1, o2⟩, m v ⟨by rw [← a1, ← c1]; exact o1, a3⟩, ih]

/-! telescoping -/
theorem arch (r δ : Rat) (h : 0 < δ) : ∃ n : Nat, r ≤ (n : Rat) * δ := by
  obtain ⟨i, hi0, hi⟩ := inv_ex h
  have h1 : r * i ≤ ((r * i).ceil : Rat) := Rat.le_ceil
  have h2 : ((r * i).ceil : Rat) ≤ (((r * i).ceil.toNat : Nat) : Rat) := by
    have : (r * i).ceil ≤ ((r * i).ceil.toNat : Int) := Int.self_le_toNat _
    exact_mod_cast this
  refine ⟨(r * i).ceil.toNat, ?_⟩
  have h3 := mul_le_l (Rat.le_trans h1 h2) (show 0 ≤ δ by grind)
  generalize (((r * i).ceil.toNat : Nat) : Rat) = z at h3 ⊢
  have h4 : δ * (r * i) = r := by grind
  rw [h4] at h3
  rw [Rat.mul_comm]
  exact h3
theorem telescope {φ : Rat → Int} (h : ∀ M, 0 ≤ M → Ev M fun u v => φ u = φ v) (x y : Rat) : φ x = φ y := by
  have key : ∀ x y, x ≤ y → φ x = φ y := fun x y hxy => by
    have m0 : 0 ≤ ab x + ab y := by
      have := ab_nonneg x
      have := ab_nonneg y
      grind
    have ax := @ab_le x
    have ay := @ab_le y
    have bx := ab_nonneg x
    have hby := ab_nonneg y
    obtain ⟨δ, d0, hd⟩ := h _ m0
    obtain ⟨n, hn⟩ := arch (y - x) δ d0
    have step : ∀ (n : Nat) (x' : Rat), x ≤ x' → x' ≤ y → y - x' ≤ (n : Rat) * δ → φ x' = φ y := fun n => by
      induction n with
      | zero =>
        intro x' h1 h2 h3
        have : x' = y := by
          have : ((0 : Nat) : Rat) = 0 := rfl
          rw [this] at h3
          grind
        rw [this]
      | succ n ih =>
        intro x' h1 h2 h3
        by_cases c : y - x' ≤ δ
        · exact hd x' y (by grind) h2 (by grind) c
        · have e1 := hd x' (x' + δ) (by grind) (by grind) (by grind) (by grind)
          rw [e1]
          refine ih (x' + δ) (by grind) (by grind) ?_
          push_cast at h3
          grind
    exact step n x Rat.le_refl hxy hn
  rcases Rat.le_total (a := x) (b := y) with c | c
  · exact key x y c
  · exact (key y x c).symm
end K23
/-! the menu of factors, their roots; Sturm's theorem for products of factors -/
namespace K23
def menu : List (List Int) := [[-100, 101], [-101, 102], [-4, 1], [-3, 1], [-2, 1], [-1, 1], [0, 1], [1, 1], [2, 1], [3, 1], [4, 1], [1, 2], [-1, 2], [3, 2], [-3, 2], [1, 3], [-2, 3], [-2, 0, 1], [-3, 0, 1], [-7, 0, 1], [1, 0, 1], [1, 1, 1], [-5, 0, 2], [-2, 0, 0, 1]]
def menuLin : List (List Int) := menu.take 17
/-- the signs of the roots of a factor less x, ascending (as the law tells them) -/
def rs (f : List Int) (x : Rat) : List Int :=
  if f.length = 2 ∨ f.length = 4 then [sg (-(evI f x))]
  else if cI f 1 ≠ 0 ∨ 0 < cI f 0 then []
  else if 0 < x then [-1, sg (-(evI f x))] else if x < 0 then [-(sg (-(evI f x))), 1] else [-1, 1]
def nle (f : List Int) (x : Rat) : Int := ((rs f x).countP (· ≤ 0) : Nat)
def nlt (f : List Int) (x : Rat) : Int := ((rs f x).countP (· < 0) : Nat)
def nrt (f : List Int) : Int := if f.length = 2 ∨ f.length = 4 then 1 else if cI f 1 ≠ 0 ∨ 0 < cI f 0 then 0 else 2
inductive Shape : List Int → Prop
  | lin (a b : Int) (h : 0 < b) (h1 : a < 5 * b) (h2 : -5 * b < a) : Shape [a, b]
  | cub : Shape [-2, 0, 0, 1]
  | sq (a b : Int) (h : 0 < a) (h1 : a ≤ b) (h2 : b < 25 * a) : Shape [-b, 0, a]
  | po1 : Shape [1, 0, 1]
  | po2 : Shape [1, 1, 1]
theorem shape_menu {f : List Int} (h : f ∈ menu) : Shape f := by
  simp only [menu, List.mem_cons, List.not_mem_nil, or_false] at h
  rcases h with rfl | rfl | rfl | rfl | rfl | rfl | rfl | rfl | rfl | rfl | rfl | rfl | rfl | rfl | rfl | rfl | rfl | rfl | rfl | rfl | rfl | rfl | rfl | rfl
  all_goals first
    | exact .lin _ _ (by decide) (by decide) (by decide)
    | exact .sq 1 2 (by decide) (by decide) (by decide)
    | exact .sq 1 3 (by decide) (by decide) (by decide)
    | exact .sq 1 7 (by decide) (by decide) (by decide)
    | exact .sq 2 5 (by decide) (by decide) (by decide)
    | exact .cub
    | exact .po1
    | exact .po2
theorem evI2 (a b : Int) (x : Rat) : evI [a, b] x = a + b * x := by
  rw [evI_cons, evI_cons, evI_nil]; grind
theorem evI3 (a b c : Int) (x : Rat) : evI [a, b, c] x = a + b * x + c * (x * x) := by
  rw [evI_cons, evI_cons, evI_cons, evI_nil]; grind
theorem evI4 (a b c d : Int) (x : Rat) : evI [a, b, c, d] x = a + b * x + c * (x * x) + d * (x * x * x) := by
  rw [evI_cons, evI_cons, evI_cons, evI_cons, evI_nil]; grind
theorem der2 (a b : Int) (x : Rat) : evI (derI [a, b]) x = b := by
  rw [evI_der]; simp only [toQ, dev, List.map_cons, List.map_nil, ev_cons, ev_nil]; grind
theorem der3 (a b c : Int) (x : Rat) : evI (derI [a, b, c]) x = b + 2 * c * x := by
  rw [evI_der]; simp only [toQ, dev, List.map_cons, List.map_nil, ev_cons, ev_nil]; grind
theorem der4 (a b c d : Int) (x : Rat) : evI (derI [a, b, c, d]) x = b + 2 * c * x + 3 * d * (x * x) := by
  rw [evI_der]; simp only [toQ, dev, List.map_cons, List.map_nil, ev_cons, ev_nil]; grind
theorem sg_neg' (x : Rat) : sg (-x) = - sg x := by
  unfold sg; grind
theorem sg_mul (x y : Rat) : sg (x * y) = sg x * sg y := by
  by_cases hx : x = 0
  · subst hx; rw [Rat.zero_mul, sg_zero]; omega
  by_cases hy : y = 0
  · subst hy; rw [Rat.mul_zero, sg_zero]; omega
  by_cases px : 0 < x <;> by_cases py : 0 < y
  · rw [sg_pos px, sg_pos py, sg_pos (mul_pos' px py)]; rfl
  · have n : y < 0 := by grind
    have := mul_pos' px (show 0 < -y by grind)
    rw [sg_pos px, sg_neg n, sg_neg (by grind)]; rfl
  · have n : x < 0 := by grind
    have := mul_pos' (show 0 < -x by grind) py
    rw [sg_neg n, sg_pos py, sg_neg (by grind)]; rfl
  · have n : x < 0 := by grind
    have m : y < 0 := by grind
    have := mul_pos' (show 0 < -x by grind) (show 0 < -y by grind)
    rw [sg_neg n, sg_neg m, sg_pos (by grind)]; rfl
theorem sg_eq_zero {x : Rat} : sg x = 0 ↔ x = 0 := by unfold sg; grind
theorem sg_eq_one {x : Rat} : sg x = 1 ↔ 0 < x := by unfold sg; grind
theorem sg_eq_neg {x : Rat} : sg x = -1 ↔ x < 0 := by unfold sg; grind
theorem sg_le {x : Rat} : sg x ≤ 0 ↔ x ≤ 0 := by unfold sg; grind
theorem sg_lt {x : Rat} : sg x < 0 ↔ x < 0 := by unfold sg; grind
/-- by counting -/
theorem cnt1 (p : Int → Bool) (a : Int) : (([a].countP p : Nat) : Int) = if p a then 1 else 0 := by
  simp [List.countP_cons]; split <;> rfl
theorem cnt2 (p : Int → Bool) (a b : Int) : (([a, b].countP p : Nat) : Int) = (if p a then 1 else 0) + if p b then 1 else 0 := by
  simp [List.countP_cons]; split <;> split <;> rfl
theorem rs_two (f : List Int) (h : f.length = 2 ∨ f.length = 4) (x : Rat) : rs f x = [sg (-(evI f x))] := if_pos h
theorem rs_sq {a b : Int} (ha : 0 < a) (hb : 0 < b) (x : Rat) : rs [-b, 0, a] x = if 0 < x then [-1, sg (-(evI [-b, 0, a] x))] else if x < 0 then [-(sg (-(evI [-b, 0, a] x))), 1] else [-1, 1] := by
  unfold rs
  rw [if_neg (by simp), if_neg (by simp [cI]; omega)]
theorem rs_po1 (x : Rat) : rs [1, 0, 1] x = [] := by unfold rs; rw [if_neg (by simp), if_pos (by simp [cI])]
theorem rs_po2 (x : Rat) : rs [1, 1, 1] x = [] := by unfold rs; rw [if_neg (by simp), if_pos (by simp [cI])]
theorem sqr_nonneg (x : Rat) : 0 ≤ x * x := by
  rcases Rat.le_total (a := 0) (b := x) with h | h
  · exact Rat.mul_nonneg h h
  · have := Rat.mul_nonneg (show 0 ≤ -x by grind) (show 0 ≤ -x by grind); grind
theorem po1_pos (x : Rat) : 0 < evI [1, 0, 1] x := by rw [evI3]; have := sqr_nonneg x; push_cast; grind
theorem po2_pos (x : Rat) : 0 < evI [1, 1, 1] x := by rw [evI3]; have := sqr_nonneg (x + 1 / 2); push_cast; grind
/-- the sign of a factor from its roots -/
def prodS : List Int → Int
  | [] => 1
  | r :: t => (-r) * prodS t
theorem sq_zero {a b : Int} (hb : 0 < b) : sg (evI [-b, 0, a] 0) = -1 := by
  rw [evI3, sg_eq_neg]
  have : (0 : Rat) < b := by exact_mod_cast hb
  push_cast; grind
theorem sg_fac {f : List Int} (h : Shape f) (x : Rat) : sg (evI f x) = prodS (rs f x) := by
  cases h with
  | lin a b => rw [rs_two _ (.inl rfl), sg_neg']; simp [prodS]
  | cub => rw [rs_two _ (.inr rfl), sg_neg']; simp [prodS]
  | sq a b ha hab =>
    rw [rs_sq ha (by omega)]
    by_cases h1 : 0 < x
    · rw [if_pos h1, sg_neg']; simp [prodS]
    · rw [if_neg h1]
      by_cases h2 : x < 0
      · rw [if_pos h2, sg_neg']; simp [prodS]
      · have : x = 0 := by grind
        subst this
        rw [if_neg h2, sq_zero (by omega)]; rfl
  | po1 => rw [rs_po1, sg_pos (po1_pos x)]; rfl
  | po2 => rw [rs_po2, sg_pos (po2_pos x)]; rfl
theorem nle1 {f : List Int} (h : f.length = 2 ∨ f.length = 4) (x : Rat) : nle f x = if 0 ≤ evI f x then 1 else 0 := by
  unfold nle
  rw [rs_two f h, cnt1]
  congr 1
  simp only [decide_eq_true_eq, sg_le]
  refine propext ⟨fun z => by grind, fun z => by grind⟩
theorem nle_sq {a b : Int} (ha : 0 < a) (hb : 0 < b) (x : Rat) : nle [-b, 0, a] x = if 0 < x then 1 + (if 0 ≤ evI [-b, 0, a] x then 1 else 0) else if x < 0 then (if evI [-b, 0, a] x ≤ 0 then 1 else 0) else 1 := by
  unfold nle
  rw [rs_sq ha hb]
  have e1 : ∀ y : Rat, (sg (-y) ≤ 0) = (0 ≤ y) := fun y => propext (by rw [sg_le]; constructor <;> intro z <;> grind)
  have e2 : ∀ y : Rat, (-(sg (-y)) ≤ 0) = (y ≤ 0) := fun y => propext (by rw [sg_neg', Int.neg_neg, sg_le])
  by_cases h1 : 0 < x
  · rw [if_pos h1, if_pos h1, cnt2]; simp only [decide_eq_true_eq, e1]; rfl
  · rw [if_neg h1, if_neg h1]
    by_cases h2 : x < 0
    · rw [if_pos h2, if_pos h2, cnt2]; simp only [decide_eq_true_eq, e2]; simp
    · rw [if_neg h2, if_neg h2]; rfl
theorem nle_po1 (x : Rat) : nle [1, 0, 1] x = 0 := by unfold nle; rw [rs_po1]; rfl
theorem nle_po2 (x : Rat) : nle [1, 1, 1] x = 0 := by unfold nle; rw [rs_po2]; rfl
theorem ss_iff {p q : Rat} (h : 0 < p * q) : (0 < p ∧ 0 < q) ∨ (p < 0 ∧ q < 0) := by
  have := ss_sg (f := fun x => if x = 0 then p else q) (u := 0) (v := 1) (by simpa using h)
  simp only [if_true] at this
  rw [if_neg (by decide +kernel)] at this
  obtain ⟨e, n1, n2⟩ := this
  rcases sg_vals p with a | a | a
  · left; exact ⟨sg_eq_one.mp a, sg_eq_one.mp (by rw [← e]; exact a)⟩
  · right; exact ⟨sg_eq_neg.mp a, sg_eq_neg.mp (by rw [← e]; exact a)⟩
  · exact absurd a n1
/-- f2 -/
theorem nle_same {f : List Int} (h : Shape f) {u v : Rat} (huv : u ≤ v) (h1 : v - u ≤ 1) (s : SS (evI f) u v) : nle f u = nle f v := by
  have s' := ss_iff s
  cases h with
  | lin a b => rw [nle1 (.inl rfl), nle1 (.inl rfl)]; grind
  | cub => rw [nle1 (.inr rfl), nle1 (.inr rfl)]; grind
  | sq a b ha hab =>
    have qa : (0 : Rat) < a := by exact_mod_cast ha
    have qab : (a : Rat) ≤ b := by exact_mod_cast hab
    rw [nle_sq ha (by omega), nle_sq ha (by omega)]
    simp only [evI3] at s' ⊢
    push_cast at s' ⊢
    by_cases c1 : 0 < u
    · grind
    by_cases c2 : v < 0
    · grind
    rcases s' with ⟨p, q⟩ | ⟨p, q⟩
    · exfalso
      have u1 : u < -1 := by
        apply Decidable.byContradiction
        intro z
        have := bmul (x := u) (y := u) (A := 1) (B := 1) (by grind) (by grind) (by grind) (by grind)
        have := mul_le_l (show u * u ≤ 1 by grind) (show (0 : Rat) ≤ a by grind)
        grind
      have v1 : 1 < v := by
        apply Decidable.byContradiction
        intro z
        have := bmul (x := v) (y := v) (A := 1) (B := 1) (by grind) (by grind) (by grind) (by grind)
        have := mul_le_l (show v * v ≤ 1 by grind) (show (0 : Rat) ≤ a by grind)
        grind
      grind
    · grind
  | po1 => rw [nle_po1, nle_po1]
  | po2 => rw [nle_po2, nle_po2]
/-- f3 -/
theorem nle_step {f : List Int} (h : Shape f) {u v : Rat} (huv : u ≤ v) (s : SS (evI (derI f)) u v) :
    nle f u + (if evI f u * evI (derI f) u < 0 then 1 else 0) = nle f v + (if evI f v * evI (derI f) v < 0 then 1 else 0) := by
  have s' := ss_iff s
  have mulP : ∀ p q : Rat, 0 < q → (p * q < 0 ↔ p < 0) := fun p q hq => by
    rw [← sg_eq_neg, sg_mul, sg_pos hq, Int.mul_one, sg_eq_neg]
  have mulN : ∀ p q : Rat, q < 0 → (p * q < 0 ↔ 0 < p) := fun p q hq => by
    rw [← sg_eq_neg, sg_mul, sg_neg hq, ← sg_eq_one]; omega
  cases h with
  | lin a b hb =>
    have qb : (0 : Rat) < b := by exact_mod_cast hb
    rw [nle1 (.inl rfl), nle1 (.inl rfl)]
    simp only [der2, mulP _ _ qb]
    grind
  | cub =>
    rw [nle1 (.inr rfl), nle1 (.inr rfl)]
    have pu : ¬ evI (derI [-2, 0, 0, 1]) u < 0 := by rw [der4]; have := sqr_nonneg u; push_cast; grind
    obtain ⟨a, b⟩ := s'.resolve_right fun z => pu z.1
    simp only [mulP _ _ a, mulP _ _ b]
    grind
  | sq a b ha hab =>
    have qa : (0 : Rat) < a := by exact_mod_cast ha
    rw [nle_sq ha (by omega), nle_sq ha (by omega)]
    have d : ∀ x : Rat, evI (derI [-b, 0, a]) x = 2 * a * x := fun x => by rw [der3]; push_cast; grind
    have q2 : (0 : Rat) < 2 * a := by grind
    have dp : ∀ x : Rat, 0 < evI (derI [-b, 0, a]) x ↔ 0 < x := fun x => by rw [d, ← sg_eq_one, sg_mul, sg_pos q2, Int.one_mul, sg_eq_one]
    have dn : ∀ x : Rat, evI (derI [-b, 0, a]) x < 0 ↔ x < 0 := fun x => by rw [d, ← sg_eq_neg, sg_mul, sg_pos q2, Int.one_mul, sg_eq_neg]
    rcases s' with ⟨p, q⟩ | ⟨p, q⟩
    · simp only [mulP _ _ p, mulP _ _ q]
      have a1 := (dp u).mp p
      have a2 := (dp v).mp q
      rw [if_pos a1, if_pos a2]
      grind
    · simp only [mulN _ _ p, mulN _ _ q]
      have a1 := (dn u).mp p
      have a2 := (dn v).mp q
      rw [if_neg (show ¬ 0 < u by grind), if_neg (show ¬ 0 < v by grind), if_pos a1, if_pos a2]
      grind
  | po1 =>
    rw [nle_po1, nle_po1]
    have p1 := po1_pos u
    have p2 := po1_pos v
    rcases s' with ⟨p, q⟩ | ⟨p, q⟩
    · rw [if_neg (by have := mul_pos' p1 p; grind), if_neg (by have := mul_pos' p2 q; grind)]
    · rw [if_pos ((mulN _ _ p).mpr p1), if_pos ((mulN _ _ q).mpr p2)]
  | po2 =>
    rw [nle_po2, nle_po2]
    have p1 := po2_pos u
    have p2 := po2_pos v
    rcases s' with ⟨p, q⟩ | ⟨p, q⟩
    · rw [if_neg (by have := mul_pos' p1 p; grind), if_neg (by have := mul_pos' p2 q; grind)]
    · rw [if_pos ((mulN _ _ p).mpr p1), if_pos ((mulN _ _ q).mpr p2)]
/-- f5 -/
theorem nle_left {f : List Int} (h : Shape f) {x : Rat} (hx : x ≤ -5) : nle f x = 0 := by
  have x2 : 25 ≤ x * x := by
    have := Rat.mul_nonneg (show 0 ≤ -5 - x by grind) (show 0 ≤ 5 - x by grind)
    grind
  cases h with
  | lin a b hb h1 h2 =>
    have qb : (0 : Rat) < b := by exact_mod_cast hb
    have q1 : (a : Rat) < 5 * b := by exact_mod_cast h1
    have := mul_le_l hx (show (0 : Rat) ≤ b by grind)
    rw [nle1 (.inl rfl), if_neg (by rw [evI2]; grind)]
  | cub =>
    have := Rat.mul_nonneg (show 0 ≤ x * x - 25 by grind) (show 0 ≤ -x by grind)
    rw [nle1 (.inr rfl), if_neg (by rw [evI4]; push_cast; grind)]
  | sq a b ha hab h2 =>
    have qa : (0 : Rat) < a := by exact_mod_cast ha
    have q1 : (b : Rat) < 25 * a := by exact_mod_cast h2
    have := mul_le_l x2 (show (0 : Rat) ≤ a by grind)
    rw [nle_sq ha (by omega), if_neg (by grind), if_pos (by grind), if_neg (by rw [evI3]; push_cast; grind)]
  | po1 => exact nle_po1 x
  | po2 => exact nle_po2 x
theorem nle_right {f : List Int} (h : Shape f) {x : Rat} (hx : 5 ≤ x) : nle f x = nrt f := by
  have x2 : 25 ≤ x * x := by
    have := Rat.mul_nonneg (show 0 ≤ x - 5 by grind) (show 0 ≤ x + 5 by grind)
    grind
  cases h with
  | lin a b hb h1 h2 =>
    have qb : (0 : Rat) < b := by exact_mod_cast hb
    have q1 : ((-5 * b : Int) : Rat) < ((a : Int) : Rat) := Rat.intCast_lt_intCast.mpr h2
    push_cast at q1
    have := mul_le_l hx (show (0 : Rat) ≤ b by grind)
    rw [nle1 (.inl rfl), if_pos (by rw [evI2]; grind)]; rfl
  | cub =>
    have := Rat.mul_nonneg (show 0 ≤ x * x - 25 by grind) (show 0 ≤ x by grind)
    rw [nle1 (.inr rfl), if_pos (by rw [evI4]; push_cast; grind)]; rfl
  | sq a b ha hab h2 =>
    have qa : (0 : Rat) < a := by exact_mod_cast ha
    have q1 : (b : Rat) < 25 * a := by exact_mod_cast h2
    have := mul_le_l x2 (show (0 : Rat) ≤ a by grind)
    rw [nle_sq ha (by omega), if_pos (by grind), if_pos (by rw [evI3]; push_cast; grind)]
    unfold nrt
    rw [if_neg (by simp), if_neg (by simp [cI]; omega)]; rfl
  | po1 => rw [nle_po1]; rfl
  | po2 => rw [nle_po2]; rfl
end K23
/-! coprime factors; products; Sturm's theorem -/
namespace K23
def euc : Nat → List Int → List Int → Bool
  | 0, _, _ => false
  | n + 1, a, b => if b = [] then false else if b.length = 1 then decide (cI b 0 ≠ 0) else euc n b (frI a b)
theorem euc_cop : ∀ (n : Nat) (a b : List Int), TrI a → TrI b → euc n a b = true → Cop (evI a) (evI b)
  | n + 1, a, b, ha, hb, h => by
    unfold euc at h
    by_cases hn : b = []
    · rw [if_pos hn] at h; cases h
    rw [if_neg hn] at h
    by_cases h1 : b.length = 1
    · rw [if_pos h1] at h
      have h0 := of_decide_eq_true h
      obtain ⟨c, rfl⟩ := List.length_eq_one_iff.mp h1
      refine (Cop.const_r (evI a) (c := (c : Rat)) (by exact_mod_cast h0)).congr (fun _ => rfl) fun x => ?_
      rw [evI_cons, evI_nil]; grind
    · rw [if_neg h1] at h
      obtain ⟨t1, _, _, q, c, pq, hc, e, _⟩ := frI_spec ha hb hn
      obtain ⟨u, v, pu, pv, e2⟩ := euc_cop n b (frI a b) hb t1 h
      refine ⟨fun x => c * v x, fun x => u x - v x * q x, pv.smul _, pu.sub (pv.mul pq), fun x => ?_⟩
      have e1 := e x
      have e3 := e2 x
      have e4 : evI (frI a b) x = c * evI a x - q x * evI b x := by grind
      rw [e4] at e3
      grind
def trB (a : List Int) : Bool := decide (a = []) || decide (cI a (a.length - 1) ≠ 0)
theorem trB_ok {a : List Int} (h : trB a = true) : TrI a := by
  unfold trB at h
  rcases Bool.or_eq_true_iff.mp h with z | z
  · exact .inl (of_decide_eq_true z)
  · exact .inr (of_decide_eq_true z)
theorem menu_tr : (menu.all fun f => trB f && decide (f ≠ [])) = true := by decide +kernel
theorem menu_pairs : (menu.all fun f => menu.all fun g => decide (f = g) || euc 6 f g) = true := by decide +kernel
theorem menu_der : (menu.all fun f => euc 6 f (derI f)) = true := by decide +kernel
theorem tr_menu {f : List Int} (h : f ∈ menu) : TrI f ∧ f ≠ [] := by
  have := List.all_eq_true.mp menu_tr f h
  obtain ⟨a, b⟩ := Bool.and_eq_true_iff.mp this
  exact ⟨trB_ok a, of_decide_eq_true b⟩
theorem cop_menu {f g : List Int} (hf : f ∈ menu) (hg : g ∈ menu) (h : f ≠ g) : Cop (evI f) (evI g) := by
  have := List.all_eq_true.mp (List.all_eq_true.mp menu_pairs f hf) g hg
  rcases Bool.or_eq_true_iff.mp this with z | z
  · exact absurd (of_decide_eq_true z) h
  · exact euc_cop _ _ _ (tr_menu hf).1 (tr_menu hg).1 z
theorem cop_der {f : List Int} (hf : f ∈ menu) : Cop (evI f) (evI (derI f)) :=
  euc_cop _ _ _ (tr_menu hf).1 (der_tr (tr_menu hf).1) (List.all_eq_true.mp menu_der f hf)

/-! products -/
def prodE : List (List Int) → Rat → Rat
  | [], _ => 1
  | f :: F, x => evI f x * prodE F x
def xs (e : List Int → Rat) : List (List Int) → Rat → Rat
  | [], _ => 0
  | f :: F, x => e f * (evI (derI f) x * prodE F x) + evI f x * xs e F x
theorem Pol.prodE : ∀ F, Pol (prodE F)
  | [] => .const 1
  | f :: F => (Pol.evI f).mul (Pol.prodE F)
theorem Pol.xs (e : List Int → Rat) : ∀ F, Pol (xs e F)
  | [] => .const 0
  | f :: F => (((Pol.evI (derI f)).mul (Pol.prodE F)).smul (e f)).add ((Pol.evI f).mul (Pol.xs e F))
theorem nz_prodE : ∀ {F : List (List Int)}, (∀ f ∈ F, f ∈ menu) → NZ (prodE F)
  | [], _ => ⟨0, by show (1 : Rat) ≠ 0; decide⟩
  | f :: F, h => NZ.mul (.evI f) (.prodE F) ((tr_menu (h f List.mem_cons_self)).1.nz (tr_menu (h f List.mem_cons_self)).2) (nz_prodE fun g hg => h g (List.mem_cons_of_mem _ hg))
theorem cop_prod {f : List Int} (hf : f ∈ menu) : ∀ {F : List (List Int)}, (∀ g ∈ F, g ∈ menu) → f ∉ F → Cop (evI f) (prodE F)
  | [], _, _ => .one_r _
  | g :: F, h, hn => Cop.mul_r (.evI f) (.evI g) (.prodE F) (cop_menu hf (h g List.mem_cons_self) fun e => hn (e ▸ List.mem_cons_self)) (cop_prod hf (fun k hk => h k (List.mem_cons_of_mem _ hk)) fun z => hn (List.mem_cons_of_mem _ z))
theorem cop_prods : ∀ {F G : List (List Int)}, (∀ g ∈ F, g ∈ menu) → (∀ g ∈ G, g ∈ menu) → (∀ f ∈ F, f ∉ G) → Cop (prodE F) (prodE G)
  | [], G, _, _, _ => (Cop.one_r _).symm
  | f :: F, G, h, k, d => Cop.mul_l (.evI f) (.prodE F) (.prodE G) (cop_prod (h f List.mem_cons_self) k (d f List.mem_cons_self)) (cop_prods (fun g hg => h g (List.mem_cons_of_mem _ hg)) k fun g hg => d g (List.mem_cons_of_mem _ hg))
/-- the product and its (weighted) derivative have nothing in common -/
theorem cop_xs (e : List Int → Rat) : ∀ {F : List (List Int)}, (∀ f ∈ F, f ∈ menu) → F.Nodup → (∀ f ∈ F, e f ≠ 0) → Cop (prodE F) (xs e F)
  | [], _, _, _ => (Cop.one_r _).symm
  | f :: F, h, nd, he => by
    have hm := h f List.mem_cons_self
    have hF : ∀ g ∈ F, g ∈ menu := fun g hg => h g (List.mem_cons_of_mem _ hg)
    obtain ⟨n1, n2⟩ := List.nodup_cons.mp nd
    have cf := cop_prod hm hF n1
    refine Cop.mul_l (.evI f) (.prodE F) (.xs e (f :: F)) ?_ ?_
    · refine Cop.mod (.xs e F) (Cop.smul_r (he f List.mem_cons_self) (Cop.mul_r (.evI f) (.evI _) (.prodE F) (cop_der hm) cf)) fun x => rfl
    · refine Cop.mod (g := fun x => evI f x * xs e F x) (q := fun x => e f * evI (derI f) x) ((Pol.evI _).smul _) (Cop.mul_r (.prodE F) (.evI f) (.xs e F) cf.symm (cop_xs e hF n2 fun g hg => he g (List.mem_cons_of_mem _ hg))) fun x => ?_
      show e f * (evI (derI f) x * prodE F x) + evI f x * xs e F x = _
      grind
theorem prodE_erase {F : List (List Int)} {f : List Int} (h : f ∈ F) (x : Rat) : prodE F x = evI f x * prodE (F.erase f) x := by
  induction F with
  | nil => cases h
  | cons g F ih =>
    by_cases e : g = f
    · subst e; rw [List.erase_cons_head]; rfl
    · rw [List.erase_cons_tail (by simpa using e)]
      rcases List.mem_cons.mp h with z | z
      · exact absurd z.symm e
      · show evI g x * prodE F x = evI f x * (evI g x * prodE (F.erase f) x)
        rw [ih z]; grind
theorem xs_erase (e : List Int → Rat) {F : List (List Int)} {f : List Int} (h : f ∈ F) (x : Rat) : xs e F x = e f * (evI (derI f) x * prodE (F.erase f) x) + evI f x * xs e (F.erase f) x := by
  induction F with
  | nil => cases h
  | cons g F ih =>
    by_cases q : g = f
    · subst q; rw [List.erase_cons_head]; rfl
    · rw [List.erase_cons_tail (by simpa using q)]
      rcases List.mem_cons.mp h with z | z
      · exact absurd z.symm q
      · show e g * (evI (derI g) x * prodE F x) + evI g x * xs e F x = e f * (evI (derI f) x * (evI g x * prodE (F.erase f) x)) + evI f x * (e g * (evI (derI g) x * prodE (F.erase f) x) + evI g x * xs e (F.erase f) x)
        rw [ih z, prodE_erase z]; grind
/-- as lists, for derivatives -/
def prodL : List (List Int) → List Rat
  | [] => [1]
  | f :: F => mulL (toQ f) (prodL F)
theorem ev_prodL : ∀ (F : List (List Int)) (x : Rat), ev (prodL F) x = prodE F x
  | [], x => by simp [prodL, prodE]; grind
  | f :: F, x => by rw [prodL, ev_mulL, ev_prodL F x]; rfl
theorem dev_prodL : ∀ (F : List (List Int)) (x : Rat), dev (prodL F) x = xs (fun _ => 1) F x
  | [], x => by simp [prodL, dev, xs]; grind
  | f :: F, x => by
    rw [prodL, dev_mulL, dev_prodL F x, ev_prodL]
    show _ = 1 * (evI (derI f) x * prodE F x) + evI f x * xs (fun _ => 1) F x
    rw [evI_der]
    unfold evI
    grind
/-- roots of all factors that are at most x -/
def NF (F : List (List Int)) (x : Rat) : Int := (F.map fun f => nle f x).sum
theorem NF_cons (f : List Int) (F : List (List Int)) (x : Rat) : NF (f :: F) x = nle f x + NF F x := rfl
theorem NF_erase {F : List (List Int)} {f : List Int} (h : f ∈ F) (x : Rat) : NF F x = nle f x + NF (F.erase f) x := by
  induction F with
  | nil => cases h
  | cons g F ih =>
    by_cases q : g = f
    · subst q; rw [List.erase_cons_head]; rfl
    · rw [List.erase_cons_tail (by simpa using q)]
      rcases List.mem_cons.mp h with z | z
      · exact absurd z.symm q
      · rw [NF_cons, NF_cons, ih z]; omega
theorem NF_same {u v : Rat} (huv : u ≤ v) (h1 : v - u ≤ 1) : ∀ {F : List (List Int)}, (∀ f ∈ F, f ∈ menu) → (∀ f ∈ F, SS (evI f) u v) → NF F u = NF F v
  | [], _, _ => rfl
  | f :: F, h, s => by
    rw [NF_cons, NF_cons, nle_same (shape_menu (h f List.mem_cons_self)) huv h1 (s f List.mem_cons_self), NF_same huv h1 (fun g hg => h g (List.mem_cons_of_mem _ hg)) fun g hg => s g (List.mem_cons_of_mem _ hg)]
theorem ss_mul {f g : Rat → Rat} {u v : Rat} (h : SS f u v) (k : SS g u v) : SS (fun x => f x * g x) u v := by
  have := mul_pos' (show 0 < f u * f v from h) (show 0 < g u * g v from k)
  show 0 < f u * g u * (f v * g v)
  grind
theorem ss_prod {u v : Rat} : ∀ {F : List (List Int)}, (∀ f ∈ F, SS (evI f) u v) → SS (prodE F) u v
  | [], _ => by show (0 : Rat) < 1 * 1; decide +kernel
  | f :: F, h => ss_mul (h f List.mem_cons_self) (ss_prod fun g hg => h g (List.mem_cons_of_mem _ hg))

/-- what is known of the first two of a chain -/
structure Head (F : List (List Int)) (s0 s1 : List Int) : Prop where
  mem : ∀ f ∈ F, f ∈ menu
  nd : F.Nodup
  h0 : ∃ c, c ≠ 0 ∧ ∀ x, evI s0 x = c * prodE F x
  h1 : ∃ g, 0 < g ∧ ∀ x, evI s1 x = g * dev (toQ s0) x
theorem Head.cop {F : List (List Int)} {s0 s1 : List Int} (h : Head F s0 s1) : ∃ c g, c ≠ 0 ∧ 0 < g ∧ (∀ x, evI s0 x = c * prodE F x) ∧ (∀ x, evI s1 x = g * (c * xs (fun _ => 1) F x)) ∧ Cop (evI s0) (evI s1) := by
  obtain ⟨c, hc, e0⟩ := h.h0
  obtain ⟨g, hg, e1⟩ := h.h1
  have d : ∀ x, dev (toQ s0) x = c * xs (fun _ => 1) F x := fun x => by
    rw [dev_congr (m := smulL c (prodL F)) (fun x => by rw [ev_smulL, ev_prodL]; exact e0 x), dev_smulL, dev_prodL]
  refine ⟨c, g, hc, hg, e0, fun x => by rw [e1, d], ?_⟩
  have hgc : g * c ≠ 0 := mul_ne (fun z => by rw [z] at hg; exact absurd hg (by decide)) hc
  refine (Cop.smul_l hc (Cop.smul_r hgc (cop_xs (fun _ => 1) h.mem h.nd fun _ _ => by decide))).congr e0 fun x => ?_
  rw [e1, d]; grind
theorem vr_head {x : Rat} {s0 s1 : List Int} (t : List (List Int)) (h : sg (evI s1 x) ≠ 0) : vr x (s0 :: s1 :: t) = (if sg (evI s0 x) * sg (evI s1 x) = -1 then 1 else 0) + vr x (s1 :: t) := by
  unfold vr
  rw [sgs_cons, sgs_cons]
  by_cases h0 : sg (evI s0 x) = 0
  · rw [h0, chg_zero, if_neg (by omega)]; omega
  · rw [chg_two h0 h]
    congr 1
    rcases sg_vals (evI s0 x) with a | a | a <;> rcases sg_vals (evI s1 x) with b | b | b <;> first | (exact absurd a h0) | (exact absurd b h) | (rw [a, b]; decide)
theorem sturm_local {F : List (List Int)} {s0 s1 : List Int} {t : List (List Int)} (H : Head F s0 s1) (hp : Pre (s0 :: s1 :: t)) (hf : Fin (s0 :: s1 :: t)) (M : Rat) (hM : 0 ≤ M) :
    Ev M fun u v => vr u (s0 :: s1 :: t) + NF F u = vr v (s0 :: s1 :: t) + NF F v := by
  obtain ⟨c, g, hc, hg, e0, e1, cop⟩ := H.cop
  have E1 := ev_loc M hM s0 s1 t hp hf cop
  have E0 := mesh1 (.evI s0) (.evI s1) cop M hM
  have E2 : Ev M fun u v => ∀ f ∈ F, SS (evI f) u v ∨ (SS (fun x => c * (evI (derI f) x * prodE (F.erase f) x)) u v ∧ SS (fun x => -(evI s1 x)) u v ∧ (c * (evI (derI f) u * prodE (F.erase f) u)) * -(evI s1 u) < 0) := by
    refine Ev.all F fun f hF => ?_
    have hm := H.mem f hF
    have nn : f ∉ F.erase f := fun z => absurd (H.nd.mem_erase_iff.mp z).1 (fun q => q rfl)
    have cg : Cop (evI f) (fun x => c * (evI (derI f) x * prodE (F.erase f) x)) := Cop.smul_r hc (Cop.mul_r (.evI f) (.evI _) (.prodE _) (cop_der hm) (cop_prod hm (fun k hk => H.mem k (List.mem_of_mem_erase hk)) nn))
    refine mesh (q := fun x => -(g * c) * xs (fun _ => 1) (F.erase f) x) (α := g) (β := 1) (.evI f) (((Pol.evI _).mul (.prodE _)).smul c) (Pol.evI s1).neg ((Pol.xs _ _).smul _) hg (by decide) cg.symm (fun x => ?_) M hM
    rw [e1, xs_erase _ hF]
    grind
  have E3 : Ev M fun u v => ∀ f ∈ F, SS (evI f) u v ∨ SS (evI (derI f)) u v := Ev.all F fun f hF => mesh1 (.evI f) (.evI _) (cop_der (H.mem f hF)) M hM
  have E4 : Ev M fun u v => ∀ f ∈ F, ∀ k ∈ F, f ≠ k → (SS (evI f) u v ∨ SS (evI k) u v) := Ev.all F fun f hF => Ev.all F fun k hk => by
    by_cases e : f = k
    · exact .true fun u v z => absurd e z
    · exact (mesh1 (.evI f) (.evI k) (cop_menu (H.mem f hF) (H.mem k hk) e) M hM).mono fun u v _ h _ => h
  refine (((E0.and E1).and (E2.and (E3.and E4))).and Ev.small).mono fun u v huv hh => ?_
  obtain ⟨⟨⟨i0, i1⟩, i2, i3, i4⟩, i5⟩ := hh
  by_cases all : ∀ f ∈ F, SS (evI f) u v
  · have ss0 : SS (evI s0) u v := by
      have := ss_prod all
      have cc : 0 < c * c := by
        have := sqr_nonneg c
        have := mul_ne hc hc
        grind
      have := mul_pos' cc (show 0 < prodE F u * prodE F v from this)
      show 0 < evI s0 u * evI s0 v
      rw [e0, e0]; grind
    rw [NF_same huv i5 H.mem all, vr_loc _ s0 (s1 :: t) (Nat.le_refl _) i1 ss0]
  · obtain ⟨f, hf'⟩ := Classical.not_forall.mp all
    obtain ⟨hF, hn⟩ := Classical.not_imp.mp hf'
    obtain ⟨j1, j2, j3⟩ := (i2 f hF).resolve_left hn
    have ss1 : SS (evI s1) u v := by
      have : 0 < -(evI s1 u) * -(evI s1 v) := j2
      show 0 < evI s1 u * evI s1 v
      grind
    obtain ⟨s1a, s1b, s1c⟩ := ss_sg ss1
    have loc1 : Loc u v (s1 :: t) := by
      cases t with
      | nil => trivial
      | cons d t => exact i1.2
    have ssd := (i3 f hF).resolve_left hn
    rw [vr_head t s1b, vr_head t s1c, vr_loc _ s1 t (Nat.le_refl _) loc1 ss1, NF_erase hF, NF_erase hF]
    have rest : NF (F.erase f) u = NF (F.erase f) v := NF_same huv i5 (fun k hk => H.mem k (List.mem_of_mem_erase hk)) fun k hk => by
      have := H.nd.mem_erase_iff.mp hk
      exact (i4 f hF k this.2 (Ne.symm this.1)).resolve_left hn
    -- the sign of s1 is that of c f' R
    obtain ⟨ga, gb, gc⟩ := ss_sg j1
    obtain ⟨o1, o2⟩ := mul_neg_sg j3
    rw [sg_neg', Int.neg_neg] at o1
    have key : ∀ x, sg (c * (evI (derI f) x * prodE (F.erase f) x)) = sg (evI s1 x) → sg (evI s1 x) ≠ 0 → ((sg (evI s0 x) * sg (evI s1 x) = -1) ↔ evI f x * evI (derI f) x < 0) := fun x q nz => by
      rw [← q] at nz
      rw [← q, e0, prodE_erase hF, ← sg_eq_neg]
      simp only [sg_mul] at nz ⊢
      rcases sg_vals c with a | a | a <;> rcases sg_vals (evI f x) with b | b | b <;> rcases sg_vals (evI (derI f) x) with d | d | d <;> rcases sg_vals (prodE (F.erase f) x) with r | r | r <;> rw [a, d, r] at nz <;> rw [a, b, d, r] <;> first | decide | (exact absurd rfl nz)
    have ku := key u o1 s1b
    have kv := key v (by rw [← s1a, ← o1]; exact ga.symm) s1c
    have st := nle_step (shape_menu (H.mem f hF)) huv ssd
    simp only [ku, kv]
    omega
/-- Sturm: variations and roots at most x add up to the same number everywhere -/
theorem sturm {F : List (List Int)} {s0 s1 : List Int} {t : List (List Int)} (H : Head F s0 s1) (hp : Pre (s0 :: s1 :: t)) (hf : Fin (s0 :: s1 :: t)) (x y : Rat) :
    vr x (s0 :: s1 :: t) + NF F x = vr y (s0 :: s1 :: t) + NF F y :=
  telescope (φ := fun x => vr x (s0 :: s1 :: t) + NF F x) (fun M hM => sturm_local H hp hf M hM) x y
end K23
/-! far left, far right; what a chain counts -/
namespace K23
def sI (n : Int) : Int := (if n > 0 then 1 else 0) - (if n < 0 then 1 else 0)
theorem sI_sg (n : Int) : sI n = sg (n : Rat) := by
  unfold sI
  rcases Int.lt_trichotomy n 0 with h | h | h
  · rw [sg_neg (by exact_mod_cast h), if_neg (by omega), if_pos h]; rfl
  · subst h; rw [show ((0 : Int) : Rat) = 0 from rfl, sg_zero]; rfl
  · rw [sg_pos (by exact_mod_cast h), if_pos h, if_neg (by omega)]; rfl
theorem sg_num (x : Rat) : sg x = sI x.num := by
  unfold sg sI
  by_cases h : 0 < x
  · have : 0 < x.num := by
      have a : 0 ≤ x.num := Rat.num_nonneg.mpr (by grind)
      have b : x.num ≠ 0 := fun z => by rw [Rat.num_eq_zero.mp z] at h; exact absurd h (by decide)
      omega
    rw [if_pos h, if_pos this, if_neg (by omega)]; rfl
  · rw [if_neg h]
    by_cases h2 : x < 0
    · have : x.num < 0 := by
        have a : ¬ 0 ≤ x.num := fun z => by have := Rat.num_nonneg.mp z; grind
        omega
      rw [if_pos h2, if_neg (by omega), if_pos this]; rfl
    · have : x = 0 := by grind
      subst this; rfl
/-- far right -/
theorem far_right : ∀ {l : List Int}, TrI l → l ≠ [] → ∃ N : Rat, 0 < N ∧ ∃ ρ : Rat, 0 < ρ ∧ ∀ x, N ≤ x → (0 < cI l (l.length - 1) → ρ ≤ evI l x) ∧ (cI l (l.length - 1) < 0 → evI l x ≤ -ρ)
  | [], _, h => absurd rfl h
  | [c], ht, _ => by
    have hc : c ≠ 0 := ht.last (List.cons_ne_nil _ _)
    have q : ∀ x, evI [c] x = c := fun x => by rw [evI_cons, evI_nil]; grind
    refine ⟨1, by decide, ab c, ?_, fun x _ => ?_⟩
    · unfold ab
      rcases Int.lt_or_gt_of_ne hc with h | h
      · have : (c : Rat) < 0 := by exact_mod_cast h
        grind
      · have : (0 : Rat) < c := by exact_mod_cast h
        grind
    · rw [q]
      show (0 < c → _) ∧ (c < 0 → _)
      unfold ab
      refine ⟨fun h => ?_, fun h => ?_⟩
      · have : (0 : Rat) < c := by exact_mod_cast h
        grind
      · have : (c : Rat) < 0 := by exact_mod_cast h
        grind
  | c :: d :: t, ht, _ => by
    have ht' : TrI (d :: t) := .inr (ht.last (List.cons_ne_nil _ _))
    obtain ⟨N, n0, ρ, r0, h⟩ := far_right ht' (List.cons_ne_nil _ _)
    obtain ⟨i, i0, hi⟩ := inv_ex r0
    have hab := @ab_le c
    have hab0 := ab_nonneg c
    have hz : 0 ≤ (ab c + 1) * i := Rat.mul_nonneg (by grind) (by grind)
    refine ⟨N + (ab c + 1) * i, by grind, 1, by decide, fun x hx => ?_⟩
    have x0 : 0 ≤ x := by grind
    obtain ⟨h1, h2⟩ := h x (by grind)
    have hm := mul_le_l (show (ab c + 1) * i ≤ x by grind) (show 0 ≤ ρ by grind)
    have e : ρ * ((ab c + 1) * i) = ab c + 1 := by
      have : ρ * ((ab c + 1) * i) = (ρ * i) * (ab c + 1) := by grind
      rw [this, hi, Rat.one_mul]
    rw [e] at hm
    rw [evI_cons]
    refine ⟨fun z => ?_, fun z => ?_⟩
    · have := mul_le_l (h1 z) x0
      grind
    · have := mul_le_l (h2 z) x0
      grind
def refl : List Int → List Int
  | [] => []
  | c :: t => c :: (refl t).map (-1 * ·)
theorem refl_len : ∀ l, (refl l).length = l.length
  | [] => rfl
  | c :: t => by simp [refl, refl_len t]
theorem evI_map (k : Int) (l : List Int) (x : Rat) : evI (l.map (k * ·)) x = k * evI l x := evI_smul_of (fun i => by rw [cI_map (f := (k * ·)) (by simp)]) x
theorem evI_refl : ∀ (l : List Int) (x : Rat), evI (refl l) x = evI l (-x)
  | [], x => rfl
  | c :: t, x => by rw [refl, evI_cons, evI_cons, evI_map, evI_refl t]; push_cast; grind
theorem refl_last : ∀ {l : List Int}, l ≠ [] → cI (refl l) (l.length - 1) = if l.length % 2 = 0 then -(cI l (l.length - 1)) else cI l (l.length - 1)
  | [], h => absurd rfl h
  | [c], _ => rfl
  | c :: d :: t, _ => by
    have ih := refl_last (l := d :: t) (List.cons_ne_nil _ _)
    show cI (c :: (refl (d :: t)).map (-1 * ·)) ((d :: t).length - 1 + 1) = _
    rw [cI_succ, cI_map (f := (-1 * ·)) (by simp), ih]
    simp only [List.length_cons, Nat.add_sub_cancel]
    have e : cI (c :: d :: t) (t.length + 1) = cI (d :: t) t.length := rfl
    rw [e]
    by_cases h : (t.length + 1) % 2 = 0
    · rw [if_pos h, if_neg (by omega)]; omega
    · rw [if_neg h, if_pos (by omega)]; omega
def far (right : Bool) (a : List Int) : Int := if right = false ∧ a.length % 2 = 0 then -(sI (cI a (a.length - 1))) else sI (cI a (a.length - 1))
theorem far_at {l : List Int} (ht : TrI l) (hn : l ≠ []) : ∃ N : Rat, 0 < N ∧ (∀ x, N ≤ x → sg (evI l x) = far true l) ∧ ∀ x, x ≤ -N → sg (evI l x) = far false l := by
  have key : ∀ {l : List Int}, TrI l → l ≠ [] → ∃ N : Rat, 0 < N ∧ ∀ x, N ≤ x → sg (evI l x) = sI (cI l (l.length - 1)) := fun {l} ht hn => by
    obtain ⟨N, n0, ρ, r0, h⟩ := far_right ht hn
    refine ⟨N, n0, fun x hx => ?_⟩
    obtain ⟨h1, h2⟩ := h x hx
    have nz := ht.last hn
    unfold sI
    rcases Int.lt_or_gt_of_ne nz with q | q
    · rw [sg_neg (by have := h2 q; grind), if_neg (by omega), if_pos q]; rfl
    · rw [sg_pos (by have := h1 q; grind), if_pos q, if_neg (by omega)]; rfl
  obtain ⟨N1, a1, b1⟩ := key ht hn
  have hl := refl_last hn
  have nz := ht.last hn
  have ht2 : TrI (refl l) := .inr (by rw [refl_len, hl]; split <;> omega)
  obtain ⟨N2, a2, b2⟩ := key ht2 (fun z => by have := refl_len l; rw [z] at this; exact hn (List.length_eq_zero_iff.mp this.symm))
  refine ⟨N1 + N2, by grind, fun x hx => ?_, fun x hx => ?_⟩
  · rw [b1 x (by grind)]; unfold far; rw [if_neg (by simp)]
  · have := b2 (-x) (by grind)
    rw [evI_refl, Rat.neg_neg, refl_len, hl] at this
    rw [this]
    unfold far
    by_cases h : l.length % 2 = 0
    · rw [if_pos h, if_pos ⟨rfl, h⟩]
      unfold sI
      rcases Int.lt_or_gt_of_ne nz with q | q
      · rw [if_pos (by omega), if_neg (by omega), if_neg (by omega), if_pos (by omega)]; rfl
      · rw [if_neg (by omega), if_pos (by omega), if_pos (by omega), if_neg (by omega)]; rfl
    · rw [if_neg h, if_neg (by omega)]
def vf (right : Bool) (S : List (List Int)) : Int := chg (S.map (far right))
theorem far_all : ∀ {S : List (List Int)}, (∀ a ∈ S, TrI a ∧ a ≠ []) → ∃ N : Rat, 0 < N ∧ (∀ x, N ≤ x → sgs x S = S.map (far true)) ∧ ∀ x, x ≤ -N → sgs x S = S.map (far false)
  | [], _ => ⟨1, by decide, fun _ _ => rfl, fun _ _ => rfl⟩
  | a :: S, h => by
    obtain ⟨N1, a1, b1, c1⟩ := far_at (h a List.mem_cons_self).1 (h a List.mem_cons_self).2
    obtain ⟨N2, a2, b2, c2⟩ := far_all fun b hb => h b (List.mem_cons_of_mem _ hb)
    refine ⟨N1 + N2, by grind, fun x hx => ?_, fun x hx => ?_⟩
    · rw [sgs_cons, List.map_cons, b1 x (by grind), b2 x (by grind)]
    · rw [sgs_cons, List.map_cons, c1 x (by grind), c2 x (by grind)]
/-- how many real roots the factors have -/
def TF (F : List (List Int)) : Int := (F.map nrt).sum
theorem NF_left : ∀ {F : List (List Int)}, (∀ f ∈ F, f ∈ menu) → ∀ {x : Rat}, x ≤ -5 → NF F x = 0
  | [], _, _, _ => rfl
  | f :: F, h, x, hx => by rw [NF_cons, nle_left (shape_menu (h f List.mem_cons_self)) hx, NF_left (fun g hg => h g (List.mem_cons_of_mem _ hg)) hx]; rfl
theorem NF_right : ∀ {F : List (List Int)}, (∀ f ∈ F, f ∈ menu) → ∀ {x : Rat}, 5 ≤ x → NF F x = TF F
  | [], _, _, _ => rfl
  | f :: F, h, x, hx => by
    rw [NF_cons, nle_right (shape_menu (h f List.mem_cons_self)) hx, NF_right (fun g hg => h g (List.mem_cons_of_mem _ hg)) hx]
    simp [TF]
/-- a chain -/
structure Chn (F : List (List Int)) (S : List (List Int)) : Prop where
  all : ∀ a ∈ S, TrI a ∧ a ≠ []
  sh : ∃ s0 s1 t, S = s0 :: s1 :: t ∧ Head F s0 s1
  pre : Pre S
  fin : Fin S
theorem Chn.mem {F S : List (List Int)} (C : Chn F S) : ∀ f ∈ F, f ∈ menu := let ⟨_, _, _, _, h⟩ := C.sh; h.mem
theorem Chn.nd {F S : List (List Int)} (C : Chn F S) : F.Nodup := let ⟨_, _, _, _, h⟩ := C.sh; h.nd
theorem Chn.sturm {F S : List (List Int)} (C : Chn F S) (x y : Rat) : vr x S + NF F x = vr y S + NF F y := by
  obtain ⟨s0, s1, t, rfl, H⟩ := C.sh
  exact K23.sturm H C.pre C.fin x y
theorem Chn.count {F S : List (List Int)} (C : Chn F S) (x : Rat) : vf false S - vr x S = NF F x := by
  obtain ⟨N, n0, _, h⟩ := far_all C.all
  have a := h (-(N + 5)) (by grind)
  have b := NF_left C.mem (x := -(N + 5)) (by grind)
  have c := C.sturm x (-(N + 5))
  have e : vr (-(N + 5)) S = vf false S := by unfold vr vf; rw [a]
  omega
theorem Chn.total {F S : List (List Int)} (C : Chn F S) : vf false S - vf true S = TF F := by
  obtain ⟨N, n0, h, _⟩ := far_all C.all
  have a := h (N + 5) (by grind)
  have b := NF_right C.mem (x := N + 5) (by grind)
  have c := C.count (N + 5)
  have e : vr (N + 5) S = vf true S := by unfold vr vf; rw [a]
  omega
end K23
/-! the 26 roots of the menu, in order -/
namespace K23
/-- the i-th root of f less x -/
def rtf (f : List Int) (i : Nat) (x : Rat) : Int := (rs f x).getD i 0
theorem cube_lt {x y : Rat} (h : x < y) : x * x * x < y * y * y := by
  have a := sqr_nonneg (x + y)
  have b := sqr_nonneg x
  have c := sqr_nonneg y
  have d : 0 < x * x + x * y + y * y := by
    apply Decidable.byContradiction
    intro z
    have e : x * x = 0 := by grind
    have f : y * y = 0 := by grind
    have := Rat.mul_eq_zero.mp e
    have := Rat.mul_eq_zero.mp f
    grind
  have := mul_pos' (show 0 < y - x by grind) d
  grind
theorem rs_len {f : List Int} (h : Shape f) (x : Rat) : ((rs f x).length : Int) = nrt f := by
  unfold rs nrt
  split
  · rfl
  · split
    · rfl
    · split
      · rfl
      · split <;> rfl
/-- a root is greater than x or less than y -/
theorem rtf_mono {f : List Int} (h : Shape f) {i : Nat} (hi : (i : Int) < nrt f) {x y : Rat} (hxy : x < y) : rtf f i x = 1 ∨ rtf f i y = -1 := by
  have one : ∀ p q : Rat, p < q → sg (-p) = 1 ∨ sg (-q) = -1 := fun p q h => by unfold sg; grind
  unfold rtf
  cases h with
  | lin a b hb =>
    have qb : (0 : Rat) < b := by exact_mod_cast hb
    have i0 : i = 0 := by have : (i : Int) < 1 := hi; omega
    subst i0
    rw [rs_two _ (.inl rfl), rs_two _ (.inl rfl)]
    refine one _ _ ?_
    rw [evI2, evI2]
    have := mul_lt_l hxy qb
    grind
  | cub =>
    have i0 : i = 0 := by have : (i : Int) < 1 := hi; omega
    subst i0
    rw [rs_two _ (.inr rfl), rs_two _ (.inr rfl)]
    refine one _ _ ?_
    rw [evI4, evI4]
    have := cube_lt hxy
    push_cast; grind
  | sq a b ha hab =>
    have qa : (0 : Rat) < a := by exact_mod_cast ha
    have i2 : i = 0 ∨ i = 1 := by
      have : (i : Int) < 2 := by
        unfold nrt at hi
        rw [if_neg (by simp), if_neg (by simp [cI]; omega)] at hi
        exact hi
      omega
    rw [rs_sq ha (by omega), rs_sq ha (by omega)]
    rcases i2 with e | e <;> subst e
    · by_cases y0 : 0 < y
      · right; rw [if_pos y0]; rfl
      · rw [if_neg y0]
        by_cases y1 : y < 0
        · rw [if_pos y1, if_neg (show ¬ 0 < x by grind), if_pos (show x < 0 by grind)]
          show -(sg _) = 1 ∨ -(sg _) = -1
          rw [sg_neg', sg_neg', Int.neg_neg, Int.neg_neg, evI3, evI3]
          have m := mul_pos' (show 0 < y - x by grind) (show 0 < -x - y by grind)
          have := mul_pos' qa m
          unfold sg
          push_cast; grind
        · right; rw [if_neg y1]; rfl
    · by_cases x0 : x < 0
      · left; rw [if_neg (show ¬ 0 < x by grind), if_pos x0]; rfl
      · by_cases x1 : 0 < x
        · rw [if_pos x1, if_pos (show 0 < y by grind)]
          show sg _ = 1 ∨ sg _ = -1
          rw [evI3, evI3]
          have m := mul_pos' (show 0 < y - x by grind) (show 0 < x + y by grind)
          have := mul_pos' qa m
          unfold sg
          push_cast; grind
        · left; rw [if_neg x1, if_neg x0]; rfl
  | po1 => exact absurd hi (by show ¬ (i : Int) < 0; omega)
  | po2 => exact absurd hi (by show ¬ (i : Int) < 0; omega)

/-- the table: factor, which root, two numbers around it -/
def rtab : List (List Int × Nat × Rat × Rat) := [
  ([4, 1], 0, -4, -4), ([3, 1], 0, -3, -3), ([-7, 0, 1], 0, -(53/20), -(66/25)), ([2, 1], 0, -2, -2), ([-3, 0, 1], 0, -(7/4), -(17/10)),
  ([-5, 0, 2], 0, -(8/5), -(39/25)), ([3, 2], 0, -(3/2), -(3/2)), ([-2, 0, 1], 0, -(71/50), -(7/5)), ([1, 1], 0, -1, -1), ([1, 2], 0, -(1/2), -(1/2)),
  ([1, 3], 0, -(1/3), -(1/3)), ([0, 1], 0, 0, 0), ([-1, 2], 0, 1/2, 1/2), ([-2, 3], 0, 2/3, 2/3), ([-100, 101], 0, 100/101, 100/101),
  ([-101, 102], 0, 101/102, 101/102), ([-1, 1], 0, 1, 1), ([-2, 0, 0, 1], 0, 5/4, 13/10), ([-2, 0, 1], 1, 7/5, 71/50), ([-3, 2], 0, 3/2, 3/2),
  ([-5, 0, 2], 1, 39/25, 8/5), ([-3, 0, 1], 1, 17/10, 7/4), ([-2, 1], 0, 2, 2), ([-7, 0, 1], 1, 66/25, 53/20), ([-3, 1], 0, 3, 3), ([-4, 1], 0, 4, 4)]
def rrow (j : Nat) : List Int × Nat × Rat × Rat := rtab.getD j ([1, 0, 1], 0, 0, 0)
def rfac (j : Nat) : List Int := (rrow j).1
def rix (j : Nat) : Nat := (rrow j).2.1
def rlo (j : Nat) : Rat := (rrow j).2.2.1
def rhi (j : Nat) : Rat := (rrow j).2.2.2
def rt (j : Nat) (x : Rat) : Int := rtf (rfac j) (rix j) x
def rk (f : List Int) : List Nat := (List.range 26).filter fun j => decide (rfac j = f)
/-- the roots are further apart than this -/
def sep : Rat := 1 / 16384
theorem tab_ok : ((List.range 26).all fun j => decide (rfac j ∈ menu) && decide ((rix j : Int) < nrt (rfac j)) && decide (0 ≤ rt j (rlo j)) && decide (rt j (rhi j) ≤ 0)) = true := by decide +kernel
theorem tab_sep : ((List.range 26).all fun j => (List.range j).all fun i => decide (rhi i + sep < rlo j)) = true := by decide +kernel
theorem tab_rk : (menu.all fun f => decide ((rk f).map rix = List.range (nrt f).toNat)) = true := by decide +kernel
theorem rt_fac {j : Nat} (h : j < 26) : rfac j ∈ menu ∧ (rix j : Int) < nrt (rfac j) ∧ 0 ≤ rt j (rlo j) ∧ rt j (rhi j) ≤ 0 := by
  have := List.all_eq_true.mp tab_ok j (List.mem_range.mpr h)
  simp only [Bool.and_eq_true, decide_eq_true_eq] at this
  exact ⟨this.1.1.1, this.1.1.2, this.1.2, this.2⟩
theorem rt_gap {i j : Nat} (h : j < 26) (hij : i < j) : rhi i + sep < rlo j := by
  have := List.all_eq_true.mp (List.all_eq_true.mp tab_sep j (List.mem_range.mpr h)) i (List.mem_range.mpr hij)
  exact of_decide_eq_true this
theorem rt_mono {j : Nat} (h : j < 26) {x y : Rat} (hxy : x < y) : rt j x = 1 ∨ rt j y = -1 :=
  rtf_mono (shape_menu (rt_fac h).1) (rt_fac h).2.1 hxy
theorem rt_vals {j : Nat} (h : j < 26) (x : Rat) : rt j x = 1 ∨ rt j x = -1 ∨ rt j x = 0 := by
  unfold rt rtf
  have e : ∀ r ∈ rs (rfac j) x, r = 1 ∨ r = -1 ∨ r = 0 := fun r hr => by
    unfold rs at hr
    have := sg_vals (-(evI (rfac j) x))
    split at hr
    · simp at hr; omega
    · split at hr
      · simp at hr
      · split at hr
        · simp at hr; omega
        · split at hr <;> simp at hr <;> omega
  rw [List.getD_eq_getElem?_getD]
  cases q : (rs (rfac j) x)[rix j]? with
  | none => right; right; rfl
  | some r => exact e r (List.mem_of_getElem? q)
/-- a root at or above x is at most its upper number -/
theorem rt_lo {j : Nat} (h : j < 26) {x : Rat} (hx : rt j x ≤ 0) : rlo j ≤ x := by
  apply Decidable.byContradiction
  intro z
  have := (rt_fac h).2.2.1
  rcases rt_mono h (show x < rlo j by grind) with a | a <;> omega
theorem rt_hi {j : Nat} (h : j < 26) {x : Rat} (hx : 0 ≤ rt j x) : x ≤ rhi j := by
  apply Decidable.byContradiction
  intro z
  have := (rt_fac h).2.2.2
  rcases rt_mono h (show rhi j < x by grind) with a | a <;> omega
theorem sep_pos : (0 : Rat) < sep := by decide +kernel
theorem rt_order {i j : Nat} (h : j < 26) (hij : i < j) {x : Rat} (hx : 0 ≤ rt i x) : rt j x = 1 := by
  have a := rt_hi (show i < 26 by omega) hx
  have b := rt_gap h hij
  have c := sep_pos
  have d := (rt_fac h).2.2.1
  rcases rt_mono h (show x < rlo j by grind) with q | q
  · exact q
  · omega
/-- two roots are not within sep -/
theorem rt_apart {i j : Nat} (hi : i < 26) (hj : j < 26) (hne : i ≠ j) {x y : Rat} (hxy : y - x ≤ sep) (a1 : 0 ≤ rt i x) (a2 : rt i y ≤ 0) (b1 : 0 ≤ rt j x) (b2 : rt j y ≤ 0) : False := by
  rcases Nat.lt_or_gt_of_ne hne with h | h
  · have := rt_hi hi a1
    have := rt_lo hj b2
    have := rt_gap hj h
    grind
  · have := rt_hi hj b1
    have := rt_lo hi a2
    have := rt_gap hi h
    grind
theorem mem_rk {f : List Int} {j : Nat} : j ∈ rk f ↔ j < 26 ∧ rfac j = f := by
  unfold rk
  rw [List.mem_filter, List.mem_range, decide_eq_true_eq]
theorem rs_rk {f : List Int} (h : f ∈ menu) (x : Rat) : rs f x = (rk f).map fun j => rt j x := by
  have e := of_decide_eq_true (List.all_eq_true.mp tab_rk f h)
  have l := rs_len (shape_menu h) x
  have l2 : (rs f x).length = (nrt f).toNat := by omega
  have : (rk f).map (fun j => rt j x) = ((rk f).map rix).map fun i => rtf f i x := by
    rw [List.map_map]
    refine List.map_congr_left fun j hj => ?_
    show rtf (rfac j) (rix j) x = rtf f (rix j) x
    rw [(mem_rk.mp hj).2]
  rw [this, e, ← l2]
  refine List.ext_getElem (by simp) fun i h1 h2 => ?_
  rw [List.getElem_map, List.getElem_range]
  unfold rtf
  rw [List.getD_eq_getElem?_getD, List.getElem?_eq_getElem h1]; rfl

/-! all roots of some factors -/
def flat (F : List (List Int)) : List Nat := F.flatMap rk
theorem mem_flat {F : List (List Int)} {j : Nat} : j ∈ flat F ↔ j < 26 ∧ rfac j ∈ F := by
  unfold flat
  rw [List.mem_flatMap]
  constructor
  · rintro ⟨f, hf, hj⟩
    obtain ⟨a, b⟩ := mem_rk.mp hj
    exact ⟨a, b ▸ hf⟩
  · rintro ⟨a, b⟩
    exact ⟨_, b, mem_rk.mpr ⟨a, rfl⟩⟩
theorem nd_flat : ∀ {F : List (List Int)}, F.Nodup → (flat F).Nodup
  | [], _ => List.nodup_nil
  | f :: F, h => by
    obtain ⟨n1, n2⟩ := List.nodup_cons.mp h
    show (rk f ++ flat F).Nodup
    refine List.nodup_append.mpr ⟨List.Nodup.sublist List.filter_sublist List.nodup_range, nd_flat n2, fun a ha b hb e => ?_⟩
    subst e
    exact n1 ((mem_rk.mp ha).2 ▸ (mem_flat.mp hb).2)
/-- the number of roots less than x -/
def BF (F : List (List Int)) (x : Rat) : Int := (F.map fun f => nlt f x).sum
theorem NF_flat : ∀ {F : List (List Int)}, (∀ f ∈ F, f ∈ menu) → ∀ x, NF F x = ((flat F).countP (fun j => decide (rt j x ≤ 0)) : Nat)
  | [], _, _ => rfl
  | f :: F, h, x => by
    rw [NF_cons, NF_flat (fun g hg => h g (List.mem_cons_of_mem _ hg)) x]
    unfold nle
    rw [rs_rk (h f List.mem_cons_self), List.countP_map]
    show _ = (((rk f ++ flat F).countP _ : Nat) : Int)
    rw [List.countP_append]
    push_cast; rfl
theorem BF_flat : ∀ {F : List (List Int)}, (∀ f ∈ F, f ∈ menu) → ∀ x, BF F x = ((flat F).countP (fun j => decide (rt j x < 0)) : Nat)
  | [], _, _ => rfl
  | f :: F, h, x => by
    show nlt f x + BF F x = _
    rw [BF_flat (fun g hg => h g (List.mem_cons_of_mem _ hg)) x]
    unfold nlt
    rw [rs_rk (h f List.mem_cons_self), List.countP_map]
    show _ = (((rk f ++ flat F).countP _ : Nat) : Int)
    rw [List.countP_append]
    push_cast; rfl
def RF (F : List (List Int)) : List Nat := (flat F).mergeSort
theorem RF_perm (F : List (List Int)) : (RF F).Perm (flat F) := List.mergeSort_perm _ _
theorem RF_sorted {F : List (List Int)} (h : F.Nodup) : (RF F).Pairwise (· < ·) := by
  have a : (RF F).Pairwise (fun a b => decide (a ≤ b) = true) := List.pairwise_mergeSort (fun a b c h1 h2 => by simp at *; omega) (fun a b => by simp; omega) _
  have b : (RF F).Nodup := (RF_perm F).nodup_iff.mpr (nd_flat h)
  refine (List.Pairwise.and a b).imp fun {x y} ⟨p, q⟩ => ?_
  simp at p
  omega
theorem RF_len {F : List (List Int)} (h : ∀ f ∈ F, f ∈ menu) : ((RF F).length : Int) = TF F := by
  rw [(RF_perm F).length_eq]
  induction F with
  | nil => rfl
  | cons f F ih =>
    have e := ih fun g hg => h g (List.mem_cons_of_mem _ hg)
    show (((rk f ++ flat F).length : Nat) : Int) = nrt f + TF F
    rw [List.length_append]
    have l := rs_len (shape_menu (h f List.mem_cons_self)) 0
    rw [rs_rk (h f List.mem_cons_self), List.length_map] at l
    push_cast
    omega
theorem count_sorted {α : Type} {p : α → Bool} : ∀ {L : List α} {k : Nat} {a : α}, L.Pairwise (fun x y => p y = true → p x = true) → L[k]? = some a → (L.countP p ≤ k ↔ p a = false)
  | [], k, a, _, h => by simp at h
  | b :: L, 0, a, hp, h => by
    have e : b = a := by simpa using h
    subst e
    rw [List.countP_cons]
    cases q : p b with
    | true => simp
    | false =>
      have : L.countP p = 0 := List.countP_eq_zero.mpr fun x hx => by
        have := (List.pairwise_cons.mp hp).1 x hx
        intro z
        rw [this z] at q; cases q
      simp [this]
  | b :: L, k + 1, a, hp, h => by
    obtain ⟨p1, p2⟩ := List.pairwise_cons.mp hp
    have h' : L[k]? = some a := by simpa using h
    have ih := count_sorted p2 h'
    rw [List.countP_cons]
    cases q : p b with
    | true => simp; exact ih
    | false =>
      have pa : p a = false := by
        cases z : p a with
        | false => rfl
        | true => rw [p1 a (List.mem_of_getElem? h') z] at q; cases q
      have : L.countP p = 0 := List.countP_eq_zero.mpr fun x hx => by
        have := p1 x hx
        intro z
        rw [this z] at q; cases q
      simp [this, pa]
/-- the root with the number k of the factors F -/
structure IsR (F : List (List Int)) (k : Nat) (ρ : Nat) : Prop where
  lt : ρ < 26
  mem : ρ ∈ flat F
  le : ∀ x, NF F x ≤ k ↔ rt ρ x = 1
  lo : ∀ x, BF F x ≤ k ↔ 0 ≤ rt ρ x
theorem isR_ex {F : List (List Int)} (hm : ∀ f ∈ F, f ∈ menu) (hn : F.Nodup) {k : Nat} (hk : (k : Int) < TF F) : ∃ ρ, IsR F k ρ := by
  have hl := RF_len hm
  have hk' : k < (RF F).length := by omega
  have e : (RF F)[k]? = some (RF F)[k] := List.getElem?_eq_getElem hk'
  have hmem : (RF F)[k] ∈ flat F := (RF_perm F).mem_iff.mp (List.getElem_mem hk')
  have h26 := (mem_flat.mp hmem).1
  have sorted := RF_sorted hn
  have all26 : ∀ j ∈ RF F, j < 26 := fun j hj => (mem_flat.mp ((RF_perm F).mem_iff.mp hj)).1
  refine ⟨(RF F)[k], h26, hmem, fun x => ?_, fun x => ?_⟩
  · rw [NF_flat hm, ← (RF_perm F).countP_eq]
    have := count_sorted (p := fun j => decide (rt j x ≤ 0)) (List.Pairwise.imp_of_mem (fun {i j} hi hj hij z => by
      have z := of_decide_eq_true z
      refine decide_eq_true (Decidable.byContradiction fun q => ?_)
      have := rt_order (all26 j hj) hij (x := x) (by omega)
      omega) sorted) e
    rw [Int.ofNat_le, this]
    have v := rt_vals h26 x
    simp; omega
  · rw [BF_flat hm, ← (RF_perm F).countP_eq]
    have := count_sorted (p := fun j => decide (rt j x < 0)) (List.Pairwise.imp_of_mem (fun {i j} hi hj hij z => by
      have z := of_decide_eq_true z
      refine decide_eq_true (Decidable.byContradiction fun q => ?_)
      have := rt_order (all26 j hj) hij (x := x) (by omega)
      omega) sorted) e
    rw [Int.ofNat_le, this]
    simp
end K23
/-! signs of factors at a root, by numbers around it -/
namespace K23
def sgA (ρ : Nat) (g : List Int) : Int := prodS ((rk g).map fun j => if j < ρ then -1 else if j = ρ then 0 else 1)
def sgP (ρ : Nat) : List (List Int) → Int
  | [] => 1
  | g :: O => sgA ρ g * sgP ρ O
/-- the root is between lo and hi (both may be it) -/
structure In (ρ : Nat) (lo hi : Rat) : Prop where
  le : lo ≤ hi
  a : 0 ≤ rt ρ lo
  b : rt ρ hi ≤ 0
def Off (j : Nat) (lo hi : Rat) : Prop := rt j lo = -1 ∨ rt j hi = 1
theorem off_not {j : Nat} (h : j < 26) {lo hi : Rat} (z : ¬ Off j lo hi) : 0 ≤ rt j lo ∧ rt j hi ≤ 0 := by
  have a := rt_vals h lo
  have b := rt_vals h hi
  unfold Off at z
  omega
theorem off_iff {j : Nat} (h : j < 26) {lo hi : Rat} : Off j lo hi ↔ ¬ (0 ≤ rt j lo ∧ rt j hi ≤ 0) := by
  have a := rt_vals h lo
  have b := rt_vals h hi
  unfold Off
  omega
theorem mono_le {j : Nat} (h : j < 26) {x y : Rat} (hxy : x ≤ y) : (rt j x = -1 → rt j y = -1) ∧ (rt j y = 1 → rt j x = 1) ∧ (rt j x ≤ 0 → rt j y ≤ 0) ∧ (0 ≤ rt j y → 0 ≤ rt j x) := by
  by_cases e : x = y
  · subst e; exact ⟨id, id, id, id⟩
  · have := rt_mono h (show x < y by grind)
    have a := rt_vals h x
    have b := rt_vals h y
    omega
theorem prodS_congr {L : List Nat} {g g' : Nat → Int} (h : ∀ j ∈ L, g j = g' j) : prodS (L.map g) = prodS (L.map g') := by
  rw [List.map_congr_left h]
theorem off_side {ρ j : Nat} (hρ : ρ < 26) (hj : j < 26) {lo hi : Rat} (I : In ρ lo hi) (o : Off j lo hi) : (rt j lo = -1 ∧ rt j hi = -1 ∧ j < ρ) ∨ (rt j lo = 1 ∧ rt j hi = 1 ∧ ρ < j) := by
  have Ia := I.a
  have Ib := I.b
  have m := mono_le hj I.le
  rcases o with o | o
  · left
    refine ⟨o, m.1 o, ?_⟩
    rcases Nat.lt_trichotomy j ρ with q | q | q
    · exact q
    · subst q; omega
    · have := rt_order hj q I.a; omega
  · right
    refine ⟨m.2.1 o, o, ?_⟩
    rcases Nat.lt_trichotomy j ρ with q | q | q
    · have := rt_order (i := j) hρ q (x := hi) (by omega); omega
    · subst q; omega
    · exact q
theorem sgA_off {ρ : Nat} (hρ : ρ < 26) {g : List Int} (hg : g ∈ menu) {lo hi : Rat} (I : In ρ lo hi) (o : ∀ j ∈ rk g, Off j lo hi) : sg (evI g lo) = sgA ρ g ∧ sg (evI g hi) = sgA ρ g := by
  rw [sg_fac (shape_menu hg), sg_fac (shape_menu hg), rs_rk hg, rs_rk hg]
  unfold sgA
  refine ⟨prodS_congr fun j hj => ?_, prodS_congr fun j hj => ?_⟩ <;>
  · rcases off_side hρ (mem_rk.mp hj).1 I (o j hj) with ⟨a, b, c⟩ | ⟨a, b, c⟩
    · rw [if_pos c]; assumption
    · rw [if_neg (by omega), if_neg (by omega)]; assumption
theorem sgA_at {ρ : Nat} (hρ : ρ < 26) {g : List Int} (hg : g ∈ menu) {x : Rat} (h : rt ρ x = 0) : sg (evI g x) = sgA ρ g := by
  rw [sg_fac (shape_menu hg), rs_rk hg]
  unfold sgA
  refine prodS_congr fun j hj => ?_
  have h26 := (mem_rk.mp hj).1
  rcases Nat.lt_trichotomy j ρ with q | q | q
  · rw [if_pos q]
    have v := rt_vals h26 x
    rcases v with v | v | v
    · have := rt_order hρ q (x := x) (by omega); omega
    · exact v
    · have := rt_order hρ q (x := x) (by omega); omega
  · subst q; rw [if_neg (by omega), if_pos rfl]; exact h
  · rw [if_neg (by omega), if_neg (by omega)]
    exact rt_order h26 q (by omega)
theorem prodS_zero : ∀ {l : List Int}, (0 : Int) ∈ l → prodS l = 0
  | r :: t, h => by
    rcases List.mem_cons.mp h with e | e
    · rw [← e]; simp [prodS]
    · rw [prodS, prodS_zero e]; omega
theorem prodS_ne : ∀ {l : List Int}, (∀ r ∈ l, r ≠ 0) → prodS l ≠ 0
  | [], _ => by show (1 : Int) ≠ 0; decide
  | r :: t, h => Int.mul_ne_zero (by have := h r List.mem_cons_self; omega) (prodS_ne fun s hs => h s (List.mem_cons_of_mem _ hs))
theorem prodS_append : ∀ (l m : List Int), prodS (l ++ m) = prodS l * prodS m
  | [], m => by simp [prodS]
  | r :: l, m => by simp only [List.cons_append, prodS, prodS_append l m, Int.mul_assoc]
theorem sgA_zero {ρ : Nat} {g : List Int} (h : ρ ∈ rk g) : sgA ρ g = 0 :=
  prodS_zero (List.mem_map.mpr ⟨ρ, h, by rw [if_neg (by omega), if_pos rfl]⟩)
theorem sgP_zero {ρ : Nat} : ∀ {O : List (List Int)}, ρ ∈ flat O → sgP ρ O = 0
  | [], h => by simp [flat] at h
  | g :: O, h => by
    have h : ρ ∈ rk g ++ flat O := h
    show sgA ρ g * sgP ρ O = 0
    rcases List.mem_append.mp h with q | q
    · rw [sgA_zero q]; omega
    · rw [sgP_zero q]; omega
theorem sg_one : sg 1 = 1 := by decide +kernel
theorem sg_prodE : ∀ {F : List (List Int)}, (∀ f ∈ F, f ∈ menu) → ∀ x, sg (prodE F x) = prodS ((flat F).map fun j => rt j x)
  | [], _, x => sg_one
  | f :: F, h, x => by
    show sg (evI f x * prodE F x) = prodS ((rk f ++ flat F).map _)
    rw [sg_mul, sg_fac (shape_menu (h f List.mem_cons_self)), sg_prodE (fun g hg => h g (List.mem_cons_of_mem _ hg)), rs_rk (h f List.mem_cons_self), List.map_append, prodS_append]
theorem prodE_zero {F : List (List Int)} (hm : ∀ f ∈ F, f ∈ menu) {x : Rat} : prodE F x = 0 ↔ ∃ j ∈ flat F, rt j x = 0 := by
  rw [← sg_eq_zero, sg_prodE hm]
  constructor
  · intro h
    apply Classical.byContradiction
    intro z
    refine prodS_ne (fun r hr e => ?_) h
    obtain ⟨j, hj, q⟩ := List.mem_map.mp hr
    exact z ⟨j, hj, by rw [q]; exact e⟩
  · rintro ⟨j, hj, e⟩
    exact prodS_zero (List.mem_map.mpr ⟨j, hj, e⟩)
theorem sgP_off {ρ : Nat} (hρ : ρ < 26) {lo hi : Rat} (I : In ρ lo hi) : ∀ {O : List (List Int)}, (∀ g ∈ O, g ∈ menu) → (∀ j ∈ flat O, Off j lo hi) → sg (prodE O lo) = sgP ρ O
  | [], _, _ => sg_one
  | g :: O, h, o => by
    have o : ∀ j ∈ rk g ++ flat O, Off j lo hi := o
    show sg (evI g lo * prodE O lo) = sgA ρ g * sgP ρ O
    rw [sg_mul, (sgA_off hρ (h g List.mem_cons_self) I fun j hj => o j (List.mem_append_left _ hj)).1, sgP_off hρ I (fun k hk => h k (List.mem_cons_of_mem _ hk)) fun j hj => o j (List.mem_append_right _ hj)]
theorem sgP_at {ρ : Nat} (hρ : ρ < 26) {x : Rat} (hx : rt ρ x = 0) : ∀ {O : List (List Int)}, (∀ g ∈ O, g ∈ menu) → sg (prodE O x) = sgP ρ O
  | [], _ => sg_one
  | g :: O, h => by
    show sg (evI g x * prodE O x) = sgA ρ g * sgP ρ O
    rw [sg_mul, sgA_at hρ (h g List.mem_cons_self) hx, sgP_at hρ hx fun k hk => h k (List.mem_cons_of_mem _ hk)]

/-! counting -/
theorem cnt_le {α : Type} {p q : α → Bool} {L : List α} (h : ∀ j ∈ L, p j = true → q j = true) : L.countP p ≤ L.countP q := List.countP_mono_left h
theorem cnt_eq {α : Type} {p q : α → Bool} : ∀ {L : List α}, (∀ j ∈ L, p j = true → q j = true) → L.countP q ≤ L.countP p → ∀ j ∈ L, q j = true → p j = true
  | [], _, _, j, hj, _ => by simp at hj
  | a :: L, h, c, j, hj, hq => by
    have hL : ∀ j ∈ L, p j = true → q j = true := fun k hk => h k (List.mem_cons_of_mem _ hk)
    have m := cnt_le hL
    rw [List.countP_cons, List.countP_cons] at c
    have ha := h a List.mem_cons_self
    have c2 : L.countP q ≤ L.countP p := by
      cases pa : p a with
      | true => rw [pa, ha pa] at c; simp at c; omega
      | false => rw [pa] at c; simp at c; omega
    rcases List.mem_cons.mp hj with e | e
    · subst e
      cases pa : p j with
      | true => rfl
      | false => rw [pa, hq] at c; simp at c; omega
    · exact cnt_eq hL c2 j e hq
theorem cnt_one {p q : Nat → Bool} : ∀ {L : List Nat} {ρ : Nat}, L.Nodup → (∀ j ∈ L, p j = true → q j = true) → L.countP q ≤ L.countP p + 1 → ρ ∈ L → q ρ = true → p ρ = false → ∀ j ∈ L, j ≠ ρ → q j = true → p j = true
  | [], _, _, _, _, _, _, _, j, hj, _, _ => by simp at hj
  | a :: L, ρ, nd, h, c, hρ, q1, p1, j, hj, hne, hq => by
    obtain ⟨n1, n2⟩ := List.nodup_cons.mp nd
    have hL : ∀ j ∈ L, p j = true → q j = true := fun k hk => h k (List.mem_cons_of_mem _ hk)
    have m := cnt_le hL
    rw [List.countP_cons, List.countP_cons] at c
    rcases List.mem_cons.mp hρ with e | e
    · subst e
      rw [q1, p1] at c
      simp at c
      rcases List.mem_cons.mp hj with e | e
      · exact absurd e hne
      · exact cnt_eq hL (by omega) j e hq
    · have ha := h a List.mem_cons_self
      rcases List.mem_cons.mp hj with e2 | e2
      · subst e2
        cases pa : p j with
        | true => rfl
        | false =>
          rw [pa, hq] at c
          simp at c
          have := cnt_eq hL (by omega) ρ e q1
          rw [this] at p1; cases p1
      · have c2 : L.countP q ≤ L.countP p + 1 := by
          cases pa : p a with
          | true => rw [pa, ha pa] at c; simp at c; omega
          | false => rw [pa] at c; simp at c; omega
        exact cnt_one n2 hL c2 e q1 p1 j e2 hne hq

/-! has_root_by -/
def hasB (S : List (List Int)) (lo hi : Rat) : Bool :=
  match S with
  | [] => false
  | s0 :: _ => decide (sg (evI s0 lo) = 0) || (decide (lo ≠ hi) && decide (vr lo S > vr hi S))
theorem Chn.zero {F S : List (List Int)} (C : Chn F S) {s0 : List Int} {t : List (List Int)} (e : S = s0 :: t) (x : Rat) : sg (evI s0 x) = 0 ↔ ∃ j ∈ flat F, rt j x = 0 := by
  obtain ⟨a, b, u, e', H⟩ := C.sh
  rw [e] at e'
  cases e'
  obtain ⟨c, hc, h0⟩ := H.h0
  rw [h0, sg_eq_zero, ← prodE_zero H.mem]
  constructor
  · intro h
    rcases Rat.mul_eq_zero.mp h with z | z
    · exact absurd z hc
    · exact z
  · intro h; rw [h]; grind
theorem hasB_iff {F S : List (List Int)} (C : Chn F S) {lo hi : Rat} (hle : lo ≤ hi) : hasB S lo hi = true ↔ ∃ j ∈ flat F, 0 ≤ rt j lo ∧ rt j hi ≤ 0 := by
  obtain ⟨s0, s1, t, e, H⟩ := C.sh
  have hz := C.zero e lo
  have cl := C.count lo
  have ch := C.count hi
  have hb : hasB S lo hi = (decide (sg (evI s0 lo) = 0) || (decide (lo ≠ hi) && decide (vr lo S > vr hi S))) := by rw [e]; rfl
  have n1 := NF_flat H.mem lo
  have n2 := NF_flat H.mem hi
  have mono : ∀ j ∈ flat F, decide (rt j lo ≤ 0) = true → decide (rt j hi ≤ 0) = true := fun j hj q => decide_eq_true ((mono_le (mem_flat.mp hj).1 hle).2.2.1 (of_decide_eq_true q))
  rw [hb, Bool.or_eq_true_iff, Bool.and_eq_true_iff, decide_eq_true_iff, decide_eq_true_iff, decide_eq_true_iff]
  constructor
  · rintro (h | ⟨h1, h2⟩)
    · obtain ⟨j, hj, q⟩ := hz.mp h
      exact ⟨j, hj, by omega, (mono_le (mem_flat.mp hj).1 hle).2.2.1 (by omega)⟩
    · apply Classical.byContradiction
      intro z
      have : (flat F).countP (fun j => decide (rt j hi ≤ 0)) ≤ (flat F).countP (fun j => decide (rt j lo ≤ 0)) := cnt_le fun j hj q => by
        have q := of_decide_eq_true q
        refine decide_eq_true (Decidable.byContradiction fun w => z ⟨j, hj, by omega, q⟩)
      omega
  · rintro ⟨j, hj, q1, q2⟩
    by_cases w : sg (evI s0 lo) = 0
    · exact .inl w
    · right
      have h26 := (mem_flat.mp hj).1
      have nz : rt j lo ≠ 0 := fun q => w (hz.mpr ⟨j, hj, q⟩)
      have v := rt_vals h26 lo
      refine ⟨fun q => by rw [q] at q1 nz v; omega, ?_⟩
      apply Decidable.byContradiction
      intro z
      have := cnt_eq mono (by omega) j hj (decide_eq_true q2)
      have := of_decide_eq_true this
      omega

/-! the interval of a root -/
/-- lo and hi hold the root ρ of F alone -/
structure Aro (F : List (List Int)) (ρ : Nat) (lo hi : Rat) : Prop where
  mem : ∀ f ∈ F, f ∈ menu
  r : ρ ∈ flat F
  at_ : (lo = hi ∧ rt ρ lo = 0) ∨ (lo < hi ∧ rt ρ lo = 1 ∧ rt ρ hi = -1 ∧ ∀ j ∈ flat F, j ≠ ρ → Off j lo hi)
theorem Aro.lt26 {F : List (List Int)} {ρ : Nat} {lo hi : Rat} (A : Aro F ρ lo hi) : ρ < 26 := (mem_flat.mp A.r).1
theorem Aro.inn {F : List (List Int)} {ρ : Nat} {lo hi : Rat} (A : Aro F ρ lo hi) : In ρ lo hi := by
  rcases A.at_ with ⟨a, b⟩ | ⟨a, b, c, _⟩
  · exact ⟨by rw [a]; exact Rat.le_refl, by omega, by rw [← a]; omega⟩
  · exact ⟨by grind, by omega, by omega⟩
theorem Aro.only {F : List (List Int)} {ρ : Nat} {lo hi : Rat} (A : Aro F ρ lo hi) {j : Nat} (hj : j ∈ flat F) (h1 : 0 ≤ rt j lo) (h2 : rt j hi ≤ 0) : j = ρ := by
  have h26 := (mem_flat.mp hj).1
  apply Decidable.byContradiction
  intro ne
  rcases A.at_ with ⟨a, b⟩ | ⟨a, b, c, d⟩
  · exact rt_apart h26 A.lt26 ne (x := lo) (y := hi) (by rw [a]; have := sep_pos; grind) h1 h2 (by omega) (by rw [← a]; omega)
  · exact (off_iff h26).mp (d j hj ne) ⟨h1, h2⟩
theorem prodS_flip {L : List Nat} {ρ : Nat} {g g' : Nat → Int} (nd : L.Nodup) (hρ : ρ ∈ L) (h : ∀ j ∈ L, j ≠ ρ → g j = g' j) (h2 : g' ρ = - g ρ) : prodS (L.map g') = - prodS (L.map g) := by
  induction L with
  | nil => cases hρ
  | cons a L ih =>
    obtain ⟨n1, n2⟩ := List.nodup_cons.mp nd
    rw [List.map_cons, List.map_cons, prodS, prodS]
    rcases List.mem_cons.mp hρ with e | e
    · subst e
      rw [h2, prodS_congr (g := g') (g' := g) fun j hj => (h j (List.mem_cons_of_mem _ hj) fun q => n1 (q ▸ hj)).symm]
      rw [Int.neg_neg, ← Int.neg_mul, Int.neg_neg]
    · rw [ih n2 e fun j hj => h j (List.mem_cons_of_mem _ hj), h a List.mem_cons_self fun q => n1 (q ▸ e), Int.mul_neg]
/-- halving the interval -/
theorem Aro.half {F : List (List Int)} (nd : F.Nodup) {ρ : Nat} {lo hi mid : Rat} (A : Aro F ρ lo hi) (h1 : lo < mid) (h2 : mid < hi) {p : List Int} {c : Rat} (hc : c ≠ 0) (hp : ∀ x, evI p x = c * prodE F x) :
    (sg (evI p mid) = 0 → Aro F ρ mid mid) ∧ (sg (evI p mid) ≠ 0 → (sg (evI p lo) ≠ sg (evI p mid) → Aro F ρ lo mid) ∧ (sg (evI p lo) = sg (evI p mid) → Aro F ρ mid hi)) := by
  obtain ⟨a, b, d, e⟩ := A.at_.resolve_left fun z => by have := z.1; grind
  have h26 := A.lt26
  have zero : ∀ x, sg (evI p x) = 0 ↔ ∃ j ∈ flat F, rt j x = 0 := fun x => by
    rw [hp, sg_mul, ← prodE_zero A.mem, ← sg_eq_zero (x := prodE F x)]
    constructor
    · intro h
      rcases Int.mul_eq_zero.mp h with z | z
      · exact absurd (sg_eq_zero.mp z) hc
      · exact z
    · intro h; rw [h]; omega
  have offm : ∀ j ∈ flat F, j ≠ ρ → rt j mid ≠ 0 ∧ rt j lo = rt j mid ∧ rt j mid = rt j hi := fun j hj ne => by
    have j26 := (mem_flat.mp hj).1
    have m1 := mono_le j26 (show lo ≤ mid by grind)
    have m2 := mono_le j26 (show mid ≤ hi by grind)
    rcases off_side h26 j26 A.inn (e j hj ne) with ⟨x, y, _⟩ | ⟨x, y, _⟩
    · have := m1.1 x
      omega
    · have := m2.2.1 y
      omega
  refine ⟨fun z => ?_, fun z => ?_⟩
  · obtain ⟨j, hj, q⟩ := (zero mid).mp z
    by_cases ne : j = ρ
    · rw [ne] at q
      exact ⟨A.mem, A.r, .inl ⟨rfl, q⟩⟩
    · exact absurd q (offm j hj ne).1
  · have nzρ : rt ρ mid ≠ 0 := fun q => z ((zero mid).mpr ⟨ρ, A.r, q⟩)
    have v := rt_vals h26 mid
    have sc : sg c ≠ 0 := fun q => hc (sg_eq_zero.mp q)
    have offL : ∀ j ∈ flat F, j ≠ ρ → Off j lo mid := fun j hj ne => by
      obtain ⟨x, y, w⟩ := offm j hj ne
      have := rt_vals (mem_flat.mp hj).1 mid
      unfold Off
      omega
    have offR : ∀ j ∈ flat F, j ≠ ρ → Off j mid hi := fun j hj ne => by
      obtain ⟨x, y, w⟩ := offm j hj ne
      have := rt_vals (mem_flat.mp hj).1 mid
      unfold Off
      omega
    by_cases q : rt ρ mid = 1
    · have same : sg (evI p lo) = sg (evI p mid) := by
        rw [hp, hp, sg_mul, sg_mul, sg_prodE A.mem, sg_prodE A.mem]
        congr 1
        refine prodS_congr fun j hj => ?_
        by_cases ne : j = ρ
        · rw [ne, b, q]
        · exact (offm j hj ne).2.1
      exact ⟨fun w => absurd same w, fun _ => ⟨A.mem, A.r, .inr ⟨h2, q, d, offR⟩⟩⟩
    · have q' : rt ρ mid = -1 := by omega
      have diff : sg (evI p mid) = - sg (evI p lo) := by
        rw [hp, hp, sg_mul, sg_mul, sg_prodE A.mem, sg_prodE A.mem]
        rw [prodS_flip (g := fun j => rt j lo) (nd_flat nd) A.r (fun j hj ne => (offm j hj ne).2.1) (by rw [q', b]), Int.mul_neg]
      refine ⟨fun _ => ⟨A.mem, A.r, .inr ⟨h1, b, q', offL⟩⟩, fun w => ?_⟩
      omega
/-- the interval is narrower than the roots' distance: no other root in it -/
theorem Aro.narrow {F : List (List Int)} {ρ : Nat} {lo hi : Rat} (A : Aro F ρ lo hi) (hw : hi - lo ≤ sep) {j : Nat} (hj : j < 26) (h1 : 0 ≤ rt j lo) (h2 : rt j hi ≤ 0) : j = ρ := by
  apply Decidable.byContradiction
  intro ne
  exact rt_apart hj A.lt26 ne hw h1 h2 A.inn.a A.inn.b
/-- from the counts of the interval -/
theorem Aro.of_counts {F : List (List Int)} (hm : ∀ f ∈ F, f ∈ menu) (nd : F.Nodup) {k ρ : Nat} (R : IsR F k ρ) {lo hi : Rat} (h : (lo = hi ∧ BF F lo ≤ k ∧ (k : Int) < NF F lo) ∨ (lo < hi ∧ NF F lo = k ∧ NF F hi = k + 1 ∧ prodE F lo ≠ 0 ∧ prodE F hi ≠ 0)) : Aro F ρ lo hi := by
  refine ⟨hm, R.mem, ?_⟩
  rcases h with ⟨a, b, c⟩ | ⟨a, b, c, d, e⟩
  · left
    refine ⟨a, ?_⟩
    have x1 := (R.lo lo).mp b
    have x2 : rt ρ lo ≠ 1 := fun z => by have := (R.le lo).mpr z; omega
    have := rt_vals R.lt lo
    omega
  · right
    have nz : ∀ x, prodE F x ≠ 0 → ∀ j ∈ flat F, rt j x ≠ 0 := fun x hx j hj q => hx ((prodE_zero hm).mpr ⟨j, hj, q⟩)
    have x1 := (R.le lo).mp (by omega)
    have x2 : rt ρ hi = -1 := by
      have z1 : rt ρ hi ≠ 1 := fun z => by have := (R.le hi).mpr z; omega
      have z2 := nz hi e ρ R.mem
      have := rt_vals R.lt hi
      omega
    refine ⟨a, x1, x2, fun j hj ne => ?_⟩
    have j26 := (mem_flat.mp hj).1
    have m := mono_le j26 (show lo ≤ hi by grind)
    have n1 := NF_flat hm lo
    have n2 := NF_flat hm hi
    have one := cnt_one (p := fun j => decide (rt j lo ≤ 0)) (q := fun j => decide (rt j hi ≤ 0)) (nd_flat nd) (fun j hj q => decide_eq_true ((mono_le (mem_flat.mp hj).1 (show lo ≤ hi by grind)).2.2.1 (of_decide_eq_true q))) (by omega) R.mem (decide_eq_true (by omega)) (decide_eq_false (by omega)) j hj ne
    have v1 := rt_vals j26 lo
    have v2 := rt_vals j26 hi
    have w1 := nz lo d j hj
    unfold Off
    by_cases q : rt j hi ≤ 0
    · have := of_decide_eq_true (one (decide_eq_true q))
      omega
    · omega
end K23
/-! greatest common divisors and square-free parts of products of factors -/
namespace K23
def Fac (l : List Int) (F : List (List Int)) : Prop := ∃ c : Rat, c ≠ 0 ∧ ∀ x, evI l x = c * prodE F x
theorem CD.fac {a b h : List Int} (C : CD a b h) {G A1 B1 : Rat → Rat} (pG : Pol G) (pA : Pol A1) (pB : Pol B1) (nG : NZ G) (ea : ∀ x, evI a x = G x * A1 x) (eb : ∀ x, evI b x = G x * B1 x) (cop : Cop A1 B1) : ∃ t : Rat, t ≠ 0 ∧ ∀ x, evI h x = t * G x := by
  obtain ⟨u, v, pu, pv, e⟩ := C.comb
  obtain ⟨w1, pw1, d1⟩ := C.dvA
  obtain ⟨w2, pw2, d2⟩ := C.dvB
  obtain ⟨U, V, pU, pV, c⟩ := cop
  -- G = (U w1 + V w2) h, h = (u A1 + v B1) G
  have hG : ∀ x, G x = (U x * w1 x + V x * w2 x) * evI h x := fun x => by
    have a1 := ea x
    have a2 := eb x
    rw [d1] at a1
    rw [d2] at a2
    have a3 := c x
    have a4 : G x * (U x * A1 x + V x * B1 x) = G x := by rw [a3, Rat.mul_one]
    grind
  have hh : ∀ x, evI h x = (u x * A1 x + v x * B1 x) * G x := fun x => by rw [e, ea, eb]; grind
  obtain ⟨t, ht, ct⟩ := unit_const' (t := fun x => u x * A1 x + v x * B1 x) (u := fun x => U x * w1 x + V x * w2 x) (p := G) ((pu.mul pA).add (pv.mul pB)) ((pU.mul pw1).add (pV.mul pw2)) pG nG fun x => by
    have e1 := hG x
    rw [hh x] at e1
    show (u x * A1 x + v x * B1 x) * (U x * w1 x + V x * w2 x) * G x = G x
    grind
  exact ⟨t, ht, fun x => by rw [hh, ct x]⟩
theorem prodE_append : ∀ (A B : List (List Int)) (x : Rat), prodE (A ++ B) x = prodE A x * prodE B x
  | [], B, x => by simp [prodE]
  | f :: A, B, x => by
    show evI f x * prodE (A ++ B) x = evI f x * prodE A x * prodE B x
    rw [prodE_append A B x]; grind
theorem prodE_split (p : List Int → Bool) : ∀ (F : List (List Int)) (x : Rat), prodE F x = prodE (F.filter p) x * prodE (F.filter fun f => !p f) x
  | [], x => by simp [prodE]
  | f :: F, x => by
    have ih := prodE_split p F x
    cases h : p f with
    | true =>
      rw [List.filter_cons_of_pos h, List.filter_cons_of_neg (by simp [h])]
      show evI f x * prodE F x = evI f x * prodE (F.filter p) x * _
      rw [ih]; grind
    | false =>
      rw [List.filter_cons_of_neg (by simp [h]), List.filter_cons_of_pos (by simp [h])]
      show evI f x * prodE F x = _ * (evI f x * prodE (F.filter fun f => !p f) x)
      rw [ih]; grind
theorem prodE_sub : ∀ {C O : List (List Int)}, C.Nodup → (∀ c ∈ C, c ∈ O) → ∃ O', (∀ g ∈ O', g ∈ O) ∧ ∀ x, prodE O x = prodE C x * prodE O' x
  | [], O, _, _ => ⟨O, fun _ h => h, fun x => by simp [prodE]⟩
  | c :: C, O, nd, h => by
    obtain ⟨n1, n2⟩ := List.nodup_cons.mp nd
    have hc := h c List.mem_cons_self
    obtain ⟨O', h1, h2⟩ := prodE_sub (C := C) (O := O.erase c) n2 fun d hd => (List.mem_erase_of_ne (fun (e : d = c) => n1 (by rw [← e]; exact hd))).mpr (h d (List.mem_cons_of_mem _ hd))
    refine ⟨O', fun g hg => List.mem_of_mem_erase (h1 g hg), fun x => ?_⟩
    show _ = evI c x * prodE C x * prodE O' x
    rw [prodE_erase hc, h2]; grind
def common (F O : List (List Int)) : List (List Int) := F.filter fun f => decide (f ∈ O)
theorem gcd_fac {p a g : List Int} {F O : List (List Int)} (C : CD p a g) (hF : ∀ f ∈ F, f ∈ menu) (nF : F.Nodup) (hO : ∀ f ∈ O, f ∈ menu) (fp : Fac p F) (fa : Fac a O) : Fac g (common F O) := by
  obtain ⟨c, hc, ep⟩ := fp
  obtain ⟨d, hd, ea⟩ := fa
  have nC : (common F O).Nodup := nF.sublist List.filter_sublist
  obtain ⟨O', h1, h2⟩ := prodE_sub (O := O) nC fun f hf => of_decide_eq_true (List.mem_filter.mp hf).2
  have hC : ∀ f ∈ common F O, f ∈ menu := fun f hf => hF f (List.mem_filter.mp hf).1
  exact C.fac (.prodE _) ((Pol.prodE (F.filter fun f => !decide (f ∈ O))).smul c) ((Pol.prodE O').smul d) (nz_prodE hC)
    (fun x => by rw [ep, prodE_split (fun f => decide (f ∈ O))]; show c * (prodE (common F O) x * _) = _; grind)
    (fun x => by rw [ea, h2]; grind)
    (Cop.smul_l hc (Cop.smul_r hd (cop_prods (fun f hf => hF f (List.mem_filter.mp hf).1) (fun f hf => hO f (h1 f hf)) fun f hf z => by
      have := (List.mem_filter.mp hf).2
      simp at this
      exact this (h1 f z))))
/-! the derivative of a product with some factors twice -/
theorem xs_append (e : List Int → Rat) : ∀ (A B : List (List Int)) (x : Rat), xs e (A ++ B) x = xs e A x * prodE B x + prodE A x * xs e B x
  | [], B, x => by simp [xs, prodE]; grind
  | f :: A, B, x => by
    show e f * (evI (derI f) x * prodE (A ++ B) x) + evI f x * xs e (A ++ B) x = (e f * (evI (derI f) x * prodE A x) + evI f x * xs e A x) * prodE B x + evI f x * prodE A x * xs e B x
    rw [xs_append e A B x, prodE_append]; grind
def e1 (p : List Int → Bool) (f : List Int) : Rat := if p f = true then 1 else 0
theorem xs_filter (p : List Int → Bool) : ∀ (R : List (List Int)) (x : Rat), prodE R x * xs (fun _ => 1) (R.filter p) x = prodE (R.filter p) x * xs (e1 p) R x
  | [], x => by simp [xs, prodE]
  | f :: R, x => by
    have ih := xs_filter p R x
    cases h : p f with
    | true =>
      rw [List.filter_cons_of_pos h]
      show evI f x * prodE R x * (1 * (evI (derI f) x * prodE (R.filter p) x) + evI f x * xs (fun _ => 1) (R.filter p) x) = evI f x * prodE (R.filter p) x * (e1 p f * (evI (derI f) x * prodE R x) + evI f x * xs (e1 p) R x)
      have : e1 p f = 1 := by unfold e1; rw [if_pos h]
      rw [this]; grind
    | false =>
      rw [List.filter_cons_of_neg (by simp [h])]
      show evI f x * prodE R x * _ = _ * (e1 p f * (evI (derI f) x * prodE R x) + evI f x * xs (e1 p) R x)
      have : e1 p f = 0 := by unfold e1; rw [if_neg (by simp [h])]
      rw [this]; grind
theorem xs_add (e e' : List Int → Rat) : ∀ (R : List (List Int)) (x : Rat), xs (fun f => e f + e' f) R x = xs e R x + xs e' R x
  | [], x => by simp [xs]; grind
  | f :: R, x => by
    show (e f + e' f) * _ + evI f x * xs (fun f => e f + e' f) R x = e f * _ + evI f x * xs e R x + (e' f * _ + evI f x * xs e' R x)
    rw [xs_add e e' R x]; grind
theorem fac_dev {a : List Int} {c : Rat} {F : List (List Int)} (e : ∀ x, evI a x = c * prodE F x) (x : Rat) : evI (derI a) x = c * xs (fun _ => 1) F x := by
  rw [evI_der, dev_congr (m := smulL c (prodL F)) (fun x => by rw [ev_smulL, ev_prodL]; exact e x), dev_smulL, dev_prodL]
/-- the greatest common divisor of a and its derivative: the factors that stand twice -/
theorem gcd_der {a h : List Int} {R : List (List Int)} {p : List Int → Bool} (C : CD a (derI a) h) (hR : ∀ f ∈ R, f ∈ menu) (nR : R.Nodup) (fa : Fac a (R ++ R.filter p)) : Fac h (R.filter p) := by
  obtain ⟨c, hc, ea⟩ := fa
  have hD : ∀ f ∈ R.filter p, f ∈ menu := fun f hf => hR f (List.mem_filter.mp hf).1
  refine C.fac (.prodE _) ((Pol.prodE R).smul c) ((Pol.xs (fun f => 1 + e1 p f) R).smul c) (nz_prodE hD) (fun x => ?_) (fun x => ?_) (Cop.smul_l hc (Cop.smul_r hc (cop_xs _ hR nR fun f _ => ?_)))
  · rw [ea, prodE_append]; grind
  · rw [fac_dev ea, xs_append, xs_filter, xs_add]; grind
  · show 1 + e1 p f ≠ 0
    unfold e1
    split <;> decide +kernel
/-- a times a square-free part: what is left -/
theorem quot_fac {a h s : List Int} {R D : List (List Int)} {k : Rat} (hD : ∀ f ∈ D, f ∈ menu) (hk : k ≠ 0) (fa : Fac a (R ++ D)) (fh : Fac h D) (e : ∀ x, k * evI s x * evI h x = evI a x) : Fac s R := by
  obtain ⟨c, hc, ea⟩ := fa
  obtain ⟨d, hd, eh⟩ := fh
  have hkd := mul_ne hk hd
  obtain ⟨i, hi⟩ : ∃ i, k * d * i = 1 := ⟨(k * d)⁻¹, mul_inv' hkd⟩
  have i0 : i ≠ 0 := fun z => by rw [z, Rat.mul_zero] at hi; exact absurd hi (by decide)
  refine ⟨i * c, mul_ne i0 hc, fun x => ?_⟩
  refine cancel (f := evI s) (g := fun x => i * c * prodE R x) (d := prodE D) (.evI s) ((Pol.prodE R).smul _) (.prodE D) (nz_prodE hD) (fun x => ?_) x
  have e1 := e x
  rw [eh, ea, prodE_append] at e1
  have : evI s x * prodE D x = (k * d * i) * (evI s x * prodE D x) := by rw [hi, Rat.one_mul]
  rw [this]; grind
/-! degrees -/
theorem menu_len : (menu.all fun f => decide (2 ≤ f.length ∧ f.length ≤ 4)) = true := by decide +kernel
theorem fac_len {a : List Int} {F : List (List Int)} (ht : TrI a) (hF : ∀ f ∈ F, f ∈ menu) (fa : Fac a F) : a ≠ [] ∧ (F ≠ [] ↔ 1 < a.length) := by
  obtain ⟨c, hc, e⟩ := fa
  have ha : a ≠ [] := fun z => by
    obtain ⟨x, hx⟩ := nz_prodE hF
    have := e x
    rw [z, evI_nil] at this
    exact mul_ne hc hx this.symm
  refine ⟨ha, ⟨fun h => ?_, fun h z => ?_⟩⟩
  · apply Decidable.byContradiction
    intro q
    have hp := List.length_pos_iff.mpr ha
    obtain ⟨k, rfl⟩ := List.length_eq_one_iff.mp (show a.length = 1 by omega)
    cases F with
    | nil => exact h rfl
    | cons f F =>
      have hk : (k : Rat) ≠ 0 := by
        have := ht.last ha
        exact_mod_cast this
      obtain ⟨i, hi⟩ : ∃ i, (k : Rat) * i = 1 := ⟨(k : Rat)⁻¹, mul_inv' hk⟩
      obtain ⟨t, ht0, ct⟩ := unit_const (t := evI f) (u := fun x => i * c * prodE F x) (.evI f) ((Pol.prodE F).smul _) fun x => by
        have := e x
        rw [evI_cons, evI_nil] at this
        have e2 : c * (evI f x * prodE F x) = k := by
          have : prodE (f :: F) x = evI f x * prodE F x := rfl
          grind
        show evI f x * (i * c * prodE F x) = 1
        have : evI f x * (i * c * prodE F x) = i * (c * (evI f x * prodE F x)) := by grind
        rw [this, e2]; grind
      have hm := tr_menu (hF f List.mem_cons_self)
      have l := len_of_ev (l := toQ f) (m := [t]) hm.1.tr (fun c h => by simp at h; rw [← h]; exact ht0) fun x => by
        have : ev (toQ f) x = t := ct x
        rw [this]; simp; grind
      have := of_decide_eq_true (List.all_eq_true.mp menu_len f (hF f List.mem_cons_self))
      rw [toQ_len] at l
      simp only [List.length_cons, List.length_nil] at l
      omega
  · subst z
    have l := len_of_ev (l := toQ a) (m := [c]) ht.tr (fun d h => by simp at h; rw [← h]; exact hc) fun x => by
      have : ev (toQ a) x = c * 1 := e x
      rw [this]; simp; grind
    rw [toQ_len] at l
    simp only [List.length_cons, List.length_nil] at l
    omega
/-! sizes -/
def nrm (f : List Int) : Nat := (f.map Int.natAbs).sum
theorem conv_ex (P : List Int) (W : Nat) (hW : ∀ i, (cI P i).natAbs ≤ W) : ∀ f : List Int, ∃ Q : List Int, (∀ x, evI Q x = evI f x * evI P x) ∧ ∀ i, (cI Q i).natAbs ≤ nrm f * W
  | [] => ⟨[], fun x => by rw [evI_nil, Rat.zero_mul], fun i => by rw [cI_nil]; simp⟩
  | c :: t => by
    obtain ⟨Q, h1, h2⟩ := conv_ex P W hW t
    refine ⟨addI (scaleI P c) (0 :: Q), fun x => ?_, fun i => ?_⟩
    · rw [evI_add, evI_scale, evI_cons, evI_cons, h1]; push_cast; grind
    · rw [cI_add, cI_scale]
      have e : nrm (c :: t) * W = c.natAbs * W + nrm t * W := by
        show (c.natAbs + nrm t) * W = _
        rw [Nat.add_mul]
      have a1 : (cI P i * c).natAbs ≤ c.natAbs * W := by
        rw [Int.natAbs_mul, Nat.mul_comm]
        exact Nat.mul_le_mul_left _ (hW i)
      have a2 : (cI (0 :: Q) i).natAbs ≤ nrm t * W := by
        cases i with
        | zero => rw [cI_zero]; simp
        | succ i => rw [cI_succ]; exact h2 i
      omega
theorem menu_nrm : (menu.all fun f => decide (nrm f ≤ 203)) = true := by decide +kernel
theorem prod_ex : ∀ {F : List (List Int)}, (∀ f ∈ F, f ∈ menu) → ∃ P : List Int, (∀ x, evI P x = prodE F x) ∧ ∀ i, (cI P i).natAbs ≤ 203 ^ F.length
  | [], _ => ⟨[1], fun x => by rw [evI_cons, evI_nil]; simp [prodE]; grind, fun i => by cases i with | zero => exact Nat.le_refl _ | succ i => rw [cI_succ, cI_nil]; simp⟩
  | f :: F, h => by
    obtain ⟨P, h1, h2⟩ := prod_ex fun g hg => h g (List.mem_cons_of_mem _ hg)
    obtain ⟨Q, k1, k2⟩ := conv_ex P _ h2 f
    refine ⟨Q, fun x => by rw [k1, h1]; rfl, fun i => Nat.le_trans (k2 i) ?_⟩
    rw [List.length_cons, Nat.pow_succ, Nat.mul_comm]
    exact Nat.mul_le_mul_left _ (of_decide_eq_true (List.all_eq_true.mp menu_nrm f (h f List.mem_cons_self)))
theorem mul_den_num (t : Rat) : t * (t.den : Rat) = t.num := by
  have h0 : ((t.den : Int) : Rat) ≠ 0 := by have := t.den_nz; exact_mod_cast this
  have e := Rat.num_divInt_den t
  rw [Rat.divInt_eq_div] at e
  have e2 := Rat.div_mul_cancel (a := (t.num : Rat)) h0
  rw [e] at e2
  exact_mod_cast e2
/-- a primitive multiple is not greater -/
theorem prim_le {h P : List Int} {t : Rat} (hp : Prim h) (e : ∀ x, evI h x = t * evI P x) (i : Nat) : (cI h i).natAbs ≤ (cI P i).natAbs := by
  have c : ∀ i, (cI h i : Rat) = t * cI P i := fun i => by
    have := cf_of_ev (l := toQ h) (m := smulL t (toQ P)) (fun x => by rw [ev_smulL]; exact e x) i
    rw [cf_smulL, cf_toQ, cf_toQ] at this
    exact this
  have ht : t * (t.den : Rat) = t.num := mul_den_num t
  have c2 : ∀ i, cI h i * t.den = t.num * cI P i := fun i => by
    have e1 : (cI h i : Rat) * (t.den : Rat) = t.num * cI P i := by rw [c, ← ht]; grind
    exact_mod_cast e1
  have dv : t.num ∣ 1 := hp _ fun d hd => by
    obtain ⟨i, hi, rfl⟩ := List.getElem_of_mem hd
    have := c2 i
    rw [cI_get hi] at this
    have dv : t.num.natAbs ∣ (h[i]).natAbs * t.den := by
      have := congrArg Int.natAbs this
      rw [Int.natAbs_mul, Int.natAbs_mul] at this
      exact ⟨_, this⟩
    exact Int.natAbs_dvd_natAbs.mp (Nat.Coprime.dvd_of_dvd_mul_right t.reduced dv)
  have n1 : t.num.natAbs = 1 := by
    have := Int.natAbs_dvd_natAbs.mpr dv
    exact Nat.dvd_one.mp this
  have := congrArg Int.natAbs (c2 i)
  rw [Int.natAbs_mul, Int.natAbs_mul, n1, Nat.one_mul] at this
  rw [← this]
  have dp : 1 ≤ (t.den : Int).natAbs := by have := t.den_pos; omega
  exact Nat.le_mul_of_pos_right _ dp
theorem fac_prim_le {h : List Int} {F : List (List Int)} (hp : Prim h) (hF : ∀ f ∈ F, f ∈ menu) (fh : Fac h F) (i : Nat) : (cI h i).natAbs ≤ 203 ^ F.length := by
  obtain ⟨t, _, e⟩ := fh
  obtain ⟨P, h1, h2⟩ := prod_ex hF
  exact Nat.le_trans (prim_le hp (t := t) (fun x => by rw [e, h1]) i) (h2 i)
end K23
/-! numbers: the pairs of the program are Rat's own -/
namespace K23
theorem num_eq (n d : Int) (hd : d ≠ 0) (n' d' : Int) (hn : n' = if d < 0 then -n else n) (hd' : d' = if d < 0 then -d else d) :
    n'.fdiv ((Nat.gcd n'.natAbs d'.natAbs : Nat) : Int) = (Rat.divInt n d).num ∧ d'.fdiv ((Nat.gcd n'.natAbs d'.natAbs : Nat) : Int) = ((Rat.divInt n d).den : Int) ∧ ((Nat.gcd n'.natAbs d'.natAbs : Nat) : Int) ≠ 0 := by
  have e : Rat.divInt n d = mkRat n' d'.natAbs := by
    by_cases h : d < 0
    · rw [if_pos h] at hn hd'
      rw [hn, hd', ← Rat.divInt_ofNat, ← Rat.neg_divInt_neg n d]
      congr 1
      omega
    · rw [if_neg h] at hn hd'
      rw [hn, hd', ← Rat.divInt_ofNat]
      congr 1
      omega
  have dp : d'.natAbs ≠ 0 := by split at hd' <;> omega
  have d0 : 0 < d' := by split at hd' <;> omega
  have g0 : (Nat.gcd n'.natAbs d'.natAbs) ≠ 0 := fun z => dp (Nat.eq_zero_of_gcd_eq_zero_right z)
  refine ⟨?_, ?_, by omega⟩
  · rw [e, Rat.num_mkRat, if_neg dp, Int.fdiv_eq_ediv_of_nonneg _ (by omega), Nat.gcd_comm]
  · rw [e, Rat.den_mkRat, if_neg dp, Int.fdiv_eq_ediv_of_nonneg _ (by omega), Nat.gcd_comm]
    have : d' = (d'.natAbs : Int) := by omega
    generalize hz : d'.natAbs = z at *
    subst this
    norm_cast
theorem plus_eq (a b : Rat) : Rat.divInt (a.num * b.den + b.num * a.den) (a.den * b.den) = a + b := by
  rw [← Int.natCast_mul, Rat.divInt_ofNat, ← Rat.add_def']
theorem minus_eq (a b : Rat) : Rat.divInt (a.num * b.den - b.num * a.den) (a.den * b.den) = a - b := by
  rw [← Int.natCast_mul, Rat.divInt_ofNat, ← Rat.sub_def']
theorem times_eq (a b : Rat) : Rat.divInt (a.num * b.num) (a.den * b.den) = a * b := by
  rw [← Int.natCast_mul, Rat.divInt_ofNat, ← Rat.mul_def']
end K23
namespace K23
theorem half_eq (x y : Rat) : Rat.divInt (x + y).num (2 * (x + y).den) = (x + y) / 2 := by
  have h : Rat.divInt (x + y).num (2 * (x + y).den) = Rat.divInt (x + y).num (x + y).den * Rat.divInt 1 2 := by
    rw [Rat.divInt_mul_divInt, Int.mul_one, Int.mul_comm]
  rw [h, Rat.num_divInt_den, Rat.divInt_eq_div, Rat.div_def, Rat.div_def]
  rw [show ((1 : Int) : Rat) = 1 from rfl, show ((2 : Int) : Rat) = 2 from rfl, Rat.one_mul]
theorem cmp_eq (a b : Rat) : (a.num * b.den < b.num * a.den ↔ a < b) := (Rat.lt_iff a b).symm
end K23
/-! sizes in bits -/
namespace K23
/-- numerator at most 2 ^ n, denominator at most 2 ^ d -/
def R2b (r : Rat) (n d : Nat) : Prop := r.num.natAbs ≤ 2 ^ n ∧ r.den ≤ 2 ^ d
theorem mkRat_le (n : Int) (d : Nat) : (mkRat n d).num.natAbs ≤ n.natAbs ∧ (d ≠ 0 → (mkRat n d).den ≤ d) := by
  by_cases h : d = 0
  · subst h; rw [Rat.mkRat_zero]; exact ⟨Nat.zero_le _, fun z => absurd rfl z⟩
  · refine ⟨?_, fun _ => ?_⟩
    · rw [Rat.num_mkRat, if_neg h, Int.natAbs_ediv_of_dvd (Int.dvd_natAbs.mp (Int.ofNat_dvd.mpr (Nat.gcd_dvd_right d n.natAbs)))]
      exact Nat.div_le_self _ _
    · rw [Rat.den_mkRat, if_neg h]
      exact Nat.div_le_self _ _
theorem R2b.mul {a b : Rat} {n d n' d' : Nat} (h : R2b a n d) (k : R2b b n' d') : R2b (a * b) (n + n') (d + d') := by
  rw [R2b, Rat.mul_def']
  obtain ⟨h1, h2⟩ := mkRat_le (a.num * b.num) (a.den * b.den)
  refine ⟨Nat.le_trans h1 ?_, Nat.le_trans (h2 (Nat.mul_ne_zero a.den_nz b.den_nz)) ?_⟩
  · rw [Int.natAbs_mul, Nat.pow_add]
    exact Nat.mul_le_mul h.1 k.1
  · rw [Nat.pow_add]
    exact Nat.mul_le_mul h.2 k.2
theorem pow_add_le {x y m : Nat} (h1 : x ≤ 2 ^ m) (h2 : y ≤ 2 ^ m) : x + y ≤ 2 ^ (m + 1) := by
  rw [Nat.pow_succ]; omega
theorem R2b.add {a b : Rat} {n d n' d' m : Nat} (h : R2b a n d) (k : R2b b n' d') (hm : n + d' ≤ m) (hm2 : n' + d ≤ m) : R2b (a + b) (m + 1) (d + d') := by
  rw [R2b, Rat.add_def']
  obtain ⟨h1, h2⟩ := mkRat_le (a.num * b.den + b.num * a.den) (a.den * b.den)
  refine ⟨Nat.le_trans h1 (Nat.le_trans (Int.natAbs_add_le _ _) ?_), Nat.le_trans (h2 (Nat.mul_ne_zero a.den_nz b.den_nz)) ?_⟩
  · rw [Int.natAbs_mul, Int.natAbs_mul]
    refine pow_add_le ?_ ?_
    · refine Nat.le_trans (Nat.mul_le_mul h.1 (show (b.den : Int).natAbs ≤ 2 ^ d' from k.2)) ?_
      rw [← Nat.pow_add]
      exact Nat.pow_le_pow_right (by omega) hm
    · refine Nat.le_trans (Nat.mul_le_mul k.1 (show (a.den : Int).natAbs ≤ 2 ^ d from h.2)) ?_
      rw [← Nat.pow_add]
      exact Nat.pow_le_pow_right (by omega) hm2
  · rw [Nat.pow_add]
    exact Nat.mul_le_mul h.2 k.2
theorem R2b.int {c : Int} {k : Nat} (h : c.natAbs ≤ 2 ^ k) : R2b (c : Rat) k 0 := ⟨h, Nat.le_refl _⟩
theorem R2b.mono {a : Rat} {n d n' d' : Nat} (h : R2b a n d) (h1 : n ≤ n') (h2 : d ≤ d') : R2b a n' d' :=
  ⟨Nat.le_trans h.1 (Nat.pow_le_pow_right (by omega) h1), Nat.le_trans h.2 (Nat.pow_le_pow_right (by omega) h2)⟩
theorem R2b.neg {a : Rat} {n d : Nat} (h : R2b a n d) : R2b (-a) n d := by
  obtain ⟨h1, h2⟩ := h
  exact ⟨by rw [Rat.neg_num, Int.natAbs_neg]; exact h1, by rw [Rat.neg_den]; exact h2⟩
theorem R2b.zero : R2b 0 0 0 := ⟨by decide, by decide⟩
theorem R2b.inv {c : Int} (hc : c ≠ 0) {k : Nat} (h : c.natAbs ≤ 2 ^ k) : R2b (Rat.divInt 1 c) 0 k := by
  rw [R2b, Rat.den_divInt, Rat.num_divInt, if_neg hc]
  have g1 : c.gcd 1 = 1 := by simp
  rw [Int.gcd_comm] at g1
  have g2 : c.gcd 1 = 1 := by simp
  simp only [g1, g2]
  refine ⟨?_, by simpa using h⟩
  rcases Int.lt_or_gt_of_ne hc with q | q
  · simp [Int.sign_eq_neg_one_of_neg q]
  · simp [Int.sign_eq_one_of_pos q]
theorem lt_pow_of_le {x n : Nat} (h : x ≤ 2 ^ n) : x < 2 ^ (n + 1) := by
  have : 0 < 2 ^ n := Nat.two_pow_pos n
  rw [Nat.pow_succ]; omega
/-! the false rest, step by step -/
def frP (b : List Int) (lead : Int) (m : Nat) : Nat → List Int → List Int
  | 0, a => a
  | i + 1, a => frStep b lead (m - i) (frP b lead m i a)
theorem frLoop_frP (b : List Int) (lead : Int) (m : Nat) (a : List Int) : ∀ n j, j + n = m → frLoop b lead n (frP b lead m j a) = frP b lead m (m + 1) a
  | 0, j, h => by
    have e : j = m := by omega
    subst e
    show frStep b lead 0 _ = frStep b lead (j - j) _
    rw [Nat.sub_self]
  | n + 1, j, h => by
    show frLoop b lead n (frStep b lead (n + 1) _) = _
    rw [← frLoop_frP b lead m a n (j + 1) (by omega)]
    show _ = frLoop b lead n (frStep b lead (m - j) _)
    rw [show m - j = n + 1 by omega]
theorem frI_frP {a b : List Int} (h : b.length ≤ a.length) : frI a b = frP b (cI b (b.length - 1)) (a.length - b.length) (a.length - b.length + 1) a := by
  unfold frI
  rw [if_neg (by omega)]
  exact frLoop_frP b _ _ a _ 0 (by omega)
theorem frP_len {a b : List Int} (hb : b ≠ []) : ∀ i, i ≤ a.length - b.length + 1 → b.length ≤ a.length → (frP b (cI b (b.length - 1)) (a.length - b.length) i a).length + i ≤ a.length
  | 0, _, _ => Nat.le_refl _
  | i + 1, hi, h => by
    have ih := frP_len hb i (by omega) h
    have hp := List.length_pos_iff.mpr hb
    have := (frStep_spec hb (a.length - b.length - i) (frP b (cI b (b.length - 1)) (a.length - b.length) i a) (by omega)).2.1
    show (frStep b _ (a.length - b.length - i) _).length + (i + 1) ≤ _
    omega
def PBd (ns : List Int) (k : Nat) : Prop := ∀ i, (cI ns i).natAbs < 2 ^ k
theorem PBd.step {b rest : List Int} {lead : Int} {kb kr : Nat} (hb : PBd b kb) (hl : lead.natAbs < 2 ^ kb) (hr : PBd rest kr) (n : Nat) : PBd (frStep b lead n rest) (kr + kb + 1) := fun i => by
  unfold frStep
  rw [cI_sub, cI_scale, cI_shift]
  have a1 : (cI rest i * lead).natAbs < 2 ^ (kr + kb) := by
    rw [Int.natAbs_mul, Nat.pow_add]
    exact Nat.mul_lt_mul'' (hr i) hl
  have a2 : (if i < n then 0 else cI (scaleI b (cI rest (n + b.length - 1))) (i - n)).natAbs < 2 ^ (kr + kb) := by
    split
    · exact Nat.two_pow_pos _
    · rw [cI_scale, Int.natAbs_mul, Nat.mul_comm, Nat.pow_add]
      exact Nat.mul_lt_mul'' (hr _) (hb _)
  have := Int.natAbs_sub_le (cI rest i * lead) (if i < n then 0 else cI (scaleI b (cI rest (n + b.length - 1))) (i - n))
  rw [Nat.pow_succ]
  omega
theorem PBd.frP {a b : List Int} {ka kb : Nat} (ha : PBd a ka) (hb : PBd b kb) (m : Nat) : ∀ i, PBd (frP b (cI b (b.length - 1)) m i a) (ka + i * (kb + 1))
  | 0 => by rw [Nat.zero_mul]; exact ha
  | i + 1 => by
    have := PBd.step hb (hb (b.length - 1)) (PBd.frP ha hb m i) (m - i)
    rw [show ka + (i + 1) * (kb + 1) = ka + i * (kb + 1) + kb + 1 by rw [Nat.add_mul]; omega]
    exact this
theorem PBd.mono {a : List Int} {k l : Nat} (h : PBd a k) (hl : k ≤ l) : PBd a l := fun i => Nat.lt_of_lt_of_le (h i) (Nat.pow_le_pow_right (by omega) hl)
theorem PBd.frI {a b : List Int} {ka kb : Nat} (ha : PBd a ka) (hb : PBd b kb) : PBd (frI a b) (ka + (a.length - b.length + 1) * (kb + 1)) := by
  by_cases h : b.length ≤ a.length
  · rw [frI_frP h]; exact ha.frP hb _ _
  · unfold K23.frI
    rw [if_pos (by omega)]
    exact ha.mono (by omega)
theorem natAbs_div_le {c k : Int} (hk : k ≠ 0) (h : k ∣ c) : (c.fdiv k).natAbs ≤ c.natAbs := by
  have e := fdiv_of_dvd hk h
  have : c.natAbs = k.natAbs * (c.fdiv k).natAbs := by rw [← Int.natAbs_mul, e]
  rw [this]
  exact Nat.le_mul_of_pos_left _ (by omega)
theorem PBd.plain {a : List Int} {k : Nat} (ht : TrI a) (h : PBd a k) : PBd (plainI a) k := by
  intro i
  unfold plainI
  by_cases hn : a = []
  · rw [if_pos hn, cI_nil]; exact Nat.two_pow_pos _
  · rw [if_neg hn]
    have hp := cont_pos ht hn
    generalize hk : (if cI a (a.length - 1) < 0 then - contentI a else contentI a) = q
    have hk' : q = contentI a ∨ q = - contentI a := by rw [← hk]; split; exact .inr rfl; exact .inl rfl
    rw [cI_map (f := (·.fdiv q)) (by simp)]
    by_cases z : cI a i = 0
    · rw [z]; simp; exact Nat.two_pow_pos _
    · refine Nat.lt_of_le_of_lt (natAbs_div_le (by omega) ?_) (h i)
      have := cont_dvd (cI_mem z)
      rcases hk' with e | e
      · rw [e]; exact this
      · rw [e]; exact Int.neg_dvd.mpr this
theorem PBd.bare {a : List Int} {k : Nat} (ht : TrI a) (hn : a ≠ []) {f : Int} (hf : f = 1 ∨ f = -1) (h : PBd a k) : PBd (bareI a f) k := by
  intro i
  unfold bareI
  have hp := cont_pos ht hn
  rw [cI_map (f := fun c => f * c.fdiv (contentI a)) (by simp)]
  by_cases z : cI a i = 0
  · rw [z]; simp; exact Nat.two_pow_pos _
  · refine Nat.lt_of_le_of_lt ?_ (h i)
    rw [Int.natAbs_mul]
    have := natAbs_div_le (c := cI a i) (k := contentI a) (by omega) (cont_dvd (cI_mem z))
    rcases hf with e | e <;> rw [e] <;> simpa using this
theorem PBd.der {a : List Int} {k : Nat} (h : PBd a k) (hl : a.length ≤ 16) : PBd (derI a) (k + 4) := fun i => by
  rw [cI_der, Int.natAbs_mul, Nat.pow_add]
  by_cases hi : i + 1 < 16
  · exact Nat.mul_lt_mul'' (h _) (by show i + 1 < 2 ^ 4; omega)
  · rw [cI_out (show a.length ≤ i + 1 by omega)]
    have : 0 < 2 ^ k * 2 ^ 4 := Nat.mul_pos (Nat.two_pow_pos k) (by decide)
    simpa using this
/-! the growth along a chain of rests -/
theorem grow_pow (A B : Nat) : ∀ g, (5 * A + (5 * (g + 1) + 7) * B + 5 * (g + 1) + 25) * 2 ^ (g + 1) ≤ (2 * A + 5 * B + 20) * 5 ^ (g + 1)
  | 0 => by simp; omega
  | g + 1 => by
    have ih := grow_pow A B g
    rw [Nat.pow_succ 2 (g + 1), Nat.pow_succ 5 (g + 1), ← Nat.mul_assoc, ← Nat.mul_assoc]
    refine Nat.le_trans ?_ (Nat.mul_le_mul_right 5 ih)
    rw [Nat.mul_right_comm, Nat.mul_right_comm _ _ 5]
    refine Nat.mul_le_mul_right _ ?_
    have e1 : (5 * (g + 1 + 1) + 7) * B = (5 * (g + 1) + 7) * B + 5 * B := by
      rw [show 5 * (g + 1 + 1) + 7 = (5 * (g + 1) + 7) + 5 by omega, Nat.add_mul]
    have e2 : 7 * B ≤ (5 * (g + 1) + 7) * B := Nat.mul_le_mul_right _ (by omega)
    omega
theorem grow {A B Φ t g e : Nat} (h : (2 * A + 5 * B + 20) * 2 ^ t ≤ Φ * 5 ^ t) (he : e = max g 1) : (2 * B + 5 * (A + (g + 1) * (B + 1)) + 20) * 2 ^ (t + e) ≤ Φ * 5 ^ (t + e) := by
  have key : (2 * B + 5 * (A + (g + 1) * (B + 1)) + 20) * 2 ^ e ≤ (2 * A + 5 * B + 20) * 5 ^ e := by
    cases g with
    | zero =>
      have : e = 1 := by omega
      subst this
      simp
      omega
    | succ g =>
      have : e = g + 1 := by omega
      subst this
      refine Nat.le_trans (Nat.mul_le_mul_right _ ?_) (grow_pow A B g)
      have e1 : (g + 1 + 1) * (B + 1) = (g + 1 + 1) * B + (g + 1 + 1) := by rw [Nat.mul_add, Nat.mul_one]
      have e2 : (5 * (g + 1) + 7) * B = 5 * ((g + 1 + 1) * B) + 2 * B := by
        rw [← Nat.mul_assoc, ← Nat.add_mul]
        congr 1
      omega
  rw [Nat.pow_add, Nat.pow_add]
  calc (2 * B + 5 * (A + (g + 1) * (B + 1)) + 20) * (2 ^ t * 2 ^ e) = ((2 * B + 5 * (A + (g + 1) * (B + 1)) + 20) * 2 ^ e) * 2 ^ t := by
        rw [Nat.mul_comm (2 ^ t), ← Nat.mul_assoc]
    _ ≤ ((2 * A + 5 * B + 20) * 5 ^ e) * 2 ^ t := Nat.mul_le_mul_right _ key
    _ = ((2 * A + 5 * B + 20) * 2 ^ t) * 5 ^ e := Nat.mul_right_comm _ _ _
    _ ≤ (Φ * 5 ^ t) * 5 ^ e := Nat.mul_le_mul_right _ h
    _ = Φ * (5 ^ t * 5 ^ e) := by rw [Nat.mul_assoc]
theorem grown {X Φ t m : Nat} (h : X * 2 ^ t ≤ Φ * 5 ^ t) (ht : t ≤ m) : X * 2 ^ m ≤ Φ * 5 ^ m := by
  obtain ⟨d, rfl⟩ := Nat.le.dest ht
  rw [Nat.pow_add, Nat.pow_add, ← Nat.mul_assoc, ← Nat.mul_assoc]
  exact Nat.mul_le_mul h (Nat.pow_le_pow_left (by omega) d)
end K23
/-! sizes in common_divisor and chain_of -/
namespace K23
structure CdB (f s : List Int) : Prop where
  ex : ∃ A B t, PBd f A ∧ PBd s B ∧ (2 * A + 5 * B + 20) * 2 ^ t ≤ 400 * 5 ^ t ∧ ((s.length < f.length ∧ t + f.length ≤ 16) ∨ (t = 0 ∧ f.length ≤ 15 ∧ s.length ≤ 15))
theorem CdB.start {f s : List Int} {A B : Nat} (hf : PBd f A) (hs : PBd s B) (h : 2 * A + 5 * B + 20 ≤ 400) (lf : f.length ≤ 15) (ls : s.length ≤ 15) : CdB f s :=
  ⟨A, B, 0, hf, hs, by simpa using h, .inr ⟨rfl, lf, ls⟩⟩
theorem CdB.lens {f s : List Int} (h : CdB f s) : f.length ≤ 16 ∧ s.length ≤ 16 := by
  obtain ⟨A, B, t, _, _, _, h⟩ := h.ex
  omega
theorem CdB.step {f s : List Int} (h : CdB f s) (hf : TrI f) (hs : TrI s) (hn : s ≠ []) : (∃ ka kb, PBd f ka ∧ PBd s kb ∧ ka + (f.length - s.length + 1) * (kb + 1) + kb + 1 ≤ 134217000) ∧ CdB s (frI f s) := by
  obtain ⟨A, B, t, a1, b1, g1, l1⟩ := h.ex
  have hp := List.length_pos_iff.mpr hn
  have gr := grow (g := f.length - s.length) (e := max (f.length - s.length) 1) g1 rfl
  have bound := grown (m := 15) gr (by omega)
  obtain ⟨t1, t2, t3, _⟩ := frI_spec hf hs hn
  have len : (frI f s).length < s.length := by
    by_cases c : s.length ≤ f.length
    · exact t3 c
    · unfold frI; rw [if_pos (by omega)]; omega
  refine ⟨⟨A, B, a1, b1, ?_⟩, ⟨B, _, t + max (f.length - s.length) 1, b1, PBd.frI a1 b1, gr, .inl ⟨len, by omega⟩⟩⟩
  have e : B + 1 ≤ (f.length - s.length + 1) * (B + 1) := Nat.le_mul_of_pos_left _ (by omega)
  generalize (f.length - s.length + 1) * (B + 1) = X at bound e ⊢
  rw [show (2 : Nat) ^ 15 = 32768 by decide, show (5 : Nat) ^ 15 = 30517578125 by decide] at bound
  omega
theorem CdB.plain {f r : List Int} (h : CdB f r) (hr : TrI r) : CdB f (plainI r) := by
  obtain ⟨A, B, t, a1, b1, g1, l1⟩ := h.ex
  exact ⟨A, B, t, a1, b1.plain hr, g1, by rw [plain_len]; exact l1⟩
end K23
namespace K23
theorem CdB.plain1 {f r : List Int} (h : CdB f r) (hf : TrI f) : CdB (plainI f) r := by
  obtain ⟨A, B, t, a1, b1, g1, l1⟩ := h.ex
  exact ⟨A, B, t, a1.plain hf, b1, g1, by rw [plain_len]; exact l1⟩
end K23
/-! the quotient, step by step -/
namespace K23
section
variable (a b : List Int)
def qM : Nat := a.length - b.length
def lead (b : List Int) : Int := cI b (b.length - 1)
def qF (n : Nat) (r : Nat → Rat) : Rat := r (n + b.length - 1) * Rat.divInt 1 (lead b)
def qS (n : Nat) (f : Rat) (r : Nat → Rat) (k : Nat) : Nat → Rat := fun i => if n ≤ i ∧ i < n + k then r i + f * ((-(cI b (i - n)) : Int) : Rat) else r i
def qR : Nat → Nat → Rat
  | 0 => fun j => (cI a j : Rat)
  | i + 1 => qS b (qM a b - i) (qF b (qM a b - i) (qR i)) (qR i) b.length
def qf (i : Nat) : Rat := qF b (qM a b - i) (qR a b i)
theorem qS_zero (n : Nat) (f : Rat) (r : Nat → Rat) : qS b n f r 0 = r := by
  funext i
  unfold qS
  rw [if_neg (by omega)]
theorem qS_succ (n : Nat) (f : Rat) (r : Nat → Rat) (k : Nat) (i : Nat) : qS b n f r (k + 1) i = if i = n + k then qS b n f r k i + f * ((-(cI b k) : Int) : Rat) else qS b n f r k i := by
  unfold qS
  by_cases h : i = n + k
  · subst h
    rw [if_pos rfl, if_pos ⟨by omega, by omega⟩, if_neg (by omega), show n + k - n = k by omega]
  · rw [if_neg h]
    by_cases h2 : n ≤ i ∧ i < n + k
    · rw [if_pos h2, if_pos ⟨h2.1, by omega⟩]
    · rw [if_neg h2, if_neg (by omega)]
def rL (i : Nat) : List Rat := (List.range a.length).map (qR a b i)
theorem cf_rangeMap (f : Nat → Rat) (n i : Nat) : cf ((List.range n).map f) i = if i < n then f i else 0 := by
  unfold cf
  rw [List.getD_eq_getElem?_getD, List.getElem?_map]
  by_cases h : i < n
  · rw [if_pos h, List.getElem?_range h]; rfl
  · rw [if_neg h, List.getElem?_eq_none (by simpa using h)]; rfl
end
theorem ev_rL {a b : List Int} (hb : b ≠ []) (h : b.length ≤ a.length) {i : Nat} (hi : i ≤ qM a b) (x : Rat) : ev (rL a b (i + 1)) x = ev (rL a b i) x - qf a b i * (pw (qM a b - i) x * evI b x) := by
  have e : ev (rL a b (i + 1)) x = ev (addL (rL a b i) (smulL (-(qf a b i)) (toQ (shiftI b (qM a b - i))))) x := by
    refine ev_of_cf (fun j => ?_) x
    rw [cf_addL, cf_smulL, cf_toQ, cI_shift]
    unfold rL
    rw [cf_rangeMap, cf_rangeMap]
    have hl : qM a b + b.length = a.length := by unfold qM; omega
    have hp := List.length_pos_iff.mpr hb
    by_cases c : j < a.length
    · rw [if_pos c, if_pos c]
      show qS b (qM a b - i) (qf a b i) (qR a b i) b.length j = _
      unfold qS
      by_cases c2 : j < qM a b - i
      · rw [if_neg (by omega), if_pos c2]
        have : ((0 : Int) : Rat) = 0 := rfl
        rw [this]; grind
      · rw [if_neg c2]
        by_cases c3 : j < qM a b - i + b.length
        · rw [if_pos ⟨by omega, c3⟩]; push_cast; grind
        · rw [if_neg (by omega), cI_out (show b.length ≤ j - (qM a b - i) by omega)]
          have : ((0 : Int) : Rat) = 0 := rfl
          rw [this]; grind
    · rw [if_neg c, if_neg c, if_neg (by omega), cI_out (show b.length ≤ j - (qM a b - i) by omega)]
      have : ((0 : Int) : Rat) = 0 := rfl
      rw [this]; grind
  have e2 : ev (toQ (shiftI b (qM a b - i))) x = pw (qM a b - i) x * evI b x := evI_shift b _ x
  rw [e, ev_addL, ev_smulL, e2]
  grind
/-- what of the quotient is known behind i steps -/
def qL (a b : List Int) (i : Nat) : List Rat := (List.range (qM a b + 1)).map fun j => if qM a b - j < i then qf a b (qM a b - j) else 0
theorem ev_qL (a b : List Int) {i : Nat} (hi : i ≤ qM a b) (x : Rat) : ev (qL a b (i + 1)) x = ev (qL a b i) x + qf a b i * pw (qM a b - i) x := by
  have e : ev (qL a b (i + 1)) x = ev (addL (qL a b i) (smulL (qf a b i) (toQ (shiftI [1] (qM a b - i))))) x := by
    refine ev_of_cf (fun j => ?_) x
    rw [cf_addL, cf_smulL, cf_toQ, cI_shift]
    unfold qL
    rw [cf_rangeMap, cf_rangeMap]
    by_cases c : j < qM a b + 1
    · rw [if_pos c, if_pos c]
      by_cases c2 : j = qM a b - i
      · subst c2
        rw [if_pos (by omega), if_neg (by omega), if_neg (by omega), Nat.sub_self, show qM a b - (qM a b - i) = i by omega]
        show _ = 0 + qf a b i * ((1 : Int) : Rat)
        push_cast; grind
      · have z : (if j < qM a b - i then (0 : Int) else cI [1] (j - (qM a b - i))) = 0 := by
          split
          · rfl
          · exact cI_out (by simp; omega)
        rw [z, show ((0 : Int) : Rat) = 0 from rfl]
        by_cases c3 : qM a b - j < i
        · rw [if_pos (by omega), if_pos c3]; grind
        · rw [if_neg (by omega), if_neg c3]; grind
    · have z : (if j < qM a b - i then (0 : Int) else cI [1] (j - (qM a b - i))) = 0 := by
        rw [if_neg (by omega)]
        exact cI_out (by simp; omega)
      rw [if_neg c, if_neg c, z, show ((0 : Int) : Rat) = 0 from rfl]; grind
  have e2 : ev (toQ (shiftI [1] (qM a b - i))) x = pw (qM a b - i) x * 1 := by
    have := evI_shift [1] (qM a b - i) x
    rw [evI_cons, evI_nil] at this
    have e3 : (((1 : Int) : Rat) + x * 0) = 1 := by push_cast; grind
    rw [e3] at this
    exact this
  rw [e, ev_addL, ev_smulL, e2]
  grind
theorem quot_inv {a b : List Int} (hb : b ≠ []) (h : b.length ≤ a.length) (x : Rat) : ∀ i, i ≤ qM a b + 1 → evI a x = ev (qL a b i) x * evI b x + ev (rL a b i) x
  | 0, _ => by
    have e1 : ev (qL a b 0) x = 0 := by
      have : ev (qL a b 0) x = ev [] x := ev_of_cf (fun j => by unfold qL; rw [cf_rangeMap, cf_nil]; simp) x
      rw [this]; rfl
    have e2 : ev (rL a b 0) x = evI a x := ev_of_cf (fun j => by
      unfold rL
      rw [cf_rangeMap, cf_toQ]
      split
      · rfl
      · rw [cI_out (by omega)]; rfl) x
    rw [e1, e2]; grind
  | i + 1, hi => by
    rw [quot_inv hb h x i (by omega), ev_rL hb h (by omega), ev_qL a b (by omega)]
    grind
/-- the leading entries vanish -/
theorem qR_zero {a b : List Int} (hb : TrI b) (hn : b ≠ []) (h : b.length ≤ a.length) : ∀ i, i ≤ qM a b → ∀ j, qM a b - i + b.length - 1 ≤ j → j < a.length → qR a b (i + 1) j = 0
  | i, hi, j, hj, hj2 => by
    have hp := List.length_pos_iff.mpr hn
    have hl : qM a b + b.length = a.length := by unfold qM; omega
    show qS b (qM a b - i) (qf a b i) (qR a b i) b.length j = 0
    unfold qS
    by_cases c : j = qM a b - i + b.length - 1
    · subst c
      rw [if_pos (by omega), show qM a b - i + b.length - 1 - (qM a b - i) = b.length - 1 by omega]
      unfold qf qF
      have l0 := hb.last hn
      show _ + qR a b i (qM a b - i + b.length - 1) * Rat.divInt 1 (lead b) * ((-(lead b) : Int) : Rat) = 0
      have e : Rat.divInt 1 (lead b) * ((-(lead b) : Int) : Rat) = -1 := by
        have l0' : ((lead b : Int) : Rat) ≠ 0 := by exact_mod_cast l0
        rw [Rat.divInt_eq_div, show ((-(lead b) : Int) : Rat) = -((lead b : Int) : Rat) by push_cast; rfl]
        have := Rat.div_mul_cancel (a := ((1 : Int) : Rat)) l0'
        have e1 : ((1 : Int) : Rat) = 1 := rfl
        rw [e1] at this ⊢
        grind
      rw [Rat.mul_assoc, e]; grind
    · rw [if_neg (by omega)]
      cases i with
      | zero => omega
      | succ i => exact qR_zero hb hn h i (by omega) j (by omega) hj2
theorem quot_exact {a b : List Int} (hb : TrI b) (hn : b ≠ []) (h : b.length ≤ a.length) {w : Rat → Rat} (pw' : Pol w) (hw : ∀ x, evI a x = w x * evI b x) (x : Rat) : evI a x = ev (qL a b (qM a b + 1)) x * evI b x := by
  have hp := List.length_pos_iff.mpr hn
  have hl : qM a b + b.length = a.length := by unfold qM; omega
  have inv := fun x => quot_inv hn h x (qM a b + 1) (Nat.le_refl _)
  apply Classical.byContradiction
  intro q
  have nz : NZ fun x => w x - ev (qL a b (qM a b + 1)) x := by
    refine ⟨x, fun z => q ?_⟩
    have z : w x - ev (qL a b (qM a b + 1)) x = 0 := z
    have : w x = ev (qL a b (qM a b + 1)) x := by grind
    rw [hw, this]
  have pd : Pol fun x => w x - ev (qL a b (qM a b + 1)) x := pw'.sub (.of _)
  obtain ⟨l, t1, t2⟩ := pd.trim
  obtain ⟨r, r1, r2, r3⟩ := mul_trim t1 hb.tr (nz.list t2) (fun z => hn (by unfold toQ at z; simpa using z))
  have p1 := List.length_pos_iff.mpr (nz.list t2)
  rw [toQ_len] at r2
  have hr : ∀ x, ev r x = ev (rL a b (qM a b + 1)) x := fun x => by
    have e1 := inv x
    rw [hw x] at e1
    rw [r3, ← t2]
    show (w x - _) * evI b x = _
    grind
  -- the coefficient at the top of r
  have top := cf_last r1 (List.length_pos_iff.mp (by omega))
  rw [cf_of_ev hr] at top
  unfold rL at top
  rw [cf_rangeMap] at top
  split at top
  · rename_i c
    exact top (qR_zero hb hn h (qM a b) (Nat.le_refl _) _ (by omega) c)
  · exact top rfl
/-! the whole multiple -/
theorem mul_den_div (r : Rat) (m : Int) (hm : (r.den : Int) ∣ m) : ((r.num * m.fdiv r.den : Int) : Rat) = (m : Rat) * r := by
  obtain ⟨k, rfl⟩ := hm
  have dn : (r.den : Int) ≠ 0 := by have := r.den_nz; omega
  rw [Int.mul_fdiv_cancel_left _ dn]
  have := mul_den_num r
  push_cast
  rw [← this]
  grind
def zL (a b : List Int) (m : Int) : List Int := (List.range (qM a b + 1)).map fun j => (qf a b (qM a b - j)).num * m.fdiv (qf a b (qM a b - j)).den
theorem evI_zL {a b : List Int} {m : Int} (hm : ∀ i, i ≤ qM a b → ((qf a b i).den : Int) ∣ m) (x : Rat) : evI (zL a b m) x = m * ev (qL a b (qM a b + 1)) x := by
  have e : evI (zL a b m) x = ev (smulL m (qL a b (qM a b + 1))) x := by
    refine ev_of_cf (fun j => ?_) x
    rw [cf_toQ, cf_smulL]
    unfold zL qL
    rw [cI_map_range, cf_rangeMap]
    split
    · rename_i c
      rw [if_pos (by omega), mul_den_div _ _ (hm _ (by omega))]
    · push_cast; grind
  rw [e, ev_smulL]
theorem zL_tr {a b : List Int} (ha : TrI a) (hb : TrI b) (hn : b ≠ []) (h : b.length ≤ a.length) {m : Int} (h0 : m ≠ 0) (hm : ∀ i, i ≤ qM a b → ((qf a b i).den : Int) ∣ m) : TrI (zL a b m) := by
  have hp := List.length_pos_iff.mpr hn
  have hl : qM a b + b.length = a.length := by unfold qM; omega
  right
  have len : (zL a b m).length = qM a b + 1 := by simp [zL]
  rw [len, Nat.add_sub_cancel]
  unfold zL
  rw [cI_map_range, if_pos (by omega), Nat.sub_self]
  intro z
  have e := mul_den_div (qf a b 0) m (hm 0 (Nat.zero_le _))
  rw [z] at e
  have e2 : ((0 : Int) : Rat) = 0 := rfl
  rw [e2] at e
  have hq : qf a b 0 ≠ 0 := by
    unfold qf qF
    show (cI a (qM a b - 0 + b.length - 1) : Rat) * Rat.divInt 1 (lead b) ≠ 0
    rw [show qM a b - 0 + b.length - 1 = a.length - 1 by omega]
    have la := ha.last (fun z => by rw [z] at h; simp at h; exact hn h)
    have lb := hb.last hn
    refine mul_ne (by exact_mod_cast la) ?_
    rw [Rat.divInt_eq_div]
    have l0' : ((lead b : Int) : Rat) ≠ 0 := by exact_mod_cast lb
    intro z
    have := Rat.div_mul_cancel (a := ((1 : Int) : Rat)) l0'
    rw [z, Rat.zero_mul] at this
    exact absurd this (by decide)
  exact mul_ne (by exact_mod_cast h0) hq e.symm
/-- what quotient answers -/
structure Quo (a b s : List Int) : Prop where
  tr : TrI s
  ne : s ≠ []
  prim : Prim s
  lead : 0 < cI s (s.length - 1)
  len : s.length + b.length = a.length + 1
  mul : ∃ k : Rat, k ≠ 0 ∧ ∀ x, k * evI s x * evI b x = evI a x
theorem quo_of {a b : List Int} (ha : TrI a) (hb : TrI b) (hn : b ≠ []) (h : b.length ≤ a.length) {m : Int} (h0 : m ≠ 0) (hm : ∀ i, i ≤ qM a b → ((qf a b i).den : Int) ∣ m) {w : Rat → Rat} (pw' : Pol w) (hw : ∀ x, evI a x = w x * evI b x) : Quo a b (plainI (zL a b m)) := by
  have tz := zL_tr ha hb hn h h0 hm
  have lz : (zL a b m).length = qM a b + 1 := by simp [zL]
  have nz : zL a b m ≠ [] := fun z => by rw [z] at lz; simp at lz
  obtain ⟨t1, t2, t3, k, t4, t5⟩ := plain_spec tz
  have hk : (k : Rat) ≠ 0 := by exact_mod_cast t4
  have hmq : (m : Rat) ≠ 0 := by exact_mod_cast h0
  obtain ⟨i, hi⟩ : ∃ i, (m : Rat) * i = 1 := ⟨(m : Rat)⁻¹, mul_inv' hmq⟩
  have i0 : i ≠ 0 := fun z => by rw [z, Rat.mul_zero] at hi; exact absurd hi (by decide)
  refine ⟨t1, fun z => by rw [z] at t2; rw [lz] at t2; simp at t2, (t3 nz).1, by rw [t2]; exact (t3 nz).2, by rw [t2, lz]; unfold qM; omega, i * k, mul_ne i0 hk, fun x => ?_⟩
  have e1 := t5 x
  rw [evI_zL hm] at e1
  have e2 := quot_exact hb hn h pw' hw x
  rw [e2]
  have e3 : i * k * evI (plainI (zL a b m)) x = ev (qL a b (qM a b + 1)) x := by
    have : i * k * evI (plainI (zL a b m)) x = i * (k * evI (plainI (zL a b m)) x) := by grind
    rw [this, e1]
    have : i * (m * ev (qL a b (qM a b + 1)) x) = (m * i) * ev (qL a b (qM a b + 1)) x := by grind
    rw [this, hi, Rat.one_mul]
  rw [e3]
/-! sizes -/
def qB (ka kb : Nat) : Nat → Nat
  | 0 => ka
  | i + 1 => 2 * qB ka kb i + kb + 1
theorem R2b.negInt {c : Int} {k : Nat} (h : c.natAbs < 2 ^ k) : R2b ((-c : Int) : Rat) k 0 := R2b.int (by rw [Int.natAbs_neg]; exact Nat.le_of_lt h)
theorem qR_bits {a b : List Int} {ka kb : Nat} (ha : PBd a ka) (hb : PBd b kb) (hl : lead b ≠ 0) : ∀ i j, R2b (qR a b i j) (qB ka kb i) (qB ka kb i)
  | 0, j => (R2b.int (Nat.le_of_lt (ha j))).mono (Nat.le_refl _) (Nat.zero_le _)
  | i + 1, j => by
    have ih := qR_bits ha hb hl i
    show R2b (qS b (qM a b - i) (qf a b i) (qR a b i) b.length j) _ _
    unfold qS
    have e : qB ka kb (i + 1) = 2 * qB ka kb i + kb + 1 := rfl
    split
    · have f1 : R2b (qf a b i) (qB ka kb i + 0) (qB ka kb i + kb) := (ih _).mul (R2b.inv hl (Nat.le_of_lt (hb _)))
      have f2 := f1.mul (R2b.negInt (hb (j - (qM a b - i))))
      have f3 := (ih j).add (m := 2 * qB ka kb i + kb) f2 (by omega) (by omega)
      exact f3.mono (by omega) (by omega)
    · exact (ih j).mono (by omega) (by omega)
theorem qf_bits {a b : List Int} {ka kb : Nat} (ha : PBd a ka) (hb : PBd b kb) (hl : lead b ≠ 0) (i : Nat) : R2b (qf a b i) (qB ka kb i) (qB ka kb i + kb) :=
  ((qR_bits ha hb hl i _).mul (R2b.inv hl (Nat.le_of_lt (hb _)))).mono (by omega) (by omega)
theorem qB_le (ka kb : Nat) : ∀ i, qB ka kb i + kb + 1 ≤ 2 ^ i * (ka + kb + 1)
  | 0 => by simp [qB]
  | i + 1 => by
    have ih := qB_le ka kb i
    have : qB ka kb (i + 1) = 2 * qB ka kb i + kb + 1 := rfl
    rw [this, Nat.pow_succ, Nat.mul_right_comm]
    omega
theorem qB_max {ka kb i : Nat} (ha : ka ≤ 60) (hb : kb ≤ 60) (hi : i ≤ 15) : qB ka kb i + kb ≤ 4000000 := by
  have h := qB_le ka kb i
  have h2 : 2 ^ i * (ka + kb + 1) ≤ 2 ^ 15 * 121 := Nat.mul_le_mul (Nat.pow_le_pow_right (by omega) hi) (by omega)
  have : 2 ^ 15 * 121 ≤ 4000000 := by decide
  omega
end K23
namespace K23
theorem lcm_step {m : Int} {u : Nat} (hm : 0 < m) (hu : u ≠ 0) : ((Nat.gcd m.natAbs (u : Int).natAbs : Nat) : Int) ≠ 0 ∧ 0 < (m * u).fdiv ((Nat.gcd m.natAbs (u : Int).natAbs : Nat) : Int) ∧
    m ∣ (m * u).fdiv ((Nat.gcd m.natAbs (u : Int).natAbs : Nat) : Int) ∧ (u : Int) ∣ (m * u).fdiv ((Nat.gcd m.natAbs (u : Int).natAbs : Nat) : Int) ∧ ((m * u).fdiv ((Nat.gcd m.natAbs (u : Int).natAbs : Nat) : Int)).natAbs ≤ m.natAbs * u := by
  obtain ⟨M, rfl⟩ := Int.eq_ofNat_of_zero_le (Int.le_of_lt hm)
  rw [Int.natAbs_natCast, Int.natAbs_natCast]
  have g0 : 0 < Nat.gcd M u := Nat.gcd_pos_of_pos_right _ (by omega)
  obtain ⟨a, ha⟩ := Nat.gcd_dvd_left M u
  obtain ⟨b, hb⟩ := Nat.gcd_dvd_right M u
  generalize Nat.gcd M u = g at g0 ha hb
  have gi : (g : Int) ≠ 0 := by omega
  have e : ((M : Int) * u).fdiv g = M * b := by
    have : ((M : Int) * u) = (g : Int) * (M * b) := by
      rw [hb]; push_cast
      rw [← Int.mul_assoc, Int.mul_comm (M : Int) g, Int.mul_assoc]
    rw [this, Int.mul_fdiv_cancel_left _ gi]
  rw [e]
  have hb0 : 0 < b := Nat.pos_of_ne_zero fun z => by rw [z, Nat.mul_zero] at hb; exact hu hb
  refine ⟨gi, Int.mul_pos hm (by omega), ⟨b, rfl⟩, ⟨a, ?_⟩, ?_⟩
  · have e2 : M * b = u * a := by
      calc M * b = g * a * b := by rw [← ha]
        _ = g * b * a := Nat.mul_right_comm g a b
        _ = u * a := by rw [← hb]
    exact_mod_cast e2
  · rw [Int.natAbs_mul, Int.natAbs_natCast, Int.natAbs_natCast]
    refine Nat.mul_le_mul_left _ ?_
    rw [hb]
    exact Nat.le_mul_of_pos_left _ g0
end K23
/-! square-free parts -/
namespace K23
theorem dv_len {a h : List Int} (ta : TrI a) (na : a ≠ []) (th : TrI h) {w : Rat → Rat} (pw' : Pol w) (e : ∀ x, evI a x = w x * evI h x) : h.length ≤ a.length := by
  have nz := ta.nz na
  have nw : NZ w := by
    obtain ⟨x, hx⟩ := nz
    exact ⟨x, fun z => hx (by rw [e, z, Rat.zero_mul])⟩
  have nh : h ≠ [] := fun z => by
    obtain ⟨x, hx⟩ := nz
    exact hx (by rw [e, z, evI_nil, Rat.mul_zero])
  obtain ⟨l, t1, t2⟩ := pw'.trim
  obtain ⟨r, r1, r2, r3⟩ := mul_trim t1 th.tr (nw.list t2) (fun z => nh (by unfold toQ at z; simpa using z))
  have := len_of_ev ta.tr r1 (fun x => by
    have : ev (toQ a) x = w x * evI h x := e x
    rw [this, r3, t2]; rfl)
  have p1 := List.length_pos_iff.mpr (nw.list t2)
  rw [toQ_len] at this r2
  omega
/-- a square-free part with the factors R -/
structure SqF (s : List Int) (R : List (List Int)) : Prop where
  tr : TrI s
  ne : s ≠ []
  prim : Prim s
  lead : 0 < cI s (s.length - 1)
  fac : Fac s R
  pb : PBd s 47
theorem p203 : 203 ^ 6 < 2 ^ 47 := by decide
theorem pb_prim {h : List Int} {F : List (List Int)} (hp : Prim h) (hF : ∀ f ∈ F, f ∈ menu) (hl : F.length ≤ 6) (fh : Fac h F) : PBd h 47 := fun i =>
  Nat.lt_of_le_of_lt (fac_prim_le hp hF fh i) (Nat.lt_of_le_of_lt (Nat.pow_le_pow_right (by decide) hl) p203)
theorem sqf_of {a h s : List Int} {R : List (List Int)} {p : List Int → Bool} (hR : ∀ f ∈ R, f ∈ menu) (nR : R.Nodup) (lR : R.length ≤ 6) (fa : Fac a (R ++ R.filter p)) (C : CD a (derI a) h) (Q : Quo a h s) : SqF s R := by
  have fh := gcd_der C hR nR fa
  obtain ⟨k, hk, e⟩ := Q.mul
  have fs := quot_fac (fun f hf => hR f (List.mem_filter.mp hf).1) hk fa fh e
  exact ⟨Q.tr, Q.ne, Q.prim, Q.lead, fs, pb_prim Q.prim hR lR fs⟩
theorem pb_gcd {a h : List Int} {R : List (List Int)} {p : List Int → Bool} (hR : ∀ f ∈ R, f ∈ menu) (nR : R.Nodup) (lR : R.length ≤ 6) (fa : Fac a (R ++ R.filter p)) (C : CD a (derI a) h) : PBd h 47 :=
  pb_prim C.prim (fun f hf => hR f (List.mem_filter.mp hf).1) (Nat.le_trans (List.length_filter_le _ _) lR) (gcd_der C hR nR fa)
/-- what is known of a polynomial that is asked: a product of factors R, some twice -/
structure Asked (a : List Int) (R : List (List Int)) : Prop where
  tr : TrI a
  ne : a ≠ []
  len : a.length ≤ 15
  pb : PBd a 48
  mem : ∀ f ∈ R, f ∈ menu
  nd : R.Nodup
  few : R.length ≤ 6
  fac : ∃ p, Fac a (R ++ R.filter p)
theorem Asked.cdb {a : List Int} {R : List (List Int)} (h : Asked a R) : CdB a (derI a) :=
  .start h.pb (h.pb.der (by have := h.len; omega)) (by decide) h.len (by rw [der_len]; have := h.len; omega)
/-! ### chains -/
/-- the first two of a chain -/
theorem head_of {s : List Int} {R : List (List Int)} (hR : ∀ f ∈ R, f ∈ menu) (nR : R.Nodup) (ts : TrI s) (ns : 1 < s.length) (fs : Fac s R) : Head R (bareI s 1) (bareI (derI s) 1) := by
  have n0 : s ≠ [] := fun z => by rw [z] at ns; simp at ns
  have td := der_tr ts
  have nd : derI s ≠ [] := fun z => by have := der_len s; rw [z] at this; simp at this; omega
  obtain ⟨t1, t2, t3⟩ := bare_spec ts n0 (f := 1) (.inl rfl)
  obtain ⟨d1, d2, d3⟩ := bare_spec td nd (f := 1) (.inl rfl)
  have c1 := cont_pos ts n0
  have c2 := cont_pos td nd
  have q1 : (0 : Rat) < contentI s := by exact_mod_cast c1
  have q2 : (0 : Rat) < contentI (derI s) := by exact_mod_cast c2
  obtain ⟨i1, i10, hi1⟩ := inv_ex q1
  obtain ⟨i2, i20, hi2⟩ := inv_ex q2
  have e0 : ∀ x, evI (bareI s 1) x = i1 * evI s x := fun x => by
    have := t3 x
    push_cast at this
    grind
  have e1 : ∀ x, evI (bareI (derI s) 1) x = i2 * evI (derI s) x := fun x => by
    have := d3 x
    push_cast at this
    grind
  refine ⟨hR, nR, ?_, i2 * contentI s, mul_pos' i20 q1, fun x => ?_⟩
  · obtain ⟨c, hc, e⟩ := fs
    exact ⟨i1 * c, mul_ne (fun z => by rw [z] at i10; exact absurd i10 (by decide)) hc, fun x => by rw [e0, e]; grind⟩
  · have e3 : ∀ x, ev (toQ s) x = ev (smulL (contentI s) (toQ (bareI s 1))) x := fun x => by
      rw [ev_smulL]
      have := t3 x
      push_cast at this
      show evI s x = _ * evI (bareI s 1) x
      grind
    have e4 := dev_congr e3 x
    rw [dev_smulL] at e4
    rw [e1, evI_der, e4]
    grind
end K23
/-! sizes along a chain; changes; the bound of the roots -/
namespace K23
structure ChB (f s : List Int) : Prop where
  ex : ∃ A B t, PBd f A ∧ PBd s B ∧ (2 * A + 5 * B + 20) * 2 ^ t ≤ 400 * 5 ^ t ∧ s.length < f.length ∧ t + f.length ≤ 15
theorem ChB.start {f s : List Int} {A B : Nat} (hf : PBd f A) (hs : PBd s B) (h : 2 * A + 5 * B + 20 ≤ 400) (lf : f.length ≤ 15) (ls : s.length < f.length) : ChB f s :=
  ⟨A, B, 0, hf, hs, by simpa using h, ls, by omega⟩
theorem ChB.lens {f s : List Int} (h : ChB f s) : f.length ≤ 15 ∧ s.length < f.length := by
  obtain ⟨A, B, t, _, _, _, h1, h2⟩ := h.ex
  omega
theorem ChB.cdb {f s : List Int} (h : ChB f s) : CdB f s := by
  obtain ⟨A, B, t, a, b, c, h1, h2⟩ := h.ex
  exact ⟨A, B, t, a, b, c, .inl ⟨h1, by omega⟩⟩
theorem ChB.pb {f s : List Int} (h : ChB f s) (hn : s ≠ []) : PBd s 60000000 := by
  obtain ⟨A, B, t, a, b, c, h1, h2⟩ := h.ex
  have hp := List.length_pos_iff.mpr hn
  have bound := grown (m := 13) c (by omega)
  rw [show (2 : Nat) ^ 13 = 8192 by decide, show (5 : Nat) ^ 13 = 1220703125 by decide] at bound
  exact b.mono (by omega)
theorem ChB.step {f s : List Int} (h : ChB f s) (hf : TrI f) (hs : TrI s) (hn : s ≠ []) {v : Int} (hv : v = 1 ∨ v = -1) (hr : frI f s ≠ []) : ChB s (bareI (frI f s) v) := by
  obtain ⟨A, B, t, a1, b1, g1, l1, l2⟩ := h.ex
  have hp := List.length_pos_iff.mpr hn
  have gr := grow (g := f.length - s.length) (e := max (f.length - s.length) 1) g1 rfl
  obtain ⟨t1, t2, t3, _⟩ := frI_spec hf hs hn
  have len := t3 (by omega)
  refine ⟨B, _, t + max (f.length - s.length) 1, b1, (PBd.frI a1 b1).bare t1 hr hv, gr, ?_, by omega⟩
  rw [show (bareI (frI f s) v).length = (frI f s).length by simp [bareI]]
  exact len
/-- a polynomial of which a chain is asked -/
structure ChA (s : List Int) (R : List (List Int)) : Prop where
  tr : TrI s
  long : 1 < s.length
  len : s.length ≤ 15
  pb : PBd s 48
  mem : ∀ f ∈ R, f ∈ menu
  nd : R.Nodup
  fac : Fac s R
theorem ChA.ne {s : List Int} {R : List (List Int)} (h : ChA s R) : s ≠ [] := fun z => by have := h.long; rw [z] at this; cases this
theorem ChA.bare {s : List Int} {R : List (List Int)} (h : ChA s R) : ChA (bareI s 1) R := by
  obtain ⟨t1, t2, t3⟩ := bare_spec h.tr h.ne (f := 1) (.inl rfl)
  refine ⟨t1, by rw [t2]; exact h.long, by rw [t2]; exact h.len, h.pb.bare h.tr h.ne (.inl rfl), h.mem, h.nd, ?_⟩
  obtain ⟨c, hc, e⟩ := h.fac
  have cp : (0 : Rat) < contentI s := by exact_mod_cast cont_pos h.tr h.ne
  obtain ⟨i1, i10, hi1⟩ := inv_ex cp
  refine ⟨i1 * c, mul_ne (fun z => by rw [z] at i10; exact absurd i10 (by decide)) hc, fun x => ?_⟩
  have := t3 x
  have e := e x
  push_cast at this
  grind
/-- a chain with its sizes -/
structure ChnB (R S : List (List Int)) : Prop where
  chn : Chn R S
  el : ∀ a ∈ S, PBd a 60000000 ∧ a.length ≤ 15
  sz : S.length ≤ 100
  hd : ∃ s t, S = s :: t ∧ ChA s R
theorem chgK_count : ∀ k : List Int, chgK k = (((List.range (k.length - 1)).filter fun i => decide (cI k (i + 1) ≠ cI k i)).length : Nat)
  | [] => rfl
  | [_] => rfl
  | a :: b :: t => by
    have ih := chgK_count (b :: t)
    show (if b ≠ a then 1 else 0) + chgK (b :: t) = _
    rw [ih]
    have e : (a :: b :: t).length - 1 = t.length + 1 := rfl
    have e2 : (b :: t).length - 1 = t.length := rfl
    rw [e, e2, List.range_succ_eq_map, List.filter_cons]
    have f : ((List.map Nat.succ (List.range t.length)).filter fun i => decide (cI (a :: b :: t) (i + 1) ≠ cI (a :: b :: t) i)) = ((List.range t.length).filter fun i => decide (cI (b :: t) (i + 1) ≠ cI (b :: t) i)).map Nat.succ := by
      rw [List.filter_map]; rfl
    rw [f]
    have g : (decide (cI (a :: b :: t) (0 + 1) ≠ cI (a :: b :: t) 0)) = decide (b ≠ a) := rfl
    rw [g]
    by_cases h : b = a
    · rw [if_neg (by simp [h]), if_neg (by simp [h]), List.length_map]; omega
    · rw [if_pos h, if_pos (by simp [h]), List.length_cons, List.length_map]; omega
/-! the bound -/
theorem cauchy {G B L : Rat} (hL : 0 < L) (hB : 1 ≤ B) (hG : G ≤ (B - 1) * L) : ∀ {l : List Int}, l ≠ [] → (cI l (l.length - 1) : Rat) = L → (∀ i, i + 1 < l.length → -G ≤ (cI l i : Rat) ∧ (cI l i : Rat) ≤ G) → ∀ x, B ≤ x → L ≤ evI l x
  | [], h, _, _, _, _ => absurd rfl h
  | [c], _, e, _, x, _ => by
    have : (c : Rat) = L := e
    rw [evI_cons, evI_nil, this]; grind
  | c :: d :: t, _, e, hc, x, hx => by
    have ih := cauchy hL hB hG (l := d :: t) (List.cons_ne_nil _ _) e (fun i hi => hc (i + 1) (by simp only [List.length_cons] at *; omega)) x hx
    have h0 := hc 0 (by simp)
    have h0' : -G ≤ (c : Rat) := h0.1
    rw [evI_cons]
    have m1 := mul_le_l ih (show 0 ≤ x by grind)
    have m2 := mul_le_l hx (show 0 ≤ L by grind)
    grind
theorem cauchy_sg {G B L : Rat} (hL : 0 < L) (hB : 1 ≤ B) (hG : G ≤ (B - 1) * L) {l : List Int} (hl : l ≠ []) {ε : Int} (hε : ε = 1 ∨ ε = -1) (e : ((ε * cI l (l.length - 1) : Int) : Rat) = L) (hc : ∀ i, i + 1 < l.length → -G ≤ (cI l i : Rat) ∧ (cI l i : Rat) ≤ G) {x : Rat} (hx : B ≤ x) : sg (evI l x) = ε := by
  have n : l.map (ε * ·) ≠ [] := by simpa using hl
  have ev' := evI_map ε l x
  have q := cauchy hL hB hG n (by rw [List.length_map, cI_map (f := (ε * ·)) (by simp)]; exact e) (fun i hi => by
    rw [List.length_map] at hi
    rw [cI_map (f := (ε * ·)) (by simp)]
    have := hc i hi
    rcases hε with z | z <;> rw [z] <;> push_cast <;> constructor <;> grind) x hx
  rw [ev'] at q
  rcases hε with z | z <;> rw [z] at q ⊢ <;> push_cast at q
  · exact sg_pos (by grind)
  · exact sg_neg (by grind)
/-- around a root of the table there is no other one -/
theorem tab_only {i j : Nat} (hi : i < 26) (hj : j < 26) (hne : i ≠ j) {x y : Rat} (hx : rlo i - sep / 4 ≤ x) (hxy : x ≤ y) (hy : y ≤ rhi i + sep / 4) : rt j x ≠ 0 ∧ rt j x = rt j y := by
  have sp := sep_pos
  have v1 := rt_vals hj x
  have v2 := rt_vals hj y
  have f := rt_fac hj
  have m := mono_le hj hxy
  rcases Nat.lt_or_gt_of_ne hne with h | h
  · have g := rt_gap hj h
    have q : rt j y = 1 := by
      rcases rt_mono hj (show y < rlo j by grind) with a | a
      · exact a
      · have := f.2.2.1; omega
    have := m.2.1 q
    omega
  · have g := rt_gap hi h
    have q : rt j x = -1 := by
      rcases rt_mono hj (show rhi j < x by grind) with a | a
      · have := f.2.2.2; omega
      · exact a
    have := m.1 q
    omega
/-- where the sign of the product stays, there is no root -/
theorem no_root {F : List (List Int)} (hm : ∀ f ∈ F, f ∈ menu) (nd : F.Nodup) {B : Rat} {ε : Int} (h0 : ε ≠ 0) : ((∀ x, B ≤ x → sg (prodE F x) = ε) → ∀ j ∈ flat F, rt j B = -1) ∧ ((∀ x, x ≤ B → sg (prodE F x) = ε) → ∀ j ∈ flat F, rt j B = 1) := by
  have sp := sep_pos
  have q4 : sep / 4 < sep := by decide +kernel
  have q0 : 0 < sep / 4 := by decide +kernel
  have flip : ∀ ρ ∈ flat F, ∀ x y, rlo ρ - sep / 4 ≤ x → x ≤ y → y ≤ rhi ρ + sep / 4 → rt ρ x = 1 → rt ρ y = -1 → sg (prodE F x) = ε → sg (prodE F y) = ε → False := fun ρ hρ x y h1 h2 h3 a b e1 e2 => by
    have f := prodS_flip (g := fun j => rt j x) (g' := fun j => rt j y) (nd_flat nd) hρ (fun j hj ne => (tab_only (mem_flat.mp hρ).1 (mem_flat.mp hj).1 (Ne.symm ne) h1 h2 h3).2) (by show rt ρ y = -(rt ρ x); rw [a, b])
    rw [sg_prodE hm] at e1 e2
    omega
  constructor
  · intro h ρ hρ
    have h26 := (mem_flat.mp hρ).1
    have nz : rt ρ B ≠ 0 := fun z => h0 (by
      rw [← h B Rat.le_refl, sg_prodE hm]
      exact prodS_zero (List.mem_map.mpr ⟨ρ, hρ, z⟩))
    have v := rt_vals h26 B
    apply Decidable.byContradiction
    intro ne
    have one : rt ρ B = 1 := by omega
    have hB := rt_hi h26 (x := B) (by omega)
    have yv : rt ρ (rhi ρ + sep / 4) = -1 := by
      rcases rt_mono h26 (show rhi ρ < rhi ρ + sep / 4 by grind) with a | a
      · have := (rt_fac h26).2.2.2; omega
      · exact a
    by_cases c : rlo ρ - sep / 4 ≤ B
    · exact flip ρ hρ B (rhi ρ + sep / 4) c (by grind) Rat.le_refl one yv (h _ Rat.le_refl) (h _ (by grind))
    · have xv : rt ρ (rlo ρ - sep / 4) = 1 := by
        rcases rt_mono h26 (show rlo ρ - sep / 4 < rlo ρ by grind) with a | a
        · exact a
        · have := (rt_fac h26).2.2.1; omega
      have lh : rlo ρ ≤ rhi ρ := rt_hi h26 (rt_fac h26).2.2.1
      exact flip ρ hρ (rlo ρ - sep / 4) (rhi ρ + sep / 4) Rat.le_refl (by grind) Rat.le_refl xv yv (h _ (by grind)) (h _ (by grind))
  · intro h ρ hρ
    have h26 := (mem_flat.mp hρ).1
    have nz : rt ρ B ≠ 0 := fun z => h0 (by
      rw [← h B Rat.le_refl, sg_prodE hm]
      exact prodS_zero (List.mem_map.mpr ⟨ρ, hρ, z⟩))
    have v := rt_vals h26 B
    apply Decidable.byContradiction
    intro ne
    have one : rt ρ B = -1 := by omega
    have hB := rt_lo h26 (x := B) (by omega)
    have xv : rt ρ (rlo ρ - sep / 4) = 1 := by
      rcases rt_mono h26 (show rlo ρ - sep / 4 < rlo ρ by grind) with a | a
      · exact a
      · have := (rt_fac h26).2.2.1; omega
    by_cases c : B ≤ rhi ρ + sep / 4
    · exact flip ρ hρ (rlo ρ - sep / 4) B Rat.le_refl (by grind) c xv one (h _ (by grind)) (h _ Rat.le_refl)
    · have yv : rt ρ (rhi ρ + sep / 4) = -1 := by
        rcases rt_mono h26 (show rhi ρ < rhi ρ + sep / 4 by grind) with a | a
        · have := (rt_fac h26).2.2.2; omega
        · exact a
      have lh : rlo ρ ≤ rhi ρ := rt_hi h26 (rt_fac h26).2.2.1
      exact flip ρ hρ (rlo ρ - sep / 4) (rhi ρ + sep / 4) Rat.le_refl (by grind) Rat.le_refl xv yv (h _ (by grind)) (h _ (by grind))
/-- what bound_of answers -/
structure BndOk (F : List (List Int)) (B : Int) : Prop where
  pos : 1 ≤ B
  lo : ∀ j ∈ flat F, rt j (-(B : Rat)) = 1
  hi : ∀ j ∈ flat F, rt j (B : Rat) = -1
  bits : B.natAbs < 2 ^ 50
theorem bound_ok {p : List Int} {F : List (List Int)} (hm : ∀ f ∈ F, f ∈ menu) (nd : F.Nodup) (tp : TrI p) (np : p ≠ []) (fp : Fac p F) (pb : PBd p 48) {g : Int} (g0 : 0 ≤ g) (gb : g.natAbs < 2 ^ 48) (hg : ∀ i, i + 1 < p.length → (cI p i).natAbs ≤ g.natAbs) :
    BndOk F (1 + (g + ((cI p (p.length - 1)).natAbs : Int) - 1).fdiv ((cI p (p.length - 1)).natAbs : Int)) := by
  have l0 := tp.last np
  generalize hl : ((cI p (p.length - 1)).natAbs : Int) = lead
  have lp : 1 ≤ lead := by omega
  rw [Int.fdiv_eq_ediv_of_nonneg _ (by omega)]
  have q0 : 0 ≤ (g + lead - 1) / lead := Int.ediv_nonneg (by omega) (by omega)
  have q1 : g ≤ ((g + lead - 1) / lead) * lead := by
    have h1 := Int.emod_add_mul_ediv (g + lead - 1) lead
    have h2 := Int.emod_lt_of_pos (g + lead - 1) (show 0 < lead by omega)
    have h3 : lead * ((g + lead - 1) / lead) = (g + lead - 1) / lead * lead := Int.mul_comm _ _
    omega
  have q2 : (g + lead - 1) / lead ≤ g := by
    have : (g + lead - 1) / lead < g + 1 := Int.ediv_lt_of_lt_mul (by omega) (by
      have := Int.mul_le_mul_of_nonneg_left lp (show 0 ≤ g + 1 - 1 by omega)
      have e : (g + 1) * lead = g * lead + lead := by rw [Int.add_mul, Int.one_mul]
      have e2 : g * 1 ≤ g * lead := Int.mul_le_mul_of_nonneg_left lp g0
      omega)
    omega
  generalize (g + lead - 1) / lead = q at q0 q1 q2
  obtain ⟨c, hc, ep⟩ := fp
  have pz : ∀ x, sg (evI p x) = sg c * sg (prodE F x) := fun x => by rw [ep, sg_mul]
  have sc : sg c = 1 ∨ sg c = -1 := by
    have := sg_vals c
    have : sg c ≠ 0 := fun z => hc (sg_eq_zero.mp z)
    omega
  have hL : (0 : Rat) < (lead : Rat) := by exact_mod_cast lp
  have hB1 : (1 : Rat) ≤ ((1 + q : Int) : Rat) := by exact_mod_cast (show (1 : Int) ≤ 1 + q by omega)
  have hG : (g : Rat) ≤ (((1 + q : Int) : Rat) - 1) * (lead : Rat) := by
    have : (g : Rat) ≤ ((q * lead : Int) : Rat) := by exact_mod_cast q1
    push_cast at this ⊢
    grind
  have cb : ∀ i, i + 1 < p.length → -(g : Rat) ≤ (cI p i : Rat) ∧ (cI p i : Rat) ≤ (g : Rat) := fun i hi => by
    have := hg i hi
    have a1 : -g ≤ cI p i := by omega
    have a2 : cI p i ≤ g := by omega
    have b1 : ((-g : Int) : Rat) ≤ (cI p i : Rat) := by exact_mod_cast a1
    push_cast at b1
    exact ⟨b1, by exact_mod_cast a2⟩
  -- to the right
  obtain ⟨ε, hε, eε⟩ : ∃ ε : Int, (ε = 1 ∨ ε = -1) ∧ ε * cI p (p.length - 1) = lead := by
    rcases Int.lt_or_gt_of_ne l0 with z | z
    · exact ⟨-1, .inr rfl, by omega⟩
    · exact ⟨1, .inl rfl, by omega⟩
  have right : ∀ x, ((1 + q : Int) : Rat) ≤ x → sg (evI p x) = ε := fun x hx => cauchy_sg hL hB1 hG np hε (by rw [eε]) cb hx
  -- to the left, by the reflected list
  have rn : refl p ≠ [] := fun z => by have := refl_len p; rw [z] at this; exact np (List.length_eq_zero_iff.mp this.symm)
  have rl := refl_last np
  have rc : ∀ (l : List Int) (i : Nat), (cI (refl l) i).natAbs = (cI l i).natAbs := by
    intro l
    induction l with
    | nil => intro i; rfl
    | cons d t ih =>
      intro i
      cases i with
      | zero => rfl
      | succ i =>
        show (cI (d :: (refl t).map (-1 * ·)) (i + 1)).natAbs = _
        rw [cI_succ, cI_succ, cI_map (f := (-1 * ·)) (by simp), ← ih]
        simp
  obtain ⟨δ, hδ, eδ⟩ : ∃ δ : Int, (δ = 1 ∨ δ = -1) ∧ δ * cI (refl p) ((refl p).length - 1) = lead := by
    have := rc p (p.length - 1)
    rw [refl_len]
    rcases Int.lt_or_gt_of_ne (show cI (refl p) (p.length - 1) ≠ 0 by omega) with z | z
    · exact ⟨-1, .inr rfl, by omega⟩
    · exact ⟨1, .inl rfl, by omega⟩
  have left : ∀ x, x ≤ -((1 + q : Int) : Rat) → sg (evI p x) = δ := fun x hx => by
    have := cauchy_sg hL hB1 hG rn hδ (by rw [eδ]) (fun i hi => by
      rw [refl_len] at hi
      have := hg i hi
      have r := rc p i
      have a1 : -g ≤ cI (refl p) i := by omega
      have a2 : cI (refl p) i ≤ g := by omega
      have b1 : ((-g : Int) : Rat) ≤ (cI (refl p) i : Rat) := by exact_mod_cast a1
      push_cast at b1
      exact ⟨b1, by exact_mod_cast a2⟩) (show ((1 + q : Int) : Rat) ≤ -x by grind)
    rw [evI_refl, Rat.neg_neg] at this
    exact this
  have toP : ∀ x (η : Int), (η = 1 ∨ η = -1) → sg (evI p x) = η → sg (prodE F x) = sg c * η := fun x η hη e => by
    have h := pz x
    rw [e] at h
    have v := sg_vals (prodE F x)
    rcases sc with s | s <;> rw [s] at h ⊢ <;> omega
  refine ⟨by omega, ?_, ?_, ?_⟩
  · refine (no_root hm nd (ε := sg c * δ) (by rcases sc with s | s <;> rcases hδ with e | e <;> rw [s, e] <;> decide)).2 fun x hx => toP x δ hδ (left x hx)
  · refine (no_root hm nd (ε := sg c * ε) (by rcases sc with s | s <;> rcases hε with e | e <;> rw [s, e] <;> decide)).1 fun x hx => toP x ε hε (right x hx)
  · have : (1 + q).natAbs ≤ g.natAbs + 1 := by omega
    have e1 : (2 : Nat) ^ 48 = 281474976710656 := by decide
    have e2 : (2 : Nat) ^ 50 = 1125899906842624 := by decide
    omega
end K23
/-! points on a grid; the intervals of the roots -/
namespace K23
/-- x lies on the grid of the M-th parts -/
def DN (M : Nat) (x : Rat) : Prop := ∃ k : Int, x * (M : Rat) = (k : Rat)
theorem DN.add {M : Nat} {x y : Rat} (h : DN M x) (k : DN M y) : DN M (x + y) := by
  obtain ⟨a, ha⟩ := h
  obtain ⟨b, hb⟩ := k
  exact ⟨a + b, by push_cast; grind⟩
theorem DN.neg {M : Nat} {x : Rat} (h : DN M x) : DN M (-x) := by
  obtain ⟨a, ha⟩ := h
  exact ⟨-a, by push_cast; grind⟩
theorem DN.sub {M : Nat} {x y : Rat} (h : DN M x) (k : DN M y) : DN M (x - y) := by
  obtain ⟨a, ha⟩ := h
  obtain ⟨b, hb⟩ := k
  exact ⟨a - b, by push_cast; grind⟩
theorem DN.times {M : Nat} {x : Rat} (h : DN M x) (n : Nat) : DN (M * n) x := by
  obtain ⟨a, ha⟩ := h
  exact ⟨a * n, by push_cast; grind⟩
theorem DN.mul {M N : Nat} {x y : Rat} (h : DN M x) (k : DN N y) : DN (M * N) (x * y) := by
  obtain ⟨a, ha⟩ := h
  obtain ⟨b, hb⟩ := k
  exact ⟨a * b, by push_cast; grind⟩
theorem DN.half {M : Nat} {x : Rat} (h : DN M x) : DN (M * 2) (x / 2) := by
  obtain ⟨a, ha⟩ := h
  exact ⟨a, by push_cast; grind⟩
theorem DN.int (c : Int) : DN 1 (c : Rat) := ⟨c, by simp⟩
theorem DN.den {M : Nat} {x : Rat} (h : DN M x) : x.den ∣ M := by
  obtain ⟨k, e⟩ := h
  have e1 : (x.num : Rat) = x * x.den := by
    have := Rat.num_divInt_den x
    rw [Rat.divInt_eq_div] at this
    have d : ((x.den : Nat) : Rat) ≠ 0 := by
      have := x.den_nz
      exact_mod_cast this
    have d2 : (((x.den : Nat) : Int) : Rat) = ((x.den : Nat) : Rat) := Rat.intCast_natCast _
    rw [d2] at this
    grind
  have e2 : ((x.num * (M : Int) : Int) : Rat) = ((k * (x.den : Int) : Int) : Rat) := by
    push_cast
    rw [e1]
    have d2 : (((x.den : Nat) : Int) : Rat) = ((x.den : Nat) : Rat) := Rat.intCast_natCast _
    have d3 : (((M : Nat) : Int) : Rat) = ((M : Nat) : Rat) := Rat.intCast_natCast _
    grind
  have e3 : x.num * (M : Int) = k * (x.den : Int) := by exact_mod_cast e2
  have e4 : x.den ∣ x.num.natAbs * M := by
    have := congrArg Int.natAbs e3
    rw [Int.natAbs_mul, Int.natAbs_mul, Int.natAbs_natCast, Int.natAbs_natCast] at this
    exact ⟨k.natAbs, by rw [this, Nat.mul_comm]⟩
  exact Nat.Coprime.dvd_of_dvd_mul_left x.reduced.symm e4
theorem DN.bits {M m b : Nat} {x : Rat} (h : DN M x) (h0 : 0 < M) (hm : M ≤ 2 ^ m) (l : -((2 ^ b : Nat) : Rat) ≤ x) (u : x ≤ ((2 ^ b : Nat) : Rat)) : R2b x (b + m) m := by
  have dd := Nat.le_trans (Nat.le_of_dvd h0 h.den) hm
  refine ⟨?_, dd⟩
  have dp : (0 : Rat) < ((x.den : Nat) : Rat) := by
    have := Nat.pos_of_ne_zero x.den_nz
    exact_mod_cast this
  have e1 : (x.num : Rat) = x * x.den := by
    have := Rat.num_divInt_den x
    rw [Rat.divInt_eq_div] at this
    have d2 : (((x.den : Nat) : Int) : Rat) = ((x.den : Nat) : Rat) := Rat.intCast_natCast _
    rw [d2] at this
    grind
  have u1 : (x.num : Rat) ≤ (((2 ^ b * x.den : Nat) : Int) : Rat) := by
    have := mul_le_l u (show (0 : Rat) ≤ ((x.den : Nat) : Rat) by grind)
    rw [e1]
    push_cast at *
    grind
  have l1 : ((-((2 ^ b * x.den : Nat) : Int) : Int) : Rat) ≤ (x.num : Rat) := by
    have := mul_le_l l (show (0 : Rat) ≤ ((x.den : Nat) : Rat) by grind)
    rw [e1]
    push_cast at *
    grind
  have u2 : x.num ≤ ((2 ^ b * x.den : Nat) : Int) := by exact_mod_cast u1
  have l2 : -((2 ^ b * x.den : Nat) : Int) ≤ x.num := by exact_mod_cast l1
  have : x.num.natAbs ≤ 2 ^ b * x.den := by omega
  rw [Nat.pow_add]
  exact Nat.le_trans this (Nat.mul_le_mul_left _ dd)
/-- a point of a bisection -/
structure Dy (l : Nat) (x : Rat) : Prop where
  dn : DN (2 ^ l) x
  lo : -((2 ^ 60 : Nat) : Rat) ≤ x
  hi : x ≤ ((2 ^ 60 : Nat) : Rat)
theorem DN.up {l m : Nat} {x : Rat} (h : DN (2 ^ l) x) (e : l ≤ m) : DN (2 ^ m) x := by
  have := h.times (2 ^ (m - l))
  rwa [← Nat.pow_add, show l + (m - l) = m by omega] at this
theorem Dy.up {l m : Nat} {x : Rat} (h : Dy l x) (e : l ≤ m) : Dy m x := ⟨h.dn.up e, h.lo, h.hi⟩
theorem Dy.bits {l : Nat} {x : Rat} (h : Dy l x) : R2b x (60 + l) l := h.dn.bits (Nat.two_pow_pos _) (Nat.le_refl _) h.lo h.hi
theorem Dy.xb {l : Nat} {x : Rat} (h : Dy l x) (e : l ≤ 3900) : R2b x 4000 4000 := h.bits.mono (by omega) (by omega)
theorem Dy.mid {l : Nat} {x y : Rat} (h : Dy l x) (k : Dy l y) : Dy (l + 1) ((x + y) / 2) := by
  refine ⟨?_, ?_, ?_⟩
  · have := (h.dn.add k.dn).half
    rwa [← Nat.pow_succ] at this
  · have := h.lo; have := k.lo; grind
  · have := h.hi; have := k.hi; grind
/-! counts -/
theorem bf_le {F : List (List Int)} (hm : ∀ f ∈ F, f ∈ menu) (x : Rat) : BF F x ≤ NF F x := by
  rw [BF_flat hm, NF_flat hm]
  have : (flat F).countP (fun j => decide (rt j x < 0)) ≤ (flat F).countP (fun j => decide (rt j x ≤ 0)) := cnt_le fun j _ q => decide_eq_true (by have := of_decide_eq_true q; omega)
  omega
theorem nf_lt {F : List (List Int)} (hm : ∀ f ∈ F, f ∈ menu) {x y : Rat} (h : x < y) : NF F x ≤ BF F y := by
  rw [BF_flat hm, NF_flat hm]
  have : (flat F).countP (fun j => decide (rt j x ≤ 0)) ≤ (flat F).countP (fun j => decide (rt j y < 0)) := cnt_le fun j hj q => decide_eq_true (by
    have q := of_decide_eq_true q
    rcases rt_mono (mem_flat.mp hj).1 h with a | a <;> omega)
  omega
theorem nf_mono {F : List (List Int)} (hm : ∀ f ∈ F, f ∈ menu) {x y : Rat} (h : x ≤ y) : NF F x ≤ NF F y := by
  by_cases e : x = y
  · rw [e]; exact Int.le_refl _
  · have := nf_lt hm (show x < y by grind)
    have := bf_le hm y
    omega
theorem nf_zero {F : List (List Int)} (hm : ∀ f ∈ F, f ∈ menu) {x : Rat} (h : ∀ j ∈ flat F, rt j x = 1) : NF F x = 0 := by
  rw [NF_flat hm]
  have : (flat F).countP (fun j => decide (rt j x ≤ 0)) = 0 := List.countP_eq_zero.mpr fun j hj => by rw [h j hj]; decide
  omega
theorem nf_all {F : List (List Int)} (hm : ∀ f ∈ F, f ∈ menu) {x : Rat} (h : ∀ j ∈ flat F, rt j x = -1) : NF F x = TF F := by
  have e1 : NF F x = NF F 5 := by
    rw [NF_flat hm, NF_flat hm]
    have a : (flat F).countP (fun j => decide (rt j x ≤ 0)) = (flat F).length := List.countP_eq_length.mpr fun j hj => by rw [h j hj]; decide
    have t := NF_right hm (x := 5) (by decide)
    have u := NF_flat hm 5
    have b : (flat F).countP (fun j => decide (rt j 5 ≤ 0)) ≤ (flat F).length := List.countP_le_length
    have l := RF_len hm
    have p := (RF_perm F).length_eq
    omega
  rw [e1, NF_right hm (by decide)]
theorem cnt_split {α : Type} {p q r : α → Bool} : ∀ {L : List α}, (∀ j ∈ L, q j = (p j || r j)) → (∀ j ∈ L, p j = true → r j = false) → L.countP q = L.countP p + L.countP r
  | [], _, _ => rfl
  | a :: L, h, k => by
    have ih := cnt_split (L := L) (fun j hj => h j (List.mem_cons_of_mem _ hj)) (fun j hj => k j (List.mem_cons_of_mem _ hj))
    rw [List.countP_cons, List.countP_cons, List.countP_cons, ih, h a List.mem_cons_self]
    have := k a List.mem_cons_self
    cases pa : p a <;> cases ra : r a <;> simp_all <;> omega
theorem cnt_at_most {α : Type} {p : α → Bool} : ∀ {L : List α}, L.Nodup → (∀ i ∈ L, ∀ j ∈ L, p i = true → p j = true → i = j) → L.countP p ≤ 1
  | [], _, _ => Nat.zero_le _
  | a :: L, nd, h => by
    obtain ⟨n1, n2⟩ := List.nodup_cons.mp nd
    have ih := cnt_at_most n2 fun i hi j hj => h i (List.mem_cons_of_mem _ hi) j (List.mem_cons_of_mem _ hj)
    rw [List.countP_cons]
    cases pa : p a with
    | false => simpa using ih
    | true =>
      have : L.countP p = 0 := List.countP_eq_zero.mpr fun j hj z => n1 (by rw [h a List.mem_cons_self j (List.mem_cons_of_mem _ hj) pa z]; exact hj)
      simp [this]
theorem bf_nf {F : List (List Int)} (hm : ∀ f ∈ F, f ∈ menu) (nd : F.Nodup) (x : Rat) : (prodE F x ≠ 0 → BF F x = NF F x) ∧ (prodE F x = 0 → NF F x = BF F x + 1) := by
  rw [BF_flat hm, NF_flat hm]
  have sp : (flat F).countP (fun j => decide (rt j x ≤ 0)) = (flat F).countP (fun j => decide (rt j x < 0)) + (flat F).countP (fun j => decide (rt j x = 0)) :=
    cnt_split (fun j hj => by
      by_cases a : rt j x < 0
      · simp [a]; omega
      · by_cases b : rt j x = 0
        · simp [b]
        · simp [a, b]; omega) fun j hj a => by
      have := of_decide_eq_true a
      simp; omega
  have one := cnt_at_most (p := fun j => decide (rt j x = 0)) (nd_flat nd) fun i hi j hj a b => by
    have a := of_decide_eq_true a
    have b := of_decide_eq_true b
    have i26 := (mem_flat.mp hi).1
    have j26 := (mem_flat.mp hj).1
    apply Decidable.byContradiction
    intro ne
    rcases Nat.lt_or_gt_of_ne ne with c | c
    · have := rt_order j26 c (x := x) (by omega); omega
    · have := rt_order i26 c (x := x) (by omega); omega
  constructor
  · intro h
    have : (flat F).countP (fun j => decide (rt j x = 0)) = 0 := List.countP_eq_zero.mpr fun j hj z => h ((prodE_zero hm).mpr ⟨j, hj, of_decide_eq_true z⟩)
    omega
  · intro h
    obtain ⟨j, hj, z⟩ := (prodE_zero hm).mp h
    have : 0 < (flat F).countP (fun j => decide (rt j x = 0)) := List.countP_pos_iff.mpr ⟨j, hj, decide_eq_true z⟩
    omega
theorem cnt_two {α : Type} {p q : α → Bool} {L : List α} (nd : L.Nodup) (h : ∀ j ∈ L, p j = true → q j = true) (c : L.countP p + 2 ≤ L.countP q) : ∃ i ∈ L, ∃ j ∈ L, i ≠ j ∧ q i = true ∧ p i = false ∧ q j = true ∧ p j = false := by
  have sp : L.countP q = L.countP p + L.countP (fun j => q j && !p j) := cnt_split (fun j hj => by
    have := h j hj
    cases pa : p j <;> cases qa : q j <;> simp_all) fun j hj a => by simp [a]
  have two : 2 ≤ (L.filter fun j => q j && !p j).length := by rw [← List.countP_eq_length_filter]; omega
  have nd' : (L.filter fun j => q j && !p j).Nodup := nd.sublist List.filter_sublist
  generalize hl : (L.filter fun j => q j && !p j) = l at two nd'
  match l, two, nd' with
  | i :: j :: t, _, nd' =>
    obtain ⟨n1, _⟩ := List.nodup_cons.mp nd'
    have hi : i ∈ L.filter fun j => q j && !p j := by rw [hl]; exact List.mem_cons_self
    have hj : j ∈ L.filter fun j => q j && !p j := by rw [hl]; exact List.mem_cons_of_mem _ List.mem_cons_self
    obtain ⟨i1, i2⟩ := List.mem_filter.mp hi
    obtain ⟨j1, j2⟩ := List.mem_filter.mp hj
    simp at i2 j2
    exact ⟨i, i1, j, j1, fun e => n1 (by rw [e]; exact List.mem_cons_self), i2.1, i2.2, j2.1, j2.2⟩
/-- in a short interval there is one root at most -/
theorem short_one {F : List (List Int)} (hm : ∀ f ∈ F, f ∈ menu) (nd : F.Nodup) {x y : Rat} (h : x ≤ y) (w : y - x ≤ sep) : NF F y ≤ NF F x + 1 := by
  apply Decidable.byContradiction
  intro z
  rw [NF_flat hm, NF_flat hm] at z
  obtain ⟨i, hi, j, hj, ne, a1, a2, b1, b2⟩ := cnt_two (p := fun j => decide (rt j x ≤ 0)) (q := fun j => decide (rt j y ≤ 0)) (nd_flat nd) (fun j hj q => decide_eq_true ((mono_le (mem_flat.mp hj).1 h).2.2.1 (of_decide_eq_true q))) (by omega)
  have a1 := of_decide_eq_true a1
  have a2 := of_decide_eq_false a2
  have b1 := of_decide_eq_true b1
  have b2 := of_decide_eq_false b2
  exact rt_apart (mem_flat.mp hi).1 (mem_flat.mp hj).1 ne w (by omega) a1 (by omega) b1
/-! near -/
/-- m - g and m + g hold the root m alone -/
structure NearOk (F : List (List Int)) (m g : Rat) : Prop where
  one : NF F (m + g) - NF F (m - g) = 1
  lo : prodE F (m - g) ≠ 0
  hi : prodE F (m + g) ≠ 0
theorem near_ok {F : List (List Int)} (hm : ∀ f ∈ F, f ∈ menu) (nd : F.Nodup) {m g : Rat} (h : prodE F m = 0) (g0 : 0 < g) (g1 : g ≤ sep) : NearOk F m g := by
  obtain ⟨ρ, hρ, e⟩ := (prodE_zero hm).mp h
  have ρ26 := (mem_flat.mp hρ).1
  have hi : rt ρ (m + g) = -1 := by rcases rt_mono ρ26 (show m < m + g by grind) with a | a <;> omega
  have lo : rt ρ (m - g) = 1 := by rcases rt_mono ρ26 (show m - g < m by grind) with a | a <;> omega
  have no1 : ∀ j ∈ flat F, 0 ≤ rt j m → rt j (m + g) ≤ 0 → j = ρ := fun j hj a b => by
    apply Decidable.byContradiction
    intro ne
    exact rt_apart (mem_flat.mp hj).1 ρ26 ne (x := m) (y := m + g) (by grind) a b (by omega) (by omega)
  have no2 : ∀ j ∈ flat F, 0 ≤ rt j (m - g) → rt j m ≤ 0 → j = ρ := fun j hj a b => by
    apply Decidable.byContradiction
    intro ne
    exact rt_apart (mem_flat.mp hj).1 ρ26 ne (x := m - g) (y := m) (by grind) a b (by omega) (by omega)
  have z := (bf_nf hm nd m).2 h
  have b1 := nf_lt hm (show m - g < m by grind)
  have up : NF F (m + g) ≤ NF F m := by
    rw [NF_flat hm, NF_flat hm]
    have : (flat F).countP (fun j => decide (rt j (m + g) ≤ 0)) ≤ (flat F).countP (fun j => decide (rt j m ≤ 0)) := cnt_le fun j hj q => decide_eq_true (by
      have q := of_decide_eq_true q
      apply Decidable.byContradiction
      intro c
      have := no1 j hj (by omega) q
      rw [this] at c; omega)
    omega
  have up2 := nf_mono hm (show m ≤ m + g by grind)
  have dn : BF F m ≤ NF F (m - g) := by
    rw [NF_flat hm, BF_flat hm]
    have : (flat F).countP (fun j => decide (rt j m < 0)) ≤ (flat F).countP (fun j => decide (rt j (m - g) ≤ 0)) := cnt_le fun j hj q => decide_eq_true (by
      have q := of_decide_eq_true q
      apply Decidable.byContradiction
      intro c
      have := no2 j hj (by omega) (by omega)
      rw [this] at q; omega)
    omega
  refine ⟨by omega, fun q => ?_, fun q => ?_⟩
  · obtain ⟨j, hj, q⟩ := (prodE_zero hm).mp q
    have m1 := (mono_le (mem_flat.mp hj).1 (show m - g ≤ m by grind)).2.2.1 (by omega)
    have := no2 j hj (by omega) m1
    rw [this] at q; omega
  · obtain ⟨j, hj, q⟩ := (prodE_zero hm).mp q
    have m1 := (mono_le (mem_flat.mp hj).1 (show m ≤ m + g by grind)).2.2.2 (by omega)
    have := no1 j hj m1 (by omega)
    rw [this] at q; omega
/-! the intervals -/
/-- found: a root -/
structure Fo (F : List (List Int)) (lo hi : Rat) : Prop where
  d1 : Dy 2000 lo
  d2 : Dy 2000 hi
  or : (lo = hi ∧ NF F lo = BF F lo + 1) ∨ (lo < hi ∧ NF F hi = NF F lo + 1 ∧ prodE F lo ≠ 0 ∧ prodE F hi ≠ 0 ∧ hi - lo ≤ 1)
/-- waiting; d: how often it may still be halved -/
structure Wt (F : List (List Int)) (lo hi : Rat) (d l : Nat) : Prop where
  lt : lo < hi
  d1 : Dy l lo
  d2 : Dy l hi
  wd : hi - lo ≤ sep * ((2 ^ d : Nat) : Rat)
  z1 : prodE F lo ≠ 0
  z2 : prodE F hi ≠ 0
  top : (l : Int) + d + 70 * (NF F hi - NF F lo) ≤ 2000
  dl : d ≤ 65
theorem sep_one : sep ≤ 1 := by decide +kernel
theorem Wt.lk {F : List (List Int)} {lo hi : Rat} {d l : Nat} (hm : ∀ f ∈ F, f ∈ menu) (h : Wt F lo hi d l) : l ≤ 2000 := by
  have := h.top
  have := nf_mono hm (show lo ≤ hi by have := h.lt; grind)
  omega
theorem Wt.leaf {F : List (List Int)} {lo hi : Rat} {d l : Nat} (hm : ∀ f ∈ F, f ∈ menu) (h : Wt F lo hi d l) (c : NF F hi - NF F lo = 1) (w : hi - lo ≤ 1) : Fo F lo hi :=
  ⟨h.d1.up (h.lk hm), h.d2.up (h.lk hm), .inr ⟨h.lt, by omega, h.z1, h.z2, w⟩⟩
theorem Wt.deep {F : List (List Int)} {lo hi : Rat} {d l : Nat} (hm : ∀ f ∈ F, f ∈ menu) (nd : F.Nodup) (h : Wt F lo hi d l) (c : ¬(NF F hi - NF F lo = 1 ∧ hi - lo ≤ 1)) (m : 0 < NF F hi - NF F lo) : ∃ e, d = e + 1 := by
  cases d with
  | succ e => exact ⟨e, rfl⟩
  | zero =>
    have w := h.wd
    rw [Nat.pow_zero] at w
    have w : hi - lo ≤ sep := by
      have : ((1 : Nat) : Rat) = 1 := rfl
      rw [this] at w
      grind
    have s := sep_one
    have := short_one hm nd (show lo ≤ hi by have := h.lt; grind) w
    exact absurd ⟨by omega, by grind⟩ c
theorem pow2r (n : Nat) : ((2 ^ (n + 1) : Nat) : Rat) = 2 * ((2 ^ n : Nat) : Rat) := by
  rw [Nat.pow_succ]
  push_cast
  grind
theorem Wt.two {F : List (List Int)} {lo hi : Rat} {d l : Nat} (hm : ∀ f ∈ F, f ∈ menu) (h : Wt F lo hi (d + 1) l) (z : prodE F ((lo + hi) / 2) ≠ 0) : Wt F lo ((lo + hi) / 2) d (l + 1) ∧ Wt F ((lo + hi) / 2) hi d (l + 1) ∧ NF F lo ≤ NF F ((lo + hi) / 2) ∧ NF F ((lo + hi) / 2) ≤ NF F hi := by
  have lt := h.lt
  have w := h.wd
  have t := h.top
  have dl := h.dl
  rw [pow2r] at w
  have n1 := nf_mono hm (show lo ≤ (lo + hi) / 2 by grind)
  have n2 := nf_mono hm (show (lo + hi) / 2 ≤ hi by grind)
  have m := h.d1.mid h.d2
  refine ⟨⟨by grind, h.d1.up (by omega), m, by grind, h.z1, z, by omega, by omega⟩, ⟨by grind, m, h.d2.up (by omega), by grind, z, h.z2, by omega, by omega⟩, n1, n2⟩
theorem Wt.mid {F : List (List Int)} {lo hi g : Rat} {d l : Nat} (hm : ∀ f ∈ F, f ∈ menu) (nd : F.Nodup) (h : Wt F lo hi (d + 1) l) (z : prodE F ((lo + hi) / 2) = 0) (g0 : 0 < g) (g1 : g ≤ (hi - (lo + hi) / 2) / 2) (gd : DN (2 ^ (l + d + 2)) g) (N : NearOk F ((lo + hi) / 2) g) :
    Fo F ((lo + hi) / 2) ((lo + hi) / 2) ∧ Wt F lo ((lo + hi) / 2 - g) d (l + d + 2) ∧ Wt F ((lo + hi) / 2 + g) hi d (l + d + 2) ∧ NF F lo ≤ NF F ((lo + hi) / 2 - g) ∧ BF F ((lo + hi) / 2) = NF F ((lo + hi) / 2 - g) ∧ NF F ((lo + hi) / 2 + g) = NF F ((lo + hi) / 2 - g) + 1 ∧ NF F ((lo + hi) / 2 + g) ≤ NF F hi := by
  have lt := h.lt
  have w := h.wd
  have t := h.top
  have dl := h.dl
  have lk := h.lk hm
  rw [pow2r] at w
  have m := h.d1.mid h.d2
  have z1 := (bf_nf hm nd _).2 z
  have e1 := N.one
  have a1 := nf_lt hm (show (lo + hi) / 2 - g < (lo + hi) / 2 by grind)
  have a2 := nf_mono hm (show (lo + hi) / 2 ≤ (lo + hi) / 2 + g by grind)
  have n1 := nf_mono hm (show lo ≤ (lo + hi) / 2 - g by grind)
  have n2 := nf_mono hm (show (lo + hi) / 2 + g ≤ hi by grind)
  have l1 := h.d1.lo
  have l2 := h.d2.hi
  have md : DN (2 ^ (l + d + 2)) ((lo + hi) / 2) := m.dn.up (by omega)
  refine ⟨⟨m.up (by omega), m.up (by omega), .inl ⟨rfl, z1⟩⟩, ⟨by grind, h.d1.up (by omega), ⟨md.sub gd, by grind, by grind⟩, by grind, h.z1, N.lo, by omega, by omega⟩, ⟨by grind, ⟨md.add gd, by grind, by grind⟩, h.d2.up (by omega), by grind, N.hi, h.z2, by omega, by omega⟩, n1, by omega, by omega, n2⟩
/-- the first interval -/
theorem Wt.start {F : List (List Int)} {B : Int} (hm : ∀ f ∈ F, f ∈ menu) (nd : F.Nodup) (h : BndOk F B) (few : TF F ≤ 26) : Wt F (-B : Int) (B : Int) 65 0 ∧ NF F (-B : Int) = 0 ∧ NF F (B : Int) = TF F := by
  have p := h.pos
  have b := h.bits
  have cB : ((-B : Int) : Rat) = -(B : Rat) := by push_cast; rfl
  have b1 : (1 : Rat) ≤ (B : Rat) := by exact_mod_cast p
  have b2 : (B : Rat) ≤ ((2 ^ 50 : Nat) : Rat) := by
    have : B ≤ ((2 ^ 50 : Nat) : Int) := by
      have : (2 : Nat) ^ 50 = 1125899906842624 := by decide
      rw [this] at b ⊢
      omega
    have q : (B : Rat) ≤ (((2 ^ 50 : Nat) : Int) : Rat) := by exact_mod_cast this
    simpa using q
  have c1 : ((2 ^ 50 : Nat) : Rat) ≤ ((2 ^ 60 : Nat) : Rat) := by decide +kernel
  have c2 : 2 * ((2 ^ 50 : Nat) : Rat) ≤ sep * ((2 ^ 65 : Nat) : Rat) := by decide +kernel
  have n0 : NF F (-(B : Rat)) = 0 := nf_zero hm h.lo
  have n1 : NF F (B : Rat) = TF F := nf_all hm h.hi
  have zz : ∀ x, (∀ j ∈ flat F, rt j x ≠ 0) → prodE F x ≠ 0 := fun x k q => by
    obtain ⟨j, hj, q⟩ := (prodE_zero hm).mp q
    exact k j hj q
  rw [cB]
  refine ⟨⟨by grind, ⟨(DN.int B).neg, by grind, by grind⟩, ⟨DN.int B, by grind, by grind⟩, by grind, zz _ fun j hj => by rw [h.lo j hj]; decide, zz _ fun j hj => by rw [h.hi j hj]; decide, by omega, by decide⟩, n0, n1⟩
theorem rising_len {n : Nat} : ∀ {l : List Nat} {a : Nat}, l.Pairwise (· < ·) → (∀ x ∈ l, a ≤ x ∧ x < n) → a ≤ n → a + l.length ≤ n
  | [], a, _, _, h => h
  | b :: l, a, hp, hb, h => by
    obtain ⟨p1, p2⟩ := List.pairwise_cons.mp hp
    have h1 := hb b List.mem_cons_self
    have := rising_len (n := n) (l := l) (a := b + 1) p2 (fun x hx => ⟨p1 x hx, (hb x (List.mem_cons_of_mem _ hx)).2⟩) (by omega)
    rw [List.length_cons]; omega
theorem few_roots (F : List (List Int)) (hm : ∀ f ∈ F, f ∈ menu) (nd : F.Nodup) : TF F ≤ 26 := by
  have l := RF_len hm
  have p := (RF_perm F).length_eq
  have : (flat F).length ≤ 26 := by
    have := rising_len (n := 26) (l := RF F) (a := 0) (RF_sorted nd) (fun x hx => ⟨Nat.zero_le _, (mem_flat.mp ((RF_perm F).mem_iff.mp hx)).1⟩) (by decide)
    omega
  omega
/-! which index the intervals hold -/
def cfi {α : Type} (idx : α → Int) (k : Int) : List α → Nat
  | [] => 0
  | e :: l => (if idx e = k then 1 else 0) + cfi idx k l
theorem cfi_append {α : Type} (idx : α → Int) (k : Int) : ∀ (l m : List α), cfi idx k (l ++ m) = cfi idx k l + cfi idx k m
  | [], m => by simp [cfi]
  | e :: l, m => by simp only [List.cons_append, cfi, cfi_append idx k l m]; omega
def cwi {α : Type} (lo hi : α → Int) (k : Int) : List α → Nat
  | [] => 0
  | e :: l => (if lo e ≤ k ∧ k < hi e then 1 else 0) + cwi lo hi k l
def ms {α : Type} (d : α → Nat) : List α → Nat
  | [] => 0
  | e :: l => (2 ^ (d e + 1) - 1) + ms d l
theorem cfi_pos {α : Type} {idx : α → Int} {k : Int} : ∀ {l : List α}, 0 < cfi idx k l → ∃ e ∈ l, idx e = k
  | [], h => by simp [cfi] at h
  | e :: l, h => by
    by_cases c : idx e = k
    · exact ⟨e, List.mem_cons_self, c⟩
    · have h : 0 < (if idx e = k then 1 else 0) + cfi idx k l := h
      rw [if_neg c] at h
      obtain ⟨x, h1, h2⟩ := cfi_pos (idx := idx) (k := k) (l := l) (by omega)
      exact ⟨x, List.mem_cons_of_mem _ h1, h2⟩
theorem cfi_mem {α : Type} {idx : α → Int} : ∀ {l : List α} {e : α}, e ∈ l → 0 < cfi idx (idx e) l
  | x :: l, e, h => by
    rcases List.mem_cons.mp h with rfl | h
    · show 0 < (if idx e = idx e then 1 else 0) + cfi idx (idx e) l
      rw [if_pos rfl]; omega
    · have := cfi_mem (idx := idx) h
      show 0 < (if idx x = idx e then 1 else 0) + cfi idx (idx e) l
      omega
theorem cfi_apart {α : Type} {idx : α → Int} : ∀ {l : List α}, (∀ k, cfi idx k l ≤ 1) → l.Pairwise fun a b => idx a ≠ idx b
  | [], _ => .nil
  | e :: l, h => by
    refine List.pairwise_cons.mpr ⟨fun b hb q => ?_, cfi_apart fun k => by have := h k; simp only [cfi] at this; omega⟩
    have := h (idx e)
    simp only [cfi, if_true] at this
    have := cfi_mem (idx := idx) hb
    rw [← q] at this
    omega
/-! sorting by insertion -/
def insS {α : Type} (key : α → Rat) (l : List α) (x : α) : List α := l.filter (fun y => decide (key y < key x)) ++ [x] ++ l.drop (l.filter (fun y => decide (key y < key x))).length
theorem insS_ok {α : Type} {key : α → Rat} {x : α} : ∀ {l : List α}, l.Pairwise (fun a b => key a < key b) → (∀ a ∈ l, key a ≠ key x) → (insS key l x).Pairwise (fun a b => key a < key b) ∧ (insS key l x).Perm (x :: l)
  | [], _, _ => ⟨List.pairwise_singleton _ _, List.Perm.refl _⟩
  | a :: l, hp, hn => by
    obtain ⟨p1, p2⟩ := List.pairwise_cons.mp hp
    by_cases c : key a < key x
    · obtain ⟨i1, i2⟩ := insS_ok (x := x) p2 fun b hb => hn b (List.mem_cons_of_mem _ hb)
      have e : insS key (a :: l) x = a :: insS key l x := by
        unfold insS
        rw [List.filter_cons_of_pos (by simpa using c)]; rfl
      rw [e]
      refine ⟨List.pairwise_cons.mpr ⟨fun b hb => ?_, i1⟩, (i2.cons a).trans (List.Perm.swap _ _ _)⟩
      rcases List.mem_cons.mp (i2.mem_iff.mp hb) with rfl | hb
      · exact c
      · exact p1 b hb
    · have lt : key x < key a := by have := hn a List.mem_cons_self; grind
      have e : insS key (a :: l) x = x :: a :: l := by
        have : (a :: l).filter (fun y => decide (key y < key x)) = [] := List.filter_eq_nil_iff.mpr fun b hb => by
          rcases List.mem_cons.mp hb with rfl | hb
          · simpa using c
          · have := p1 b hb
            simp; grind
        unfold insS
        rw [this]; rfl
      rw [e]
      refine ⟨List.pairwise_cons.mpr ⟨fun b hb => ?_, hp⟩, List.Perm.refl _⟩
      rcases List.mem_cons.mp hb with rfl | hb
      · exact lt
      · have := p1 b hb; grind
/-- strictly rising numbers that fill an interval stand at their places -/
theorem rising {n : Int} : ∀ {l : List Int} {a : Int}, l.Pairwise (· < ·) → (∀ x ∈ l, a ≤ x) → (∀ k, a ≤ k → k < n → k ∈ l) → ∀ i : Nat, a + i < n → l[i]? = some (a + i)
  | [], a, _, _, h, i, hi => by have := h a (Int.le_refl _) (by omega); cases this
  | b :: l, a, hp, hge, h, i, hi => by
    obtain ⟨p1, p2⟩ := List.pairwise_cons.mp hp
    have hb : b = a := by
      have h1 := hge b List.mem_cons_self
      rcases List.mem_cons.mp (h a (Int.le_refl _) (by omega)) with e | e
      · exact e.symm
      · have := p1 a e; omega
    subst hb
    cases i with
    | zero => simp
    | succ i =>
      have := rising (n := n) (l := l) (a := b + 1) p2 (fun x hx => by have := p1 x hx; omega) (fun k k1 k2 => by
        rcases List.mem_cons.mp (h k (by omega) k2) with e | e
        · omega
        · exact e) i (by omega)
      rw [List.getElem?_cons_succ, this]
      congr 1; omega
/-- the sorted intervals: each root at its place -/
theorem places {α : Type} {F : List (List Int)} {lo hi : α → Rat} (hm : ∀ f ∈ F, f ∈ menu) {E L : List α} (hc : ∀ k : Int, cfi (fun e => BF F (lo e)) k E = if 0 ≤ k ∧ k < TF F then 1 else 0) (hp : L.Perm E) (hs : L.Pairwise fun a b => lo a < lo b) {k : Nat} (hk : (k : Int) < TF F) :
    ∃ e ∈ E, L[k]? = some e ∧ BF F (lo e) = k := by
  have ap : E.Pairwise fun a b => BF F (lo a) ≠ BF F (lo b) := cfi_apart (idx := fun e => BF F (lo e)) fun k => by rw [hc]; split <;> omega
  have apL : L.Pairwise fun a b => BF F (lo a) ≠ BF F (lo b) := (hp.pairwise_iff fun h => Ne.symm h).mpr ap
  have ri : (L.map fun e => BF F (lo e)).Pairwise (· < ·) := by
    rw [List.pairwise_map]
    refine (List.Pairwise.and hs apL).imp fun {a b} ⟨x, y⟩ => ?_
    have := nf_lt hm x
    have := bf_le hm (lo a)
    omega
  have r := rising (n := TF F) (l := L.map fun e => BF F (lo e)) (a := 0) ri (fun x hx => by
    obtain ⟨e, he, rfl⟩ := List.mem_map.mp hx
    have this : 0 < cfi (fun e => BF F (lo e)) (BF F (lo e)) E := cfi_mem (idx := fun e => BF F (lo e)) (hp.mem_iff.mp he)
    rw [hc] at this
    show 0 ≤ BF F (lo e)
    split at this <;> omega) (fun k k0 k1 => by
    obtain ⟨e, he, q⟩ := cfi_pos (idx := fun e => BF F (lo e)) (k := k) (l := E) (by rw [hc, if_pos ⟨k0, k1⟩]; omega)
    exact List.mem_map.mpr ⟨e, hp.mem_iff.mpr he, q⟩) k (by omega)
  rw [List.getElem?_map] at r
  cases q : L[k]? with
  | none => rw [q] at r; cases r
  | some e =>
    rw [q] at r
    refine ⟨e, hp.mem_iff.mp (List.mem_of_getElem? q), rfl, ?_⟩
    have this : BF F (lo e) = 0 + (k : Int) := Option.some.inj r
    omega
theorem Fo.aro {F : List (List Int)} (hm : ∀ f ∈ F, f ∈ menu) (nd : F.Nodup) {lo hi : Rat} (h : Fo F lo hi) {k ρ : Nat} (R : IsR F k ρ) (e : BF F lo = k) : Aro F ρ lo hi := by
  refine Aro.of_counts hm nd R ?_
  rcases h.or with ⟨a, b⟩ | ⟨a, b, c, d, _⟩
  · exact .inl ⟨a, by omega, by omega⟩
  · have := (bf_nf hm nd lo).1 c
    exact .inr ⟨a, by omega, by omega, c, d⟩
end K23
/-! the stack of the intervals; how many are found -/
namespace K23
def StkOk : List Nat → Prop
  | [] => True
  | h :: t => t.Pairwise (· < ·) ∧ (∀ x ∈ t, h ≤ x) ∧ h ≤ 65 ∧ ∀ x ∈ t, x ≤ 65
theorem StkOk.pop {h : Nat} : ∀ {t : List Nat}, StkOk (h :: t) → StkOk t
  | [], _ => trivial
  | a :: t, ⟨h1, h2, h3, h4⟩ => by
    obtain ⟨p1, p2⟩ := List.pairwise_cons.mp h1
    exact ⟨p2, fun x hx => Nat.le_of_lt (p1 x hx), h4 a List.mem_cons_self, fun x hx => h4 x (List.mem_cons_of_mem _ hx)⟩
theorem StkOk.two {d : Nat} {t : List Nat} (h : StkOk ((d + 1) :: t)) : StkOk (d :: d :: t) := by
  obtain ⟨h1, h2, h3, h4⟩ := h
  refine ⟨List.pairwise_cons.mpr ⟨fun x hx => by have := h2 x hx; omega, h1⟩, fun x hx => ?_, by omega, fun x hx => ?_⟩
  · rcases List.mem_cons.mp hx with e | e
    · omega
    · have := h2 x e; omega
  · rcases List.mem_cons.mp hx with e | e
    · omega
    · exact h4 x e
theorem StkOk.one {d : Nat} {t : List Nat} (h : StkOk ((d + 1) :: t)) : StkOk (d :: t) := by
  obtain ⟨h1, h2, h3, h4⟩ := h
  exact ⟨h1, fun x hx => by have := h2 x hx; omega, by omega, h4⟩
theorem StkOk.len : ∀ {l : List Nat}, StkOk l → l.length ≤ 67
  | [], _ => Nat.zero_le _
  | h :: t, ⟨h1, _, _, h4⟩ => by
    have := rising_len (n := 66) (a := 0) h1 (fun x hx => ⟨Nat.zero_le _, by have := h4 x hx; omega⟩) (by decide)
    rw [List.length_cons]; omega
def sm (f : Int → Nat) : Nat → Nat
  | 0 => 0
  | n + 1 => f n + sm f n
theorem sm_add (f g : Int → Nat) : ∀ n, sm (fun k => f k + g k) n = sm f n + sm g n
  | 0 => rfl
  | n + 1 => by simp only [sm, sm_add f g n]; omega
theorem sm_one (i : Int) : ∀ n : Nat, 0 ≤ i → i < n → sm (fun k => if i = k then 1 else 0) n = 1
  | 0, h1, h2 => by omega
  | n + 1, h1, h2 => by
    show (if i = (n : Int) then 1 else 0) + sm (fun k => if i = k then 1 else 0) n = 1
    by_cases c : i = n
    · rw [if_pos c]
      have z : ∀ m : Nat, (m : Int) ≤ i → sm (fun k => if i = k then 1 else 0) m = 0 := fun m => by
        induction m with
        | zero => intro _; rfl
        | succ m ih =>
          intro h
          show (if i = (m : Int) then 1 else 0) + sm (fun k => if i = k then 1 else 0) m = 0
          rw [if_neg (by omega), ih (by omega)]
      rw [z n (by omega)]
    · rw [if_neg c, sm_one i n h1 (by omega)]
theorem sm_le {f : Int → Nat} (h : ∀ k, f k ≤ 1) : ∀ n, sm f n ≤ n
  | 0 => Nat.le_refl _
  | n + 1 => by have := h n; have := sm_le h n; simp only [sm]; omega
theorem cfi_len {α : Type} {idx : α → Int} {n : Nat} : ∀ {l : List α}, (∀ e ∈ l, 0 ≤ idx e ∧ idx e < n) → l.length = sm (fun k => cfi idx k l) n
  | [], _ => by
    have : ∀ n, sm (fun _ => 0) n = 0 := fun n => by
      induction n with
      | zero => rfl
      | succ n ih => simp only [sm, ih]
    show 0 = sm (fun k => 0) n
    rw [this]
  | e :: l, h => by
    have ih := cfi_len (idx := idx) (n := n) (l := l) fun x hx => h x (List.mem_cons_of_mem _ hx)
    obtain ⟨h1, h2⟩ := h e List.mem_cons_self
    show l.length + 1 = sm (fun k => (if idx e = k then 1 else 0) + cfi idx k l) n
    rw [sm_add (fun k => if idx e = k then 1 else 0) (fun k => cfi idx k l), sm_one _ _ h1 h2, ih]
    omega
/-- the counts say that few are found -/
theorem found_len {α : Type} {idx : α → Int} {n : Int} {l : List α} {g : Int → Nat} (h : ∀ k : Int, cfi idx k l + g k = if 0 ≤ k ∧ k < n then 1 else 0) (hn : n ≤ 26) : l.length ≤ 26 := by
  rw [cfi_len (idx := idx) (n := 26) (l := l) fun e he => ?_]
  · refine sm_le (fun k => ?_) 26
    have := h k
    split at this <;> omega
  · have a := cfi_mem (idx := idx) he
    have := h (idx e)
    split at this <;> omega
end K23
/-! the law's own arithmetic -/
namespace K23
/-- Euclid's algorithm after i turns -/
structure Eu (g K : Nat) (i : Nat) (a b : Nat) : Prop where
  g : Nat.gcd a b = g
  m : (i = 0 ∧ b < 2 ^ K) ∨ (1 ≤ i ∧ b < a ∧ a * b < 2 ^ (2 * K + 1 - i))
theorem Eu.step {g K i a b : Nat} (h : Eu g K i a b) (hb : b ≠ 0) : Eu g K (i + 1) b (a % b) := by
  have lt := Nat.mod_lt a (Nat.pos_of_ne_zero hb)
  refine ⟨by rw [Nat.gcd_comm, ← Nat.gcd_rec, Nat.gcd_comm]; exact h.g, .inr ⟨by omega, lt, ?_⟩⟩
  rcases h.m with ⟨e, h1⟩ | ⟨e, h1, h2⟩
  · subst e
    rw [show 2 * K + 1 - (0 + 1) = K + K by omega, Nat.pow_add]
    exact Nat.mul_lt_mul'' h1 (by omega)
  · have two : 2 * (a % b) ≤ a := by
      have := Nat.div_add_mod a b
      have d : 1 ≤ a / b := (Nat.one_le_div_iff (Nat.pos_of_ne_zero hb)).mpr (by omega)
      have := Nat.mul_le_mul_left b d
      omega
    have m : 2 * (b * (a % b)) ≤ a * b := by
      have := Nat.mul_le_mul_left b two
      have e1 : b * (2 * (a % b)) = 2 * (b * (a % b)) := by rw [Nat.mul_left_comm]
      rw [e1, Nat.mul_comm b a] at this
      exact this
    cases q : 2 * K + 1 - i with
    | zero =>
      rw [q, Nat.pow_zero] at h2
      have : 0 < a * b := Nat.mul_pos (by omega) (Nat.pos_of_ne_zero hb)
      omega
    | succ e2 =>
      rw [q, Nat.pow_succ] at h2
      rw [show 2 * K + 1 - (i + 1) = e2 by omega]
      omega
theorem Eu.fin {g K i a b : Nat} (h : Eu g K i a b) (hi : 2 * K + 1 ≤ i) : b = 0 := by
  rcases h.m with ⟨e, _⟩ | ⟨_, h1, h2⟩
  · omega
  · rw [show 2 * K + 1 - i = 0 by omega, Nat.pow_zero] at h2
    have : a * b = 0 := by omega
    rcases Nat.mul_eq_zero.mp this with z | z <;> omega
theorem Eu.done {g K i a : Nat} (h : Eu g K i a 0) : a = g := by rw [← h.g, Nat.gcd_zero_right]
/-! sums of the coefficients' sizes -/
def l1 : List Int → Nat
  | [] => 0
  | c :: t => c.natAbs + l1 t
theorem l1_coef : ∀ (l : List Int) (i : Nat), (cI l i).natAbs ≤ l1 l
  | [], i => by show 0 ≤ _; exact Nat.zero_le _
  | c :: t, 0 => Nat.le_add_right _ _
  | c :: t, i + 1 => Nat.le_trans (l1_coef t i) (Nat.le_add_left _ _)
theorem l1_set : ∀ (l : List Int) (i : Nat) (d : Int), i < l.length → l1 (l.set i (cI l i + d)) ≤ l1 l + d.natAbs
  | [], i, d, h => by simp at h
  | c :: t, 0, d, _ => by
    show (c + d).natAbs + l1 t ≤ c.natAbs + l1 t + d.natAbs
    omega
  | c :: t, i + 1, d, h => by
    have := l1_set t i d (by simpa using h)
    show c.natAbs + l1 (t.set i (cI t i + d)) ≤ c.natAbs + l1 t + d.natAbs
    omega
theorem l1_map (k : Int) : ∀ l : List Int, l1 (l.map (k * ·)) = k.natAbs * l1 l
  | [] => by simp [l1]
  | c :: t => by
    show (k * c).natAbs + l1 (t.map (k * ·)) = k.natAbs * (c.natAbs + l1 t)
    rw [l1_map k t, Int.natAbs_mul, Nat.mul_add]
theorem l1_take_succ : ∀ (l : List Int) (i : Nat), i < l.length → l1 (l.take (i + 1)) = l1 (l.take i) + (cI l i).natAbs
  | [], i, h => by simp at h
  | c :: t, 0, _ => by show c.natAbs + l1 (t.take 0) = l1 [] + _; simp [l1]; rfl
  | c :: t, i + 1, h => by
    show c.natAbs + l1 (t.take (i + 1)) = c.natAbs + l1 (t.take i) + _
    rw [l1_take_succ t i (by simpa using h)]
    show _ = _ + (cI t i).natAbs
    omega
theorem l1_take : ∀ (l : List Int) (i : Nat), l1 (l.take i) ≤ l1 l
  | [], i => by simp
  | c :: t, 0 => Nat.zero_le _
  | c :: t, i + 1 => Nat.add_le_add_left (l1_take t i) _
/-! values -/
def pwR (x : Rat) : Nat → Rat
  | 0 => 1
  | n + 1 => pwR x n * x
theorem evI_set : ∀ (l : List Int) (i : Nat) (d : Int), i < l.length → ∀ x, evI (l.set i (cI l i + d)) x = evI l x + d * pwR x i
  | [], i, d, h, _ => by simp at h
  | c :: t, 0, d, _, x => by
    show evI ((c + d) :: t) x = evI (c :: t) x + d * 1
    rw [evI_cons, evI_cons]; push_cast; grind
  | c :: t, i + 1, d, h, x => by
    have := evI_set t i d (by simpa using h) x
    show evI (c :: t.set i (cI t i + d)) x = evI (c :: t) x + d * (pwR x i * x)
    rw [evI_cons, evI_cons, this]; grind
theorem evI_take_succ : ∀ (l : List Int) (i : Nat), i < l.length → ∀ x, evI (l.take (i + 1)) x = evI (l.take i) x + cI l i * pwR x i
  | [], i, h, _ => by simp at h
  | c :: t, 0, _, x => by
    show evI (c :: t.take 0) x = evI [] x + c * 1
    rw [evI_cons, List.take_zero, evI_nil]; grind
  | c :: t, i + 1, h, x => by
    have := evI_take_succ t i (by simpa using h) x
    show evI (c :: t.take (i + 1)) x = evI (c :: t.take i) x + cI t i * (pwR x i * x)
    rw [evI_cons, evI_cons, this]; grind
theorem pwR_add (x : Rat) (i : Nat) : ∀ j, pwR x (i + j) = pwR x i * pwR x j
  | 0 => by show pwR x i = pwR x i * 1; grind
  | j + 1 => by
    show pwR x (i + j) * x = pwR x i * (pwR x j * x)
    rw [pwR_add x i j]; grind
theorem evI_zeros (n : Nat) (x : Rat) : evI (List.replicate n 0) x = 0 := by
  induction n with
  | zero => exact evI_nil x
  | succ n ih => rw [List.replicate_succ, evI_cons, ih]; push_cast; grind
theorem l1_zeros (n : Nat) : l1 (List.replicate n 0) = 0 := by
  induction n with
  | zero => rfl
  | succ n ih => show 0 + l1 (List.replicate n 0) = 0; rw [ih]
/-- the product's loops: (i, j) products are laid -/
structure MuI (a b F : List Int) (i j : Nat) : Prop where
  len : F.length = a.length + b.length
  ev : ∀ x, evI F x = evI (a.take i) x * evI b x + cI a i * pwR x i * evI (b.take j) x
  sz : l1 F ≤ l1 (a.take i) * l1 b + (cI a i).natAbs * l1 (b.take j)
theorem MuI.start (a b : List Int) : MuI a b (List.replicate (a.length + b.length) 0) 0 0 := by
  refine ⟨by simp, fun x => ?_, by rw [l1_zeros]; exact Nat.zero_le _⟩
  rw [evI_zeros, List.take_zero, List.take_zero, evI_nil]; grind
theorem MuI.step {a b F : List Int} {i j : Nat} (h : MuI a b F i j) (hi : i < a.length) (hj : j < b.length) : MuI a b (F.set (i + j) (cI F (i + j) + cI a i * cI b j)) i (j + 1) := by
  have hl : i + j < F.length := by have := h.len; omega
  refine ⟨by rw [List.length_set]; exact h.len, fun x => ?_, ?_⟩
  · rw [evI_set F _ _ hl, h.ev, evI_take_succ b j hj, pwR_add]
    push_cast; grind
  · have := l1_set F _ (cI a i * cI b j) hl
    have s := h.sz
    rw [l1_take_succ b j hj, Nat.mul_add]
    rw [Int.natAbs_mul] at this
    omega
theorem MuI.next {a b F : List Int} {i : Nat} (h : MuI a b F i b.length) (hi : i < a.length) : MuI a b F (i + 1) 0 := by
  refine ⟨h.len, fun x => ?_, ?_⟩
  · rw [h.ev, List.take_length, evI_take_succ a i hi, List.take_zero, evI_nil]; grind
  · have := h.sz
    rw [List.take_length] at this
    rw [l1_take_succ a i hi, Nat.add_mul, List.take_zero]
    show _ ≤ _ + _ * 0
    omega
theorem l1_trim (l : List Int) : l1 (trimI l) ≤ l1 l := by
  obtain ⟨_, k, e⟩ := trimI_spec l
  have key : ∀ t : List Int, l = t ++ List.replicate k 0 → t = l.take t.length := fun t q => by rw [q, List.take_left]
  rw [key _ e]
  exact l1_take l _
theorem cop_l1 : (menu.all fun f => decide (l1 f ≤ 203)) = true := by decide +kernel
theorem l1_menu {f : List Int} (h : f ∈ menu) : l1 f ≤ 203 := of_decide_eq_true (List.all_eq_true.mp cop_l1 f h)
def dg (F : List (List Int)) : Nat := (F.map fun f => f.length - 1).sum
theorem dg_append (A B : List (List Int)) : dg (A ++ B) = dg A + dg B := by simp [dg]
theorem menu_cub : (menu.all fun f => decide (f.length ≤ 3) || decide (f = [-2, 0, 0, 1])) = true := by decide +kernel
theorem dg_no : ∀ {F : List (List Int)}, (∀ f ∈ F, f ∈ menu) → [-2, 0, 0, 1] ∉ F → dg F ≤ 2 * F.length
  | [], _, _ => Nat.le_refl _
  | f :: F, h, n => by
    have ih := dg_no (F := F) (fun g hg => h g (List.mem_cons_of_mem _ hg)) fun z => n (List.mem_cons_of_mem _ z)
    have := List.all_eq_true.mp menu_cub f (h f List.mem_cons_self)
    have nf : f ≠ [-2, 0, 0, 1] := fun z => n (by rw [z]; exact List.mem_cons_self)
    rw [decide_eq_false nf, Bool.or_false] at this
    have := of_decide_eq_true this
    have e : dg (f :: F) = (f.length - 1) + dg F := by simp [dg]
    rw [e, List.length_cons]; omega
theorem dg_le : ∀ {F : List (List Int)}, (∀ f ∈ F, f ∈ menu) → F.Nodup → dg F ≤ 2 * F.length + 1
  | [], _, _ => Nat.zero_le _
  | f :: F, h, nd => by
    obtain ⟨n1, n2⟩ := List.nodup_cons.mp nd
    have hF : ∀ g ∈ F, g ∈ menu := fun g hg => h g (List.mem_cons_of_mem _ hg)
    have e : dg (f :: F) = (f.length - 1) + dg F := by simp [dg]
    rw [e, List.length_cons]
    by_cases q : f = [-2, 0, 0, 1]
    · have := dg_no hF (by rw [← q]; exact n1)
      rw [q]; show 3 + _ ≤ _; omega
    · have := List.all_eq_true.mp menu_cub f (h f List.mem_cons_self)
      rw [decide_eq_false q, Bool.or_false] at this
      have := of_decide_eq_true this
      have := dg_le hF n2
      omega
/-- a product of factors of the menu, as the law lays it -/
structure Prd (p : List Int) (F : List (List Int)) : Prop where
  ev : ∀ x, evI p x = prodE F x
  tr : TrI p
  ne : p ≠ []
  len : p.length = 1 + dg F
  sz : l1 p ≤ 203 ^ F.length
theorem Prd.start : Prd [1] [] := ⟨fun x => by rw [evI_cons, evI_nil]; show _ = (1 : Rat); push_cast; grind, .inr (by decide), by decide, rfl, by decide⟩
theorem Prd.snoc {p f c : List Int} {F : List (List Int)} (h : Prd p F) (hf : f ∈ menu) (M : MuI p f c p.length 0) : Prd (trimI c) (F ++ [f]) := by
  obtain ⟨t1, t2⟩ := tr_menu hf
  have e : ∀ x, evI (trimI c) x = evI p x * evI f x := fun x => by
    have : evI (trimI c) x = evI c x := by
      obtain ⟨_, k, e⟩ := trimI_spec c
      have q : ∀ i, cI (trimI c) i = cI c i := fun i => by
        have := cI_append_zeros (trimI c) k i
        rw [← e] at this
        exact this.symm
      exact evI_congr q x
    rw [this, M.ev, List.take_length, List.take_zero, evI_nil]; grind
  obtain ⟨r, r1, r2, r3⟩ := mul_trim h.tr.tr t1.tr (fun z => h.ne (by unfold toQ at z; simpa using z)) (fun z => t2 (by unfold toQ at z; simpa using z))
  have len := len_of_ev (trim_tr c).tr r1 fun x => by
    rw [r3]; exact e x
  rw [toQ_len, toQ_len] at r2
  rw [toQ_len] at len
  have p1 := List.length_pos_iff.mpr h.ne
  have p2 := List.length_pos_iff.mpr t2
  refine ⟨fun x => ?_, trim_tr c, fun z => ?_, ?_, ?_⟩
  · rw [e, prodE_append, h.ev]
    show _ = _ * (evI f x * 1)
    grind
  · rw [z] at len; simp at len; omega
  · rw [dg_append, len]
    have := h.len
    have e1 : dg [f] = f.length - 1 := by simp [dg]
    rw [e1]; omega
  · have s := M.sz
    rw [List.take_length, List.take_zero] at s
    have s : l1 c ≤ l1 p * l1 f + (cI p p.length).natAbs * 0 := s
    have m := l1_menu hf
    have := l1_trim c
    have mm := Nat.mul_le_mul h.sz m
    rw [List.length_append]
    show _ ≤ 203 ^ (F.length + 1)
    rw [Nat.pow_succ]
    omega
end K23
/-! the law's bracket -/
namespace K23
/-- a point of the bracket: on a grid of at most 2^m parts -/
structure Gr (m : Nat) (x : Rat) : Prop where
  dn : ∃ M, 0 < M ∧ M ≤ 2 ^ m ∧ DN M x
  lo : -100 ≤ x
  hi : x ≤ 100
theorem Gr.bits {m : Nat} {x : Rat} (h : Gr m x) : R2b x (7 + m) m := by
  obtain ⟨M, a, b, c⟩ := h.dn
  have e : (100 : Rat) ≤ ((2 ^ 7 : Nat) : Rat) := by decide +kernel
  exact c.bits a b (by have := h.lo; grind) (by have := h.hi; grind)
/-- two points on one grid -/
structure Gr2 (m : Nat) (x y : Rat) : Prop where
  dn : ∃ M, 0 < M ∧ M ≤ 2 ^ m ∧ DN M x ∧ DN M y
/-- what is known of the bracket -/
structure Brk (F G : List (List Int)) (ρ m : Nat) (lo hi : Rat) : Prop where
  dn : ∃ M, 0 < M ∧ M ≤ 2 ^ m ∧ DN M lo ∧ DN M hi
  l1 : -100 ≤ lo
  l2 : hi ≤ 100
  lt : lo < hi
  a : rt ρ lo = 1
  b : rt ρ hi = -1
  z1 : prodE G lo ≠ 0
  z2 : prodE G hi ≠ 0
theorem Brk.lo {F G : List (List Int)} {ρ m : Nat} {lo hi : Rat} (h : Brk F G ρ m lo hi) : Gr m lo := by
  obtain ⟨M, a, b, c, d⟩ := h.dn
  exact ⟨⟨M, a, b, c⟩, h.l1, by have := h.lt; have := h.l2; grind⟩
theorem Brk.hi {F G : List (List Int)} {ρ m : Nat} {lo hi : Rat} (h : Brk F G ρ m lo hi) : Gr m hi := by
  obtain ⟨M, a, b, c, d⟩ := h.dn
  exact ⟨⟨M, a, b, d⟩, by have := h.lt; have := h.l1; grind, h.l2⟩
/-- only the root ρ between: by the count -/
theorem Brk.one {F G : List (List Int)} {ρ m : Nat} {lo hi : Rat} (hm : ∀ f ∈ G, f ∈ menu) (nd : G.Nodup) (hρ : ρ ∈ flat G) (h : Brk F G ρ m lo hi) (c : NF G hi = NF G lo + 1) : Aro G ρ lo hi := by
  refine ⟨hm, hρ, .inr ⟨h.lt, h.a, h.b, fun j hj ne => ?_⟩⟩
  have lt := h.lt
  have j26 := (mem_flat.mp hj).1
  have n1 := NF_flat hm lo
  have n2 := NF_flat hm hi
  have one := cnt_one (p := fun j => decide (rt j lo ≤ 0)) (q := fun j => decide (rt j hi ≤ 0)) (nd_flat nd) (fun j hj q => decide_eq_true ((mono_le (mem_flat.mp hj).1 (show lo ≤ hi by grind)).2.2.1 (of_decide_eq_true q))) (by omega) hρ (decide_eq_true (by have := h.b; omega)) (decide_eq_false (by have := h.a; omega)) j hj ne
  have v1 := rt_vals j26 lo
  have v2 := rt_vals j26 hi
  have w1 : rt j lo ≠ 0 := fun q => h.z1 ((prodE_zero hm).mpr ⟨j, hj, q⟩)
  unfold Off
  by_cases q : rt j hi ≤ 0
  · have := of_decide_eq_true (one (decide_eq_true q))
    omega
  · omega
theorem Brk.start {F G : List (List Int)} {ρ : Nat} (hρ : ρ < 26) (hm : ∀ f ∈ G, f ∈ menu) : Brk F G ρ 0 (-100) 100 := by
  have far1 : ∀ j, j < 26 → rt j (-100) = 1 := fun j hj => by
    have := List.all_eq_true.mp (show ((List.range 26).all fun j => decide (rt j (-100) = 1)) = true by decide +kernel) j (List.mem_range.mpr hj)
    exact of_decide_eq_true this
  have far2 : ∀ j, j < 26 → rt j 100 = -1 := fun j hj => by
    have := List.all_eq_true.mp (show ((List.range 26).all fun j => decide (rt j 100 = -1)) = true by decide +kernel) j (List.mem_range.mpr hj)
    exact of_decide_eq_true this
  refine ⟨⟨1, by decide, by decide, ⟨-100, by decide +kernel⟩, ⟨100, by decide +kernel⟩⟩, Rat.le_refl, Rat.le_refl, by decide +kernel, far1 ρ hρ, far2 ρ hρ, fun z => ?_, fun z => ?_⟩
  · obtain ⟨j, hj, q⟩ := (prodE_zero hm).mp z
    have := far1 j (mem_flat.mp hj).1
    omega
  · obtain ⟨j, hj, q⟩ := (prodE_zero hm).mp z
    have := far2 j (mem_flat.mp hj).1
    omega
/-- the middle, moved i times or at rest after fewer moves -/
structure Mid (G : List (List Int)) (m : Nat) (lo hi : Rat) (i : Nat) (x : Rat) : Prop where
  ex : ∃ k, k ≤ i ∧ (k : Int) ≤ BF G x ∧ (prodE G x = 0 → k = i) ∧ ∃ M, 0 < M ∧ M ≤ 2 ^ (m + 1 + 6 * k) ∧ DN M x ∧ DN M hi ∧ DN M lo
  ge : (lo + hi) / 2 ≤ x
  up : (36 + (i : Rat)) * (hi - x) ≥ 36 * ((hi - lo) / 2)
theorem few_G {G : List (List Int)} (hm : ∀ f ∈ G, f ∈ menu) (hl : G.length ≤ 5) : TF G ≤ 10 := by
  have : ∀ {G : List (List Int)}, (∀ f ∈ G, f ∈ menu) → TF G ≤ 2 * (G.length : Int) := fun {G} => by
    induction G with
    | nil => intro _; decide
    | cons f G ih =>
      intro h
      have := ih fun g hg => h g (List.mem_cons_of_mem _ hg)
      have e : TF (f :: G) = nrt f + TF G := by simp [TF]
      have n : nrt f ≤ 2 := by unfold nrt; split <;> (try split) <;> decide
      rw [e, List.length_cons]; push_cast; omega
  have := this hm
  omega
theorem bf_top {G : List (List Int)} (hm : ∀ f ∈ G, f ∈ menu) (x : Rat) : BF G x ≤ TF G := by
  have h1 := bf_le hm x
  have h2 := nf_mono hm (show x ≤ max x 5 by grind)
  have h3 := NF_right hm (x := max x 5) (by grind)
  omega
theorem bf_ge {G : List (List Int)} (hm : ∀ f ∈ G, f ∈ menu) (x : Rat) : 0 ≤ BF G x := by rw [BF_flat hm]; omega
theorem Mid.start {F G : List (List Int)} {ρ m : Nat} {lo hi : Rat} (hm : ∀ f ∈ G, f ∈ menu) (h : Brk F G ρ m lo hi) : Mid G m lo hi 0 ((lo + hi) / 2) := by
  obtain ⟨M, a, b, c, d⟩ := h.dn
  refine ⟨⟨0, Nat.le_refl _, bf_ge hm _, fun _ => rfl, M * 2, by omega, ?_, (c.add d).half, d.times 2, c.times 2⟩, Rat.le_refl, ?_⟩
  · show _ ≤ 2 ^ (m + 1 + 0)
    rw [Nat.add_zero, Nat.pow_succ]; omega
  · have := h.lt
    have z : ((0 : Nat) : Rat) = 0 := rfl
    rw [z]
    grind
theorem Mid.lt {G : List (List Int)} {m : Nat} {lo hi : Rat} {i : Nat} {x : Rat} (h : Mid G m lo hi i x) (lt : lo < hi) : x < hi := by
  have u := h.up
  have i0 : (0 : Rat) ≤ (i : Rat) := by exact_mod_cast Nat.zero_le i
  apply Decidable.byContradiction
  intro z
  have : 0 ≤ (36 + (i : Rat)) * (x - hi) := Rat.mul_nonneg (by grind) (by grind)
  grind
theorem Mid.rest {G : List (List Int)} {m : Nat} {lo hi : Rat} {i : Nat} {x : Rat} (h : Mid G m lo hi i x) (lt : lo < hi) (z : prodE G x ≠ 0) : Mid G m lo hi (i + 1) x := by
  obtain ⟨k, h1, h2, h3, h4⟩ := h.ex
  have hx := h.lt lt
  have u := h.up
  refine ⟨⟨k, by omega, h2, fun q => absurd q z, h4⟩, h.ge, ?_⟩
  push_cast
  grind
/-- one move: a (37 + i)-th of the way to the right end -/
theorem Mid.move {G : List (List Int)} {m : Nat} {lo hi : Rat} {i : Nat} {x : Rat} (hm : ∀ f ∈ G, f ∈ menu) (nd : G.Nodup) (h : Mid G m lo hi i x) (lt : lo < hi) (hi20 : i < 20) (z : prodE G x = 0) {q : Rat} (hq : q * (37 + (i : Rat)) = 1) : Mid G m lo hi (i + 1) (x + (hi - x) * q) := by
  obtain ⟨k, h1, h2, h3, M, m0, mm, md, mh, ml⟩ := h.ex
  have hx := h.lt lt
  have u := h.up
  have i0 : (0 : Rat) ≤ (i : Rat) := by exact_mod_cast Nat.zero_le i
  have q0 : 0 < q := by
    apply Decidable.byContradiction
    intro w
    have := Rat.mul_nonneg (show 0 ≤ -q by grind) (show (0 : Rat) ≤ 37 + (i : Rat) by grind)
    grind
  have st : 0 < (hi - x) * q := mul_pos' (by grind) q0
  have one := (bf_nf hm nd x).2 z
  have nx := nf_lt hm (show x < x + (hi - x) * q by grind)
  have hk := h3 z
  have dq : DN (37 + i) q := ⟨1, by push_cast; exact hq⟩
  refine ⟨⟨k + 1, by omega, by omega, fun _ => by omega, M * (37 + i), Nat.mul_pos m0 (by omega), ?_, (md.times (37 + i)).add ((mh.sub md).mul dq), mh.times (37 + i), ml.times (37 + i)⟩, by have := h.ge; grind, ?_⟩
  · rw [show m + 1 + 6 * (k + 1) = m + 1 + 6 * k + 6 by omega, Nat.pow_add]
    exact Nat.mul_le_mul mm (by show 37 + i ≤ 64; omega)
  · have e : (37 + (i : Rat)) * (hi - (x + (hi - x) * q)) = (36 + (i : Rat)) * (hi - x) := by grind
    push_cast
    grind
/-- after twenty tries the middle is no root, and not far right -/
theorem Mid.done {F G : List (List Int)} {ρ m : Nat} {lo hi x : Rat} (hm : ∀ f ∈ G, f ∈ menu) (hl : G.length ≤ 5) (B : Brk F G ρ m lo hi) (h : Mid G m lo hi 20 x) :
    prodE G x ≠ 0 ∧ lo < x ∧ x < hi ∧ x - lo ≤ (19 / 28) * (hi - lo) ∧ hi - x ≤ (19 / 28) * (hi - lo) ∧ ∃ M, 0 < M ∧ M ≤ 2 ^ (m + 61) ∧ DN M x ∧ DN M hi ∧ DN M lo := by
  obtain ⟨k, h1, h2, h3, M, m0, mm, md, mh, ml⟩ := h.ex
  have t1 := bf_top hm x
  have t2 := few_G hm hl
  have lt := B.lt
  have hx := h.lt lt
  have u := h.up
  have g := h.ge
  have c20 : ((20 : Nat) : Rat) = 20 := rfl
  rw [c20] at u
  refine ⟨fun z => ?_, by grind, hx, by grind, by grind, M, m0, Nat.le_trans mm (Nat.pow_le_pow_right (by decide) (by omega)), md, mh, ml⟩
  have := h3 z
  omega
theorem Mid.bits {F G : List (List Int)} {ρ m i : Nat} {lo hi x : Rat} (hm : ∀ f ∈ G, f ∈ menu) (hl : G.length ≤ 5) (B : Brk F G ρ m lo hi) (h : Mid G m lo hi i x) : R2b x (68 + m) (m + 61) := by
  obtain ⟨k, h1, h2, h3, M, m0, mm, md, mh, ml⟩ := h.ex
  have t1 := bf_top hm x
  have t2 := few_G hm hl
  have e : (100 : Rat) ≤ ((2 ^ 7 : Nat) : Rat) := by decide +kernel
  have hx := h.lt B.lt
  have ge := h.ge
  have l1 := B.l1
  have l2 := B.l2
  have lt := B.lt
  exact (md.bits (b := 7) m0 (Nat.le_trans mm (Nat.pow_le_pow_right (by decide) (show m + 1 + 6 * k ≤ m + 61 by omega))) (by grind) (by grind)).mono (by omega) (Nat.le_refl _)
/-- a number with the numerator 1 -/
theorem inv_nd (n : Nat) (h : 0 < n) : ∃ q : Rat, q.num = 1 ∧ q.den = n ∧ q * (n : Rat) = 1 := by
  refine ⟨⟨1, n, by omega, by simp⟩, rfl, rfl, ?_⟩
  have := Rat.num_divInt_den (⟨1, n, by omega, by simp⟩ : Rat)
  rw [Rat.divInt_eq_div] at this
  have d2 : (((n : Nat) : Int) : Rat) = ((n : Nat) : Rat) := Rat.intCast_natCast _
  have n0 : ((n : Nat) : Rat) ≠ 0 := by
    have : n ≠ 0 := by omega
    exact_mod_cast this
  have this : ((1 : Int) : Rat) / (((n : Nat) : Int) : Rat) = (⟨1, n, by omega, by simp⟩ : Rat) := this
  rw [d2] at this
  rw [← this]
  have : ((1 : Int) : Rat) = 1 := rfl
  grind
/-- between the ends there is the root ρ -/
theorem Brk.grow {F G : List (List Int)} {ρ m : Nat} {lo hi : Rat} (hm : ∀ f ∈ G, f ∈ menu) (hρ : ρ ∈ flat G) (h : Brk F G ρ m lo hi) : NF G lo + 1 ≤ NF G hi := by
  apply Decidable.byContradiction
  intro z
  have n1 := NF_flat hm lo
  have n2 := NF_flat hm hi
  have lt := h.lt
  have := cnt_eq (p := fun j => decide (rt j lo ≤ 0)) (q := fun j => decide (rt j hi ≤ 0)) (fun j hj q => decide_eq_true ((mono_le (mem_flat.mp hj).1 (show lo ≤ hi by grind)).2.2.1 (of_decide_eq_true q))) (by omega) ρ hρ (decide_eq_true (by have := h.b; omega))
  have := of_decide_eq_true this
  have := h.a
  omega
/-- how wide the bracket is after i turns -/
def wd : Nat → Rat
  | 0 => 200
  | i + 1 => (19 / 28) * wd i
theorem wd_end : wd 39 ≤ sep := by decide +kernel
end K23
/-! the law's signs of the roots -/
namespace K23
theorem num_den (x : Rat) : x * ((x.den : Nat) : Rat) = (x.num : Rat) ∧ (0 : Rat) < ((x.den : Nat) : Rat) := by
  have dp : (0 : Rat) < ((x.den : Nat) : Rat) := by
    have := Nat.pos_of_ne_zero x.den_nz
    exact_mod_cast this
  refine ⟨?_, dp⟩
  have := Rat.num_divInt_den x
  rw [Rat.divInt_eq_div] at this
  have d2 : (((x.den : Nat) : Int) : Rat) = ((x.den : Nat) : Rat) := Rat.intCast_natCast _
  rw [d2] at this
  grind
theorem sg_scale {y D : Rat} (hD : 0 < D) : sg (y * D) = sg y := by rw [sg_mul, sg_pos hD]; omega
theorem sI_of {k : Int} {y D : Rat} (hD : 0 < D) (e : (k : Rat) = y * D) : sI k = sg y := by rw [sI_sg, e, sg_scale hD]
theorem root_lin (a b : Int) (x : Rat) : sI (-a * (x.den : Int) - b * x.num) = sg (-(evI [a, b] x)) := by
  obtain ⟨h1, h2⟩ := num_den x
  refine sI_of h2 ?_
  have d2 : (((x.den : Nat) : Int) : Rat) = ((x.den : Nat) : Rat) := Rat.intCast_natCast _
  rw [evI2]; push_cast; rw [← h1]; grind
theorem root_cub (x : Rat) : sI (- -2 * (x.den : Int) * x.den * x.den - x.num * x.num * x.num) = sg (-(evI [-2, 0, 0, 1] x)) := by
  obtain ⟨h1, h2⟩ := num_den x
  refine sI_of (mul_pos' (mul_pos' h2 h2) h2) ?_
  have d2 : (((x.den : Nat) : Int) : Rat) = ((x.den : Nat) : Rat) := Rat.intCast_natCast _
  rw [evI4]; push_cast; rw [← h1]; grind
theorem root_sq (a b : Int) (x : Rat) : sI (- -b * (x.den : Int) * x.den - a * x.num * x.num) = sg (-(evI [-b, 0, a] x)) := by
  obtain ⟨h1, h2⟩ := num_den x
  refine sI_of (mul_pos' h2 h2) ?_
  have d2 : (((x.den : Nat) : Int) : Rat) = ((x.den : Nat) : Rat) := Rat.intCast_natCast _
  rw [evI3]; push_cast; rw [← h1]; grind
theorem num_pos (x : Rat) : (0 < x ↔ 0 < x.num) ∧ (x < 0 ↔ x.num < 0) := by
  have h := sg_num x
  unfold sI at h
  constructor
  · rw [← sg_eq_one, h]; split <;> split <;> omega
  · rw [← sg_eq_neg, h]; split <;> split <;> omega
/-- the signs of all roots of the factors -/
def sgn (F : List (List Int)) (x : Rat) : List Int := F.flatMap fun f => rs f x
theorem sgn_flat {F : List (List Int)} (hm : ∀ f ∈ F, f ∈ menu) (x : Rat) : sgn F x = (flat F).map fun j => rt j x := by
  induction F with
  | nil => rfl
  | cons f F ih =>
    show rs f x ++ sgn F x = (rk f ++ flat F).map _
    rw [List.map_append, rs_rk (hm f List.mem_cons_self), ih fun g hg => hm g (List.mem_cons_of_mem _ hg)]
theorem sgn_bf {F : List (List Int)} (hm : ∀ f ∈ F, f ∈ menu) (x : Rat) : (((sgn F x).filter fun s => decide (s < 0)).length : Int) = BF F x := by
  rw [← List.countP_eq_length_filter, sgn_flat hm, List.countP_map, BF_flat hm]; rfl
theorem sgn_zero {F : List (List Int)} (hm : ∀ f ∈ F, f ∈ menu) (x : Rat) : (0 : Int) ∈ sgn F x ↔ prodE F x = 0 := by
  rw [sgn_flat hm, prodE_zero hm, List.mem_map]
theorem rs_small : ∀ f ∈ menu, ∀ x, (rs f x).length ≤ 2 := fun f hf x => by
  unfold rs
  split
  · exact Nat.le_succ 1
  · split
    · exact Nat.zero_le _
    · split
      · exact Nat.le_refl 2
      · split <;> exact Nat.le_refl 2
theorem sgn_len {F : List (List Int)} (hm : ∀ f ∈ F, f ∈ menu) (x : Rat) : (sgn F x).length ≤ 2 * F.length := by
  induction F with
  | nil => exact Nat.le_refl _
  | cons f F ih =>
    have a := rs_small f (hm f List.mem_cons_self) x
    have b := ih fun g hg => hm g (List.mem_cons_of_mem _ hg)
    show (rs f x ++ sgn F x).length ≤ _
    rw [List.length_append, List.length_cons]; omega
theorem bf_1000 {F : List (List Int)} (hm : ∀ f ∈ F, f ∈ menu) : BF F 1000 = TF F := by
  have h1 := bf_top hm 1000
  have h2 := nf_lt hm (show (5 : Rat) < 1000 by decide +kernel)
  have h3 := NF_right hm (x := 5) (by decide)
  omega
end K23
/-! the law's end -/
namespace K23
theorem prodE_perm {A B : List (List Int)} (h : A.Perm B) (x : Rat) : prodE A x = prodE B x := by
  induction h with
  | nil => rfl
  | cons f _ ih => show evI f x * _ = evI f x * _; rw [ih]
  | swap f g l => show evI g x * (evI f x * _) = evI f x * (evI g x * _); grind
  | trans _ _ a b => rw [a, b]
theorem sgP_append (ρ : Nat) : ∀ A B, sgP ρ (A ++ B) = sgP ρ A * sgP ρ B
  | [], B => by show sgP ρ B = 1 * sgP ρ B; omega
  | g :: A, B => by
    show sgA ρ g * sgP ρ (A ++ B) = sgA ρ g * sgP ρ A * sgP ρ B
    rw [sgP_append ρ A B, Int.mul_assoc]
theorem perm_nd {A B : List (List Int)} (hA : A.Nodup) (hB : B.Nodup) (h : ∀ g, g ∈ A ↔ g ∈ B) : A.Perm B := by
  rw [List.perm_iff_count]
  intro a
  rw [hA.count, hB.count]
  by_cases c : a ∈ A
  · rw [if_pos c, if_pos ((h a).mp c)]
  · rw [if_neg c, if_neg fun z => c ((h a).mpr z)]
theorem l1_dg3 : ∀ {F : List (List Int)}, (∀ f ∈ F, f ∈ menu) → dg F ≤ 3 * F.length
  | [], _ => Nat.le_refl _
  | f :: F, h => by
    have ih := l1_dg3 (F := F) fun g hg => h g (List.mem_cons_of_mem _ hg)
    have := List.all_eq_true.mp menu_cub f (h f List.mem_cons_self)
    have e : dg (f :: F) = (f.length - 1) + dg F := by simp [dg]
    have : f.length ≤ 4 := by
      rcases Bool.or_eq_true_iff.mp this with q | q
      · have := of_decide_eq_true q; omega
      · rw [of_decide_eq_true q]; exact Nat.le_refl 4
    rw [e, List.length_cons]; omega
theorem pbd_map {s : List Int} {F : List (List Int)} {c : Int} (P : Prd s F) (h6 : F.length ≤ 6) (c3 : c.natAbs ≤ 3) : PBd (s.map (c * ·)) 48 := fun i => by
  have e : cI (s.map (c * ·)) i = c * cI s i := cI_map (f := (c * ·)) (by simp) ..
  rw [e, Int.natAbs_mul]
  have a := l1_coef s i
  have b := P.sz
  have d : 203 ^ F.length ≤ 203 ^ 6 := Nat.pow_le_pow_right (by decide) h6
  have f : c.natAbs * (cI s i).natAbs ≤ 3 * 203 ^ 6 := Nat.mul_le_mul c3 (by omega)
  exact Nat.lt_of_le_of_lt f (by decide)
theorem tr_mapc {s : List Int} {c : Int} (hc : c ≠ 0) (h : TrI s) : TrI (s.map (c * ·)) := by
  rcases h with h | h
  · left; rw [h]; rfl
  · right
    have e : ∀ i, cI (s.map (c * ·)) i = c * cI s i := fun i => cI_map (f := (c * ·)) (by simp) ..
    rw [e, List.length_map]
    exact Int.mul_ne_zero hc h
theorem q_ne {c : Int} (hc : c ≠ 0) : (c : Rat) ≠ 0 := by exact_mod_cast hc
theorem cha_of {s : List Int} {F : List (List Int)} {c : Int} (P : Prd s F) (fm : ∀ f ∈ F, f ∈ menu) (fn : F.Nodup) (f0 : F ≠ []) (fl : F.length ≤ 4) (c0 : c ≠ 0) (c3 : c.natAbs ≤ 3) : ChA (s.map (c * ·)) F := by
  have tr := tr_mapc c0 P.tr
  have fac : Fac (s.map (c * ·)) F := ⟨c, q_ne c0, fun x => by rw [evI_map, P.ev]⟩
  have dl := dg_le fm fn
  have l := P.len
  refine ⟨tr, (fac_len tr fm fac).2.mp f0, by rw [List.length_map]; omega, pbd_map P (by omega) c3, fm, fn, fac⟩
theorem asked_of {s : List Int} {D T : List (List Int)} {c : Int} (P : Prd s (D ++ T)) (dm : ∀ f ∈ D, f ∈ menu) (tm : ∀ f ∈ T, f ∈ menu) (dn : D.Nodup) (tn : T.Nodup) (dl : D.length ≤ 4) (tl : T.length ≤ 2) (c0 : c ≠ 0) (c3 : c.natAbs ≤ 3) : ∃ Ro, Asked (s.map (c * ·)) Ro ∧ ∀ g, g ∈ D ++ T ↔ g ∈ Ro := by
  have sub : ∀ g, g ∈ T.filter (fun f => decide (f ∉ D)) ↔ g ∈ T ∧ g ∉ D := fun g => by simp
  refine ⟨D ++ T.filter fun f => decide (f ∉ D), ⟨tr_mapc c0 P.tr, ?_, ?_, pbd_map P ?_ c3, ?_, ?_, ?_, fun f => decide (f ∈ D) && decide (f ∈ T), c, q_ne c0, fun x => ?_⟩, fun g => ?_⟩
  · intro z; exact P.ne (List.map_eq_nil_iff.mp z)
  · rw [List.length_map, P.len, dg_append]
    have := dg_le dm dn
    have := dg_le tm tn
    omega
  · rw [List.length_append]; omega
  · intro f hf
    rcases List.mem_append.mp hf with h | h
    · exact dm f h
    · exact tm f ((sub f).mp h).1
  · exact List.nodup_append.mpr ⟨dn, tn.filter _, fun a ha b hb e => ((sub b).mp hb).2 (e ▸ ha)⟩
  · have := List.length_filter_le (fun f => decide (f ∉ D)) T
    rw [List.length_append]; omega
  · rw [evI_map, P.ev, List.filter_append]
    have e1 : (T.filter fun f => decide (f ∉ D)).filter (fun f => decide (f ∈ D) && decide (f ∈ T)) = [] := by
      rw [List.filter_eq_nil_iff]
      intro a ha
      have := ((sub a).mp ha).2
      simp [this]
    rw [e1, List.append_nil, prodE_append, prodE_append, prodE_append, prodE_split (fun f => decide (f ∈ D)) T]
    have e2 : prodE (D.filter fun f => decide (f ∈ D) && decide (f ∈ T)) x = prodE (T.filter fun f => decide (f ∈ D)) x :=
      prodE_perm (perm_nd (dn.filter _) (tn.filter _) fun g => by simp [and_comm]) x
    have e3 : (T.filter fun f => !decide (f ∈ D)) = T.filter fun f => decide (f ∉ D) := by
      congr 1; funext f; simp
    rw [e2, e3]
    grind
  · rw [List.mem_append, List.mem_append, sub]
    by_cases h : g ∈ D <;> simp [h]
/-- where the compare says 0, the number is the root -/
theorem root_at {F : List (List Int)} (fm : ∀ f ∈ F, f ∈ menu) (fn : F.Nodup) {k ρ : Nat} (R : IsR F k ρ) {r : Rat} (h1 : NF F r = k + 1) (h2 : prodE F r = 0) : rt ρ r = 0 := by
  have b := (bf_nf fm fn r).2 h2
  have v := rt_vals R.lt r
  have a1 := R.le r
  have a2 := (R.lo r).mp (by omega)
  have : rt ρ r ≠ 1 := fun z => by have := a1.mpr z; omega
  omega
theorem asked_four : Asked [-4] [] := by
  refine ⟨.inr (by decide), by decide, by decide, fun i => ?_, fun f hf => (by cases hf), List.nodup_nil, Nat.zero_le _, fun _ => false, -4, by decide +kernel, fun x => ?_⟩
  · cases i with
    | zero => decide
    | succ i => show (0 : Int).natAbs < _; decide
  · show evI [-4] x = -4 * (1 : Rat)
    rw [evI_cons, evI_nil]; push_cast; grind
theorem asked_self {s : List Int} {F : List (List Int)} (h : ChA s F) (few : F.length ≤ 6) : Asked s F := ⟨h.tr, h.ne, h.len, h.pb, h.mem, h.nd, few, fun _ => false, by
  rw [List.filter_eq_nil_iff.mpr (fun _ _ h => by cases h), List.append_nil]; exact h.fac⟩
end K23
namespace W23
open PySem PySem.Spec PyProof.Rows L2
abbrev FunP (K : PySem.W.Frag) (x : Str) (st : Stmt) (f : Addr) (fd : FuncData) : Prop := FunD K x x (defArgs st) (defBody st) (defScope st) [] [] f fd
structure Tx (P : Program) (K : PySem.W.Frag) (mg : Str → Option Value) (base : Heap) (A : Nat → Addr) (D : Nat → FuncData) : Prop where
  fn : ∀ k x i, fnl[k]? = some (x, i) → FunP K x (stm i) (A k) (D k)
  gl : ∀ k x i, fnl[k]? = some (x, i) → mg x = some (.ref (A k))
  bl : ∀ (k : Nat) (x : Str), bll[k]? = some x → mg x = none
  gcd : mg "gcd" = some (.builtin "math.gcd")
  nought : ∃ a, mg "NOUGHT" = some (.ref a) ∧ ∀ H : Hp, SqT K H a [.int 0, .int 1]
  seer : base.NoSeer
  tree : P.given.tree = none
section
variable {P : Program} {K : PySem.W.Frag} {mg : Str → Option Value} {base : Heap} {A : Nat → Addr} {D : Nat → FuncData}
theorem Tx.z_len (T : Tx P K mg base A D) : mg "len" = none := T.bl 0 _ rfl
theorem Tx.z_max (T : Tx P K mg base A D) : mg "max" = none := T.bl 1 _ rfl
theorem Tx.z_int (T : Tx P K mg base A D) : mg "int" = none := T.bl 2 _ rfl
theorem Tx.z_abs (T : Tx P K mg base A D) : mg "abs" = none := T.bl 3 _ rfl
theorem Tx.z_list (T : Tx P K mg base A D) : mg "list" = none := T.bl 4 _ rfl
theorem Tx.z_range (T : Tx P K mg base A D) : mg "range" = none := T.bl 5 _ rfl
theorem Tx.z_enumerate (T : Tx P K mg base A D) : mg "enumerate" = none := T.bl 6 _ rfl
theorem Tx.z_repr (T : Tx P K mg base A D) : mg "repr" = none := T.bl 7 _ rfl
theorem Tx.z_isinstance (T : Tx P K mg base A D) : mg "isinstance" = none := T.bl 8 _ rfl
theorem Tx.z_bool (T : Tx P K mg base A D) : mg "bool" = none := T.bl 9 _ rfl
theorem Tx.f_number (T : Tx P K mg base A D) : FunP K "number" (stm 3) (A 0) (D 0) := T.fn 0 _ _ rfl
theorem Tx.g_number (T : Tx P K mg base A D) : mg "number" = some (.ref (A 0)) := T.gl 0 _ _ rfl
theorem sc_number : FnScope ["n", "d", "common"] ["n", "d"] (defScope (stm 3)) := ⟨rfl, rfl, rfl, by decide +kernel, rfl, by decide +kernel, by decide +kernel⟩
theorem b_number (T : Tx P K mg base A D) : Binds K (D 0) ["n", "d"] [] := T.f_number.bindsN fun _ _ _ _ _ _ us hl => match us, hl with | [_, _], _ => rfl
theorem Tx.f_compare (T : Tx P K mg base A D) : FunP K "compare" (stm 4) (A 1) (D 1) := T.fn 1 _ _ rfl
theorem Tx.g_compare (T : Tx P K mg base A D) : mg "compare" = some (.ref (A 1)) := T.gl 1 _ _ rfl
theorem sc_compare : FnScope ["a", "b", "left", "right"] ["a", "b"] (defScope (stm 4)) := ⟨rfl, rfl, rfl, by decide +kernel, rfl, by decide +kernel, by decide +kernel⟩
theorem b_compare (T : Tx P K mg base A D) : Binds K (D 1) ["a", "b"] [] := T.f_compare.bindsN fun _ _ _ _ _ _ us hl => match us, hl with | [_, _], _ => rfl
theorem Tx.f_plus (T : Tx P K mg base A D) : FunP K "plus" (stm 5) (A 2) (D 2) := T.fn 2 _ _ rfl
theorem Tx.g_plus (T : Tx P K mg base A D) : mg "plus" = some (.ref (A 2)) := T.gl 2 _ _ rfl
theorem sc_plus : FnScope ["a", "b"] ["a", "b"] (defScope (stm 5)) := ⟨rfl, rfl, rfl, by decide +kernel, rfl, by decide +kernel, by decide +kernel⟩
theorem b_plus (T : Tx P K mg base A D) : Binds K (D 2) ["a", "b"] [] := T.f_plus.bindsN fun _ _ _ _ _ _ us hl => match us, hl with | [_, _], _ => rfl
theorem Tx.f_minus (T : Tx P K mg base A D) : FunP K "minus" (stm 6) (A 3) (D 3) := T.fn 3 _ _ rfl
theorem Tx.g_minus (T : Tx P K mg base A D) : mg "minus" = some (.ref (A 3)) := T.gl 3 _ _ rfl
theorem sc_minus : FnScope ["a", "b"] ["a", "b"] (defScope (stm 6)) := ⟨rfl, rfl, rfl, by decide +kernel, rfl, by decide +kernel, by decide +kernel⟩
theorem b_minus (T : Tx P K mg base A D) : Binds K (D 3) ["a", "b"] [] := T.f_minus.bindsN fun _ _ _ _ _ _ us hl => match us, hl with | [_, _], _ => rfl
theorem Tx.f_times (T : Tx P K mg base A D) : FunP K "times" (stm 7) (A 4) (D 4) := T.fn 4 _ _ rfl
theorem Tx.g_times (T : Tx P K mg base A D) : mg "times" = some (.ref (A 4)) := T.gl 4 _ _ rfl
theorem sc_times : FnScope ["a", "b"] ["a", "b"] (defScope (stm 7)) := ⟨rfl, rfl, rfl, by decide +kernel, rfl, by decide +kernel, by decide +kernel⟩
theorem b_times (T : Tx P K mg base A D) : Binds K (D 4) ["a", "b"] [] := T.f_times.bindsN fun _ _ _ _ _ _ us hl => match us, hl with | [_, _], _ => rfl
theorem Tx.f_trimmed (T : Tx P K mg base A D) : FunP K "trimmed" (stm 9) (A 5) (D 5) := T.fn 5 _ _ rfl
theorem Tx.g_trimmed (T : Tx P K mg base A D) : mg "trimmed" = some (.ref (A 5)) := T.gl 5 _ _ rfl
theorem sc_trimmed : FnScope ["coefficients", "many"] ["coefficients"] (defScope (stm 9)) := ⟨rfl, rfl, rfl, by decide +kernel, rfl, by decide +kernel, by decide +kernel⟩
theorem b_trimmed (T : Tx P K mg base A D) : Binds K (D 5) ["coefficients"] [] := T.f_trimmed.bindsN fun _ _ _ _ _ _ us hl => match us, hl with | [_], _ => rfl
theorem Tx.f_coefficient_of (T : Tx P K mg base A D) : FunP K "coefficient_of" (stm 10) (A 6) (D 6) := T.fn 6 _ _ rfl
theorem Tx.g_coefficient_of (T : Tx P K mg base A D) : mg "coefficient_of" = some (.ref (A 6)) := T.gl 6 _ _ rfl
theorem sc_coefficient_of : FnScope ["a", "power"] ["a", "power"] (defScope (stm 10)) := ⟨rfl, rfl, rfl, by decide +kernel, rfl, by decide +kernel, by decide +kernel⟩
theorem b_coefficient_of (T : Tx P K mg base A D) : Binds K (D 6) ["a", "power"] [] := T.f_coefficient_of.bindsN fun _ _ _ _ _ _ us hl => match us, hl with | [_, _], _ => rfl
theorem Tx.f_add (T : Tx P K mg base A D) : FunP K "add" (stm 11) (A 7) (D 7) := T.fn 7 _ _ rfl
theorem Tx.g_add (T : Tx P K mg base A D) : mg "add" = some (.ref (A 7)) := T.gl 7 _ _ rfl
theorem sc_add : FnScope ["a", "b", "many", "k"] ["a", "b"] (defScope (stm 11)) := ⟨rfl, rfl, rfl, by decide +kernel, rfl, by decide +kernel, by decide +kernel⟩
theorem b_add (T : Tx P K mg base A D) : Binds K (D 7) ["a", "b"] [] := T.f_add.bindsN fun _ _ _ _ _ _ us hl => match us, hl with | [_, _], _ => rfl
theorem Tx.f_scale (T : Tx P K mg base A D) : FunP K "scale" (stm 12) (A 8) (D 8) := T.fn 8 _ _ rfl
theorem Tx.g_scale (T : Tx P K mg base A D) : mg "scale" = some (.ref (A 8)) := T.gl 8 _ _ rfl
theorem sc_scale : FnScope ["a", "factor", "coefficient"] ["a", "factor"] (defScope (stm 12)) := ⟨rfl, rfl, rfl, by decide +kernel, rfl, by decide +kernel, by decide +kernel⟩
theorem b_scale (T : Tx P K mg base A D) : Binds K (D 8) ["a", "factor"] [] := T.f_scale.bindsN fun _ _ _ _ _ _ us hl => match us, hl with | [_, _], _ => rfl
theorem Tx.f_subtract (T : Tx P K mg base A D) : FunP K "subtract" (stm 13) (A 9) (D 9) := T.fn 9 _ _ rfl
theorem Tx.g_subtract (T : Tx P K mg base A D) : mg "subtract" = some (.ref (A 9)) := T.gl 9 _ _ rfl
theorem sc_subtract : FnScope ["a", "b"] ["a", "b"] (defScope (stm 13)) := ⟨rfl, rfl, rfl, by decide +kernel, rfl, by decide +kernel, by decide +kernel⟩
theorem b_subtract (T : Tx P K mg base A D) : Binds K (D 9) ["a", "b"] [] := T.f_subtract.bindsN fun _ _ _ _ _ _ us hl => match us, hl with | [_, _], _ => rfl
theorem Tx.f_derivative (T : Tx P K mg base A D) : FunP K "derivative" (stm 14) (A 10) (D 10) := T.fn 10 _ _ rfl
theorem Tx.g_derivative (T : Tx P K mg base A D) : mg "derivative" = some (.ref (A 10)) := T.gl 10 _ _ rfl
theorem sc_derivative : FnScope ["a", "power"] ["a"] (defScope (stm 14)) := ⟨rfl, rfl, rfl, by decide +kernel, rfl, by decide +kernel, by decide +kernel⟩
theorem b_derivative (T : Tx P K mg base A D) : Binds K (D 10) ["a"] [] := T.f_derivative.bindsN fun _ _ _ _ _ _ us hl => match us, hl with | [_], _ => rfl
theorem Tx.f_value_at (T : Tx P K mg base A D) : FunP K "value_at" (stm 15) (A 11) (D 11) := T.fn 11 _ _ rfl
theorem Tx.g_value_at (T : Tx P K mg base A D) : mg "value_at" = some (.ref (A 11)) := T.gl 11 _ _ rfl
theorem sc_value_at : FnScope ["a", "x", "found", "coefficient"] ["a", "x"] (defScope (stm 15)) := ⟨rfl, rfl, rfl, by decide +kernel, rfl, by decide +kernel, by decide +kernel⟩
theorem b_value_at (T : Tx P K mg base A D) : Binds K (D 11) ["a", "x"] [] := T.f_value_at.bindsN fun _ _ _ _ _ _ us hl => match us, hl with | [_, _], _ => rfl
theorem Tx.f_content (T : Tx P K mg base A D) : FunP K "content" (stm 16) (A 12) (D 12) := T.fn 12 _ _ rfl
theorem Tx.g_content (T : Tx P K mg base A D) : mg "content" = some (.ref (A 12)) := T.gl 12 _ _ rfl
theorem sc_content : FnScope ["a", "found", "coefficient"] ["a"] (defScope (stm 16)) := ⟨rfl, rfl, rfl, by decide +kernel, rfl, by decide +kernel, by decide +kernel⟩
theorem b_content (T : Tx P K mg base A D) : Binds K (D 12) ["a"] [] := T.f_content.bindsN fun _ _ _ _ _ _ us hl => match us, hl with | [_], _ => rfl
theorem Tx.f_plain (T : Tx P K mg base A D) : FunP K "plain" (stm 17) (A 13) (D 13) := T.fn 13 _ _ rfl
theorem Tx.g_plain (T : Tx P K mg base A D) : mg "plain" = some (.ref (A 13)) := T.gl 13 _ _ rfl
theorem sc_plain : FnScope ["a", "common", "coefficient"] ["a"] (defScope (stm 17)) := ⟨rfl, rfl, rfl, by decide +kernel, rfl, by decide +kernel, by decide +kernel⟩
theorem b_plain (T : Tx P K mg base A D) : Binds K (D 13) ["a"] [] := T.f_plain.bindsN fun _ _ _ _ _ _ us hl => match us, hl with | [_], _ => rfl
theorem Tx.f_shifted (T : Tx P K mg base A D) : FunP K "shifted" (stm 18) (A 14) (D 14) := T.fn 14 _ _ rfl
theorem Tx.g_shifted (T : Tx P K mg base A D) : mg "shifted" = some (.ref (A 14)) := T.gl 14 _ _ rfl
theorem sc_shifted : FnScope ["a", "by"] ["a", "by"] (defScope (stm 18)) := ⟨rfl, rfl, rfl, by decide +kernel, rfl, by decide +kernel, by decide +kernel⟩
theorem b_shifted (T : Tx P K mg base A D) : Binds K (D 14) ["a", "by"] [] := T.f_shifted.bindsN fun _ _ _ _ _ _ us hl => match us, hl with | [_, _], _ => rfl
theorem Tx.f_false_rest (T : Tx P K mg base A D) : FunP K "false_rest" (stm 19) (A 15) (D 15) := T.fn 15 _ _ rfl
theorem Tx.g_false_rest (T : Tx P K mg base A D) : mg "false_rest" = some (.ref (A 15)) := T.gl 15 _ _ rfl
theorem sc_false_rest : FnScope ["a", "b", "rest", "lead", "step", "by", "top"] ["a", "b"] (defScope (stm 19)) := ⟨rfl, rfl, rfl, by decide +kernel, rfl, by decide +kernel, by decide +kernel⟩
theorem b_false_rest (T : Tx P K mg base A D) : Binds K (D 15) ["a", "b"] [] := T.f_false_rest.bindsN fun _ _ _ _ _ _ us hl => match us, hl with | [_, _], _ => rfl
theorem Tx.f_common_divisor (T : Tx P K mg base A D) : FunP K "common_divisor" (stm 20) (A 16) (D 16) := T.fn 16 _ _ rfl
theorem Tx.g_common_divisor (T : Tx P K mg base A D) : mg "common_divisor" = some (.ref (A 16)) := T.gl 16 _ _ rfl
theorem sc_common_divisor : FnScope ["a", "b", "first", "second"] ["a", "b"] (defScope (stm 20)) := ⟨rfl, rfl, rfl, by decide +kernel, rfl, by decide +kernel, by decide +kernel⟩
theorem b_common_divisor (T : Tx P K mg base A D) : Binds K (D 16) ["a", "b"] [] := T.f_common_divisor.bindsN fun _ _ _ _ _ _ us hl => match us, hl with | [_, _], _ => rfl
theorem Tx.f_quotient (T : Tx P K mg base A D) : FunP K "quotient" (stm 21) (A 17) (D 17) := T.fn 17 _ _ rfl
theorem Tx.g_quotient (T : Tx P K mg base A D) : mg "quotient" = some (.ref (A 17)) := T.gl 17 _ _ rfl
theorem sc_quotient : FnScope ["a", "b", "coefficient", "rest", "found", "by", "factor", "k", "measure", "top", "under"] ["a", "b"] (defScope (stm 21)) := ⟨rfl, rfl, rfl, by decide +kernel, rfl, by decide +kernel, by decide +kernel⟩
theorem b_quotient (T : Tx P K mg base A D) : Binds K (D 17) ["a", "b"] [] := T.f_quotient.bindsN fun _ _ _ _ _ _ us hl => match us, hl with | [_, _], _ => rfl
theorem Tx.f_square_free (T : Tx P K mg base A D) : FunP K "square_free" (stm 22) (A 18) (D 18) := T.fn 18 _ _ rfl
theorem Tx.g_square_free (T : Tx P K mg base A D) : mg "square_free" = some (.ref (A 18)) := T.gl 18 _ _ rfl
theorem sc_square_free : FnScope ["a"] ["a"] (defScope (stm 22)) := ⟨rfl, rfl, rfl, by decide +kernel, rfl, by decide +kernel, by decide +kernel⟩
theorem b_square_free (T : Tx P K mg base A D) : Binds K (D 18) ["a"] [] := T.f_square_free.bindsN fun _ _ _ _ _ _ us hl => match us, hl with | [_], _ => rfl
theorem Tx.f_sign_of (T : Tx P K mg base A D) : FunP K "sign_of" (stm 24) (A 19) (D 19) := T.fn 19 _ _ rfl
theorem Tx.g_sign_of (T : Tx P K mg base A D) : mg "sign_of" = some (.ref (A 19)) := T.gl 19 _ _ rfl
theorem sc_sign_of : FnScope ["whole"] ["whole"] (defScope (stm 24)) := ⟨rfl, rfl, rfl, by decide +kernel, rfl, by decide +kernel, by decide +kernel⟩
theorem b_sign_of (T : Tx P K mg base A D) : Binds K (D 19) ["whole"] [] := T.f_sign_of.bindsN fun _ _ _ _ _ _ us hl => match us, hl with | [_], _ => rfl
theorem Tx.f_sign_at (T : Tx P K mg base A D) : FunP K "sign_at" (stm 25) (A 20) (D 20) := T.fn 20 _ _ rfl
theorem Tx.g_sign_at (T : Tx P K mg base A D) : mg "sign_at" = some (.ref (A 20)) := T.gl 20 _ _ rfl
theorem sc_sign_at : FnScope ["a", "x"] ["a", "x"] (defScope (stm 25)) := ⟨rfl, rfl, rfl, by decide +kernel, rfl, by decide +kernel, by decide +kernel⟩
theorem b_sign_at (T : Tx P K mg base A D) : Binds K (D 20) ["a", "x"] [] := T.f_sign_at.bindsN fun _ _ _ _ _ _ us hl => match us, hl with | [_, _], _ => rfl
theorem Tx.f_bare (T : Tx P K mg base A D) : FunP K "bare" (stm 26) (A 21) (D 21) := T.fn 21 _ _ rfl
theorem Tx.g_bare (T : Tx P K mg base A D) : mg "bare" = some (.ref (A 21)) := T.gl 21 _ _ rfl
theorem sc_bare : FnScope ["a", "factor", "coefficient"] ["a", "factor"] (defScope (stm 26)) := ⟨rfl, rfl, rfl, by decide +kernel, rfl, by decide +kernel, by decide +kernel⟩
theorem b_bare (T : Tx P K mg base A D) : Binds K (D 21) ["a", "factor"] [] := T.f_bare.bindsN fun _ _ _ _ _ _ us hl => match us, hl with | [_, _], _ => rfl
theorem Tx.f_chain_of (T : Tx P K mg base A D) : FunP K "chain_of" (stm 27) (A 22) (D 22) := T.fn 22 _ _ rfl
theorem Tx.g_chain_of (T : Tx P K mg base A D) : mg "chain_of" = some (.ref (A 22)) := T.gl 22 _ _ rfl
theorem sc_chain_of : FnScope ["p", "chain", "a", "b", "rest", "turned"] ["p"] (defScope (stm 27)) := ⟨rfl, rfl, rfl, by decide +kernel, rfl, by decide +kernel, by decide +kernel⟩
theorem b_chain_of (T : Tx P K mg base A D) : Binds K (D 22) ["p"] [] := T.f_chain_of.bindsN fun _ _ _ _ _ _ us hl => match us, hl with | [_], _ => rfl
theorem Tx.f_changes (T : Tx P K mg base A D) : FunP K "changes" (stm 28) (A 23) (D 23) := T.fn 23 _ _ rfl
theorem Tx.g_changes (T : Tx P K mg base A D) : mg "changes" = some (.ref (A 23)) := T.gl 23 _ _ rfl
theorem sc_changes : FnScope ["signs", "kept", "sign", "place"] ["signs"] (defScope (stm 28)) := ⟨rfl, rfl, rfl, by decide +kernel, rfl, by decide +kernel, by decide +kernel⟩
theorem b_changes (T : Tx P K mg base A D) : Binds K (D 23) ["signs"] [] := T.f_changes.bindsN fun _ _ _ _ _ _ us hl => match us, hl with | [_], _ => rfl
theorem Tx.f_variations (T : Tx P K mg base A D) : FunP K "variations" (stm 29) (A 24) (D 24) := T.fn 24 _ _ rfl
theorem Tx.g_variations (T : Tx P K mg base A D) : mg "variations" = some (.ref (A 24)) := T.gl 24 _ _ rfl
theorem sc_variations : FnScope ["chain", "x", "a"] ["chain", "x"] (defScope (stm 29)) := ⟨rfl, rfl, rfl, by decide +kernel, rfl, by decide +kernel, by decide +kernel⟩
theorem b_variations (T : Tx P K mg base A D) : Binds K (D 24) ["chain", "x"] [] := T.f_variations.bindsN fun _ _ _ _ _ _ us hl => match us, hl with | [_, _], _ => rfl
theorem Tx.f_variations_far (T : Tx P K mg base A D) : FunP K "variations_far" (stm 30) (A 25) (D 25) := T.fn 25 _ _ rfl
theorem Tx.g_variations_far (T : Tx P K mg base A D) : mg "variations_far" = some (.ref (A 25)) := T.gl 25 _ _ rfl
theorem sc_variations_far : FnScope ["chain", "right", "signs", "a", "sign"] ["chain", "right"] (defScope (stm 30)) := ⟨rfl, rfl, rfl, by decide +kernel, rfl, by decide +kernel, by decide +kernel⟩
theorem b_variations_far (T : Tx P K mg base A D) : KBn K (D 25) ["chain", "right"] 1 ["right"] (fun us ws => us ++ ws) (fun vs zs => vs ++ zs) := by
  obtain ⟨oc, od, dV, kV, doc, pm, an, cdv, ct, osl, e, lk, hcd, hD, hK⟩ := T.f_variations_far.ex
  rcases hD with ⟨_, rfl⟩ | ⟨e, _⟩
  · exact ⟨fun s us ws X l1 l2 => by
      rw [e]
      exact match us, ws, l1, l2 with | [_], [_], _, _ => .of_eq rfl, fun r1 r2 => r1.append r2⟩
  · exact absurd rfl e
theorem Tx.f_count_roots (T : Tx P K mg base A D) : FunP K "count_roots" (stm 31) (A 26) (D 26) := T.fn 26 _ _ rfl
theorem Tx.g_count_roots (T : Tx P K mg base A D) : mg "count_roots" = some (.ref (A 26)) := T.gl 26 _ _ rfl
theorem sc_count_roots : FnScope ["p", "chain"] ["p"] (defScope (stm 31)) := ⟨rfl, rfl, rfl, by decide +kernel, rfl, by decide +kernel, by decide +kernel⟩
theorem b_count_roots (T : Tx P K mg base A D) : Binds K (D 26) ["p"] [] := T.f_count_roots.bindsN fun _ _ _ _ _ _ us hl => match us, hl with | [_], _ => rfl
theorem Tx.f_count_up_to (T : Tx P K mg base A D) : FunP K "count_up_to" (stm 32) (A 27) (D 27) := T.fn 27 _ _ rfl
theorem Tx.g_count_up_to (T : Tx P K mg base A D) : mg "count_up_to" = some (.ref (A 27)) := T.gl 27 _ _ rfl
theorem sc_count_up_to : FnScope ["chain", "x"] ["chain", "x"] (defScope (stm 32)) := ⟨rfl, rfl, rfl, by decide +kernel, rfl, by decide +kernel, by decide +kernel⟩
theorem b_count_up_to (T : Tx P K mg base A D) : Binds K (D 27) ["chain", "x"] [] := T.f_count_up_to.bindsN fun _ _ _ _ _ _ us hl => match us, hl with | [_, _], _ => rfl
theorem Tx.f_bound_of (T : Tx P K mg base A D) : FunP K "bound_of" (stm 33) (A 28) (D 28) := T.fn 28 _ _ rfl
theorem Tx.g_bound_of (T : Tx P K mg base A D) : mg "bound_of" = some (.ref (A 28)) := T.gl 28 _ _ rfl
theorem sc_bound_of : FnScope ["p", "greatest", "lead", "coefficient"] ["p"] (defScope (stm 33)) := ⟨rfl, rfl, rfl, by decide +kernel, rfl, by decide +kernel, by decide +kernel⟩
theorem b_bound_of (T : Tx P K mg base A D) : Binds K (D 28) ["p"] [] := T.f_bound_of.bindsN fun _ _ _ _ _ _ us hl => match us, hl with | [_], _ => rfl
theorem Tx.f_half (T : Tx P K mg base A D) : FunP K "half" (stm 34) (A 29) (D 29) := T.fn 29 _ _ rfl
theorem Tx.g_half (T : Tx P K mg base A D) : mg "half" = some (.ref (A 29)) := T.gl 29 _ _ rfl
theorem sc_half : FnScope ["x", "y", "middle"] ["x", "y"] (defScope (stm 34)) := ⟨rfl, rfl, rfl, by decide +kernel, rfl, by decide +kernel, by decide +kernel⟩
theorem b_half (T : Tx P K mg base A D) : Binds K (D 29) ["x", "y"] [] := T.f_half.bindsN fun _ _ _ _ _ _ us hl => match us, hl with | [_, _], _ => rfl
theorem Tx.f_near (T : Tx P K mg base A D) : FunP K "near" (stm 35) (A 30) (D 30) := T.fn 30 _ _ rfl
theorem Tx.g_near (T : Tx P K mg base A D) : mg "near" = some (.ref (A 30)) := T.gl 30 _ _ rfl
theorem sc_near : FnScope ["chain", "root", "gap", "p", "low", "high", "alone"] ["chain", "root", "gap"] (defScope (stm 35)) := ⟨rfl, rfl, rfl, by decide +kernel, rfl, by decide +kernel, by decide +kernel⟩
theorem b_near (T : Tx P K mg base A D) : Binds K (D 30) ["chain", "root", "gap"] [] := T.f_near.bindsN fun _ _ _ _ _ _ us hl => match us, hl with | [_, _, _], _ => rfl
theorem Tx.f_intervals_of (T : Tx P K mg base A D) : FunP K "intervals_of" (stm 36) (A 31) (D 31) := T.fn 31 _ _ rfl
theorem Tx.g_intervals_of (T : Tx P K mg base A D) : mg "intervals_of" = some (.ref (A 31)) := T.gl 31 _ _ rfl
theorem sc_intervals_of : FnScope ["p", "width"] ["p", "width"] (defScope (stm 36)) := ⟨rfl, rfl, rfl, by decide +kernel, rfl, by decide +kernel, by decide +kernel⟩
theorem b_intervals_of (T : Tx P K mg base A D) : KBn K (D 31) ["p", "width"] 1 ["width"] (fun us ws => us ++ ws) (fun vs zs => vs ++ zs) := by
  obtain ⟨oc, od, dV, kV, doc, pm, an, cdv, ct, osl, e, lk, hcd, hD, hK⟩ := T.f_intervals_of.ex
  rcases hD with ⟨_, rfl⟩ | ⟨e, _⟩
  · exact ⟨fun s us ws X l1 l2 => by
      rw [e]
      exact match us, ws, l1, l2 with | [_], [_], _, _ => .of_eq rfl, fun r1 r2 => r1.append r2⟩
  · exact absurd rfl e
theorem Tx.f_intervals_by (T : Tx P K mg base A D) : FunP K "intervals_by" (stm 37) (A 32) (D 32) := T.fn 32 _ _ rfl
theorem Tx.g_intervals_by (T : Tx P K mg base A D) : mg "intervals_by" = some (.ref (A 32)) := T.gl 32 _ _ rfl
theorem sc_intervals_by : FnScope ["chain", "width", "bound", "found", "waiting", "low", "high", "many", "middle", "gap"] ["chain", "width"] (defScope (stm 37)) := ⟨rfl, rfl, rfl, by decide +kernel, rfl, by decide +kernel, by decide +kernel⟩
theorem b_intervals_by (T : Tx P K mg base A D) : KBn K (D 32) ["chain", "width"] 1 ["width"] (fun us ws => us ++ ws) (fun vs zs => vs ++ zs) := by
  obtain ⟨oc, od, dV, kV, doc, pm, an, cdv, ct, osl, e, lk, hcd, hD, hK⟩ := T.f_intervals_by.ex
  rcases hD with ⟨_, rfl⟩ | ⟨e, _⟩
  · exact ⟨fun s us ws X l1 l2 => by
      rw [e]
      exact match us, ws, l1, l2 with | [_], [_], _, _ => .of_eq rfl, fun r1 r2 => r1.append r2⟩
  · exact absurd rfl e
theorem Tx.f_in_order (T : Tx P K mg base A D) : FunP K "in_order" (stm 38) (A 33) (D 33) := T.fn 33 _ _ rfl
theorem Tx.g_in_order (T : Tx P K mg base A D) : mg "in_order" = some (.ref (A 33)) := T.gl 33 _ _ rfl
theorem sc_in_order : FnScope ["intervals", "found", "one", "before", "other"] ["intervals"] (defScope (stm 38)) := ⟨rfl, rfl, rfl, by decide +kernel, rfl, by decide +kernel, by decide +kernel⟩
theorem b_in_order (T : Tx P K mg base A D) : Binds K (D 33) ["intervals"] [] := T.f_in_order.bindsN fun _ _ _ _ _ _ us hl => match us, hl with | [_], _ => rfl
theorem Tx.f_compare_root (T : Tx P K mg base A D) : FunP K "compare_root" (stm 39) (A 34) (D 34) := T.fn 34 _ _ rfl
theorem Tx.g_compare_root (T : Tx P K mg base A D) : mg "compare_root" = some (.ref (A 34)) := T.gl 34 _ _ rfl
theorem sc_compare_root : FnScope ["p", "place", "x"] ["p", "place", "x"] (defScope (stm 39)) := ⟨rfl, rfl, rfl, by decide +kernel, rfl, by decide +kernel, by decide +kernel⟩
theorem b_compare_root (T : Tx P K mg base A D) : Binds K (D 34) ["p", "place", "x"] [] := T.f_compare_root.bindsN fun _ _ _ _ _ _ us hl => match us, hl with | [_, _, _], _ => rfl
theorem Tx.f_compare_by (T : Tx P K mg base A D) : FunP K "compare_by" (stm 40) (A 35) (D 35) := T.fn 35 _ _ rfl
theorem Tx.g_compare_by (T : Tx P K mg base A D) : mg "compare_by" = some (.ref (A 35)) := T.gl 35 _ _ rfl
theorem sc_compare_by : FnScope ["chain", "place", "x", "p", "many"] ["chain", "place", "x"] (defScope (stm 40)) := ⟨rfl, rfl, rfl, by decide +kernel, rfl, by decide +kernel, by decide +kernel⟩
theorem b_compare_by (T : Tx P K mg base A D) : Binds K (D 35) ["chain", "place", "x"] [] := T.f_compare_by.bindsN fun _ _ _ _ _ _ us hl => match us, hl with | [_, _, _], _ => rfl
theorem Tx.f_floor_of (T : Tx P K mg base A D) : FunP K "floor_of" (stm 41) (A 36) (D 36) := T.fn 36 _ _ rfl
theorem Tx.g_floor_of (T : Tx P K mg base A D) : mg "floor_of" = some (.ref (A 36)) := T.gl 36 _ _ rfl
theorem sc_floor_of : FnScope ["p", "place", "grid"] ["p", "place", "grid"] (defScope (stm 41)) := ⟨rfl, rfl, rfl, by decide +kernel, rfl, by decide +kernel, by decide +kernel⟩
theorem b_floor_of (T : Tx P K mg base A D) : KBn K (D 36) ["p", "place", "grid"] 2 ["grid"] (fun us ws => us ++ ws) (fun vs zs => vs ++ zs) := by
  obtain ⟨oc, od, dV, kV, doc, pm, an, cdv, ct, osl, e, lk, hcd, hD, hK⟩ := T.f_floor_of.ex
  rcases hD with ⟨_, rfl⟩ | ⟨e, _⟩
  · exact ⟨fun s us ws X l1 l2 => by
      rw [e]
      exact match us, ws, l1, l2 with | [_, _], [_], _, _ => .of_eq rfl, fun r1 r2 => r1.append r2⟩
  · exact absurd rfl e
theorem Tx.f_floor_by (T : Tx P K mg base A D) : FunP K "floor_by" (stm 42) (A 37) (D 37) := T.fn 37 _ _ rfl
theorem Tx.g_floor_by (T : Tx P K mg base A D) : mg "floor_by" = some (.ref (A 37)) := T.gl 37 _ _ rfl
theorem sc_floor_by : FnScope ["chain", "place", "grid", "p", "low", "high", "middle", "x", "below"] ["chain", "place", "grid"] (defScope (stm 42)) := ⟨rfl, rfl, rfl, by decide +kernel, rfl, by decide +kernel, by decide +kernel⟩
theorem b_floor_by (T : Tx P K mg base A D) : KBn K (D 37) ["chain", "place", "grid"] 2 ["grid"] (fun us ws => us ++ ws) (fun vs zs => vs ++ zs) := by
  obtain ⟨oc, od, dV, kV, doc, pm, an, cdv, ct, osl, e, lk, hcd, hD, hK⟩ := T.f_floor_by.ex
  rcases hD with ⟨_, rfl⟩ | ⟨e, _⟩
  · exact ⟨fun s us ws X l1 l2 => by
      rw [e]
      exact match us, ws, l1, l2 with | [_, _], [_], _, _ => .of_eq rfl, fun r1 r2 => r1.append r2⟩
  · exact absurd rfl e
theorem Tx.f_interval_of (T : Tx P K mg base A D) : FunP K "interval_of" (stm 43) (A 38) (D 38) := T.fn 38 _ _ rfl
theorem Tx.g_interval_of (T : Tx P K mg base A D) : mg "interval_of" = some (.ref (A 38)) := T.gl 38 _ _ rfl
theorem sc_interval_of : FnScope ["p", "place"] ["p", "place"] (defScope (stm 43)) := ⟨rfl, rfl, rfl, by decide +kernel, rfl, by decide +kernel, by decide +kernel⟩
theorem b_interval_of (T : Tx P K mg base A D) : Binds K (D 38) ["p", "place"] [] := T.f_interval_of.bindsN fun _ _ _ _ _ _ us hl => match us, hl with | [_, _], _ => rfl
theorem Tx.f_free_chain (T : Tx P K mg base A D) : FunP K "free_chain" (stm 44) (A 39) (D 39) := T.fn 39 _ _ rfl
theorem Tx.g_free_chain (T : Tx P K mg base A D) : mg "free_chain" = some (.ref (A 39)) := T.gl 39 _ _ rfl
theorem sc_free_chain : FnScope ["a"] ["a"] (defScope (stm 44)) := ⟨rfl, rfl, rfl, by decide +kernel, rfl, by decide +kernel, by decide +kernel⟩
theorem b_free_chain (T : Tx P K mg base A D) : Binds K (D 39) ["a"] [] := T.f_free_chain.bindsN fun _ _ _ _ _ _ us hl => match us, hl with | [_], _ => rfl
theorem Tx.f_has_root_by (T : Tx P K mg base A D) : FunP K "has_root_by" (stm 45) (A 40) (D 40) := T.fn 40 _ _ rfl
theorem Tx.g_has_root_by (T : Tx P K mg base A D) : mg "has_root_by" = some (.ref (A 40)) := T.gl 40 _ _ rfl
theorem sc_has_root_by : FnScope ["chain", "low", "high"] ["chain", "low", "high"] (defScope (stm 45)) := ⟨rfl, rfl, rfl, by decide +kernel, rfl, by decide +kernel, by decide +kernel⟩
theorem b_has_root_by (T : Tx P K mg base A D) : Binds K (D 40) ["chain", "low", "high"] [] := T.f_has_root_by.bindsN fun _ _ _ _ _ _ us hl => match us, hl with | [_, _, _], _ => rfl
theorem Tx.f_has_root_in (T : Tx P K mg base A D) : FunP K "has_root_in" (stm 46) (A 41) (D 41) := T.fn 41 _ _ rfl
theorem Tx.g_has_root_in (T : Tx P K mg base A D) : mg "has_root_in" = some (.ref (A 41)) := T.gl 41 _ _ rfl
theorem sc_has_root_in : FnScope ["a", "low", "high"] ["a", "low", "high"] (defScope (stm 46)) := ⟨rfl, rfl, rfl, by decide +kernel, rfl, by decide +kernel, by decide +kernel⟩
theorem b_has_root_in (T : Tx P K mg base A D) : Binds K (D 41) ["a", "low", "high"] [] := T.f_has_root_in.bindsN fun _ _ _ _ _ _ us hl => match us, hl with | [_, _, _], _ => rfl
theorem Tx.f_halved (T : Tx P K mg base A D) : FunP K "halved" (stm 47) (A 42) (D 42) := T.fn 42 _ _ rfl
theorem Tx.g_halved (T : Tx P K mg base A D) : mg "halved" = some (.ref (A 42)) := T.gl 42 _ _ rfl
theorem sc_halved : FnScope ["p", "low", "high", "middle"] ["p", "low", "high"] (defScope (stm 47)) := ⟨rfl, rfl, rfl, by decide +kernel, rfl, by decide +kernel, by decide +kernel⟩
theorem b_halved (T : Tx P K mg base A D) : Binds K (D 42) ["p", "low", "high"] [] := T.f_halved.bindsN fun _ _ _ _ _ _ us hl => match us, hl with | [_, _, _], _ => rfl
theorem Tx.f_sign_inside (T : Tx P K mg base A D) : FunP K "sign_inside" (stm 48) (A 43) (D 43) := T.fn 43 _ _ rfl
theorem Tx.g_sign_inside (T : Tx P K mg base A D) : mg "sign_inside" = some (.ref (A 43)) := T.gl 43 _ _ rfl
theorem sc_sign_inside : FnScope ["p", "interval", "a", "low", "high", "chain"] ["p", "interval", "a"] (defScope (stm 48)) := ⟨rfl, rfl, rfl, by decide +kernel, rfl, by decide +kernel, by decide +kernel⟩
theorem b_sign_inside (T : Tx P K mg base A D) : Binds K (D 43) ["p", "interval", "a"] [] := T.f_sign_inside.bindsN fun _ _ _ _ _ _ us hl => match us, hl with | [_, _, _], _ => rfl
theorem Tx.f_sign_at_root (T : Tx P K mg base A D) : FunP K "sign_at_root" (stm 49) (A 44) (D 44) := T.fn 44 _ _ rfl
theorem Tx.g_sign_at_root (T : Tx P K mg base A D) : mg "sign_at_root" = some (.ref (A 44)) := T.gl 44 _ _ rfl
theorem sc_sign_at_root : FnScope ["p", "place", "a"] ["p", "place", "a"] (defScope (stm 49)) := ⟨rfl, rfl, rfl, by decide +kernel, rfl, by decide +kernel, by decide +kernel⟩
theorem b_sign_at_root (T : Tx P K mg base A D) : Binds K (D 44) ["p", "place", "a"] [] := T.f_sign_at_root.bindsN fun _ _ _ _ _ _ us hl => match us, hl with | [_, _, _], _ => rfl
theorem Tx.f_rational_roots (T : Tx P K mg base A D) : FunP K "rational_roots" (stm 50) (A 45) (D 45) := T.fn 45 _ _ rfl
theorem Tx.g_rational_roots (T : Tx P K mg base A D) : mg "rational_roots" = some (.ref (A 45)) := T.gl 45 _ _ rfl
theorem sc_rational_roots : FnScope ["a", "p", "found", "place", "x"] ["a"] (defScope (stm 50)) := ⟨rfl, rfl, rfl, by decide +kernel, rfl, by decide +kernel, by decide +kernel⟩
theorem b_rational_roots (T : Tx P K mg base A D) : Binds K (D 45) ["a"] [] := T.f_rational_roots.bindsN fun _ _ _ _ _ _ us hl => match us, hl with | [_], _ => rfl
theorem Tx.f__law_draws (T : Tx P K mg base A D) : FunP K "_law_draws" (stm 52) (A 46) (D 46) := T.fn 46 _ _ rfl
theorem Tx.g__law_draws (T : Tx P K mg base A D) : mg "_law_draws" = some (.ref (A 46)) := T.gl 46 _ _ rfl
theorem sc__law_draws : FnScope ["_law_script", "_law_count_here", "_law_rests", "_law_draws_here", "_law_k", "_law_value", "_law_at_here", "_law_mixed", "_law_cell"] ["_law_script", "_law_count_here"] (defScope (stm 52)) := ⟨rfl, rfl, rfl, by decide +kernel, rfl, by decide +kernel, by decide +kernel⟩
theorem b__law_draws (T : Tx P K mg base A D) : Binds K (D 46) ["_law_script", "_law_count_here"] [] := T.f__law_draws.bindsN fun _ _ _ _ _ _ us hl => match us, hl with | [_, _], _ => rfl
theorem Tx.f__law_gcd (T : Tx P K mg base A D) : FunP K "_law_gcd" (stm 53) (A 47) (D 47) := T.fn 47 _ _ rfl
theorem Tx.g__law_gcd (T : Tx P K mg base A D) : mg "_law_gcd" = some (.ref (A 47)) := T.gl 47 _ _ rfl
theorem sc__law_gcd : FnScope ["_law_a", "_law_b", "_law_turn"] ["_law_a", "_law_b"] (defScope (stm 53)) := ⟨rfl, rfl, rfl, by decide +kernel, rfl, by decide +kernel, by decide +kernel⟩
theorem b__law_gcd (T : Tx P K mg base A D) : Binds K (D 47) ["_law_a", "_law_b"] [] := T.f__law_gcd.bindsN fun _ _ _ _ _ _ us hl => match us, hl with | [_, _], _ => rfl
theorem Tx.f__law_number (T : Tx P K mg base A D) : FunP K "_law_number" (stm 54) (A 48) (D 48) := T.fn 48 _ _ rfl
theorem Tx.g__law_number (T : Tx P K mg base A D) : mg "_law_number" = some (.ref (A 48)) := T.gl 48 _ _ rfl
theorem sc__law_number : FnScope ["_law_n", "_law_d", "_law_common"] ["_law_n", "_law_d"] (defScope (stm 54)) := ⟨rfl, rfl, rfl, by decide +kernel, rfl, by decide +kernel, by decide +kernel⟩
theorem b__law_number (T : Tx P K mg base A D) : Binds K (D 48) ["_law_n", "_law_d"] [] := T.f__law_number.bindsN fun _ _ _ _ _ _ us hl => match us, hl with | [_, _], _ => rfl
theorem Tx.f__law_plus (T : Tx P K mg base A D) : FunP K "_law_plus" (stm 55) (A 49) (D 49) := T.fn 49 _ _ rfl
theorem Tx.g__law_plus (T : Tx P K mg base A D) : mg "_law_plus" = some (.ref (A 49)) := T.gl 49 _ _ rfl
theorem sc__law_plus : FnScope ["_law_a", "_law_b"] ["_law_a", "_law_b"] (defScope (stm 55)) := ⟨rfl, rfl, rfl, by decide +kernel, rfl, by decide +kernel, by decide +kernel⟩
theorem b__law_plus (T : Tx P K mg base A D) : Binds K (D 49) ["_law_a", "_law_b"] [] := T.f__law_plus.bindsN fun _ _ _ _ _ _ us hl => match us, hl with | [_, _], _ => rfl
theorem Tx.f__law_times (T : Tx P K mg base A D) : FunP K "_law_times" (stm 56) (A 50) (D 50) := T.fn 50 _ _ rfl
theorem Tx.g__law_times (T : Tx P K mg base A D) : mg "_law_times" = some (.ref (A 50)) := T.gl 50 _ _ rfl
theorem sc__law_times : FnScope ["_law_a", "_law_b"] ["_law_a", "_law_b"] (defScope (stm 56)) := ⟨rfl, rfl, rfl, by decide +kernel, rfl, by decide +kernel, by decide +kernel⟩
theorem b__law_times (T : Tx P K mg base A D) : Binds K (D 50) ["_law_a", "_law_b"] [] := T.f__law_times.bindsN fun _ _ _ _ _ _ us hl => match us, hl with | [_, _], _ => rfl
theorem Tx.f__law_minus (T : Tx P K mg base A D) : FunP K "_law_minus" (stm 57) (A 51) (D 51) := T.fn 51 _ _ rfl
theorem Tx.g__law_minus (T : Tx P K mg base A D) : mg "_law_minus" = some (.ref (A 51)) := T.gl 51 _ _ rfl
theorem sc__law_minus : FnScope ["_law_a", "_law_b"] ["_law_a", "_law_b"] (defScope (stm 57)) := ⟨rfl, rfl, rfl, by decide +kernel, rfl, by decide +kernel, by decide +kernel⟩
theorem b__law_minus (T : Tx P K mg base A D) : Binds K (D 51) ["_law_a", "_law_b"] [] := T.f__law_minus.bindsN fun _ _ _ _ _ _ us hl => match us, hl with | [_, _], _ => rfl
theorem Tx.f__law_trim (T : Tx P K mg base A D) : FunP K "_law_trim" (stm 62) (A 52) (D 52) := T.fn 52 _ _ rfl
theorem Tx.g__law_trim (T : Tx P K mg base A D) : mg "_law_trim" = some (.ref (A 52)) := T.gl 52 _ _ rfl
theorem sc__law_trim : FnScope ["_law_a", "_law_found", "_law_turn"] ["_law_a"] (defScope (stm 62)) := ⟨rfl, rfl, rfl, by decide +kernel, rfl, by decide +kernel, by decide +kernel⟩
theorem b__law_trim (T : Tx P K mg base A D) : Binds K (D 52) ["_law_a"] [] := T.f__law_trim.bindsN fun _ _ _ _ _ _ us hl => match us, hl with | [_], _ => rfl
theorem Tx.f__law_mul (T : Tx P K mg base A D) : FunP K "_law_mul" (stm 64) (A 53) (D 53) := T.fn 53 _ _ rfl
theorem Tx.g__law_mul (T : Tx P K mg base A D) : mg "_law_mul" = some (.ref (A 53)) := T.gl 53 _ _ rfl
theorem sc__law_mul : FnScope ["_law_a", "_law_b", "_law_found", "_law_i", "_law_j"] ["_law_a", "_law_b"] (defScope (stm 64)) := ⟨rfl, rfl, rfl, by decide +kernel, rfl, by decide +kernel, by decide +kernel⟩
theorem b__law_mul (T : Tx P K mg base A D) : Binds K (D 53) ["_law_a", "_law_b"] [] := T.f__law_mul.bindsN fun _ _ _ _ _ _ us hl => match us, hl with | [_, _], _ => rfl
theorem Tx.f__law_at (T : Tx P K mg base A D) : FunP K "_law_at" (stm 65) (A 54) (D 54) := T.fn 54 _ _ rfl
theorem Tx.g__law_at (T : Tx P K mg base A D) : mg "_law_at" = some (.ref (A 54)) := T.gl 54 _ _ rfl
theorem sc__law_at : FnScope ["_law_a", "_law_x_here", "_law_found", "_law_k"] ["_law_a", "_law_x_here"] (defScope (stm 65)) := ⟨rfl, rfl, rfl, by decide +kernel, rfl, by decide +kernel, by decide +kernel⟩
theorem b__law_at (T : Tx P K mg base A D) : Binds K (D 54) ["_law_a", "_law_x_here"] [] := T.f__law_at.bindsN fun _ _ _ _ _ _ us hl => match us, hl with | [_, _], _ => rfl
theorem Tx.f__law_sign (T : Tx P K mg base A D) : FunP K "_law_sign" (stm 66) (A 55) (D 55) := T.fn 55 _ _ rfl
theorem Tx.g__law_sign (T : Tx P K mg base A D) : mg "_law_sign" = some (.ref (A 55)) := T.gl 55 _ _ rfl
theorem sc__law_sign : FnScope ["_law_n"] ["_law_n"] (defScope (stm 66)) := ⟨rfl, rfl, rfl, by decide +kernel, rfl, by decide +kernel, by decide +kernel⟩
theorem b__law_sign (T : Tx P K mg base A D) : Binds K (D 55) ["_law_n"] [] := T.f__law_sign.bindsN fun _ _ _ _ _ _ us hl => match us, hl with | [_], _ => rfl
theorem Tx.f__law_sign_at (T : Tx P K mg base A D) : FunP K "_law_sign_at" (stm 67) (A 56) (D 56) := T.fn 56 _ _ rfl
theorem Tx.g__law_sign_at (T : Tx P K mg base A D) : mg "_law_sign_at" = some (.ref (A 56)) := T.gl 56 _ _ rfl
theorem sc__law_sign_at : FnScope ["_law_a", "_law_x_here"] ["_law_a", "_law_x_here"] (defScope (stm 67)) := ⟨rfl, rfl, rfl, by decide +kernel, rfl, by decide +kernel, by decide +kernel⟩
theorem b__law_sign_at (T : Tx P K mg base A D) : Binds K (D 56) ["_law_a", "_law_x_here"] [] := T.f__law_sign_at.bindsN fun _ _ _ _ _ _ us hl => match us, hl with | [_, _], _ => rfl
theorem Tx.f__law_factors (T : Tx P K mg base A D) : FunP K "_law_factors" (stm 68) (A 57) (D 57) := T.fn 57 _ _ rfl
theorem Tx.g__law_factors (T : Tx P K mg base A D) : mg "_law_factors" = some (.ref (A 57)) := T.gl 57 _ _ rfl
theorem sc__law_factors : FnScope ["_law_found", "_law_k"] [] (defScope (stm 68)) := ⟨rfl, rfl, rfl, by decide +kernel, rfl, by decide +kernel, by decide +kernel⟩
theorem b__law_factors (T : Tx P K mg base A D) : Binds K (D 57) [] [] := T.f__law_factors.bindsN fun _ _ _ _ _ _ us hl => match us, hl with | [], _ => rfl
theorem Tx.f__law_root_signs (T : Tx P K mg base A D) : FunP K "_law_root_signs" (stm 69) (A 58) (D 58) := T.fn 58 _ _ rfl
theorem Tx.g__law_root_signs (T : Tx P K mg base A D) : mg "_law_root_signs" = some (.ref (A 58)) := T.gl 58 _ _ rfl
theorem sc__law_root_signs : FnScope ["_law_factor", "_law_x_here", "_law_square"] ["_law_factor", "_law_x_here"] (defScope (stm 69)) := ⟨rfl, rfl, rfl, by decide +kernel, rfl, by decide +kernel, by decide +kernel⟩
theorem b__law_root_signs (T : Tx P K mg base A D) : Binds K (D 58) ["_law_factor", "_law_x_here"] [] := T.f__law_root_signs.bindsN fun _ _ _ _ _ _ us hl => match us, hl with | [_, _], _ => rfl
theorem Tx.f__law_below (T : Tx P K mg base A D) : FunP K "_law_below" (stm 70) (A 59) (D 59) := T.fn 59 _ _ rfl
theorem Tx.g__law_below (T : Tx P K mg base A D) : mg "_law_below" = some (.ref (A 59)) := T.gl 59 _ _ rfl
theorem sc__law_below : FnScope ["_law_factors_here", "_law_x_here", "_law_signs", "_law_factor", "_law_sign_here"] ["_law_factors_here", "_law_x_here"] (defScope (stm 70)) := ⟨rfl, rfl, rfl, by decide +kernel, rfl, by decide +kernel, by decide +kernel⟩
theorem b__law_below (T : Tx P K mg base A D) : Binds K (D 59) ["_law_factors_here", "_law_x_here"] [] := T.f__law_below.bindsN fun _ _ _ _ _ _ us hl => match us, hl with | [_, _], _ => rfl
theorem Tx.f__law_count (T : Tx P K mg base A D) : FunP K "_law_count" (stm 71) (A 60) (D 60) := T.fn 60 _ _ rfl
theorem Tx.g__law_count (T : Tx P K mg base A D) : mg "_law_count" = some (.ref (A 60)) := T.gl 60 _ _ rfl
theorem sc__law_count : FnScope ["_law_factors_here"] ["_law_factors_here"] (defScope (stm 71)) := ⟨rfl, rfl, rfl, by decide +kernel, rfl, by decide +kernel, by decide +kernel⟩
theorem b__law_count (T : Tx P K mg base A D) : Binds K (D 60) ["_law_factors_here"] [] := T.f__law_count.bindsN fun _ _ _ _ _ _ us hl => match us, hl with | [_], _ => rfl
theorem Tx.f__law_drawn (T : Tx P K mg base A D) : FunP K "_law_drawn" (stm 72) (A 61) (D 61) := T.fn 61 _ _ rfl
theorem Tx.g__law_drawn (T : Tx P K mg base A D) : mg "_law_drawn" = some (.ref (A 61)) := T.gl 61 _ _ rfl
theorem sc__law_drawn : FnScope ["_law_draws_here", "_law_most", "_law_menu", "_law_found", "_law_k", "_law_factor"] ["_law_draws_here", "_law_most"] (defScope (stm 72)) := ⟨rfl, rfl, rfl, by decide +kernel, rfl, by decide +kernel, by decide +kernel⟩
theorem b__law_drawn (T : Tx P K mg base A D) : Binds K (D 61) ["_law_draws_here", "_law_most"] [] := T.f__law_drawn.bindsN fun _ _ _ _ _ _ us hl => match us, hl with | [_, _], _ => rfl
theorem Tx.f__law_product (T : Tx P K mg base A D) : FunP K "_law_product" (stm 73) (A 62) (D 62) := T.fn 62 _ _ rfl
theorem Tx.g__law_product (T : Tx P K mg base A D) : mg "_law_product" = some (.ref (A 62)) := T.gl 62 _ _ rfl
theorem sc__law_product : FnScope ["_law_factors_here", "_law_found", "_law_factor"] ["_law_factors_here"] (defScope (stm 73)) := ⟨rfl, rfl, rfl, by decide +kernel, rfl, by decide +kernel, by decide +kernel⟩
theorem b__law_product (T : Tx P K mg base A D) : Binds K (D 62) ["_law_factors_here"] [] := T.f__law_product.bindsN fun _ _ _ _ _ _ us hl => match us, hl with | [_], _ => rfl
theorem Tx.f__law_polynomial (T : Tx P K mg base A D) : FunP K "_law_polynomial" (stm 74) (A 63) (D 63) := T.fn 63 _ _ rfl
theorem Tx.g__law_polynomial (T : Tx P K mg base A D) : mg "_law_polynomial" = some (.ref (A 63)) := T.gl 63 _ _ rfl
theorem sc__law_polynomial : FnScope ["_law_draws_here", "_law_most", "_law_factors_here", "_law_by", "_law_one"] ["_law_draws_here", "_law_most"] (defScope (stm 74)) := ⟨rfl, rfl, rfl, by decide +kernel, rfl, by decide +kernel, by decide +kernel⟩
theorem b__law_polynomial (T : Tx P K mg base A D) : Binds K (D 63) ["_law_draws_here", "_law_most"] [] := T.f__law_polynomial.bindsN fun _ _ _ _ _ _ us hl => match us, hl with | [_, _], _ => rfl
theorem Tx.f__law_is_whole (T : Tx P K mg base A D) : FunP K "_law_is_whole" (stm 76) (A 64) (D 64) := T.fn 64 _ _ rfl
theorem Tx.g__law_is_whole (T : Tx P K mg base A D) : mg "_law_is_whole" = some (.ref (A 64)) := T.gl 64 _ _ rfl
theorem sc__law_is_whole : FnScope ["_law_value"] ["_law_value"] (defScope (stm 76)) := ⟨rfl, rfl, rfl, by decide +kernel, rfl, by decide +kernel, by decide +kernel⟩
theorem b__law_is_whole (T : Tx P K mg base A D) : Binds K (D 64) ["_law_value"] [] := T.f__law_is_whole.bindsN fun _ _ _ _ _ _ us hl => match us, hl with | [_], _ => rfl
theorem Tx.f__law_bracket (T : Tx P K mg base A D) : FunP K "_law_bracket" (stm 77) (A 65) (D 65) := T.fn 65 _ _ rfl
theorem Tx.g__law_bracket (T : Tx P K mg base A D) : mg "_law_bracket" = some (.ref (A 65)) := T.gl 65 _ _ rfl
theorem sc__law_bracket : FnScope ["_law_factors_here", "_law_place", "_law_others", "_law_low", "_law_high", "_law_all_factors", "_law_turn", "_law_count_here", "_law_middle", "_law_below_here", "_law_is_root", "_law_by", "_law_one"] ["_law_factors_here", "_law_place", "_law_others"] (defScope (stm 77)) := ⟨rfl, rfl, rfl, by decide +kernel, rfl, by decide +kernel, by decide +kernel⟩
theorem b__law_bracket (T : Tx P K mg base A D) : Binds K (D 65) ["_law_factors_here", "_law_place", "_law_others"] [] := T.f__law_bracket.bindsN fun _ _ _ _ _ _ us hl => match us, hl with | [_, _, _], _ => rfl
theorem Tx.f__law_sign_at_root (T : Tx P K mg base A D) : FunP K "_law_sign_at_root" (stm 78) (A 66) (D 66) := T.fn 66 _ _ rfl
theorem Tx.g__law_sign_at_root (T : Tx P K mg base A D) : mg "_law_sign_at_root" = some (.ref (A 66)) := T.gl 66 _ _ rfl
theorem sc__law_sign_at_root : FnScope ["_law_factors_here", "_law_place", "_law_others", "_law_low", "_law_high", "_law_signs", "_law_one", "_law_found", "_law_sign_here"] ["_law_factors_here", "_law_place", "_law_others"] (defScope (stm 78)) := ⟨rfl, rfl, rfl, by decide +kernel, rfl, by decide +kernel, by decide +kernel⟩
theorem b__law_sign_at_root (T : Tx P K mg base A D) : Binds K (D 66) ["_law_factors_here", "_law_place", "_law_others"] [] := T.f__law_sign_at_root.bindsN fun _ _ _ _ _ _ us hl => match us, hl with | [_, _, _], _ => rfl
theorem Tx.f_law (T : Tx P K mg base A D) : FunP K "law" (stm 79) (A 67) (D 67) := T.fn 67 _ _ rfl
theorem Tx.g_law (T : Tx P K mg base A D) : mg "law" = some (.ref (A 67)) := T.gl 67 _ _ rfl
theorem sc_law : FnScope ["_law_script", "_law_draws_here", "_law_p", "_law_factors_here", "_law_others", "_law_by", "_law_one", "_law_other", "_law_kept", "_law_place", "_law_due", "_law_actual", "_law_x_here"] ["_law_script"] (defScope (stm 79)) := ⟨rfl, rfl, rfl, by decide +kernel, rfl, by decide +kernel, by decide +kernel⟩
theorem b_law (T : Tx P K mg base A D) : Binds K (D 67) ["_law_script"] [] := T.f_law.bindsN fun _ _ _ _ _ _ us hl => match us, hl with | [_], _ => rfl
end
/-! ### // of any size: there is room for the road by _pylong -/
def PyR (X : Cx) : Prop := ∀ (pins : List (Addr × Obj)) (σ : List (Option V)) (H : Hp) (s : Shared), Inv X pins σ H s → PySem.PylongRoom (model X.prog X.w) X.A s
theorem py_of {X : Cx} {k : Nat} {env : Env} {l : List Env} (hs : X.base.NoSeer) (ht : X.prog.given.tree = none) (hr : Room k X.A) (hk : 32 ≤ k) (hst : X.stack = env :: l)
    (g1 : env.scope.isGenerator = false) (g2 : env.scope.isCoroutine = false) (g3 : env.builtins = builtinsNs) (g4 : env.globals = mainGlobals) : PyR X := fun pins σ H s I => by
  have hd : X.A.depth + Builtin.pylongFrames < recursionLimit := by
    have := hr.dp
    have e : Builtin.pylongFrames = 100 := by decide +kernel
    omega
  exact PySem.PylongRoom.of I.nolimit hd (PySem.SeerAt.of (hs.keeps I.bk) ht (by rw [I.ok.frames, hst]) g1 g2 g3 g4)
theorem op_fdivP {X : Cx} (h : PyR X) : OpR X (binaryOp .FloorDiv) (rI (fun _ j => j ≠ 0) fun i j => .int (i.fdiv j)) := by
  intro pins s σ H x y v u Q I rx ry q
  obtain ⟨i, j, rfl, rfl, hc, q⟩ := q
  obtain ⟨t, rfl⟩ := rx
  obtain ⟨t', rfl⟩ := ry
  exact floordiv_int hc ⟨.int _, H, I.tok _, ⟨_, rfl⟩, q⟩ (.inr (h pins σ H s I))
theorem nomarkIn (b : Expr) {op : CmpOp} (hb : behindInMarks op b = false := by rfl) : behindInMarks op b = false := hb
end W23
namespace W23
open PySem PySem.Spec PyProof.Rows L2 K23
/-! ### what the promises say -/
def NewO (H : Hp) (Q : VK) (o : HO) : Prop := ∀ H' p, Same H H' → H p = none → H' p = some o → Q (.ref p) H'
def nT (r : Rat) : HO := .tup [.int r.num, .int r.den]
def iL (ns : List Int) : HO := .lst (ns.map V.int)
def IsN (K : PySem.W.Frag) (H : Hp) (a : Addr) (r : Rat) : Prop := SqT K H a [.int r.num, .int r.den]
/-- numerator and denominator have at most k bits -/
def RB (r : Rat) (k : Nat) : Prop := r.num.natAbs < 2 ^ k ∧ r.den < 2 ^ k
theorem same_new {H : Hp} {p : Addr} {o : HO} (h : H p = none) : Same H (upd H p o) := fun b u e => by
  rw [upd_ne (ne_of_none e h)]; exact e
theorem NewO.to {H H1 : Hp} {Q : VK} {o : HO} (h : NewO H Q o) (s : Same H H1) {p : Addr} (hp : H1 p = none) : Q (.ref p) (upd H1 p o) :=
  h _ p (s.trans (same_new hp)) (s.free hp) upd_same
theorem same_tup {K : PySem.W.Frag} {H H' : Hp} {a : Addr} {xs : List V} (e : Same H H') (h : SqT K H a xs) : SqT K H' a xs := by
  rcases h with (h | ⟨o, h⟩) | h
  · exact .inl (.inl (e _ _ h))
  · exact .inl (.inr ⟨o, e _ _ h⟩)
  · exact .inr h
theorem IsN.at {K : PySem.W.Frag} {H H' : Hp} {a : Addr} {r : Rat} (h : IsN K H a r) (e : Same H H') : IsN K H' a r := same_tup e h
theorem IsN.new {K : PySem.W.Frag} {H : Hp} {a : Addr} {r : Rat} (h : H a = some (nT r)) : IsN K H a r := SqT.of h
/-- a number is read by its two places -/
theorem IsN.ex0 {K : PySem.W.Frag} {H : Hp} {a : Addr} {r : Rat} (h : IsN K H a r) {Q : VK} (q : Q (.int r.num) H) : ∃ p xs i v, V.ref a = .ref p ∧ V.int 0 = .int i ∧ SqT K H p xs ∧ atI xs i = some v ∧ Q v H :=
  ⟨a, _, 0, _, rfl, rfl, h, rfl, q⟩
theorem le2 {a b : V} : [a, b].length ≤ sizeLine := by show 2 ≤ sizeLine; decide
theorem mul_bits {i j : Int} {a b : Nat} (ha : i.natAbs < 2 ^ a) (hb : j.natAbs < 2 ^ b) (h : a + b ≤ 134217728) : CMulX i j := mulx_ok ha hb h
theorem scal_int {i j : Int} : scal (.int i) (.int j) = true := rfl
theorem den_ne (a b : Rat) : (a.den : Int) * b.den ≠ 0 := Int.mul_ne_zero (by have := a.den_nz; omega) (by have := b.den_nz; omega)
theorem cxK {CX : CXT} {P : Program} {w : World} {K : PySem.W.Frag} {mg : Str → Option Value} {base : Heap} {N : List Str} {qual : Str} {scope : Scope} {f : Addr} {cd : Value} {A : Around} {outer : List Env} {s : Shared} {H : Hp} {E : XK} : (cxOf CX P w K mg base N qual scope f cd A outer s H E).K = K := rfl
section
variable {P : Program} {w : World} {K : PySem.W.Frag} {mg : Str → Option Value} {base : Heap} {A : Nat → Addr} {D : Nat → FuncData}
def spNumber : Sp := fun vs H Q _ => ∃ n d : Int, vs = [.int n, .int d] ∧ d ≠ 0 ∧ NewO H Q (nT (Rat.divInt n d))
theorem ok_number (T : Tx P K mg base A D) : FnOk P w K mg base CX0 40 (A 0) (D 0) ["n", "d"] spNumber := by
  refine T.f_number.ok sc_number (fun vs H Q E h => ?_) (fun cdv Ar outer s H vs Q E hr h => ?_)
  · obtain ⟨n, d, rfl, _⟩ := h
    rfl
  · obtain ⟨n, d, rfl, hd, q⟩ := h
    have py : PyR (cxOf CX0 P w K mg base ["n", "d", "common"] "number" (defScope (stm 3)) (A 0) cdv Ar outer s H E).nox := py_of T.seer T.tree hr (by decide) rfl rfl rfl rfl rfl
    refine ⟨_, PSs.nox (pss_cons (ps_if (pt_cmpR op_lt (pv 1) pe_int (nomark _)) (pss_one (ps_par (i := 0) (j := 1) (by rfl) sc_number.nd rfl rfl (by decide) rfl rfl (pa_cons (pe_un un_neg (pv 0)) (pa_cons (pe_un un_neg (pv 1)) pa_nil)) (by rfl))) pss_nil) (pss_cons (ps_set (i := 2) sc_number.nd rfl (.inl rfl) (pe_callBfun cr_gcd (by rfl) T.gcd (pa_cons (pv 0) (pa_cons (pv 1) pa_nil)))) (pss_one (ps_ret (pe_tup (pa_cons (pe_op (op_fdivP (py_of T.seer T.tree hr (by decide) rfl rfl rfl rfl rfl)) (pv 0) (pv 2)) (pa_cons (pe_op (op_fdivP (py_of T.seer T.tree hr (by decide) rfl rfl rfl rfl rfl)) (pv 1) (pv 2)) pa_nil))))))), ?_⟩
    rw [show start ["n", "d", "common"] [V.int n, V.int d] = [some (V.int n), some (V.int d), none] from rfl]
    simp (maxSteps := 2000000) only [NewO, tLc, wipe, List.map_cons, List.map_nil, tSeq, tIfS, tTest, tOp, tVar, tC, rI0, tPar, tUn, rU, tCons, tNil, tAsg, gName, tCB, tRet, tTup, tLst, rI, rGcd, tNext, tCall, tCallN, tIf, tSl, tPart, tNoPart, rSlL, tDrop, tBM, tBM0, rAppend, rPop, tAndV, tOrV, tNotV, tAnd, tOr, tNot, tB, rEq, rNe, scal_int, gTup, gCons, gNil, gUnl, gSub, rSetL, tRevL, tAug, ipI, rIxL, rIxT, rCat, rRep, TruV, iList, iRng1, iRng2, iRng3, iEnum, tFor, tYes, List.append_nil, List.cons_append, List.nil_append, List.getElem?_cons_zero, List.getElem?_cons_succ, List.set_cons_zero, List.set_cons_succ, Option.some.injEq, exists_eq_left', exists_eq_left, exists_and_left, V.int.injEq, V.bl.injEq, V.ref.injEq, List.cons.injEq, and_true, true_and, and_assoc, decide_eq_true_eq, Bool.not_eq_true', if_true, if_false, Bool.false_eq_true, ite_true, ite_false, Bool.true_eq_false, reduceCtorEq, false_and, and_false, exists_false, false_or, or_false, gUnl, tCallN, rMax, tBreak]
    refine ite2 (fun c => ?_) (fun c => ?_)
    · obtain ⟨e1, e2, e3⟩ := num_eq n d hd (-n) (-d) (by rw [if_pos c]) (by rw [if_pos c])
      refine ⟨e3, e3, le2, fun p hp => ?_⟩
      rw [e1, e2]
      exact q.to (Same.refl _) hp
    · obtain ⟨e1, e2, e3⟩ := num_eq n d hd n d (by rw [if_neg c]) (by rw [if_neg c])
      refine ⟨e3, e3, le2, fun p hp => ?_⟩
      rw [e1, e2]
      exact q.to (Same.refl _) hp
/-- two numbers whose products fit -/
def Fit2 (a b : Rat) : Prop := ∃ j k, RB a j ∧ RB b k ∧ j + k ≤ 134217728
theorem Fit2.m {a b : Rat} (h : Fit2 a b) : CMulX a.num b.num ∧ CMulX a.num b.den ∧ CMulX b.num a.den ∧ CMulX a.den b.den ∧ CMulX b.den a.den ∧ CMulX a.den b.num := by
  obtain ⟨j, k, ⟨h1, h2⟩, ⟨h3, h4⟩, hk⟩ := h
  exact ⟨mul_bits h1 h3 hk, mul_bits h1 (by simpa using h4) hk, mul_bits h3 (by simpa using h2) (by omega), mul_bits (by simpa using h2) (by simpa using h4) hk, mul_bits (by simpa using h4) (by simpa using h2) (by omega), mul_bits (by simpa using h2) h3 hk⟩
def spBin (K : PySem.W.Frag) (f : Rat → Rat → Rat) : Sp := fun vs H Q _ => ∃ (p q : Addr) (a b : Rat), vs = [.ref p, .ref q] ∧ IsN K H p a ∧ IsN K H q b ∧ Fit2 a b ∧ NewO H Q (nT (f a b))
theorem ok_plus (T : Tx P K mg base A D) : FnOk P w K mg base CX0 41 (A 2) (D 2) ["a", "b"] (spBin K fun a b => a + b) := by
  refine T.f_plus.ok sc_plus (fun vs H Q E h => ?_) (fun cdv Ar outer s H vs Q E hr h => ?_)
  · obtain ⟨p, q, a, b, rfl, _⟩ := h
    rfl
  · obtain ⟨p, q, a, b, rfl, ha, hb, hf, hq⟩ := h
    refine ⟨_, PSs.nox (pss_one (ps_ret (pe_call (ok_number T) (hr.mono (by decide)) (by rfl) T.g_number T.f_number.kp (b_number T) .nil pass0 (pa_cons (pe_op op_add (pe_op op_mulX (pe_ix ix_tup (pv 0) pe_int (fun _ _ => rfl)) (pe_ix ix_tup (pv 1) pe_int (fun _ _ => rfl))) (pe_op op_mulX (pe_ix ix_tup (pv 1) pe_int (fun _ _ => rfl)) (pe_ix ix_tup (pv 0) pe_int (fun _ _ => rfl)))) (pa_cons (pe_op op_mulX (pe_ix ix_tup (pv 0) pe_int (fun _ _ => rfl)) (pe_ix ix_tup (pv 1) pe_int (fun _ _ => rfl))) pa_nil))))), ?_⟩
    rw [show start ["a", "b"] [V.ref p, V.ref q] = [some (V.ref p), some (V.ref q)] from rfl]
    simp (maxSteps := 2000000) only [NewO, tLc, wipe, List.map_cons, List.map_nil, tSeq, tIfS, tTest, tOp, tVar, tC, rI0, tPar, tUn, rU, tCons, tNil, tAsg, gName, tCB, tRet, tTup, tLst, rI, rGcd, tNext, tCall, tCallN, tIf, tSl, tPart, tNoPart, rSlL, tDrop, tBM, tBM0, rAppend, rPop, tAndV, tOrV, tNotV, tAnd, tOr, tNot, tB, rEq, rNe, scal_int, gTup, gCons, gNil, gUnl, gSub, rSetL, tRevL, tAug, ipI, rIxL, rIxT, rCat, rRep, TruV, iList, iRng1, iRng2, iRng3, iEnum, tFor, tYes, List.append_nil, List.cons_append, List.nil_append, List.getElem?_cons_zero, List.getElem?_cons_succ, List.set_cons_zero, List.set_cons_succ, Option.some.injEq, exists_eq_left', exists_eq_left, exists_and_left, V.int.injEq, V.bl.injEq, V.ref.injEq, List.cons.injEq, and_true, true_and, and_assoc, decide_eq_true_eq, Bool.not_eq_true', if_true, if_false, Bool.false_eq_true, ite_true, ite_false, Bool.true_eq_false, reduceCtorEq, false_and, and_false, exists_false, false_or, or_false, gUnl, tCallN, rMax, tBreak, spNumber, cxK]
    obtain ⟨m1, m2, m3, m4, _⟩ := hf.m
    refine ⟨_, ha, _, rfl, _, hb, _, rfl, _, rfl, _, rfl, m2, _, hb, _, rfl, _, ha, _, rfl, _, rfl, _, rfl, m3, _, ha, _, rfl, _, hb, _, rfl, _, rfl, _, rfl, m4, den_ne a b, ?_⟩
    rw [plus_eq]
    exact hq
theorem ok_minus (T : Tx P K mg base A D) : FnOk P w K mg base CX0 41 (A 3) (D 3) ["a", "b"] (spBin K fun a b => a - b) := by
  refine T.f_minus.ok sc_minus (fun vs H Q E h => ?_) (fun cdv Ar outer s H vs Q E hr h => ?_)
  · obtain ⟨p, q, a, b, rfl, _⟩ := h
    rfl
  · obtain ⟨p, q, a, b, rfl, ha, hb, hf, hq⟩ := h
    refine ⟨_, PSs.nox (pss_one (ps_ret (pe_call (ok_number T) (hr.mono (by decide)) (by rfl) T.g_number T.f_number.kp (b_number T) .nil pass0 (pa_cons (pe_op op_sub (pe_op op_mulX (pe_ix ix_tup (pv 0) pe_int (fun _ _ => rfl)) (pe_ix ix_tup (pv 1) pe_int (fun _ _ => rfl))) (pe_op op_mulX (pe_ix ix_tup (pv 1) pe_int (fun _ _ => rfl)) (pe_ix ix_tup (pv 0) pe_int (fun _ _ => rfl)))) (pa_cons (pe_op op_mulX (pe_ix ix_tup (pv 0) pe_int (fun _ _ => rfl)) (pe_ix ix_tup (pv 1) pe_int (fun _ _ => rfl))) pa_nil))))), ?_⟩
    rw [show start ["a", "b"] [V.ref p, V.ref q] = [some (V.ref p), some (V.ref q)] from rfl]
    simp (maxSteps := 2000000) only [NewO, tLc, wipe, List.map_cons, List.map_nil, tSeq, tIfS, tTest, tOp, tVar, tC, rI0, tPar, tUn, rU, tCons, tNil, tAsg, gName, tCB, tRet, tTup, tLst, rI, rGcd, tNext, tCall, tCallN, tIf, tSl, tPart, tNoPart, rSlL, tDrop, tBM, tBM0, rAppend, rPop, tAndV, tOrV, tNotV, tAnd, tOr, tNot, tB, rEq, rNe, scal_int, gTup, gCons, gNil, gUnl, gSub, rSetL, tRevL, tAug, ipI, rIxL, rIxT, rCat, rRep, TruV, iList, iRng1, iRng2, iRng3, iEnum, tFor, tYes, List.append_nil, List.cons_append, List.nil_append, List.getElem?_cons_zero, List.getElem?_cons_succ, List.set_cons_zero, List.set_cons_succ, Option.some.injEq, exists_eq_left', exists_eq_left, exists_and_left, V.int.injEq, V.bl.injEq, V.ref.injEq, List.cons.injEq, and_true, true_and, and_assoc, decide_eq_true_eq, Bool.not_eq_true', if_true, if_false, Bool.false_eq_true, ite_true, ite_false, Bool.true_eq_false, reduceCtorEq, false_and, and_false, exists_false, false_or, or_false, gUnl, tCallN, rMax, tBreak, spNumber, cxK]
    obtain ⟨m1, m2, m3, m4, _⟩ := hf.m
    refine ⟨_, ha, _, rfl, _, hb, _, rfl, _, rfl, _, rfl, m2, _, hb, _, rfl, _, ha, _, rfl, _, rfl, _, rfl, m3, _, ha, _, rfl, _, hb, _, rfl, _, rfl, _, rfl, m4, den_ne a b, ?_⟩
    rw [minus_eq]
    exact hq
theorem ok_times (T : Tx P K mg base A D) : FnOk P w K mg base CX0 41 (A 4) (D 4) ["a", "b"] (spBin K fun a b => a * b) := by
  refine T.f_times.ok sc_times (fun vs H Q E h => ?_) (fun cdv Ar outer s H vs Q E hr h => ?_)
  · obtain ⟨p, q, a, b, rfl, _⟩ := h
    rfl
  · obtain ⟨p, q, a, b, rfl, ha, hb, hf, hq⟩ := h
    refine ⟨_, PSs.nox (pss_one (ps_ret (pe_call (ok_number T) (hr.mono (by decide)) (by rfl) T.g_number T.f_number.kp (b_number T) .nil pass0 (pa_cons (pe_op op_mulX (pe_ix ix_tup (pv 0) pe_int (fun _ _ => rfl)) (pe_ix ix_tup (pv 1) pe_int (fun _ _ => rfl))) (pa_cons (pe_op op_mulX (pe_ix ix_tup (pv 0) pe_int (fun _ _ => rfl)) (pe_ix ix_tup (pv 1) pe_int (fun _ _ => rfl))) pa_nil))))), ?_⟩
    rw [show start ["a", "b"] [V.ref p, V.ref q] = [some (V.ref p), some (V.ref q)] from rfl]
    simp (maxSteps := 2000000) only [NewO, tLc, wipe, List.map_cons, List.map_nil, tSeq, tIfS, tTest, tOp, tVar, tC, rI0, tPar, tUn, rU, tCons, tNil, tAsg, gName, tCB, tRet, tTup, tLst, rI, rGcd, tNext, tCall, tCallN, tIf, tSl, tPart, tNoPart, rSlL, tDrop, tBM, tBM0, rAppend, rPop, tAndV, tOrV, tNotV, tAnd, tOr, tNot, tB, rEq, rNe, scal_int, gTup, gCons, gNil, gUnl, gSub, rSetL, tRevL, tAug, ipI, rIxL, rIxT, rCat, rRep, TruV, iList, iRng1, iRng2, iRng3, iEnum, tFor, tYes, List.append_nil, List.cons_append, List.nil_append, List.getElem?_cons_zero, List.getElem?_cons_succ, List.set_cons_zero, List.set_cons_succ, Option.some.injEq, exists_eq_left', exists_eq_left, exists_and_left, V.int.injEq, V.bl.injEq, V.ref.injEq, List.cons.injEq, and_true, true_and, and_assoc, decide_eq_true_eq, Bool.not_eq_true', if_true, if_false, Bool.false_eq_true, ite_true, ite_false, Bool.true_eq_false, reduceCtorEq, false_and, and_false, exists_false, false_or, or_false, gUnl, tCallN, rMax, tBreak, spNumber, cxK]
    obtain ⟨m1, m2, m3, m4, _⟩ := hf.m
    refine ⟨_, ha, _, rfl, _, hb, _, rfl, _, rfl, _, rfl, m1, _, ha, _, rfl, _, hb, _, rfl, _, rfl, _, rfl, m4, den_ne a b, ?_⟩
    rw [times_eq]
    exact hq
def spCompare (K : PySem.W.Frag) : Sp := fun vs H Q _ => ∃ (p q : Addr) (a b : Rat), vs = [.ref p, .ref q] ∧ IsN K H p a ∧ IsN K H q b ∧ Fit2 a b ∧ Q (.int (if a < b then -1 else if b < a then 1 else 0)) H
theorem ok_compare (T : Tx P K mg base A D) : FnOk P w K mg base CX0 40 (A 1) (D 1) ["a", "b"] (spCompare K) := by
  refine T.f_compare.ok sc_compare (fun vs H Q E h => ?_) (fun cdv Ar outer s H vs Q E hr h => ?_)
  · obtain ⟨p, q, a, b, rfl, _⟩ := h
    rfl
  · obtain ⟨p, q, a, b, rfl, ha, hb, hf, hq⟩ := h
    refine ⟨_, PSs.nox (pss_cons (ps_par (i := 2) (j := 3) (by rfl) sc_compare.nd rfl rfl (by decide) rfl rfl (pa_cons (pe_op op_mulX (pe_ix ix_tup (pv 0) pe_int (fun _ _ => rfl)) (pe_ix ix_tup (pv 1) pe_int (fun _ _ => rfl))) (pa_cons (pe_op op_mulX (pe_ix ix_tup (pv 1) pe_int (fun _ _ => rfl)) (pe_ix ix_tup (pv 0) pe_int (fun _ _ => rfl))) pa_nil)) (by rfl)) (pss_cons (ps_if (pt_cmpR op_lt (pv 2) (pv 3) (nomark _)) (pss_one (ps_ret (pe_un un_neg pe_int))) pss_nil) (pss_one (ps_ret (pe_callTy call_int1 (by rfl) T.z_int (by decide +kernel) (pa_cons (pe_cmpR op_gt (pv 2) (pv 3) (nomark _)) pa_nil)))))), ?_⟩
    rw [show start ["a", "b", "left", "right"] [V.ref p, V.ref q] = [some (V.ref p), some (V.ref q), none, none] from rfl]
    simp (maxSteps := 2000000) only [NewO, tLc, wipe, List.map_cons, List.map_nil, tSeq, tIfS, tTest, tOp, tVar, tC, rI0, tPar, tUn, rU, tCons, tNil, tAsg, gName, tCB, tRet, tTup, tLst, rI, rGcd, tNext, tCall, tCallN, tIf, tSl, tPart, tNoPart, rSlL, tDrop, tBM, tBM0, rAppend, rPop, tAndV, tOrV, tNotV, tAnd, tOr, tNot, tB, rEq, rNe, scal_int, gTup, gCons, gNil, gUnl, gSub, rSetL, tRevL, tAug, ipI, rIxL, rIxT, rCat, rRep, TruV, iList, iRng1, iRng2, iRng3, iEnum, tFor, tYes, List.append_nil, List.cons_append, List.nil_append, List.getElem?_cons_zero, List.getElem?_cons_succ, List.set_cons_zero, List.set_cons_succ, Option.some.injEq, exists_eq_left', exists_eq_left, exists_and_left, V.int.injEq, V.bl.injEq, V.ref.injEq, List.cons.injEq, and_true, true_and, and_assoc, decide_eq_true_eq, Bool.not_eq_true', if_true, if_false, Bool.false_eq_true, ite_true, ite_false, Bool.true_eq_false, reduceCtorEq, false_and, and_false, exists_false, false_or, or_false, gUnl, tCallN, rMax, tBreak, cxK]
    obtain ⟨m1, m2, m3, m4, _⟩ := hf.m
    refine ⟨_, ha, _, rfl, _, hb, _, rfl, _, rfl, _, rfl, m2, _, hb, _, rfl, _, ha, _, rfl, _, rfl, _, rfl, m3, ?_⟩
    have c1 := cmp_eq a b
    have c2 := cmp_eq b a
    by_cases h1 : a < b
    · rw [if_pos h1] at hq
      rw [if_pos (c1.mpr h1)]
      exact hq
    · rw [if_neg h1] at hq
      rw [if_neg fun z => h1 (c1.mp z)]
      by_cases h2 : b < a
      · rw [if_pos h2] at hq
        rw [if_pos (c2.mpr h2)]
        exact hq
      · rw [if_neg h2] at hq
        rw [if_neg fun z => h2 (c2.mp z)]
        exact hq
/-- half: the sum's bits are asked, too -/
def spHalf (K : PySem.W.Frag) : Sp := fun vs H Q _ => ∃ (p q : Addr) (a b : Rat), vs = [.ref p, .ref q] ∧ IsN K H p a ∧ IsN K H q b ∧ Fit2 a b ∧ (∃ k, RB (a + b) k ∧ k ≤ 134217720) ∧ NewO H Q (nT ((a + b) / 2))
theorem ok_half (T : Tx P K mg base A D) : FnOk P w K mg base CX0 42 (A 29) (D 29) ["x", "y"] (spHalf K) := by
  refine T.f_half.ok sc_half (fun vs H Q E h => ?_) (fun cdv Ar outer s H vs Q E hr h => ?_)
  · obtain ⟨p, q, a, b, rfl, _⟩ := h
    rfl
  · obtain ⟨p, q, a, b, rfl, ha, hb, hf, ⟨k, hk, hl⟩, hq⟩ := h
    refine ⟨_, PSs.nox (pss_cons (ps_set (i := 2) sc_half.nd rfl (.inl rfl) (pe_call (ok_plus T) (hr.mono (by decide)) (by rfl) T.g_plus T.f_plus.kp (b_plus T) .nil pass0 (pa_cons (pv 0) (pa_cons (pv 1) pa_nil)))) (pss_one (ps_ret (pe_call (ok_number T) (hr.mono (by decide)) (by rfl) T.g_number T.f_number.kp (b_number T) .nil pass0 (pa_cons (pe_ix ix_tup (pv 2) pe_int (fun _ _ => rfl)) (pa_cons (pe_op op_mulX pe_int (pe_ix ix_tup (pv 2) pe_int (fun _ _ => rfl))) pa_nil)))))), ?_⟩
    rw [show start ["x", "y", "middle"] [V.ref p, V.ref q] = [some (V.ref p), some (V.ref q), none] from rfl]
    simp (maxSteps := 2000000) only [NewO, tLc, wipe, List.map_cons, List.map_nil, tSeq, tIfS, tTest, tOp, tVar, tC, rI0, tPar, tUn, rU, tCons, tNil, tAsg, gName, tCB, tRet, tTup, tLst, rI, rGcd, tNext, tCall, tCallN, tIf, tSl, tPart, tNoPart, rSlL, tDrop, tBM, tBM0, rAppend, rPop, tAndV, tOrV, tNotV, tAnd, tOr, tNot, tB, rEq, rNe, scal_int, gTup, gCons, gNil, gUnl, gSub, rSetL, tRevL, tAug, ipI, rIxL, rIxT, rCat, rRep, TruV, iList, iRng1, iRng2, iRng3, iEnum, tFor, tYes, List.append_nil, List.cons_append, List.nil_append, List.getElem?_cons_zero, List.getElem?_cons_succ, List.set_cons_zero, List.set_cons_succ, Option.some.injEq, exists_eq_left', exists_eq_left, exists_and_left, V.int.injEq, V.bl.injEq, V.ref.injEq, List.cons.injEq, and_true, true_and, and_assoc, decide_eq_true_eq, Bool.not_eq_true', if_true, if_false, Bool.false_eq_true, ite_true, ite_false, Bool.true_eq_false, reduceCtorEq, false_and, and_false, exists_false, false_or, or_false, gUnl, tCallN, rMax, tBreak, spNumber, spBin, cxK]
    refine ⟨a, ha, b, hb, hf, fun H1 r s1 n1 e1 => ?_⟩
    have hr1 : IsN K H1 r (a + b) := .new e1
    refine ⟨_, hr1, _, rfl, _, hr1, _, rfl, _, rfl, ?_, _, rfl, by have := (a + b).den_nz; omega, ?_⟩
    · exact mul_bits (a := 3) (b := k) (by decide) (by simpa using hk.2) (by omega)
    · rw [half_eq]
      exact fun H2 p2 s2 n2 e2 => hq H2 p2 (s1.trans s2) (s1.free n2) e2
end
end W23
namespace W23
open PySem PySem.Spec PyProof.Rows L2 K23
/-! ### lists of ints -/
def IsL (K : PySem.W.Frag) (H : Hp) (a : Addr) (ns : List Int) : Prop := SqL K H a (ns.map V.int)
theorem IsL.at {K : PySem.W.Frag} {H H' : Hp} {a : Addr} {ns : List Int} (h : IsL K H a ns) (e : Same H H') : IsL K H' a ns := e.seq h
theorem IsL.new {K : PySem.W.Frag} {H : Hp} {a : Addr} {ns : List Int} (h : H a = some (iL ns)) : IsL K H a ns := SqL.of h
theorem ix_int {ns : List Int} {z : Int} {i : Nat} (e : z = i) (h : i < ns.length) : atI (ns.map V.int) z = some (.int (cI ns i)) := by
  refine at_of e ?_
  rw [List.getElem?_map, List.getElem?_eq_getElem h, cI_get h]; rfl
theorem atI_neg {α : Type} {xs : List α} {v : α} (h : xs[xs.length - 1]? = some v) : atI xs (-1) = some v := by
  have hl := (List.getElem?_eq_some_iff.mp h).1
  unfold atI ixN
  rw [if_neg (by decide), if_pos (by omega)]
  show xs[((-1 : Int) + xs.length).toNat]? = some v
  rw [show ((-1 : Int) + xs.length).toNat = xs.length - 1 by omega]
  exact h
theorem ix_last {ns : List Int} (h : ns ≠ []) : atI (ns.map V.int) (-1) = some (.int (cI ns (ns.length - 1))) := by
  have hp := List.length_pos_iff.mpr h
  refine atI_neg ?_
  rw [List.length_map, List.getElem?_map, List.getElem?_eq_getElem (by omega), cI_get (by omega)]; rfl
theorem cut_take {xs : List V} {j : Nat} : cutV xs none (some (j : Int)) = xs.take j := by
  unfold cutV
  rw [HT.sIx_none, HT.sIx_nat, List.drop_zero, Nat.sub_zero]
  by_cases h : j ≤ xs.length
  · rw [Nat.min_eq_left h]
  · rw [Nat.min_eq_right (by omega), List.take_of_length_le (Nat.le_refl _), List.take_of_length_le (by omega)]
theorem cut_drop {xs : List V} {j : Nat} : cutV xs (some (j : Int)) none = xs.drop j := by
  unfold cutV
  rw [HT.sIx_none, HT.sIx_nat]
  by_cases h : j ≤ xs.length
  · rw [Nat.min_eq_left h, List.take_of_length_le]
    rw [List.length_drop]; omega
  · rw [Nat.min_eq_right (by omega), List.drop_of_length_le (Nat.le_refl _), List.drop_of_length_le (by omega), List.take_nil]
theorem ixL (K : PySem.W.Frag) {X : Cx} (h : X.K = K := by rfl) : IxR X (rIxL K) := h ▸ ix_list
theorem ixT (K : PySem.W.Frag) {X : Cx} (h : X.K = K := by rfl) : IxR X (rIxT K) := h ▸ ix_tup
theorem opNotInD (K : PySem.W.Frag) {X : Cx} (hu : X.A.units + 65 < cLine) (h : X.K = K := by rfl) : OpR X (compareOp .NotIn) (rNotInD K) := h ▸ op_notInD hu
/-! ### loops, the body as it comes -/
theorem lcr {lo : Int} {n : Nat} {H0 : Hp} {Fin : Hp → Prop} {Body : (Hp → Prop) → V → Hp → Prop} (Pv : Nat → Hp → Prop) (h0 : Pv 0 H0) (hs : ∀ i H, i < n → Pv i H → Body (Pv (i + 1)) (.int (lo + i)) H) (hd : ∀ H, Pv n H → Fin H) :
    ∃ W : Nat → Nat → Hp → Prop, (∃ m, W 0 m H0) ∧ ∀ i m H, W i m H → ((Itr lo n).stop i H ∧ Fin H) ∨ ((Itr lo n).go i H ∧ ∃ Nx : Hp → Prop, (∀ H', Nx H' → ∃ m', m' < m ∧ W (i + 1) m' H') ∧ ∀ x H', (Itr lo n).yld i H x H' → Body Nx x H') := by
  refine ⟨fun i m H => m = n - i ∧ i ≤ n ∧ Pv i H, ⟨n, by simp, Nat.zero_le _, h0⟩, ?_⟩
  rintro i m H ⟨rfl, hi, p⟩
  by_cases hlt : i < n
  · refine .inr ⟨hlt, Pv (i + 1), fun H' p' => ⟨n - (i + 1), by omega, rfl, hlt, p'⟩, fun x H' y => ?_⟩
    obtain ⟨e, y⟩ := y
    subst e y
    exact hs i _ hlt p
  · have e : i = n := by omega
    subst e
    exact .inl ⟨Nat.le_refl _, hd H p⟩
theorem lcl {K : PySem.W.Frag} {a : Addr} {xs : List V} {H0 : Hp} {Fin : Hp → Prop} {Body : (Hp → Prop) → V → Hp → Prop} (Pv : Nat → Hp → Prop) (h0 : Pv 0 H0) (hl : ∀ i H, i ≤ xs.length → Pv i H → SqL K H a xs) (hs : ∀ i x H, xs[i]? = some x → Pv i H → Body (Pv (i + 1)) x H) (hd : ∀ H, Pv xs.length H → Fin H) :
    ∃ W : Nat → Nat → Hp → Prop, (∃ m, W 0 m H0) ∧ ∀ i m H, W i m H → ((Itl K a).stop i H ∧ Fin H) ∨ ((Itl K a).go i H ∧ ∃ Nx : Hp → Prop, (∀ H', Nx H' → ∃ m', m' < m ∧ W (i + 1) m' H') ∧ ∀ x H', (Itl K a).yld i H x H' → Body Nx x H') := by
  refine ⟨fun i m H => m = xs.length - i ∧ i ≤ xs.length ∧ Pv i H, ⟨xs.length, by simp, Nat.zero_le _, h0⟩, ?_⟩
  rintro i m H ⟨rfl, hi, p⟩
  have q := hl i H hi p
  by_cases hlt : i < xs.length
  · refine .inr ⟨⟨xs, xs[i], q, by simp [hlt]⟩, Pv (i + 1), fun H' p' => ⟨xs.length - (i + 1), by omega, rfl, hlt, p'⟩, fun x H' y => ?_⟩
    obtain ⟨e, y⟩ := y
    subst e
    exact hs i x _ (y xs q) p
  · have e : i = xs.length := by omega
    subst e
    exact .inl ⟨⟨xs, q, Nat.le_refl _⟩, hd H p⟩
theorem frr {lo : Int} {n : Nat} {σ0 : L2.St} {H0 : Hp} {Fin : L2.St → Hp → Prop} {Body : (L2.St → Hp → Prop) → L2.St → V → Hp → Prop} (Pv : Nat → L2.St → Hp → Prop) (h0 : Pv 0 σ0 H0) (hs : ∀ i σ H, i < n → Pv i σ H → Body (Pv (i + 1)) σ (.int (lo + i)) H) (hd : ∀ σ H, Pv n σ H → Fin σ H) :
    ∃ W : Nat → Nat → L2.St → Hp → Prop, (∃ m, W 0 m σ0 H0) ∧ ∀ i m σ H, W i m σ H → ((Itr lo n).stop i H ∧ Fin σ H) ∨ ((Itr lo n).go i H ∧ ∃ N : L2.St → Hp → Prop, (∀ σ' H', N σ' H' → ∃ m', m' < m ∧ W (i + 1) m' σ' H') ∧ ∀ x H', (Itr lo n).yld i H x H' → Body N σ x H') := by
  refine ⟨fun i m σ H => m = n - i ∧ i ≤ n ∧ Pv i σ H, ⟨n, by simp, Nat.zero_le _, h0⟩, ?_⟩
  rintro i m σ H ⟨rfl, hi, p⟩
  by_cases hlt : i < n
  · refine .inr ⟨hlt, Pv (i + 1), fun σ' H' p' => ⟨n - (i + 1), by omega, rfl, hlt, p'⟩, fun x H' y => ?_⟩
    obtain ⟨e, y⟩ := y
    subst e y
    exact hs i σ _ hlt p
  · have e : i = n := by omega
    subst e
    exact .inl ⟨Nat.le_refl _, hd σ H p⟩
theorem frc {lo c : Int} {n : Nat} {σ0 : L2.St} {H0 : Hp} {Fin : L2.St → Hp → Prop} {Body : (L2.St → Hp → Prop) → L2.St → V → Hp → Prop} (Pv : Nat → L2.St → Hp → Prop) (h0 : Pv 0 σ0 H0) (hs : ∀ i σ H, i < n → Pv i σ H → Body (Pv (i + 1)) σ (.int (lo + (i : Nat) * c)) H) (hd : ∀ σ H, Pv n σ H → Fin σ H) :
    ∃ W : Nat → Nat → L2.St → Hp → Prop, (∃ m, W 0 m σ0 H0) ∧ ∀ i m σ H, W i m σ H → ((Itc lo c n).stop i H ∧ Fin σ H) ∨ ((Itc lo c n).go i H ∧ ∃ N : L2.St → Hp → Prop, (∀ σ' H', N σ' H' → ∃ m', m' < m ∧ W (i + 1) m' σ' H') ∧ ∀ x H', (Itc lo c n).yld i H x H' → Body N σ x H') := by
  refine ⟨fun i m σ H => m = n - i ∧ i ≤ n ∧ Pv i σ H, ⟨n, by simp, Nat.zero_le _, h0⟩, ?_⟩
  rintro i m σ H ⟨rfl, hi, p⟩
  by_cases hlt : i < n
  · refine .inr ⟨hlt, Pv (i + 1), fun σ' H' p' => ⟨n - (i + 1), by omega, rfl, hlt, p'⟩, fun x H' y => ?_⟩
    obtain ⟨e, y⟩ := y
    subst e y
    exact hs i σ _ hlt p
  · have e : i = n := by omega
    subst e
    exact .inl ⟨Nat.le_refl _, hd σ H p⟩
theorem frl {K : PySem.W.Frag} {a : Addr} {xs : List V} {σ0 : L2.St} {H0 : Hp} {Fin : L2.St → Hp → Prop} {Body : (L2.St → Hp → Prop) → L2.St → V → Hp → Prop} (Pv : Nat → L2.St → Hp → Prop) (h0 : Pv 0 σ0 H0) (hl : ∀ i σ H, i ≤ xs.length → Pv i σ H → SqL K H a xs) (hs : ∀ i x σ H, xs[i]? = some x → Pv i σ H → Body (Pv (i + 1)) σ x H) (hd : ∀ σ H, Pv xs.length σ H → Fin σ H) :
    ∃ W : Nat → Nat → L2.St → Hp → Prop, (∃ m, W 0 m σ0 H0) ∧ ∀ i m σ H, W i m σ H → ((Itl K a).stop i H ∧ Fin σ H) ∨ ((Itl K a).go i H ∧ ∃ N : L2.St → Hp → Prop, (∀ σ' H', N σ' H' → ∃ m', m' < m ∧ W (i + 1) m' σ' H') ∧ ∀ x H', (Itl K a).yld i H x H' → Body N σ x H') := by
  refine ⟨fun i m σ H => m = xs.length - i ∧ i ≤ xs.length ∧ Pv i σ H, ⟨xs.length, by simp, Nat.zero_le _, h0⟩, ?_⟩
  rintro i m σ H ⟨rfl, hi, p⟩
  have q := hl i σ H hi p
  by_cases hlt : i < xs.length
  · refine .inr ⟨⟨xs, xs[i], q, by simp [hlt]⟩, Pv (i + 1), fun σ' H' p' => ⟨xs.length - (i + 1), by omega, rfl, hlt, p'⟩, fun x H' y => ?_⟩
    obtain ⟨e, y⟩ := y
    subst e
    exact hs i x σ _ (y xs q) p
  · have e : i = xs.length := by omega
    subst e
    exact .inl ⟨⟨xs, q, Nat.le_refl _⟩, hd σ H p⟩
/-! ### a list that a comprehension fills -/
structure PvM (H1 : Hp) (D : Addr) (f : Nat → V) (i : Nat) (H : Hp) : Prop where
  same : Same H1 H
  d : H D = some (.lst ((List.range i).map f))
theorem PvM.start {H1 : Hp} {D : Addr} {f : Nat → V} (h : H1 D = none) : PvM H1 D f 0 (upd H1 D (.lst [])) := ⟨same_new h, upd_same⟩
theorem same_updD {H1 H : Hp} {D : Addr} {o : HO} (hD : H1 D = none) (s : Same H1 H) : Same H1 (upd H D o) := fun b u e => by
  rw [upd_ne (ne_of_none e hD)]; exact s _ _ e
theorem PvM.next {H1 H H4 : Hp} {D : Addr} {f : Nat → V} {i : Nat} {y : V} (p : PvM H1 D f i H) (hD : H1 D = none) (s : Same H H4) (hy : y = f i) (hi : i < sizeLine) : ∃ acc, H4 D = some (.lst acc) ∧ acc.length < sizeLine ∧ PvM H1 D f (i + 1) (upd H4 D (.lst (acc ++ [y]))) := by
  refine ⟨_, s _ _ p.d, by simpa using hi, same_updD hD (p.same.trans s), ?_⟩
  rw [upd_same, List.range_succ, List.map_append, hy]; rfl
/-- .. by a filter -/
structure PvF (H1 : Hp) (D : Addr) (q : Nat → Bool) (f : Nat → V) (i : Nat) (H : Hp) : Prop where
  same : Same H1 H
  d : H D = some (.lst (((List.range i).filter q).map f))
theorem PvF.start {H1 : Hp} {D : Addr} {q : Nat → Bool} {f : Nat → V} (h : H1 D = none) : PvF H1 D q f 0 (upd H1 D (.lst [])) := ⟨same_new h, upd_same⟩
theorem PvF.next {H1 H H4 : Hp} {D : Addr} {q : Nat → Bool} {f : Nat → V} {i : Nat} {y : V} (p : PvF H1 D q f i H) (hD : H1 D = none) (s : Same H H4) (hq : q i = true) (hy : y = f i) (hi : i < sizeLine) : ∃ acc, H4 D = some (.lst acc) ∧ acc.length < sizeLine ∧ PvF H1 D q f (i + 1) (upd H4 D (.lst (acc ++ [y]))) := by
  refine ⟨_, s _ _ p.d, ?_, same_updD hD (p.same.trans s), ?_⟩
  · rw [List.length_map]
    exact Nat.lt_of_le_of_lt (List.length_filter_le _ _) (by simpa using hi)
  · rw [upd_same, List.range_succ, List.filter_append, List.map_append, hy]
    rw [List.filter_cons_of_pos (by simpa using hq)]; rfl
theorem PvF.skip {H1 H H3 : Hp} {D : Addr} {q : Nat → Bool} {f : Nat → V} {i : Nat} (p : PvF H1 D q f i H) (s : Same H H3) (hq : q i = false) : PvF H1 D q f (i + 1) H3 := by
  refine ⟨p.same.trans s, ?_⟩
  rw [s _ _ p.d, List.range_succ, List.filter_append, List.filter_cons_of_neg (by simp [hq])]
  simp
theorem map_rangeV {n : Nat} {f : Nat → Int} : (List.range n).map (fun i => V.int (f i)) = ((List.range n).map f).map V.int := by
  rw [List.map_map]; rfl
theorem map_idx (ns : List Int) (f : Int → Int) : (List.range ns.length).map (fun i => f (cI ns i)) = ns.map f := by
  refine List.ext_getElem (by simp) fun i h1 h2 => ?_
  rw [List.getElem_map, List.getElem_map, List.getElem_range, cI_get]
theorem get_int {ns : List Int} {i : Nat} {x : V} (h : (ns.map V.int)[i]? = some x) : i < ns.length ∧ x = .int (cI ns i) := by
  rw [List.getElem?_map] at h
  cases q : ns[i]? with
  | none => rw [q] at h; cases h
  | some c =>
    rw [q] at h
    obtain ⟨hi, e⟩ := List.getElem?_eq_some_iff.mp q
    refine ⟨hi, ?_⟩
    rw [cI_get hi, e]
    exact (Option.some.inj h).symm
theorem content_take {ns : List Int} {i : Nat} (h : i < ns.length) : contentI (ns.take (i + 1)) = ((Nat.gcd (contentI (ns.take i)).natAbs (cI ns i).natAbs : Nat) : Int) := by
  rw [List.take_succ, List.getElem?_eq_getElem h, cI_get h]
  unfold contentI
  rw [List.foldl_append]; rfl
theorem lt_size {n : Nat} (h : n ≤ 1000000) : n < sizeLine := Nat.lt_of_le_of_lt h (by decide)
theorem le_size {n : Nat} (h : n ≤ 1000000) : n ≤ sizeLine := Nat.le_of_lt (lt_size h)
/-- all coefficients below 2 ^ k -/
abbrev PB (ns : List Int) (k : Nat) : Prop := PBd ns k
section
variable {P : Program} {w : World} {K : PySem.W.Frag} {mg : Str → Option Value} {base : Heap} {A : Nat → Addr} {D : Nat → FuncData}
/-- a list of ints in, a new list of ints out -/
def spLL (K : PySem.W.Frag) (c : List Int → Prop) (f : List Int → List Int) : Sp := fun vs H Q _ => ∃ (a : Addr) (ns : List Int), vs = [.ref a] ∧ IsL K H a ns ∧ ns.length ≤ 1000 ∧ c ns ∧ NewO H Q (iL (f ns))
theorem ok_trimmed (T : Tx P K mg base A D) : FnOk P w K mg base CX0 40 (A 5) (D 5) ["coefficients"] (spLL K (fun _ => True) trimI) := by
  refine T.f_trimmed.ok sc_trimmed (fun vs H Q E h => ?_) (fun cdv Ar outer s H vs Q E hr h => ?_)
  · obtain ⟨a, ns, rfl, _⟩ := h
    rfl
  · obtain ⟨a, ns, rfl, ha, hl, _, hq⟩ := h
    refine ⟨_, PSs.nox (pss_cons (ps_set (i := 1) sc_trimmed.nd rfl (.inl rfl) (pe_callB call_len_seq (by rfl) T.z_len (by decide +kernel) (pa_cons (pv 0) pa_nil))) (pss_cons (ps_while PassesOwn.never (PW.pt (pw_and (pt_cmpR op_gt (pv 1) pe_int (nomark _)) (pw_and1 (pt_cmpR op_eq (pe_ix ix_list (pv 0) (pe_op op_sub (pv 1) pe_int) (fun _ _ => rfl)) pe_int (nomark _))))) (pss_one (ps_aug (i := 1) sc_trimmed.nd rfl (.inl rfl) pe_int ip_sub))) (pss_one (ps_ret (pe_slice sl_list (pv 0) po_none (po_some (pv 1))))))), ?_⟩
    rw [show start ["coefficients", "many"] [V.ref a] = [some (V.ref a), none] from rfl]
    simp (maxSteps := 2000000) only [NewO, tLc, wipe, List.map_cons, List.map_nil, tSeq, tIfS, tTest, tOp, tVar, tC, rI0, tPar, tUn, rU, tCons, tNil, tAsg, gName, tCB, tRet, tTup, tLst, rI, rGcd, tNext, tCall, tCallN, tIf, tSl, tPart, tNoPart, rSlL, tDrop, tBM, tBM0, rAppend, rPop, tAndV, tOrV, tNotV, tAnd, tOr, tNot, tB, rEq, rNe, scal_int, gTup, gCons, gNil, gUnl, gSub, rSetL, tRevL, tAug, ipI, rIxL, rIxT, rCat, rRep, TruV, iList, iRng1, iRng2, iRng3, iEnum, tFor, tYes, List.append_nil, List.cons_append, List.nil_append, List.getElem?_cons_zero, List.getElem?_cons_succ, List.set_cons_zero, List.set_cons_succ, Option.some.injEq, exists_eq_left', exists_eq_left, exists_and_left, V.int.injEq, V.bl.injEq, V.ref.injEq, List.cons.injEq, and_true, true_and, and_assoc, decide_eq_true_eq, Bool.not_eq_true', if_true, if_false, Bool.false_eq_true, ite_true, ite_false, Bool.true_eq_false, reduceCtorEq, false_and, and_false, exists_false, false_or, or_false, gUnl, tCallN, rMax, tBreak, cxK]
    refine ⟨_, .inl ha, ?_⟩
    refine ⟨fun m σ H' => ∃ j : Nat, σ = [some (.ref a), some (.int j)] ∧ j = m ∧ j ≤ ns.length ∧ H' = H ∧ ∀ i, j ≤ i → cI ns i = 0, ⟨ns.length, ns.length, by rw [List.length_map], rfl, Nat.le_refl _, rfl, fun i hi => cI_out hi⟩, fun m σ H' hW => ?_⟩
    obtain ⟨j, rfl, rfl, hj, rfl, h0⟩ := hW
    simp (maxSteps := 2000000) only [NewO, tLc, wipe, List.map_cons, List.map_nil, tSeq, tIfS, tTest, tOp, tVar, tC, rI0, tPar, tUn, rU, tCons, tNil, tAsg, gName, tCB, tRet, tTup, tLst, rI, rGcd, tNext, tCall, tCallN, tIf, tSl, tPart, tNoPart, rSlL, tDrop, tBM, tBM0, rAppend, rPop, tAndV, tOrV, tNotV, tAnd, tOr, tNot, tB, rEq, rNe, scal_int, gTup, gCons, gNil, gUnl, gSub, rSetL, tRevL, tAug, ipI, rIxL, rIxT, rCat, rRep, TruV, iList, iRng1, iRng2, iRng3, iEnum, tFor, tYes, List.append_nil, List.cons_append, List.nil_append, List.getElem?_cons_zero, List.getElem?_cons_succ, List.set_cons_zero, List.set_cons_succ, Option.some.injEq, exists_eq_left', exists_eq_left, exists_and_left, V.int.injEq, V.bl.injEq, V.ref.injEq, List.cons.injEq, and_true, true_and, and_assoc, decide_eq_true_eq, Bool.not_eq_true', if_true, if_false, Bool.false_eq_true, ite_true, ite_false, Bool.true_eq_false, reduceCtorEq, false_and, and_false, exists_false, false_or, or_false, gUnl, tCallN, rMax, tBreak]
    have fin : (j = 0 ∨ cI ns (j - 1) ≠ 0) → ∃ x, SqL K H' a x ∧ ∀ (p : Addr), H' p = none → Q (V.ref p) (upd H' p (HO.lst (cutV x none (some (j : Int))))) := fun e => by
      refine ⟨_, ha, fun p hp => ?_⟩
      rw [cut_take, ← List.map_take, trimI_take hj h0 e]
      exact hq.to (Same.refl _) hp
    refine ite2 (fun c => ?_) (fun c => fin (.inl (by omega)))
    refine ⟨_, ha, _, ix_int (i := j - 1) (by omega) (by omega), rfl, ite2 (fun e => ?_) (fun e => fin (.inr fun z => e (by rw [z])))⟩
    refine ⟨_, fun _ _ h => h, j - 1, by omega, j - 1, by rw [show ((j : Int) - 1) = ((j - 1 : Nat) : Int) by omega], rfl, by omega, rfl, fun i hi => ?_⟩
    by_cases q : i = j - 1
    · rw [q]; exact V.int.inj e
    · exact h0 i (by omega)
def spCoef (K : PySem.W.Frag) : Sp := fun vs H Q _ => ∃ (a : Addr) (ns : List Int) (k : Nat), vs = [.ref a, .int k] ∧ IsL K H a ns ∧ Q (.int (cI ns k)) H
theorem ok_coefficient_of (T : Tx P K mg base A D) : FnOk P w K mg base CX0 40 (A 6) (D 6) ["a", "power"] (spCoef K) := by
  refine T.f_coefficient_of.ok sc_coefficient_of (fun vs H Q E h => ?_) (fun cdv Ar outer s H vs Q E hr h => ?_)
  · obtain ⟨a, ns, k, rfl, _⟩ := h
    rfl
  · obtain ⟨a, ns, k, rfl, ha, hq⟩ := h
    refine ⟨_, PSs.nox (pss_one (ps_ret (pe_ifExp (pt_cmpR op_lt (pv 1) (pe_callB call_len_seq (by rfl) T.z_len (by decide +kernel) (pa_cons (pv 0) pa_nil)) (nomark _)) (pe_ix ix_list (pv 0) (pv 1) (fun _ _ => rfl)) pe_int))), ?_⟩
    rw [show start ["a", "power"] [V.ref a, V.int k] = [some (V.ref a), some (V.int k)] from rfl]
    simp (maxSteps := 2000000) only [NewO, tLc, wipe, List.map_cons, List.map_nil, tSeq, tIfS, tTest, tOp, tVar, tC, rI0, tPar, tUn, rU, tCons, tNil, tAsg, gName, tCB, tRet, tTup, tLst, rI, rGcd, tNext, tCall, tCallN, tIf, tSl, tPart, tNoPart, rSlL, tDrop, tBM, tBM0, rAppend, rPop, tAndV, tOrV, tNotV, tAnd, tOr, tNot, tB, rEq, rNe, scal_int, gTup, gCons, gNil, gUnl, gSub, rSetL, tRevL, tAug, ipI, rIxL, rIxT, rCat, rRep, TruV, iList, iRng1, iRng2, iRng3, iEnum, tFor, tYes, List.append_nil, List.cons_append, List.nil_append, List.getElem?_cons_zero, List.getElem?_cons_succ, List.set_cons_zero, List.set_cons_succ, Option.some.injEq, exists_eq_left', exists_eq_left, exists_and_left, V.int.injEq, V.bl.injEq, V.ref.injEq, List.cons.injEq, and_true, true_and, and_assoc, decide_eq_true_eq, Bool.not_eq_true', if_true, if_false, Bool.false_eq_true, ite_true, ite_false, Bool.true_eq_false, reduceCtorEq, false_and, and_false, exists_false, false_or, or_false, gUnl, tCallN, rMax, tBreak, cxK]
    refine ⟨_, .inl ha, ite2 (fun c => ?_) (fun c => ?_)⟩
    · rw [List.length_map] at c
      exact ⟨_, ha, _, ix_int rfl (by omega), hq⟩
    · rw [List.length_map] at c
      rw [cI_out (by omega)] at hq
      exact hq
def spLL2 (K : PySem.W.Frag) (c : List Int → List Int → Prop) (f : List Int → List Int → List Int) : Sp := fun vs H Q _ => ∃ (a b : Addr) (ns ms : List Int), vs = [.ref a, .ref b] ∧ IsL K H a ns ∧ IsL K H b ms ∧ ns.length ≤ 1000 ∧ ms.length ≤ 1000 ∧ c ns ms ∧ NewO H Q (iL (f ns ms))
theorem ok_add (T : Tx P K mg base A D) : FnOk P w K mg base CX0 41 (A 7) (D 7) ["a", "b"] (spLL2 K (fun _ _ => True) addI) := by
  refine T.f_add.ok sc_add (fun vs H Q E h => ?_) (fun cdv Ar outer s H vs Q E hr h => ?_)
  · obtain ⟨a, b, ns, ms, rfl, _⟩ := h
    rfl
  · obtain ⟨a, b, ns, ms, rfl, ha, hb, hl, hm, _, hq⟩ := h
    refine ⟨_, PSs.nox (pss_cons (ps_set (i := 2) sc_add.nd rfl (.inl rfl) (pe_callB (call_max2 rfl) (by rfl) T.z_max (by decide +kernel) (pa_cons (pe_callB call_len_seq (by rfl) T.z_len (by decide +kernel) (pa_cons (pv 0) pa_nil)) (pa_cons (pe_callB call_len_seq (by rfl) T.z_len (by decide +kernel) (pa_cons (pv 1) pa_nil)) pa_nil)))) (pss_one (ps_ret (pe_call (ok_trimmed T) (hr.mono (by decide)) (by rfl) T.g_trimmed T.f_trimmed.kp (b_trimmed T) .nil pass0 (pa_cons (pe_lc (own := [("k", 3)]) (g := gName 3) rfl sc_add.nd (pi_range1 rfl T.z_range (pa_cons (pv 2) pa_nil)) (blkOk_by (own := [("k", 3)]) (N := ["a", "b", "many", "k"]) (sc := defScope (stm 11)) (by decide +kernel)) (fun _ _ _ _ _ => (pg_name (i := 3) sc_add.nd rfl (.inl rfl))) (fun _ _ _ _ _ => pts_nil) (fun _ _ _ _ _ => (pe_op op_add (pe_call (ok_coefficient_of T) (hr.mono (by decide)) (by rfl) T.g_coefficient_of T.f_coefficient_of.kp (b_coefficient_of T) .nil pass0 (pa_cons (pv 0) (pa_cons (pv 3) pa_nil))) (pe_call (ok_coefficient_of T) (hr.mono (by decide)) (by rfl) T.g_coefficient_of T.f_coefficient_of.kp (b_coefficient_of T) .nil pass0 (pa_cons (pv 1) (pa_cons (pv 3) pa_nil)))))) pa_nil))))), ?_⟩
    rw [show start ["a", "b", "many", "k"] [V.ref a, V.ref b] = [some (V.ref a), some (V.ref b), none, none] from rfl]
    simp (maxSteps := 2000000) only [NewO, tLc, wipe, List.map_cons, List.map_nil, tSeq, tIfS, tTest, tOp, tVar, tC, rI0, tPar, tUn, rU, tCons, tNil, tAsg, gName, tCB, tRet, tTup, tLst, rI, rGcd, tNext, tCall, tCallN, tIf, tSl, tPart, tNoPart, rSlL, tDrop, tBM, tBM0, rAppend, rPop, tAndV, tOrV, tNotV, tAnd, tOr, tNot, tB, rEq, rNe, scal_int, gTup, gCons, gNil, gUnl, gSub, rSetL, tRevL, tAug, ipI, rIxL, rIxT, rCat, rRep, TruV, iList, iRng1, iRng2, iRng3, iEnum, tFor, tYes, List.append_nil, List.cons_append, List.nil_append, List.getElem?_cons_zero, List.getElem?_cons_succ, List.set_cons_zero, List.set_cons_succ, Option.some.injEq, exists_eq_left', exists_eq_left, exists_and_left, V.int.injEq, V.bl.injEq, V.ref.injEq, List.cons.injEq, and_true, true_and, and_assoc, decide_eq_true_eq, Bool.not_eq_true', if_true, if_false, Bool.false_eq_true, ite_true, ite_false, Bool.true_eq_false, reduceCtorEq, false_and, and_false, exists_false, false_or, or_false, gUnl, tCallN, rMax, tBreak, cxK, spLL, spCoef]
    have em : ∀ x y : Nat, (if (y : Int) > x then (y : Int) else x) = ((max x y : Nat) : Int) := fun x y => by split <;> omega
    refine ⟨_, .inl ha, _, .inl hb, ?_⟩
    rw [List.length_map, List.length_map, em]
    refine ⟨by omega, by omega, fun D hD => lcr (fun i H' => PvM H D (fun i => V.int (cI ns i + cI ms i)) i H') (PvM.start hD) (fun i H' hi p => ?_) (fun H' p => ?_)⟩
    · exact ⟨ns, i, by rw [Int.zero_add], ha.at p.same, ms, i, by rw [Int.zero_add], hb.at p.same, p.next hD (Same.refl _) rfl (lt_size (by omega))⟩
    · rw [Int.toNat_natCast] at p
      refine ⟨(List.range (max ns.length ms.length)).map fun k => cI ns k + cI ms k, .new ?_, ?_, fun H2 r s2 n2 e2 => hq H2 r (p.same.trans s2) (p.same.free n2) e2⟩
      · rw [p.d]; unfold iL; rw [map_rangeV]
      · rw [List.length_map, List.length_range]; omega
def spScale (K : PySem.W.Frag) : Sp := fun vs H Q _ => ∃ (a : Addr) (ns : List Int) (f : Int), vs = [.ref a, .int f] ∧ IsL K H a ns ∧ ns.length ≤ 1000 ∧ (∃ j k, PB ns j ∧ f.natAbs < 2 ^ k ∧ j + k ≤ 134217728) ∧ NewO H Q (iL (scaleI ns f))
theorem ok_scale (T : Tx P K mg base A D) : FnOk P w K mg base CX0 41 (A 8) (D 8) ["a", "factor"] (spScale K) := by
  refine T.f_scale.ok sc_scale (fun vs H Q E h => ?_) (fun cdv Ar outer s H vs Q E hr h => ?_)
  · obtain ⟨a, ns, f, rfl, _⟩ := h
    rfl
  · obtain ⟨a, ns, f, rfl, ha, hl, ⟨j, k, hj, hk, hjk⟩, hq⟩ := h
    refine ⟨_, PSs.nox (pss_one (ps_ret (pe_call (ok_trimmed T) (hr.mono (by decide)) (by rfl) T.g_trimmed T.f_trimmed.kp (b_trimmed T) .nil pass0 (pa_cons (pe_lc (own := [("coefficient", 2)]) (g := gName 2) rfl sc_scale.nd (pi_list (pv 0)) (blkOk_by (own := [("coefficient", 2)]) (N := ["a", "factor", "coefficient"]) (sc := defScope (stm 12)) (by decide +kernel)) (fun _ _ _ _ _ => (pg_name (i := 2) sc_scale.nd rfl (.inl rfl))) (fun _ _ _ _ _ => pts_nil) (fun _ _ _ _ _ => (pe_op op_mulX (pv 2) (pv 1)))) pa_nil)))), ?_⟩
    rw [show start ["a", "factor", "coefficient"] [V.ref a, V.int f] = [some (V.ref a), some (V.int f), none] from rfl]
    simp (maxSteps := 2000000) only [NewO, tLc, wipe, List.map_cons, List.map_nil, tSeq, tIfS, tTest, tOp, tVar, tC, rI0, tPar, tUn, rU, tCons, tNil, tAsg, gName, tCB, tRet, tTup, tLst, rI, rGcd, tNext, tCall, tCallN, tIf, tSl, tPart, tNoPart, rSlL, tDrop, tBM, tBM0, rAppend, rPop, tAndV, tOrV, tNotV, tAnd, tOr, tNot, tB, rEq, rNe, scal_int, gTup, gCons, gNil, gUnl, gSub, rSetL, tRevL, tAug, ipI, rIxL, rIxT, rCat, rRep, TruV, iList, iRng1, iRng2, iRng3, iEnum, tFor, tYes, List.append_nil, List.cons_append, List.nil_append, List.getElem?_cons_zero, List.getElem?_cons_succ, List.set_cons_zero, List.set_cons_succ, Option.some.injEq, exists_eq_left', exists_eq_left, exists_and_left, V.int.injEq, V.bl.injEq, V.ref.injEq, List.cons.injEq, and_true, true_and, and_assoc, decide_eq_true_eq, Bool.not_eq_true', if_true, if_false, Bool.false_eq_true, ite_true, ite_false, Bool.true_eq_false, reduceCtorEq, false_and, and_false, exists_false, false_or, or_false, gUnl, tCallN, rMax, tBreak, cxK, spLL]
    refine ⟨⟨_, ha⟩, fun D hD => lcl (xs := ns.map V.int) (fun i H' => PvM H D (fun i => V.int (cI ns i * f)) i H') (PvM.start hD) (fun i H' hi p => ha.at p.same) (fun i x H' hx p => ?_) (fun H' p => ?_)⟩
    · obtain ⟨hi, rfl⟩ := get_int hx
      exact ⟨_, rfl, mul_bits (hj i) hk hjk, p.next hD (Same.refl _) rfl (lt_size (by omega))⟩
    · rw [List.length_map] at p
      refine ⟨ns.map (· * f), .new ?_, by rw [List.length_map]; exact hl, fun H2 r s2 n2 e2 => hq H2 r (p.same.trans s2) (p.same.free n2) e2⟩
      rw [p.d]; unfold iL; rw [← map_idx ns (· * f), map_rangeV]
theorem pb_neg (a : Nat) : (-1 : Int).natAbs < 2 ^ 1 := by decide
theorem ok_subtract (T : Tx P K mg base A D) : FnOk P w K mg base CX0 42 (A 9) (D 9) ["a", "b"] (spLL2 K (fun _ ms => ∃ k, PB ms k ∧ k < 134217728) subI) := by
  refine T.f_subtract.ok sc_subtract (fun vs H Q E h => ?_) (fun cdv Ar outer s H vs Q E hr h => ?_)
  · obtain ⟨a, b, ns, ms, rfl, _⟩ := h
    rfl
  · obtain ⟨a, b, ns, ms, rfl, ha, hb, hl, hm, ⟨k, hk, hk2⟩, hq⟩ := h
    refine ⟨_, PSs.nox (pss_one (ps_ret (pe_call (ok_add T) (hr.mono (by decide)) (by rfl) T.g_add T.f_add.kp (b_add T) .nil pass0 (pa_cons (pv 0) (pa_cons (pe_call (ok_scale T) (hr.mono (by decide)) (by rfl) T.g_scale T.f_scale.kp (b_scale T) .nil pass0 (pa_cons (pv 1) (pa_cons (pe_un un_neg pe_int) pa_nil))) pa_nil))))), ?_⟩
    rw [show start ["a", "b"] [V.ref a, V.ref b] = [some (V.ref a), some (V.ref b)] from rfl]
    simp (maxSteps := 2000000) only [NewO, tLc, wipe, List.map_cons, List.map_nil, tSeq, tIfS, tTest, tOp, tVar, tC, rI0, tPar, tUn, rU, tCons, tNil, tAsg, gName, tCB, tRet, tTup, tLst, rI, rGcd, tNext, tCall, tCallN, tIf, tSl, tPart, tNoPart, rSlL, tDrop, tBM, tBM0, rAppend, rPop, tAndV, tOrV, tNotV, tAnd, tOr, tNot, tB, rEq, rNe, scal_int, gTup, gCons, gNil, gUnl, gSub, rSetL, tRevL, tAug, ipI, rIxL, rIxT, rCat, rRep, TruV, iList, iRng1, iRng2, iRng3, iEnum, tFor, tYes, List.append_nil, List.cons_append, List.nil_append, List.getElem?_cons_zero, List.getElem?_cons_succ, List.set_cons_zero, List.set_cons_succ, Option.some.injEq, exists_eq_left', exists_eq_left, exists_and_left, V.int.injEq, V.bl.injEq, V.ref.injEq, List.cons.injEq, and_true, true_and, and_assoc, decide_eq_true_eq, Bool.not_eq_true', if_true, if_false, Bool.false_eq_true, ite_true, ite_false, Bool.true_eq_false, reduceCtorEq, false_and, and_false, exists_false, false_or, or_false, gUnl, tCallN, rMax, tBreak, cxK, spLL2, spScale]
    refine ⟨ms, hb, hm, ⟨k, hk, 1, by decide, by omega⟩, fun H1 r s1 n1 e1 => ⟨ns, ha.at s1, scaleI ms (-1), .new e1, hl, Nat.le_trans (trim_len _) (by rw [List.length_map]; exact hm), fun H2 u s2 n2 e2 => hq H2 u (s1.trans s2) (s1.free n2) e2⟩⟩
theorem ok_derivative (T : Tx P K mg base A D) : FnOk P w K mg base CX0 40 (A 10) (D 10) ["a"] (spLL K (fun ns => ∃ k, PB ns k ∧ k + 10 ≤ 134217728) derI) := by
  refine T.f_derivative.ok sc_derivative (fun vs H Q E h => ?_) (fun cdv Ar outer s H vs Q E hr h => ?_)
  · obtain ⟨a, ns, rfl, _⟩ := h
    rfl
  · obtain ⟨a, ns, rfl, ha, hl, ⟨k, hk, hk2⟩, hq⟩ := h
    refine ⟨_, PSs.nox (pss_one (ps_ret (pe_lc (own := [("power", 1)]) (g := gName 1) rfl sc_derivative.nd (pi_range2 rfl T.z_range (pa_cons pe_int (pa_cons (pe_callB call_len_seq (by rfl) T.z_len (by decide +kernel) (pa_cons (pv 0) pa_nil)) pa_nil))) (blkOk_by (own := [("power", 1)]) (N := ["a", "power"]) (sc := defScope (stm 14)) (by decide +kernel)) (fun _ _ _ _ _ => (pg_name (i := 1) sc_derivative.nd rfl (.inl rfl))) (fun _ _ _ _ _ => pts_nil) (fun _ _ _ _ _ => (pe_op op_mulX (pe_ix (ixL K) (pv 0) (pv 1) (fun _ _ => rfl)) (pv 1)))))), ?_⟩
    rw [show start ["a", "power"] [V.ref a] = [some (V.ref a), none] from rfl]
    simp (maxSteps := 2000000) only [NewO, tLc, wipe, List.map_cons, List.map_nil, tSeq, tIfS, tTest, tOp, tVar, tC, rI0, tPar, tUn, rU, tCons, tNil, tAsg, gName, tCB, tRet, tTup, tLst, rI, rGcd, tNext, tCall, tCallN, tIf, tSl, tPart, tNoPart, rSlL, tDrop, tBM, tBM0, rAppend, rPop, tAndV, tOrV, tNotV, tAnd, tOr, tNot, tB, rEq, rNe, scal_int, gTup, gCons, gNil, gUnl, gSub, rSetL, tRevL, tAug, ipI, rIxL, rIxT, rCat, rRep, TruV, iList, iRng1, iRng2, iRng3, iEnum, tFor, tYes, List.append_nil, List.cons_append, List.nil_append, List.getElem?_cons_zero, List.getElem?_cons_succ, List.set_cons_zero, List.set_cons_succ, Option.some.injEq, exists_eq_left', exists_eq_left, exists_and_left, V.int.injEq, V.bl.injEq, V.ref.injEq, List.cons.injEq, and_true, true_and, and_assoc, decide_eq_true_eq, Bool.not_eq_true', if_true, if_false, Bool.false_eq_true, ite_true, ite_false, Bool.true_eq_false, reduceCtorEq, false_and, and_false, exists_false, false_or, or_false, gUnl, tCallN, rMax, tBreak, cxK]
    refine ⟨_, .inl ha, by omega, by omega, by omega, by rw [List.length_map]; omega, fun D hD => lcr (fun i H' => PvM H D (fun i => V.int (cI ns (i + 1) * ((i + 1 : Nat) : Int))) i H') (PvM.start hD) (fun i H' hi p => ?_) (fun H' p => ?_)⟩
    · rw [List.length_map] at hi
      have e : (1 : Int) + (i : Int) = ((i + 1 : Nat) : Int) := by omega
      refine ⟨_, _, rfl, ha.at p.same, _, ix_int (i := i + 1) e (by omega), _, rfl, _, rfl, ?_, p.next hD (Same.refl _) (by rw [e]) (lt_size (by omega))⟩
      refine mul_bits (hk (i + 1)) (b := 10) ?_ hk2
      omega
    · rw [List.length_map, show ((ns.length : Int) - 1).toNat = ns.length - 1 by omega] at p
      refine hq H' D p.same hD ?_
      rw [p.d]; unfold iL derI; rw [map_rangeV]
theorem ok_content (T : Tx P K mg base A D) : FnOk P w K mg base CX0 40 (A 12) (D 12) ["a"] (fun vs H Q _ => ∃ (a : Addr) (ns : List Int), vs = [.ref a] ∧ IsL K H a ns ∧ Q (.int (contentI ns)) H) := by
  refine T.f_content.ok sc_content (fun vs H Q E h => ?_) (fun cdv Ar outer s H vs Q E hr h => ?_)
  · obtain ⟨a, ns, rfl, _⟩ := h
    rfl
  · obtain ⟨a, ns, rfl, ha, hq⟩ := h
    refine ⟨_, PSs.nox (pss_cons (ps_set (i := 1) sc_content.nd rfl (.inl rfl) pe_int) (pss_cons (ps_for PassesOwn.never rfl (pi_list (pv 0)) (pg_name (i := 2) sc_content.nd rfl (.inl rfl)) (pss_one (ps_set (i := 1) sc_content.nd rfl (.inl rfl) (pe_callBfun cr_gcd (by rfl) T.gcd (pa_cons (pv 1) (pa_cons (pv 2) pa_nil)))))) (pss_one (ps_ret (pv 1))))), ?_⟩
    rw [show start ["a", "found", "coefficient"] [V.ref a] = [some (V.ref a), none, none] from rfl]
    simp (maxSteps := 2000000) only [NewO, tLc, wipe, List.map_cons, List.map_nil, tSeq, tIfS, tTest, tOp, tVar, tC, rI0, tPar, tUn, rU, tCons, tNil, tAsg, gName, tCB, tRet, tTup, tLst, rI, rGcd, tNext, tCall, tCallN, tIf, tSl, tPart, tNoPart, rSlL, tDrop, tBM, tBM0, rAppend, rPop, tAndV, tOrV, tNotV, tAnd, tOr, tNot, tB, rEq, rNe, scal_int, gTup, gCons, gNil, gUnl, gSub, rSetL, tRevL, tAug, ipI, rIxL, rIxT, rCat, rRep, TruV, iList, iRng1, iRng2, iRng3, iEnum, tFor, tYes, List.append_nil, List.cons_append, List.nil_append, List.getElem?_cons_zero, List.getElem?_cons_succ, List.set_cons_zero, List.set_cons_succ, Option.some.injEq, exists_eq_left', exists_eq_left, exists_and_left, V.int.injEq, V.bl.injEq, V.ref.injEq, List.cons.injEq, and_true, true_and, and_assoc, decide_eq_true_eq, Bool.not_eq_true', if_true, if_false, Bool.false_eq_true, ite_true, ite_false, Bool.true_eq_false, reduceCtorEq, false_and, and_false, exists_false, false_or, or_false, gUnl, tCallN, rMax, tBreak, cxK]
    refine ⟨⟨_, ha⟩, frl (xs := ns.map V.int) (fun i σ H' => H' = H ∧ ∃ x, σ = [some (.ref a), some (.int (contentI (ns.take i))), x]) ⟨rfl, none, rfl⟩ (fun i σ H' hi p => by rw [p.1]; exact ha) (fun i x σ H' hx p => ?_) (fun σ H' p => ?_)⟩
    · obtain ⟨hi, rfl⟩ := get_int hx
      obtain ⟨rfl, y, rfl⟩ := p
      simp (maxSteps := 2000000) only [NewO, tLc, wipe, List.map_cons, List.map_nil, tSeq, tIfS, tTest, tOp, tVar, tC, rI0, tPar, tUn, rU, tCons, tNil, tAsg, gName, tCB, tRet, tTup, tLst, rI, rGcd, tNext, tCall, tCallN, tIf, tSl, tPart, tNoPart, rSlL, tDrop, tBM, tBM0, rAppend, rPop, tAndV, tOrV, tNotV, tAnd, tOr, tNot, tB, rEq, rNe, scal_int, gTup, gCons, gNil, gUnl, gSub, rSetL, tRevL, tAug, ipI, rIxL, rIxT, rCat, rRep, TruV, iList, iRng1, iRng2, iRng3, iEnum, tFor, tYes, List.append_nil, List.cons_append, List.nil_append, List.getElem?_cons_zero, List.getElem?_cons_succ, List.set_cons_zero, List.set_cons_succ, Option.some.injEq, exists_eq_left', exists_eq_left, exists_and_left, V.int.injEq, V.bl.injEq, V.ref.injEq, List.cons.injEq, and_true, true_and, and_assoc, decide_eq_true_eq, Bool.not_eq_true', if_true, if_false, Bool.false_eq_true, ite_true, ite_false, Bool.true_eq_false, reduceCtorEq, false_and, and_false, exists_false, false_or, or_false, gUnl, tCallN, rMax, tBreak]
      exact ⟨(content_take hi).symm, _, rfl⟩
    · obtain ⟨rfl, y, rfl⟩ := p
      simp (maxSteps := 2000000) only [NewO, tLc, wipe, List.map_cons, List.map_nil, tSeq, tIfS, tTest, tOp, tVar, tC, rI0, tPar, tUn, rU, tCons, tNil, tAsg, gName, tCB, tRet, tTup, tLst, rI, rGcd, tNext, tCall, tCallN, tIf, tSl, tPart, tNoPart, rSlL, tDrop, tBM, tBM0, rAppend, rPop, tAndV, tOrV, tNotV, tAnd, tOr, tNot, tB, rEq, rNe, scal_int, gTup, gCons, gNil, gUnl, gSub, rSetL, tRevL, tAug, ipI, rIxL, rIxT, rCat, rRep, TruV, iList, iRng1, iRng2, iRng3, iEnum, tFor, tYes, List.append_nil, List.cons_append, List.nil_append, List.getElem?_cons_zero, List.getElem?_cons_succ, List.set_cons_zero, List.set_cons_succ, Option.some.injEq, exists_eq_left', exists_eq_left, exists_and_left, V.int.injEq, V.bl.injEq, V.ref.injEq, List.cons.injEq, and_true, true_and, and_assoc, decide_eq_true_eq, Bool.not_eq_true', if_true, if_false, Bool.false_eq_true, ite_true, ite_false, Bool.true_eq_false, reduceCtorEq, false_and, and_false, exists_false, false_or, or_false, gUnl, tCallN, rMax, tBreak]
      rw [List.take_of_length_le (by rw [List.length_map]; exact Nat.le_refl _)]
      exact hq
theorem ok_plain (T : Tx P K mg base A D) : FnOk P w K mg base CX0 41 (A 13) (D 13) ["a"] (spLL K TrI plainI) := by
  refine T.f_plain.ok sc_plain (fun vs H Q E h => ?_) (fun cdv Ar outer s H vs Q E hr h => ?_)
  · obtain ⟨a, ns, rfl, _⟩ := h
    rfl
  · obtain ⟨a, ns, rfl, ha, hl, ht, hq⟩ := h
    refine ⟨_, PSs.nox (pss_cons (ps_if (pt_not (pt_truth (pv 0) (by intro _; rfl))) (pss_one (ps_ret (pe_lst pa_nil))) pss_nil) (pss_cons (ps_set (i := 1) sc_plain.nd rfl (.inr rfl) (pe_call (ok_content T) (hr.mono (by decide)) (by rfl) T.g_content T.f_content.kp (b_content T) .nil pass0 (pa_cons (pv 0) pa_nil))) (pss_cons (ps_if (pt_cmpR op_lt (pe_ix ix_list (pv 0) (pe_un un_neg pe_int) (fun _ _ => rfl)) pe_int (nomark _)) (pss_one (ps_set (i := 1) sc_plain.nd rfl (.inr rfl) (pe_un un_neg (pv 1)))) pss_nil) (pss_one (ps_ret (pe_lc (own := [("coefficient", 2)]) (g := gName 2) rfl sc_plain.nd (pi_list (pv 0)) (blkOk_by (own := [("coefficient", 2)]) (N := ["a", "common", "coefficient"]) (sc := defScope (stm 17)) (by decide +kernel)) (fun _ _ _ _ _ => (pg_name (i := 2) sc_plain.nd rfl (.inl rfl))) (fun _ _ _ _ _ => pts_nil) (fun _ _ _ _ _ => (pe_op (op_fdivP (py_of T.seer T.tree hr (by decide) rfl rfl rfl rfl rfl)) (pv 2) (pv 1))))))))), ?_⟩
    rw [show start ["a", "common", "coefficient"] [V.ref a] = [some (V.ref a), none, none] from rfl]
    simp (maxSteps := 2000000) only [NewO, tLc, wipe, List.map_cons, List.map_nil, tSeq, tIfS, tTest, tOp, tVar, tC, rI0, tPar, tUn, rU, tCons, tNil, tAsg, gName, tCB, tRet, tTup, tLst, rI, rGcd, tNext, tCall, tCallN, tIf, tSl, tPart, tNoPart, rSlL, tDrop, tBM, tBM0, rAppend, rPop, tAndV, tOrV, tNotV, tAnd, tOr, tNot, tB, rEq, rNe, scal_int, gTup, gCons, gNil, gUnl, gSub, rSetL, tRevL, tAug, ipI, rIxL, rIxT, rCat, rRep, TruV, iList, iRng1, iRng2, iRng3, iEnum, tFor, tYes, List.append_nil, List.cons_append, List.nil_append, List.getElem?_cons_zero, List.getElem?_cons_succ, List.set_cons_zero, List.set_cons_succ, Option.some.injEq, exists_eq_left', exists_eq_left, exists_and_left, V.int.injEq, V.bl.injEq, V.ref.injEq, List.cons.injEq, and_true, true_and, and_assoc, decide_eq_true_eq, Bool.not_eq_true', if_true, if_false, Bool.false_eq_true, ite_true, ite_false, Bool.true_eq_false, reduceCtorEq, false_and, and_false, exists_false, false_or, or_false, gUnl, tCallN, rMax, tBreak, cxK]
    have em : ns.isEmpty = decide (ns = []) := by cases ns <;> rfl
    refine ⟨!(ns.map V.int).isEmpty, .inl ⟨_, ha, rfl⟩, ite2 (fun c => ?_) (fun c => ?_)⟩
    · have hn : ns = [] := by simpa using c
      subst hn
      exact ⟨Nat.zero_le _, fun p hp => hq.to (Same.refl _) hp⟩
    · have hn : ns ≠ [] := fun z => c (by rw [z]; rfl)
      have hp := cont_pos ht hn
      have pl : plainI ns = ns.map fun c => c.fdiv (if cI ns (ns.length - 1) < 0 then - contentI ns else contentI ns) := if_neg hn
      refine ⟨ns, ha, _, ha, _, ix_last hn, _, rfl, ite2 (fun c2 => ?_) (fun c2 => ?_)⟩
      · refine ⟨⟨_, ha⟩, fun D hD => lcl (xs := ns.map V.int) (fun i H' => PvM H D (fun i => V.int ((cI ns i).fdiv (-contentI ns))) i H') (PvM.start hD) (fun i H' hi p => ha.at p.same) (fun i x H' hx p => ?_) (fun H' p => ?_)⟩
        · obtain ⟨hi, rfl⟩ := get_int hx
          exact ⟨_, rfl, by omega, p.next hD (Same.refl _) rfl (lt_size (by omega))⟩
        · rw [List.length_map] at p
          refine hq H' D p.same hD ?_
          rw [p.d, pl, if_pos c2]; unfold iL; rw [← map_idx ns (·.fdiv (-contentI ns)), map_rangeV]
      · refine ⟨⟨_, ha⟩, fun D hD => lcl (xs := ns.map V.int) (fun i H' => PvM H D (fun i => V.int ((cI ns i).fdiv (contentI ns))) i H') (PvM.start hD) (fun i H' hi p => ha.at p.same) (fun i x H' hx p => ?_) (fun H' p => ?_)⟩
        · obtain ⟨hi, rfl⟩ := get_int hx
          exact ⟨_, rfl, by omega, p.next hD (Same.refl _) rfl (lt_size (by omega))⟩
        · rw [List.length_map] at p
          refine hq H' D p.same hD ?_
          rw [p.d, pl, if_neg c2]; unfold iL; rw [← map_idx ns (·.fdiv (contentI ns)), map_rangeV]
theorem ok_shifted (T : Tx P K mg base A D) : FnOk P w K mg base CX0 40 (A 14) (D 14) ["a", "by"] (fun vs H Q _ => ∃ (a : Addr) (ns : List Int) (n : Nat), vs = [.ref a, .int n] ∧ H a = some (iL ns) ∧ ns.length ≤ 1000 ∧ n ≤ 1000 ∧ NewO H Q (iL (shiftI ns n))) := by
  refine T.f_shifted.ok sc_shifted (fun vs H Q E h => ?_) (fun cdv Ar outer s H vs Q E hr h => ?_)
  · obtain ⟨a, ns, n, rfl, _⟩ := h
    rfl
  · obtain ⟨a, ns, n, rfl, ha, hl, hn, hq⟩ := h
    refine ⟨_, PSs.nox (pss_one (ps_ret (pe_ifExp (pt_truth (pv 0) (by intro _; rfl)) (pe_op op_cat (pe_op op_rep (pe_lst (pa_cons pe_int pa_nil)) (pv 1)) (pv 0)) (pe_lst pa_nil)))), ?_⟩
    rw [show start ["a", "by"] [V.ref a, V.int n] = [some (V.ref a), some (V.int n)] from rfl]
    simp (maxSteps := 2000000) only [NewO, tLc, wipe, List.map_cons, List.map_nil, tSeq, tIfS, tTest, tOp, tVar, tC, rI0, tPar, tUn, rU, tCons, tNil, tAsg, gName, tCB, tRet, tTup, tLst, rI, rGcd, tNext, tCall, tCallN, tIf, tSl, tPart, tNoPart, rSlL, tDrop, tBM, tBM0, rAppend, rPop, tAndV, tOrV, tNotV, tAnd, tOr, tNot, tB, rEq, rNe, scal_int, gTup, gCons, gNil, gUnl, gSub, rSetL, tRevL, tAug, ipI, rIxL, rIxT, rCat, rRep, TruV, iList, iRng1, iRng2, iRng3, iEnum, tFor, tYes, List.append_nil, List.cons_append, List.nil_append, List.getElem?_cons_zero, List.getElem?_cons_succ, List.set_cons_zero, List.set_cons_succ, Option.some.injEq, exists_eq_left', exists_eq_left, exists_and_left, V.int.injEq, V.bl.injEq, V.ref.injEq, List.cons.injEq, and_true, true_and, and_assoc, decide_eq_true_eq, Bool.not_eq_true', if_true, if_false, Bool.false_eq_true, ite_true, ite_false, Bool.true_eq_false, reduceCtorEq, false_and, and_false, exists_false, false_or, or_false, gUnl, tCallN, rMax, tBreak, cxK]
    refine ⟨!(ns.map V.int).isEmpty, .inl ⟨_, SqL.of ha, rfl⟩, ite2 (fun c => ?_) (fun c => ?_)⟩
    · have hn : ns ≠ [] := fun z => by rw [z] at c; cases c
      have na := fun p (hp : H p = none) => ne_of_none ha hp
      refine ⟨by show 1 ≤ sizeLine; decide, fun p hp => ⟨_, upd_same, by omega, by omega, le_size (by show 1 * (n : Int).toNat ≤ 1000000; omega), fun r hr2 => ⟨_, upd_same, ns.map V.int, ?_, ?_, fun u hu => ?_⟩⟩⟩
      · rw [upd_ne (ne_of_none (show upd H p (HO.lst [V.int 0]) a = some (iL ns) by rw [upd_ne (na p hp)]; exact ha) hr2), upd_ne (na p hp)]; exact ha
      · exact le_size (by simp; omega)
      · have s1 : Same H (upd H p (HO.lst [V.int 0])) := same_new hp
        have s2 := s1.trans (same_new (o := HO.lst (List.replicate (n : Int).toNat [V.int 0]).flatten) hr2)
        have e : HO.lst ((List.replicate (n : Int).toNat [V.int 0]).flatten ++ ns.map V.int) = iL (shiftI ns n) := by
          unfold iL shiftI
          rw [if_neg hn, List.map_append, List.map_replicate, Int.toNat_natCast]
          congr 2
          induction n with
          | zero => rfl
          | succ n ih => simp [List.replicate_succ]
        rw [e]
        exact hq.to s2 hu
    · have hn : ns = [] := by simpa using c
      subst hn
      exact ⟨Nat.zero_le _, fun p hp => hq.to (Same.refl _) hp⟩
theorem ok_bare (T : Tx P K mg base A D) : FnOk P w K mg base CX0 41 (A 21) (D 21) ["a", "factor"] (fun vs H Q _ => ∃ (a : Addr) (ns : List Int) (f : Int), vs = [.ref a, .int f] ∧ IsL K H a ns ∧ ns.length ≤ 1000 ∧ TrI ns ∧ (f = 1 ∨ f = -1) ∧ NewO H Q (iL (bareI ns f))) := by
  refine T.f_bare.ok sc_bare (fun vs H Q E h => ?_) (fun cdv Ar outer s H vs Q E hr h => ?_)
  · obtain ⟨a, ns, f, rfl, _⟩ := h
    rfl
  · obtain ⟨a, ns, f, rfl, ha, hl, ht, hf, hq⟩ := h
    refine ⟨_, PSs.nox (pss_one (ps_ret (pe_lc (own := [("coefficient", 2)]) (g := gName 2) rfl sc_bare.nd (pi_list (pv 0)) (blkOk_by (own := [("coefficient", 2)]) (N := ["a", "factor", "coefficient"]) (sc := defScope (stm 26)) (by decide +kernel)) (fun _ _ _ _ _ => (pg_name (i := 2) sc_bare.nd rfl (.inl rfl))) (fun _ _ _ _ _ => pts_nil) (fun _ _ _ _ _ => (pe_op op_mul (pv 1) (pe_op (op_fdivP (py_of T.seer T.tree hr (by decide) rfl rfl rfl rfl rfl)) (pv 2) (pe_call (ok_content T) (hr.mono (by decide)) (by rfl) T.g_content T.f_content.kp (b_content T) .nil pass0 (pa_cons (pv 0) pa_nil)))))))), ?_⟩
    rw [show start ["a", "factor", "coefficient"] [V.ref a, V.int f] = [some (V.ref a), some (V.int f), none] from rfl]
    simp (maxSteps := 2000000) only [NewO, tLc, wipe, List.map_cons, List.map_nil, tSeq, tIfS, tTest, tOp, tVar, tC, rI0, tPar, tUn, rU, tCons, tNil, tAsg, gName, tCB, tRet, tTup, tLst, rI, rGcd, tNext, tCall, tCallN, tIf, tSl, tPart, tNoPart, rSlL, tDrop, tBM, tBM0, rAppend, rPop, tAndV, tOrV, tNotV, tAnd, tOr, tNot, tB, rEq, rNe, scal_int, gTup, gCons, gNil, gUnl, gSub, rSetL, tRevL, tAug, ipI, rIxL, rIxT, rCat, rRep, TruV, iList, iRng1, iRng2, iRng3, iEnum, tFor, tYes, List.append_nil, List.cons_append, List.nil_append, List.getElem?_cons_zero, List.getElem?_cons_succ, List.set_cons_zero, List.set_cons_succ, Option.some.injEq, exists_eq_left', exists_eq_left, exists_and_left, V.int.injEq, V.bl.injEq, V.ref.injEq, List.cons.injEq, and_true, true_and, and_assoc, decide_eq_true_eq, Bool.not_eq_true', if_true, if_false, Bool.false_eq_true, ite_true, ite_false, Bool.true_eq_false, reduceCtorEq, false_and, and_false, exists_false, false_or, or_false, gUnl, tCallN, rMax, tBreak, cxK]
    refine ⟨⟨_, ha⟩, fun D hD => lcl (xs := ns.map V.int) (fun i H' => PvM H D (fun i => V.int (f * (cI ns i).fdiv (contentI ns))) i H') (PvM.start hD) (fun i H' hi p => ha.at p.same) (fun i x H' hx p => ?_) (fun H' p => ?_)⟩
    · obtain ⟨hi, rfl⟩ := get_int hx
      have hn : ns ≠ [] := fun z => by rw [z] at hi; exact absurd hi (Nat.not_lt_zero _)
      have hp := cont_pos ht hn
      exact ⟨ns, ha.at p.same, _, rfl, by omega, .inl (by omega), p.next hD (Same.refl _) rfl (lt_size (by omega))⟩
    · rw [List.length_map] at p
      refine hq H' D p.same hD ?_
      rw [p.d]; unfold iL bareI; rw [← map_idx ns fun c => f * c.fdiv (contentI ns), map_rangeV]
end
end W23
namespace W23
open PySem PySem.Spec PyProof.Rows L2 K23
theorem R2b.rb {r : Rat} {n d j : Nat} (h : R2b r n d) (h1 : n < j) (h2 : d < j) : RB r j :=
  ⟨Nat.lt_of_le_of_lt h.1 (Nat.pow_lt_pow_right (by decide) h1), Nat.lt_of_le_of_lt h.2 (Nat.pow_lt_pow_right (by decide) h2)⟩
/-- numbers at which polynomials are asked -/
abbrev XB (x : Rat) : Prop := R2b x 4000 4000
abbrev CB : Nat := 60000000
def hv (ns : List Int) (x : Rat) (i : Nat) : Rat := evI (ns.drop (ns.length - i)) x
theorem hv_succ {ns : List Int} {x : Rat} {i : Nat} (h : i < ns.length) : hv ns x (i + 1) = hv ns x i * x + (cI ns (ns.length - 1 - i) : Rat) := by
  unfold hv
  have e : ns.drop (ns.length - (i + 1)) = cI ns (ns.length - 1 - i) :: ns.drop (ns.length - i) := by
    rw [show ns.length - (i + 1) = ns.length - 1 - i by omega, List.drop_eq_getElem_cons (by omega), cI_get (by omega), show ns.length - 1 - i + 1 = ns.length - i by omega]
  rw [e, evI_cons, Rat.mul_comm, Rat.add_comm]
theorem hv_bits {ns : List Int} {x : Rat} (hx : XB x) {kb : Nat} (hb : PB ns kb) : ∀ i, i ≤ ns.length → R2b (hv ns x i) (kb + i * 8001) (i * 4000)
  | 0, _ => by
    have : hv ns x 0 = 0 := by
      unfold hv
      rw [Nat.sub_zero, List.drop_of_length_le (Nat.le_refl _)]; rfl
    rw [this]
    exact R2b.zero.mono (Nat.zero_le _) (Nat.zero_le _)
  | i + 1, hi => by
    rw [hv_succ hi]
    have h1 := (hv_bits hx hb i (by omega)).mul hx
    have h2 := h1.add (m := kb + i * 8001 + 4000) (R2b.int (Nat.le_of_lt (hb (ns.length - 1 - i)))) (by omega) (by omega)
    exact h2.mono (by omega) (by omega)
theorem get_rev {ns : List Int} {i : Nat} {x : V} (h : (ns.map V.int).reverse[i]? = some x) : i < ns.length ∧ x = .int (cI ns (ns.length - 1 - i)) := by
  have hi : i < ns.length := by
    have := (List.getElem?_eq_some_iff.mp h).1
    simpa using this
  refine ⟨hi, ?_⟩
  rw [List.getElem?_reverse (by simpa using hi), List.length_map] at h
  exact (get_int h).2
theorem upd_lst {K : PySem.W.Frag} {H : Hp} {p a : Addr} {r : Rat} {xs ys : List V} (h : IsN K H p r) (ha : H a = some (.lst xs)) : IsN K (upd H a (.lst ys)) p r := by
  rcases h with (h | ⟨o, h⟩) | h
  · refine .inl (.inl ?_)
    rw [upd_ne (ne_of h ha (by intro z; cases z))]; exact h
  · refine .inl (.inr ⟨o, ?_⟩)
    rw [upd_ne (ne_of h ha (by intro z; cases z))]; exact h
  · exact .inr h
theorem fit2 {a b : Rat} {n d n' d' : Nat} (h : R2b a n d) (k : R2b b n' d') (e : max n d + max n' d' + 2 ≤ 134217728) : Fit2 a b :=
  ⟨max n d + 1, max n' d' + 1, R2b.rb h (by omega) (by omega), R2b.rb k (by omega) (by omega), by omega⟩
theorem NewO.to' {H H1 : Hp} {Q : VK} {o o' : HO} (h : NewO H Q o) (s : Same H H1) {p : Addr} (hp : H1 p = none) (e : o' = o) : Q (.ref p) (upd H1 p o') := by
  rw [e]; exact h.to s hp
theorem shift_len (a : List Int) (n : Nat) : (shiftI a n).length ≤ n + a.length := by
  unfold shiftI
  split
  · exact Nat.zero_le _
  · rw [List.length_append, List.length_replicate]; exact Nat.le_refl _
section
variable {P : Program} {w : World} {K : PySem.W.Frag} {mg : Str → Option Value} {base : Heap} {A : Nat → Addr} {D : Nat → FuncData}
def spVal (K : PySem.W.Frag) : Sp := fun vs H Q _ => ∃ (a b : Addr) (ns : List Int) (x : Rat), vs = [.ref a, .ref b] ∧ IsL K H a ns ∧ IsN K H b x ∧ ns.length ≤ 100 ∧ PB ns CB ∧ XB x ∧ (∀ H' p, Same H H' → IsN K H' p (evI ns x) → Q (.ref p) H')
theorem ok_value_at (T : Tx P K mg base A D) : FnOk P w K mg base CX0 42 (A 11) (D 11) ["a", "x"] (spVal K) := by
  refine T.f_value_at.ok sc_value_at (fun vs H Q E h => ?_) (fun cdv Ar outer s H vs Q E hr h => ?_)
  · obtain ⟨a, b, ns, x, rfl, _⟩ := h
    rfl
  · obtain ⟨a, b, ns, x, rfl, ha, hx, hl, hb, hxb, hq⟩ := h
    refine ⟨_, PSs.nox (pss_cons (ps_set (i := 2) sc_value_at.nd rfl (.inl rfl) (pe_glob (v := .ref _) rfl T.nought.choose_spec.1 rfl)) (pss_cons (ps_for PassesOwn.never rfl (pi_list (pe_revL (pv 0))) (pg_name (i := 3) sc_value_at.nd rfl (.inl rfl)) (pss_one (ps_set (i := 2) sc_value_at.nd rfl (.inl rfl) (pe_call (ok_plus T) (hr.mono (by decide)) (by rfl) T.g_plus T.f_plus.kp (b_plus T) .nil pass0 (pa_cons (pe_call (ok_times T) (hr.mono (by decide)) (by rfl) T.g_times T.f_times.kp (b_times T) .nil pass0 (pa_cons (pv 2) (pa_cons (pv 1) pa_nil))) (pa_cons (pe_tup (pa_cons (pv 3) (pa_cons pe_int pa_nil))) pa_nil)))))) (pss_one (ps_ret (pv 2))))), ?_⟩
    rw [show start ["a", "x", "found", "coefficient"] [V.ref a, V.ref b] = [some (V.ref a), some (V.ref b), none, none] from rfl]
    simp (maxSteps := 2000000) only [NewO, tLc, wipe, List.map_cons, List.map_nil, tSeq, tIfS, tTest, tOp, tVar, tC, rI0, tPar, tUn, rU, tCons, tNil, tAsg, gName, tCB, tRet, tTup, tLst, rI, rGcd, tNext, tCall, tCallN, tIf, tSl, tPart, tNoPart, rSlL, tDrop, tBM, tBM0, rAppend, rPop, tAndV, tOrV, tNotV, tAnd, tOr, tNot, tB, rEq, rNe, scal_int, gTup, gCons, gNil, gUnl, gSub, rSetL, tRevL, tAug, ipI, rIxL, rIxT, rCat, rRep, TruV, iList, iRng1, iRng2, iRng3, iEnum, tFor, tYes, List.append_nil, List.cons_append, List.nil_append, List.getElem?_cons_zero, List.getElem?_cons_succ, List.set_cons_zero, List.set_cons_succ, Option.some.injEq, exists_eq_left', exists_eq_left, exists_and_left, V.int.injEq, V.bl.injEq, V.ref.injEq, List.cons.injEq, and_true, true_and, and_assoc, decide_eq_true_eq, Bool.not_eq_true', if_true, if_false, Bool.false_eq_true, ite_true, ite_false, Bool.true_eq_false, reduceCtorEq, false_and, and_false, exists_false, false_or, or_false, gUnl, tCallN, rMax, tBreak, cxK, spBin]
    refine ⟨_, ha, fun R hR => ⟨⟨_, SqL.of upd_same⟩, frl (xs := (ns.map V.int).reverse) (fun i σ H' => ∃ p y, σ = [some (.ref a), some (.ref b), some (.ref p), y] ∧ Same (upd H R (.lst (ns.map V.int).reverse)) H' ∧ IsN K H' p (hv ns x i)) ?_ (fun i σ H' hi p => ?_) (fun i y σ H' hy p => ?_) (fun σ H' p => ?_)⟩⟩
    · refine ⟨_, none, rfl, Same.refl _, ?_⟩
      have h0 : hv ns x 0 = 0 := by
        unfold hv
        rw [Nat.sub_zero, List.drop_of_length_le (Nat.le_refl _)]; rfl
      rw [h0]
      exact T.nought.choose_spec.2 _
    · obtain ⟨p, y, rfl, s, hp⟩ := p
      exact SqL.of (s _ _ upd_same)
    · obtain ⟨hi, rfl⟩ := get_rev hy
      obtain ⟨p, y, rfl, s, hp⟩ := p
      simp (maxSteps := 2000000) only [NewO, tLc, wipe, List.map_cons, List.map_nil, tSeq, tIfS, tTest, tOp, tVar, tC, rI0, tPar, tUn, rU, tCons, tNil, tAsg, gName, tCB, tRet, tTup, tLst, rI, rGcd, tNext, tCall, tCallN, tIf, tSl, tPart, tNoPart, rSlL, tDrop, tBM, tBM0, rAppend, rPop, tAndV, tOrV, tNotV, tAnd, tOr, tNot, tB, rEq, rNe, scal_int, gTup, gCons, gNil, gUnl, gSub, rSetL, tRevL, tAug, ipI, rIxL, rIxT, rCat, rRep, TruV, iList, iRng1, iRng2, iRng3, iEnum, tFor, tYes, List.append_nil, List.cons_append, List.nil_append, List.getElem?_cons_zero, List.getElem?_cons_succ, List.set_cons_zero, List.set_cons_succ, Option.some.injEq, exists_eq_left', exists_eq_left, exists_and_left, V.int.injEq, V.bl.injEq, V.ref.injEq, List.cons.injEq, and_true, true_and, and_assoc, decide_eq_true_eq, Bool.not_eq_true', if_true, if_false, Bool.false_eq_true, ite_true, ite_false, Bool.true_eq_false, reduceCtorEq, false_and, and_false, exists_false, false_or, or_false, gUnl, tCallN, rMax, tBreak]
      have bt := hv_bits hxb hb i (by omega)
      have bm := bt.mul hxb
      have bc : R2b (cI ns (ns.length - 1 - i) : Rat) CB 0 := R2b.int (Nat.le_of_lt (hb _))
      refine ⟨_, hp, _, hx.at ((same_new hR).trans s), fit2 bt hxb (by show max (60000000 + i * 8001) (i * 4000) + max 4000 4000 + 2 ≤ _; omega), fun H2 u s2 n2 e2 => ⟨le2, fun v hv2 => ⟨_, (IsN.new e2).at (same_new hv2), _, IsN.new (r := (cI ns (ns.length - 1 - i) : Rat)) upd_same, fit2 bm bc (by show max (60000000 + i * 8001 + 4000) (i * 4000 + 4000) + max 60000000 0 + 2 ≤ _; omega), fun H3 z s3 n3 e3 => ⟨s.trans (s2.trans ((same_new hv2).trans s3)), ?_⟩⟩⟩⟩
      rw [hv_succ hi]
      exact .new e3
    · obtain ⟨p, y, rfl, s, hp⟩ := p
      simp (maxSteps := 2000000) only [NewO, tLc, wipe, List.map_cons, List.map_nil, tSeq, tIfS, tTest, tOp, tVar, tC, rI0, tPar, tUn, rU, tCons, tNil, tAsg, gName, tCB, tRet, tTup, tLst, rI, rGcd, tNext, tCall, tCallN, tIf, tSl, tPart, tNoPart, rSlL, tDrop, tBM, tBM0, rAppend, rPop, tAndV, tOrV, tNotV, tAnd, tOr, tNot, tB, rEq, rNe, scal_int, gTup, gCons, gNil, gUnl, gSub, rSetL, tRevL, tAug, ipI, rIxL, rIxT, rCat, rRep, TruV, iList, iRng1, iRng2, iRng3, iEnum, tFor, tYes, List.append_nil, List.cons_append, List.nil_append, List.getElem?_cons_zero, List.getElem?_cons_succ, List.set_cons_zero, List.set_cons_succ, Option.some.injEq, exists_eq_left', exists_eq_left, exists_and_left, V.int.injEq, V.bl.injEq, V.ref.injEq, List.cons.injEq, and_true, true_and, and_assoc, decide_eq_true_eq, Bool.not_eq_true', if_true, if_false, Bool.false_eq_true, ite_true, ite_false, Bool.true_eq_false, reduceCtorEq, false_and, and_false, exists_false, false_or, or_false, gUnl, tCallN, rMax, tBreak]
      refine hq H' p ((same_new hR).trans s) ?_
      have e : hv ns x (List.map V.int ns).reverse.length = evI ns x := by
        unfold hv
        rw [List.length_reverse, List.length_map, Nat.sub_self, List.drop_zero]
      rw [e] at hp
      exact hp
theorem ok_sign_of (T : Tx P K mg base A D) : FnOk P w K mg base CX0 40 (A 19) (D 19) ["whole"] (fun vs H Q _ => ∃ n : Int, vs = [.int n] ∧ Q (.int (sI n)) H) := by
  refine T.f_sign_of.ok sc_sign_of (fun vs H Q E h => ?_) (fun cdv Ar outer s H vs Q E hr h => ?_)
  · obtain ⟨n, rfl, _⟩ := h
    rfl
  · obtain ⟨n, rfl, hq⟩ := h
    refine ⟨_, PSs.nox (pss_one (ps_ret (pe_op op_sub (pe_callTy call_int1 (by rfl) T.z_int (by decide +kernel) (pa_cons (pe_cmpR op_gt (pv 0) pe_int (nomark _)) pa_nil)) (pe_callTy call_int1 (by rfl) T.z_int (by decide +kernel) (pa_cons (pe_cmpR op_lt (pv 0) pe_int (nomark _)) pa_nil))))), ?_⟩
    rw [show start ["whole"] [V.int n] = [some (V.int n)] from rfl]
    simp (maxSteps := 2000000) only [NewO, tLc, wipe, List.map_cons, List.map_nil, tSeq, tIfS, tTest, tOp, tVar, tC, rI0, tPar, tUn, rU, tCons, tNil, tAsg, gName, tCB, tRet, tTup, tLst, rI, rGcd, tNext, tCall, tCallN, tIf, tSl, tPart, tNoPart, rSlL, tDrop, tBM, tBM0, rAppend, rPop, tAndV, tOrV, tNotV, tAnd, tOr, tNot, tB, rEq, rNe, scal_int, gTup, gCons, gNil, gUnl, gSub, rSetL, tRevL, tAug, ipI, rIxL, rIxT, rCat, rRep, TruV, iList, iRng1, iRng2, iRng3, iEnum, tFor, tYes, List.append_nil, List.cons_append, List.nil_append, List.getElem?_cons_zero, List.getElem?_cons_succ, List.set_cons_zero, List.set_cons_succ, Option.some.injEq, exists_eq_left', exists_eq_left, exists_and_left, V.int.injEq, V.bl.injEq, V.ref.injEq, List.cons.injEq, and_true, true_and, and_assoc, decide_eq_true_eq, Bool.not_eq_true', if_true, if_false, Bool.false_eq_true, ite_true, ite_false, Bool.true_eq_false, reduceCtorEq, false_and, and_false, exists_false, false_or, or_false, gUnl, tCallN, rMax, tBreak, cxK]
    exact hq
/-- functions that hand back an int and leave the heap but for new objects -/
def spSignAt (K : PySem.W.Frag) : Sp := fun vs H Q _ => ∃ (a b : Addr) (ns : List Int) (x : Rat), vs = [.ref a, .ref b] ∧ IsL K H a ns ∧ IsN K H b x ∧ ns.length ≤ 100 ∧ PB ns CB ∧ XB x ∧ (∀ H', Same H H' → Q (.int (sg (evI ns x))) H')
theorem ok_sign_at (T : Tx P K mg base A D) : FnOk P w K mg base CX0 43 (A 20) (D 20) ["a", "x"] (spSignAt K) := by
  refine T.f_sign_at.ok sc_sign_at (fun vs H Q E h => ?_) (fun cdv Ar outer s H vs Q E hr h => ?_)
  · obtain ⟨a, b, ns, x, rfl, _⟩ := h
    rfl
  · obtain ⟨a, b, ns, x, rfl, ha, hx, hl, hb, hxb, hq⟩ := h
    refine ⟨_, PSs.nox (pss_one (ps_ret (pe_call (ok_sign_of T) (hr.mono (by decide)) (by rfl) T.g_sign_of T.f_sign_of.kp (b_sign_of T) .nil pass0 (pa_cons (pe_ix ix_tup (pe_call (ok_value_at T) (hr.mono (by decide)) (by rfl) T.g_value_at T.f_value_at.kp (b_value_at T) .nil pass0 (pa_cons (pv 0) (pa_cons (pv 1) pa_nil))) pe_int (fun _ _ => rfl)) pa_nil)))), ?_⟩
    rw [show start ["a", "x"] [V.ref a, V.ref b] = [some (V.ref a), some (V.ref b)] from rfl]
    simp (maxSteps := 2000000) only [NewO, tLc, wipe, List.map_cons, List.map_nil, tSeq, tIfS, tTest, tOp, tVar, tC, rI0, tPar, tUn, rU, tCons, tNil, tAsg, gName, tCB, tRet, tTup, tLst, rI, rGcd, tNext, tCall, tCallN, tIf, tSl, tPart, tNoPart, rSlL, tDrop, tBM, tBM0, rAppend, rPop, tAndV, tOrV, tNotV, tAnd, tOr, tNot, tB, rEq, rNe, scal_int, gTup, gCons, gNil, gUnl, gSub, rSetL, tRevL, tAug, ipI, rIxL, rIxT, rCat, rRep, TruV, iList, iRng1, iRng2, iRng3, iEnum, tFor, tYes, List.append_nil, List.cons_append, List.nil_append, List.getElem?_cons_zero, List.getElem?_cons_succ, List.set_cons_zero, List.set_cons_succ, Option.some.injEq, exists_eq_left', exists_eq_left, exists_and_left, V.int.injEq, V.bl.injEq, V.ref.injEq, List.cons.injEq, and_true, true_and, and_assoc, decide_eq_true_eq, Bool.not_eq_true', if_true, if_false, Bool.false_eq_true, ite_true, ite_false, Bool.true_eq_false, reduceCtorEq, false_and, and_false, exists_false, false_or, or_false, gUnl, tCallN, rMax, tBreak, cxK, spVal]
    refine ⟨ns, ha, x, hx, hl, hb, hxb, fun H1 p s1 h1 => ⟨_, h1, _, rfl, _, rfl, ?_⟩⟩
    rw [← sg_num]
    exact hq H1 s1
def spFr (K : PySem.W.Frag) : Sp := fun vs H Q _ => ∃ (a b : Addr) (ns ms : List Int), vs = [.ref a, .ref b] ∧ IsL K H a ns ∧ IsL K H b ms ∧ ns.length ≤ 100 ∧ ms.length ≤ 100 ∧ ms ≠ [] ∧ (∃ ka kb, PB ns ka ∧ PB ms kb ∧ ka + (ns.length - ms.length + 1) * (kb + 1) + kb + 1 ≤ 134217000) ∧ NewO H Q (iL (frI ns ms))
theorem ok_false_rest (T : Tx P K mg base A D) : FnOk P w K mg base CX0 43 (A 15) (D 15) ["a", "b"] (spFr K) := by
  refine T.f_false_rest.ok sc_false_rest (fun vs H Q E h => ?_) (fun cdv Ar outer s H vs Q E hr h => ?_)
  · obtain ⟨a, b, ns, ms, rfl, _⟩ := h
    rfl
  · obtain ⟨a, b, ns, ms, rfl, ha, hb, hl, hm, hn, ⟨ka, kb, pa, pb, hk⟩, hq⟩ := h
    refine ⟨_, PSs.nox (pss_cons (ps_if (pt_cmpR op_lt (pe_callB call_len_seq (by rfl) T.z_len (by decide +kernel) (pa_cons (pv 0) pa_nil)) (pe_callB call_len_seq (by rfl) T.z_len (by decide +kernel) (pa_cons (pv 1) pa_nil)) (nomark _)) (pss_one (ps_ret (pe_callTy call_list_of (by rfl) T.z_list (by decide +kernel) (pa_cons (pv 0) pa_nil)))) pss_nil) (pss_cons (ps_set (i := 2) sc_false_rest.nd rfl (.inl rfl) (pe_callTy call_list_of (by rfl) T.z_list (by decide +kernel) (pa_cons (pv 0) pa_nil))) (pss_cons (ps_set (i := 3) sc_false_rest.nd rfl (.inl rfl) (pe_ix ix_list (pv 1) (pe_un un_neg pe_int) (fun _ _ => rfl))) (pss_cons (ps_for PassesOwn.never rfl (pi_range1 rfl T.z_range (pa_cons (pe_op op_add (pe_op op_sub (pe_callB call_len_seq (by rfl) T.z_len (by decide +kernel) (pa_cons (pv 0) pa_nil)) (pe_callB call_len_seq (by rfl) T.z_len (by decide +kernel) (pa_cons (pv 1) pa_nil))) pe_int) pa_nil)) (pg_name (i := 4) sc_false_rest.nd rfl (.inl rfl)) (pss_cons (ps_set (i := 5) sc_false_rest.nd rfl (.inl rfl) (pe_op op_sub (pe_op op_sub (pe_callB call_len_seq (by rfl) T.z_len (by decide +kernel) (pa_cons (pv 0) pa_nil)) (pe_callB call_len_seq (by rfl) T.z_len (by decide +kernel) (pa_cons (pv 1) pa_nil))) (pv 4))) (pss_cons (ps_set (i := 6) sc_false_rest.nd rfl (.inl rfl) (pe_call (ok_coefficient_of T) (hr.mono (by decide)) (by rfl) T.g_coefficient_of T.f_coefficient_of.kp (b_coefficient_of T) .nil pass0 (pa_cons (pv 2) (pa_cons (pe_op op_sub (pe_op op_add (pv 5) (pe_callB call_len_seq (by rfl) T.z_len (by decide +kernel) (pa_cons (pv 1) pa_nil))) pe_int) pa_nil)))) (pss_one (ps_set (i := 2) sc_false_rest.nd rfl (.inl rfl) (pe_call (ok_subtract T) (hr.mono (by decide)) (by rfl) T.g_subtract T.f_subtract.kp (b_subtract T) .nil pass0 (pa_cons (pe_call (ok_scale T) (hr.mono (by decide)) (by rfl) T.g_scale T.f_scale.kp (b_scale T) .nil pass0 (pa_cons (pv 2) (pa_cons (pv 3) pa_nil))) (pa_cons (pe_call (ok_shifted T) (hr.mono (by decide)) (by rfl) T.g_shifted T.f_shifted.kp (b_shifted T) .nil pass0 (pa_cons (pe_call (ok_scale T) (hr.mono (by decide)) (by rfl) T.g_scale T.f_scale.kp (b_scale T) .nil pass0 (pa_cons (pv 1) (pa_cons (pv 6) pa_nil))) (pa_cons (pv 5) pa_nil))) pa_nil)))))))) (pss_one (ps_ret (pv 2))))))), ?_⟩
    rw [show start ["a", "b", "rest", "lead", "step", "by", "top"] [V.ref a, V.ref b] = [some (V.ref a), some (V.ref b), none, none, none, none, none] from rfl]
    simp (maxSteps := 2000000) only [NewO, tLc, wipe, List.map_cons, List.map_nil, tSeq, tIfS, tTest, tOp, tVar, tC, rI0, tPar, tUn, rU, tCons, tNil, tAsg, gName, tCB, tRet, tTup, tLst, rI, rGcd, tNext, tCall, tCallN, tIf, tSl, tPart, tNoPart, rSlL, tDrop, tBM, tBM0, rAppend, rPop, tAndV, tOrV, tNotV, tAnd, tOr, tNot, tB, rEq, rNe, scal_int, gTup, gCons, gNil, gUnl, gSub, rSetL, tRevL, tAug, ipI, rIxL, rIxT, rCat, rRep, TruV, iList, iRng1, iRng2, iRng3, iEnum, tFor, tYes, List.append_nil, List.cons_append, List.nil_append, List.getElem?_cons_zero, List.getElem?_cons_succ, List.set_cons_zero, List.set_cons_succ, Option.some.injEq, exists_eq_left', exists_eq_left, exists_and_left, V.int.injEq, V.bl.injEq, V.ref.injEq, List.cons.injEq, and_true, true_and, and_assoc, decide_eq_true_eq, Bool.not_eq_true', if_true, if_false, Bool.false_eq_true, ite_true, ite_false, Bool.true_eq_false, reduceCtorEq, false_and, and_false, exists_false, false_or, or_false, gUnl, tCallN, rMax, tBreak, cxK, spCoef, spScale, spLL2]
    refine ⟨_, .inl ha, _, .inl hb, ite2 (fun c => ?_) (fun c => ?_)⟩
    · rw [List.length_map, List.length_map] at c
      refine ⟨_, .inl ha, fun p hp => hq.to' (Same.refl _) hp ?_⟩
      unfold frI iL
      rw [if_pos (by omega)]
    · rw [List.length_map, List.length_map] at c
      refine ⟨_, .inl ha, fun R hR => ⟨_, hb.at (same_new hR), _, ix_last hn, _, .inl (ha.at (same_new hR)), _, .inl (hb.at (same_new hR)), by simp only [List.length_map]; omega, by simp only [List.length_map]; omega, ?_⟩⟩
      rw [List.length_map, List.length_map, show ((ns.length : Int) - ms.length + 1).toNat = ns.length - ms.length + 1 by omega]
      refine frr (fun i σ H' => ∃ p y1 y2 y3, σ = [some (.ref a), some (.ref b), some (.ref p), some (.int (cI ms (ms.length - 1))), y1, y2, y3] ∧ Same H H' ∧ H p = none ∧ H' p = some (iL (frP ms (cI ms (ms.length - 1)) (ns.length - ms.length) i ns))) ⟨R, none, none, none, rfl, same_new hR, hR, upd_same⟩ (fun i σ H' hi p => ?_) (fun σ H' p => ?_)
      · obtain ⟨p, y1, y2, y3, rfl, s, pn, hp⟩ := p
        simp (maxSteps := 2000000) only [NewO, tLc, wipe, List.map_cons, List.map_nil, tSeq, tIfS, tTest, tOp, tVar, tC, rI0, tPar, tUn, rU, tCons, tNil, tAsg, gName, tCB, tRet, tTup, tLst, rI, rGcd, tNext, tCall, tCallN, tIf, tSl, tPart, tNoPart, rSlL, tDrop, tBM, tBM0, rAppend, rPop, tAndV, tOrV, tNotV, tAnd, tOr, tNot, tB, rEq, rNe, scal_int, gTup, gCons, gNil, gUnl, gSub, rSetL, tRevL, tAug, ipI, rIxL, rIxT, rCat, rRep, TruV, iList, iRng1, iRng2, iRng3, iEnum, tFor, tYes, List.append_nil, List.cons_append, List.nil_append, List.getElem?_cons_zero, List.getElem?_cons_succ, List.set_cons_zero, List.set_cons_succ, Option.some.injEq, exists_eq_left', exists_eq_left, exists_and_left, V.int.injEq, V.bl.injEq, V.ref.injEq, List.cons.injEq, and_true, true_and, and_assoc, decide_eq_true_eq, Bool.not_eq_true', if_true, if_false, Bool.false_eq_true, ite_true, ite_false, Bool.true_eq_false, reduceCtorEq, false_and, and_false, exists_false, false_or, or_false, gUnl, tCallN, rMax, tBreak]
        have hL := frP_len (a := ns) hn i (by omega) (by omega)
        have hP := PBd.frP pa pb (ns.length - ms.length) i
        have hmul : i * (kb + 1) ≤ (ns.length - ms.length) * (kb + 1) := Nat.mul_le_mul_right _ (by omega)
        have hmul2 : (ns.length - ms.length + 1) * (kb + 1) = (ns.length - ms.length) * (kb + 1) + (kb + 1) := by rw [Nat.add_mul, Nat.one_mul]
        generalize hr : frP ms (cI ms (ms.length - 1)) (ns.length - ms.length) i ns = r at hp hL hP
        have hp' : IsL K H' p r := .new hp
        have hms := List.length_pos_iff.mpr hn
        refine ⟨_, .inl (ha.at s), _, .inl (hb.at s), _, .inl (hb.at s), r, ns.length - ms.length - i + ms.length - 1, by simp only [List.length_map]; omega, hp', r, hp', by omega, ⟨_, hP, kb, pb _, by omega⟩, fun H2 u s2 n2 e2 => ⟨ms, hb.at (s.trans s2), by omega, ⟨kb, pb, _, hP _, by omega⟩, fun H3 v s3 n3 e3 => ⟨_, ns.length - ms.length - i, by simp only [List.length_map]; omega, e3, ?_, by omega, fun H4 z s4 n4 e4 => ?_⟩⟩⟩
        · exact Nat.le_trans (trim_len _) (by rw [List.length_map]; omega)
        have s5 := s.trans (s2.trans (s3.trans s4))
        refine ⟨_, .new (s4 _ _ (s3 _ _ e2)), _, .new e4, ?_, ?_, ⟨ka + i * (kb + 1) + kb, fun j => ?_, by omega⟩, fun H5 x s6 n6 e6 => ⟨s5.trans s6, s5.free n6, ?_⟩⟩
        · exact Nat.le_trans (trim_len _) (by rw [List.length_map]; omega)
        · refine Nat.le_trans (shift_len _ _) ?_
          have := trim_len (ms.map (· * cI r (ns.length - ms.length - i + ms.length - 1)))
          rw [List.length_map] at this
          unfold scaleI
          omega
        · rw [cI_shift]
          split
          · exact Nat.two_pow_pos _
          · rw [cI_scale, Int.natAbs_mul, Nat.mul_comm, Nat.pow_add]
            exact Nat.mul_lt_mul'' (hP _) (pb _)
        · rw [e6, ← hr]; rfl
      · obtain ⟨p, y1, y2, y3, rfl, s, pn, hp⟩ := p
        simp (maxSteps := 2000000) only [NewO, tLc, wipe, List.map_cons, List.map_nil, tSeq, tIfS, tTest, tOp, tVar, tC, rI0, tPar, tUn, rU, tCons, tNil, tAsg, gName, tCB, tRet, tTup, tLst, rI, rGcd, tNext, tCall, tCallN, tIf, tSl, tPart, tNoPart, rSlL, tDrop, tBM, tBM0, rAppend, rPop, tAndV, tOrV, tNotV, tAnd, tOr, tNot, tB, rEq, rNe, scal_int, gTup, gCons, gNil, gUnl, gSub, rSetL, tRevL, tAug, ipI, rIxL, rIxT, rCat, rRep, TruV, iList, iRng1, iRng2, iRng3, iEnum, tFor, tYes, List.append_nil, List.cons_append, List.nil_append, List.getElem?_cons_zero, List.getElem?_cons_succ, List.set_cons_zero, List.set_cons_succ, Option.some.injEq, exists_eq_left', exists_eq_left, exists_and_left, V.int.injEq, V.bl.injEq, V.ref.injEq, List.cons.injEq, and_true, true_and, and_assoc, decide_eq_true_eq, Bool.not_eq_true', if_true, if_false, Bool.false_eq_true, ite_true, ite_false, Bool.true_eq_false, reduceCtorEq, false_and, and_false, exists_false, false_or, or_false, gUnl, tCallN, rMax, tBreak]
        rw [← frI_frP (by omega)] at hp
        exact hq H' p s pn hp
end
end W23
namespace W23
open PySem PySem.Spec PyProof.Rows L2 K23
section
variable {P : Program} {w : World} {K : PySem.W.Frag} {mg : Str → Option Value} {base : Heap} {A : Nat → Addr} {D : Nat → FuncData}
def spCd (K : PySem.W.Frag) : Sp := fun vs H Q _ => ∃ (a b : Addr) (ns ms : List Int), vs = [.ref a, .ref b] ∧ IsL K H a ns ∧ IsL K H b ms ∧ TrI ns ∧ ns ≠ [] ∧ TrI ms ∧ CdB ns ms ∧ ∀ H' p g, Same H H' → H p = none → H' p = some (iL g) → CD ns ms g → Q (.ref p) H'
theorem ok_common_divisor (T : Tx P K mg base A D) : FnOk P w K mg base CX0 44 (A 16) (D 16) ["a", "b"] (spCd K) := by
  refine T.f_common_divisor.ok sc_common_divisor (fun vs H Q E h => ?_) (fun cdv Ar outer s H vs Q E hr h => ?_)
  · obtain ⟨a, b, ns, ms, rfl, _⟩ := h
    rfl
  · obtain ⟨a, b, ns, ms, rfl, ha, hb, ta, na, tb, hB, hq⟩ := h
    refine ⟨_, PSs.nox (pss_cons (ps_par (i := 2) (j := 3) (by rfl) sc_common_divisor.nd rfl rfl (by decide) rfl rfl (pa_cons (pe_call (ok_plain T) (hr.mono (by decide)) (by rfl) T.g_plain T.f_plain.kp (b_plain T) .nil pass0 (pa_cons (pv 0) pa_nil)) (pa_cons (pe_call (ok_plain T) (hr.mono (by decide)) (by rfl) T.g_plain T.f_plain.kp (b_plain T) .nil pass0 (pa_cons (pv 1) pa_nil)) pa_nil)) (by rfl)) (pss_cons (ps_while PassesOwn.never (pt_truth (pv 3) (by intro _; rfl)) (pss_one (ps_par (i := 2) (j := 3) (by rfl) sc_common_divisor.nd rfl rfl (by decide) rfl rfl (pa_cons (pv 3) (pa_cons (pe_call (ok_plain T) (hr.mono (by decide)) (by rfl) T.g_plain T.f_plain.kp (b_plain T) .nil pass0 (pa_cons (pe_call (ok_false_rest T) (hr.mono (by decide)) (by rfl) T.g_false_rest T.f_false_rest.kp (b_false_rest T) .nil pass0 (pa_cons (pv 2) (pa_cons (pv 3) pa_nil))) pa_nil)) pa_nil)) (by rfl)))) (pss_one (ps_ret (pv 2))))), ?_⟩
    rw [show start ["a", "b", "first", "second"] [V.ref a, V.ref b] = [some (V.ref a), some (V.ref b), none, none] from rfl]
    simp (maxSteps := 2000000) only [NewO, tLc, wipe, List.map_cons, List.map_nil, tSeq, tIfS, tTest, tOp, tVar, tC, rI0, tPar, tUn, rU, tCons, tNil, tAsg, gName, tCB, tRet, tTup, tLst, rI, rGcd, tNext, tCall, tCallN, tIf, tSl, tPart, tNoPart, rSlL, tDrop, tBM, tBM0, rAppend, rPop, tAndV, tOrV, tNotV, tAnd, tOr, tNot, tB, rEq, rNe, scal_int, gTup, gCons, gNil, gUnl, gSub, rSetL, tRevL, tAug, ipI, rIxL, rIxT, rCat, rRep, TruV, iList, iRng1, iRng2, iRng3, iEnum, tFor, tYes, List.append_nil, List.cons_append, List.nil_append, List.getElem?_cons_zero, List.getElem?_cons_succ, List.set_cons_zero, List.set_cons_succ, Option.some.injEq, exists_eq_left', exists_eq_left, exists_and_left, V.int.injEq, V.bl.injEq, V.ref.injEq, List.cons.injEq, and_true, true_and, and_assoc, decide_eq_true_eq, Bool.not_eq_true', if_true, if_false, Bool.false_eq_true, ite_true, ite_false, Bool.true_eq_false, reduceCtorEq, false_and, and_false, exists_false, false_or, or_false, gUnl, tCallN, rMax, tBreak, cxK, spLL, spFr, tWhile]
    have l := hB.lens
    refine ⟨ns, ha, by omega, ta, fun H1 p s1 n1 e1 => ⟨ms, hb.at s1, by omega, tb, fun H2 q s2 n2 e2 => ?_⟩⟩
    refine ⟨fun m σ H' => ∃ p q f s, σ = [some (.ref a), some (.ref b), some (.ref p), some (.ref q)] ∧ m = s.length ∧ Same H H' ∧ H p = none ∧ H q = none ∧ H' p = some (iL f) ∧ H' q = some (iL s) ∧ CdInv ns ms f s ∧ CdB f s, ?_, fun m σ H' hW => ?_⟩
    · exact ⟨_, p, q, _, _, rfl, rfl, s1.trans s2, n1, s1.free n2, s2 _ _ e1, e2, .start ta na tb, (hB.plain1 ta).plain tb⟩
    · obtain ⟨p, q, f, s, rfl, rfl, sm, np, nq, hp, hq', I, B⟩ := hW
      simp (maxSteps := 2000000) only [NewO, tLc, wipe, List.map_cons, List.map_nil, tSeq, tIfS, tTest, tOp, tVar, tC, rI0, tPar, tUn, rU, tCons, tNil, tAsg, gName, tCB, tRet, tTup, tLst, rI, rGcd, tNext, tCall, tCallN, tIf, tSl, tPart, tNoPart, rSlL, tDrop, tBM, tBM0, rAppend, rPop, tAndV, tOrV, tNotV, tAnd, tOr, tNot, tB, rEq, rNe, scal_int, gTup, gCons, gNil, gUnl, gSub, rSetL, tRevL, tAug, ipI, rIxL, rIxT, rCat, rRep, TruV, iList, iRng1, iRng2, iRng3, iEnum, tFor, tYes, List.append_nil, List.cons_append, List.nil_append, List.getElem?_cons_zero, List.getElem?_cons_succ, List.set_cons_zero, List.set_cons_succ, Option.some.injEq, exists_eq_left', exists_eq_left, exists_and_left, V.int.injEq, V.bl.injEq, V.ref.injEq, List.cons.injEq, and_true, true_and, and_assoc, decide_eq_true_eq, Bool.not_eq_true', if_true, if_false, Bool.false_eq_true, ite_true, ite_false, Bool.true_eq_false, reduceCtorEq, false_and, and_false, exists_false, false_or, or_false, gUnl, tCallN, rMax, tBreak]
      have B' := B.lens
      refine ⟨_, .inl ⟨_, SqL.of hq', rfl⟩, ite2 (fun c => ?_) (fun c => ?_)⟩
      · have hs : s ≠ [] := fun z => by rw [z] at c; cases c
        obtain ⟨⟨ka, kb, pa, pb, hk⟩, B2⟩ := B.step I.trF I.trS hs
        have tr := frI_spec I.trF I.trS hs
        have B3 := B2.plain tr.1
        refine ⟨_, fun _ _ h => h, f, .new hp, s, .new hq', by omega, by omega, hs, ⟨ka, pa, kb, pb, hk⟩, fun H2 u s2 n2 e2 => ⟨_, .new e2, ?_, tr.1, fun H3 v s3 n3 e3 => ?_⟩⟩
        · have := B2.lens; omega
        · have len : (plainI (frI f s)).length < s.length := by
            rw [K23.plain_len]
            by_cases c : s.length ≤ f.length
            · exact tr.2.2.1 c
            · unfold frI; rw [if_pos (by omega)]; omega
          exact ⟨_, len, q, v, rfl, _, _, rfl, sm.trans (s2.trans s3), nq, sm.free (s2.free n3), s3 _ _ (s2 _ _ hq'), e3, I.step hs, B3⟩
      · have hs : s = [] := by simpa using c
        subst hs
        exact hq H' p f sm np hp I.done
end
end W23
namespace W23
open PySem PySem.Spec PyProof.Rows L2 K23
theorem pgTupK (K : PySem.W.Frag) {X : Cx} {es : List Expr} {k : Nat} {t : TGs} {n : Nat} {pos : Pos} (hK : X.K = K) (hc : X.calm = true) (h : PGs X es t)
    (hn : (assignEach es X.env).length = n := by rfl) (hst : (assignEach es X.env).findIdx? (·.1) = none := by rfl) : PG X (.Tuple es k pos) (gTup K n t) := hK ▸ pg_tup hc h hn hst
theorem fre {K : PySem.W.Frag} {a : Addr} {xs : List V} {σ0 : L2.St} {H0 : Hp} {Fin : L2.St → Hp → Prop} {Body : (L2.St → Hp → Prop) → L2.St → V → Hp → Prop} (Pv : Nat → L2.St → Hp → Prop) (h0 : Pv 0 σ0 H0) (hl : ∀ i σ H, i ≤ xs.length → Pv i σ H → SqL K H a xs) (hs : ∀ i x σ H T, xs[i]? = some x → Pv i σ H → H T = none → Body (Pv (i + 1)) σ (.ref T) (upd H T (.tup [.int i, x]))) (hd : ∀ σ H, Pv xs.length σ H → Fin σ H) :
    ∃ W : Nat → Nat → L2.St → Hp → Prop, (∃ m, W 0 m σ0 H0) ∧ ∀ i m σ H, W i m σ H → ((Ite K a).stop i H ∧ Fin σ H) ∨ ((Ite K a).go i H ∧ ∃ N : L2.St → Hp → Prop, (∀ σ' H', N σ' H' → ∃ m', m' < m ∧ W (i + 1) m' σ' H') ∧ ∀ x H', (Ite K a).yld i H x H' → Body N σ x H') := by
  refine ⟨fun i m σ H => m = xs.length - i ∧ i ≤ xs.length ∧ Pv i σ H, ⟨xs.length, by simp, Nat.zero_le _, h0⟩, ?_⟩
  rintro i m σ H ⟨rfl, hi, p⟩
  have q := hl i σ H hi p
  by_cases hlt : i < xs.length
  · refine .inr ⟨⟨xs, xs[i], q, by simp [hlt]⟩, Pv (i + 1), fun σ' H' p' => ⟨xs.length - (i + 1), by omega, rfl, hlt, p'⟩, fun x H' y => ?_⟩
    obtain ⟨T, x', rfl, hT, rfl, hx⟩ := y
    exact hs i x' σ H T (hx xs q) p hT
  · have e : i = xs.length := by omega
    subst e
    exact .inl ⟨⟨xs, q, Nat.le_refl _⟩, hd σ H p⟩
/-- a list of numbers: the refs vs, the values r -/
structure NL (K : PySem.W.Frag) (H : Hp) (vs : List V) (n : Nat) (r : Nat → Rat) : Prop where
  len : vs.length = n
  at_ : ∀ j, j < n → ∃ p, vs[j]? = some (.ref p) ∧ IsN K H p (r j)
theorem NL.at {K : PySem.W.Frag} {H H' : Hp} {vs : List V} {n : Nat} {r : Nat → Rat} (h : NL K H vs n r) (s : Same H H') : NL K H' vs n r :=
  ⟨h.len, fun j hj => let ⟨p, a, b⟩ := h.at_ j hj; ⟨p, a, b.at s⟩⟩
theorem NL.upd {K : PySem.W.Frag} {H : Hp} {vs : List V} {n : Nat} {r : Nat → Rat} {a : Addr} {xs ys : List V} (h : NL K H vs n r) (ha : H a = some (.lst xs)) : NL K (L2.upd H a (.lst ys)) vs n r :=
  ⟨h.len, fun j hj => let ⟨p, a, b⟩ := h.at_ j hj; ⟨p, a, upd_lst b ha⟩⟩
theorem NL.snoc {K : PySem.W.Frag} {H : Hp} {vs : List V} {n : Nat} {r : Nat → Rat} {p : Addr} (h : NL K H vs n r) (hp : IsN K H p (r n)) : NL K H (vs ++ [.ref p]) (n + 1) r := by
  have l := h.len
  refine ⟨by rw [List.length_append, l]; rfl, fun j hj => ?_⟩
  by_cases c : j < n
  · obtain ⟨q, a, b⟩ := h.at_ j c
    exact ⟨q, by rw [List.getElem?_append_left (by omega)]; exact a, b⟩
  · have e : j = n := by omega
    subst e
    exact ⟨p, by rw [List.getElem?_append_right (by omega), l, Nat.sub_self]; rfl, hp⟩
theorem NL.set {K : PySem.W.Frag} {H : Hp} {vs : List V} {n : Nat} {r r' : Nat → Rat} {p : Addr} {j : Nat} (h : NL K H vs n r) (hj : j < n) (hp : IsN K H p (r' j)) (hr : ∀ i, i < n → i ≠ j → r' i = r i) : NL K H (vs.set j (.ref p)) n r' := by
  have l := h.len
  refine ⟨by rw [List.length_set, l], fun i hi => ?_⟩
  by_cases c : i = j
  · subst c
    exact ⟨p, by rw [List.getElem?_set_self (by omega)], hp⟩
  · obtain ⟨q, a, b⟩ := h.at_ i hi
    exact ⟨q, by rw [List.getElem?_set_ne (Ne.symm c)]; exact a, by rw [hr i hi c]; exact b⟩
theorem NL.nil {K : PySem.W.Frag} {H : Hp} {r : Nat → Rat} : NL K H [] 0 r := ⟨rfl, fun j hj => absurd hj (Nat.not_lt_zero _)⟩
theorem NL.congr {K : PySem.W.Frag} {H : Hp} {vs : List V} {n : Nat} {r r' : Nat → Rat} (h : NL K H vs n r) (e : ∀ j, j < n → r' j = r j) : NL K H vs n r' :=
  ⟨h.len, fun j hj => let ⟨p, a, b⟩ := h.at_ j hj; ⟨p, a, by rw [e j hj]; exact b⟩⟩
theorem NL.ix {K : PySem.W.Frag} {H : Hp} {vs : List V} {n : Nat} {r : Nat → Rat} (h : NL K H vs n r) {z : Int} {j : Nat} (e : z = j) (hj : j < n) : ∃ p, atI vs z = some (.ref p) ∧ IsN K H p (r j) := by
  obtain ⟨p, a, b⟩ := h.at_ j hj
  exact ⟨p, at_of e a, b⟩
theorem divInt_one (c : Int) : Rat.divInt c 1 = (c : Rat) := by
  rw [Rat.divInt_eq_div]
  have : ((1 : Int) : Rat) = 1 := rfl
  rw [this]
  grind
theorem ixN_nat {n : Nat} {z : Int} {j : Nat} (e : z = j) (h : j < n) : ixN n z = some j := by
  unfold ixN
  rw [if_pos (by omega), if_pos (by omega), e]; rfl
section
variable {P : Program} {w : World} {K : PySem.W.Frag} {mg : Str → Option Value} {base : Heap} {A : Nat → Addr} {D : Nat → FuncData}
def spQuot (K : PySem.W.Frag) : Sp := fun vs H Q _ => ∃ (a b : Addr) (ns ms : List Int), vs = [.ref a, .ref b] ∧ IsL K H a ns ∧ IsL K H b ms ∧ TrI ns ∧ TrI ms ∧ ms ≠ [] ∧ ms.length ≤ ns.length ∧ ns.length ≤ 15 ∧ PB ns 60 ∧ PB ms 60 ∧ (∃ w, Pol w ∧ ∀ x, evI ns x = w x * evI ms x) ∧ ∀ H' p s, Same H H' → H p = none → H' p = some (iL s) → Quo ns ms s → Q (.ref p) H'
theorem ok_quotient (T : Tx P K mg base A D) : FnOk P w K mg base CX0 42 (A 17) (D 17) ["a", "b"] (spQuot K) := by
  refine T.f_quotient.ok sc_quotient (fun vs H Q E h => ?_) (fun cdv Ar outer s H vs Q E hr h => ?_)
  · obtain ⟨a, b, ns, ms, rfl, _⟩ := h
    rfl
  · obtain ⟨a, b, ns, ms, rfl, ha, hb, ta, tb, nb, hlen, hl, pa, pb, ⟨wf, pwf, hwf⟩, hq⟩ := h
    refine ⟨_, PSs.nox (pss_cons (ps_setLc (i := 3) (own := [("coefficient", 2)]) (g := gName 2) rfl sc_quotient.nd rfl rfl (sw_true rfl rfl rfl (by decide +kernel)) (pi_list (pv 0)) (blkOk_by (own := [("coefficient", 2)]) (N := ["a", "b", "coefficient", "rest", "found", "by", "factor", "k", "measure", "top", "under"]) (sc := defScope (stm 21)) (by decide +kernel)) (fun _ _ _ _ _ => (pg_name (i := 2) sc_quotient.nd rfl (.inl rfl))) (fun _ _ _ _ _ => pts_nil) (fun _ _ _ _ _ => (pe_call (ok_number T) (hr.mono (by decide)) (by rfl) T.g_number T.f_number.kp (b_number T) .nil pass0 (pa_cons (pv 2) (pa_cons pe_int pa_nil))))) (pss_cons (ps_set (i := 4) sc_quotient.nd rfl (.inl rfl) (pe_lst pa_nil)) (pss_cons (ps_for PassesOwn.never rfl (pi_range3 rfl T.z_range (pa_cons (pe_op op_sub (pe_callB call_len_seq (by rfl) T.z_len (by decide +kernel) (pa_cons (pv 0) pa_nil)) (pe_callB call_len_seq (by rfl) T.z_len (by decide +kernel) (pa_cons (pv 1) pa_nil))) (pa_cons (pe_un un_neg pe_int) (pa_cons (pe_un un_neg pe_int) pa_nil)))) (pg_name (i := 5) sc_quotient.nd rfl (.inl rfl)) (pss_cons (ps_set (i := 6) sc_quotient.nd rfl (.inl rfl) (pe_call (ok_times T) (hr.mono (by decide)) (by rfl) T.g_times T.f_times.kp (b_times T) .nil pass0 (pa_cons (pe_ix ix_list (pv 3) (pe_op op_sub (pe_op op_add (pv 5) (pe_callB call_len_seq (by rfl) T.z_len (by decide +kernel) (pa_cons (pv 1) pa_nil))) pe_int) (fun _ _ => rfl)) (pa_cons (pe_call (ok_number T) (hr.mono (by decide)) (by rfl) T.g_number T.f_number.kp (b_number T) .nil pass0 (pa_cons pe_int (pa_cons (pe_ix ix_list (pv 1) (pe_un un_neg pe_int) (fun _ _ => rfl)) pa_nil))) pa_nil)))) (pss_cons (ps_expr (pe_bm PySem.F.plainAttrs_list PySem.F.slot_list_append PySem.F.type_list_append mt_append (pv 4) (pa_cons (pv 6) pa_nil))) (pss_one (ps_for PassesOwn.never rfl (pi_enum (by rfl) T.z_enumerate (pa_cons (pv 1) pa_nil)) (pg_tup (n := 2) (by rfl) (pgs_cons (pg_name (i := 7) sc_quotient.nd rfl (.inl rfl)) (pgs_cons (pg_name (i := 2) sc_quotient.nd rfl (.inl rfl)) pgs_nil))) (pss_one (ps_asg (pe_call (ok_plus T) (hr.mono (by decide)) (by rfl) T.g_plus T.f_plus.kp (b_plus T) .nil pass0 (pa_cons (pe_ix ix_list (pv 3) (pe_op op_add (pv 5) (pv 7)) (fun _ _ => rfl)) (pa_cons (pe_call (ok_times T) (hr.mono (by decide)) (by rfl) T.g_times T.f_times.kp (b_times T) .nil pass0 (pa_cons (pv 6) (pa_cons (pe_tup (pa_cons (pe_un un_neg (pv 2)) (pa_cons pe_int pa_nil))) pa_nil))) pa_nil))) (pg_sub (pv 3) (pe_op op_add (pv 5) (pv 7)) set_list)))))))) (pss_cons (ps_set (i := 8) sc_quotient.nd rfl (.inr rfl) pe_int) (pss_cons (ps_for PassesOwn.never rfl (pi_list (pv 4)) (pg_tup (n := 2) (by rfl) (pgs_cons (pg_name (i := 9) sc_quotient.nd rfl (.inl rfl)) (pgs_cons (pg_name (i := 10) sc_quotient.nd rfl (.inl rfl)) pgs_nil))) (pss_one (ps_set (i := 8) sc_quotient.nd rfl (.inr rfl) (pe_op (op_fdivP (py_of T.seer T.tree hr (by decide) rfl rfl rfl rfl rfl)) (pe_op op_mulX (pv 8) (pv 10)) (pe_callBfun cr_gcd (by rfl) T.gcd (pa_cons (pv 8) (pa_cons (pv 10) pa_nil))))))) (pss_one (ps_ret (pe_call (ok_plain T) (hr.mono (by decide)) (by rfl) T.g_plain T.f_plain.kp (b_plain T) .nil pass0 (pa_cons (pe_lc (own := [("top", 9), ("under", 10)]) rfl sc_quotient.nd (pi_list (pe_revL (pv 4))) (blkOk_by (own := [("top", 9), ("under", 10)]) (N := ["a", "b", "coefficient", "rest", "found", "by", "factor", "k", "measure", "top", "under"]) (sc := defScope (stm 21)) (by decide +kernel)) (fun _ _ _ _ _ => (pgTupK K (n := 2) rfl (by rfl) (pgs_cons (pg_name (i := 9) sc_quotient.nd rfl (.inl rfl)) (pgs_cons (pg_name (i := 10) sc_quotient.nd rfl (.inl rfl)) pgs_nil)))) (fun _ _ _ _ _ => pts_nil) (fun _ _ _ _ _ => (pe_op op_mulX (pv 9) (pe_op (op_fdivP (py_of T.seer T.tree hr (by decide) rfl rfl rfl rfl rfl)) (pv 8) (pv 10))))) pa_nil))))))))), ?_⟩
    rw [show start ["a", "b", "coefficient", "rest", "found", "by", "factor", "k", "measure", "top", "under"] [V.ref a, V.ref b] = [some (V.ref a), some (V.ref b), none, none, none, none, none, none, none, none, none] from rfl]
    simp (maxSteps := 2000000) only [NewO, tLc, wipe, List.map_cons, List.map_nil, tSeq, tIfS, tTest, tOp, tVar, tC, rI0, tPar, tUn, rU, tCons, tNil, tAsg, gName, tCB, tRet, tTup, tLst, rI, rGcd, tNext, tCall, tCallN, tIf, tSl, tPart, tNoPart, rSlL, tDrop, tBM, tBM0, rAppend, rPop, tAndV, tOrV, tNotV, tAnd, tOr, tNot, tB, rEq, rNe, scal_int, gTup, gCons, gNil, gUnl, gSub, rSetL, tRevL, tAug, ipI, rIxL, rIxT, rCat, rRep, TruV, iList, iRng1, iRng2, iRng3, iEnum, tFor, tYes, List.append_nil, List.cons_append, List.nil_append, List.getElem?_cons_zero, List.getElem?_cons_succ, List.set_cons_zero, List.set_cons_succ, Option.some.injEq, exists_eq_left', exists_eq_left, exists_and_left, V.int.injEq, V.bl.injEq, V.ref.injEq, List.cons.injEq, and_true, true_and, and_assoc, decide_eq_true_eq, Bool.not_eq_true', if_true, if_false, Bool.false_eq_true, ite_true, ite_false, Bool.true_eq_false, reduceCtorEq, false_and, and_false, exists_false, false_or, or_false, gUnl, tCallN, rMax, tBreak, cxK, spNumber, spBin, spLL]
    refine ⟨⟨_, ha⟩, fun R hR => lcl (xs := ns.map V.int) (fun i H' => Same H H' ∧ ∃ vs, H' R = some (.lst vs) ∧ NL K H' vs i (qR ns ms 0)) ⟨same_new hR, [], upd_same, .nil⟩ (fun i H' hi p => ha.at p.1) (fun i x H' hx p => ?_) (fun H' p => ?_)⟩
    · obtain ⟨hi, rfl⟩ := get_int hx
      obtain ⟨s, vs, hv, nl⟩ := p
      simp (maxSteps := 2000000) only [NewO, tLc, wipe, List.map_cons, List.map_nil, tSeq, tIfS, tTest, tOp, tVar, tC, rI0, tPar, tUn, rU, tCons, tNil, tAsg, gName, tCB, tRet, tTup, tLst, rI, rGcd, tNext, tCall, tCallN, tIf, tSl, tPart, tNoPart, rSlL, tDrop, tBM, tBM0, rAppend, rPop, tAndV, tOrV, tNotV, tAnd, tOr, tNot, tB, rEq, rNe, scal_int, gTup, gCons, gNil, gUnl, gSub, rSetL, tRevL, tAug, ipI, rIxL, rIxT, rCat, rRep, TruV, iList, iRng1, iRng2, iRng3, iEnum, tFor, tYes, List.append_nil, List.cons_append, List.nil_append, List.getElem?_cons_zero, List.getElem?_cons_succ, List.set_cons_zero, List.set_cons_succ, Option.some.injEq, exists_eq_left', exists_eq_left, exists_and_left, V.int.injEq, V.bl.injEq, V.ref.injEq, List.cons.injEq, and_true, true_and, and_assoc, decide_eq_true_eq, Bool.not_eq_true', if_true, if_false, Bool.false_eq_true, ite_true, ite_false, Bool.true_eq_false, reduceCtorEq, false_and, and_false, exists_false, false_or, or_false, gUnl, tCallN, rMax, tBreak]
      refine ⟨by decide, fun H2 p s2 n2 e2 => ⟨_, s2 _ _ hv, by rw [nl.len]; exact lt_size (by omega), same_updD hR (s.trans s2), _, upd_same, ((nl.at s2).snoc (.new ?_)).upd (s2 _ _ hv)⟩⟩
      rw [e2, divInt_one]; rfl
    · obtain ⟨s, vs, hv, nl⟩ := p
      rw [List.length_map] at nl
      refine ⟨Nat.zero_le _, fun F hF => ?_⟩
      have nRF : R ≠ F := ne_of_none hv hF
      have sF := s.trans (same_new (o := .lst []) hF)
      have hFn : H F = none := s.free hF
      refine ⟨_, .inl (ha.at sF), _, .inl (hb.at sF), _, RgC.neg (by simp only [List.length_map]; omega) (by simp only [List.length_map]; omega) (by decide) (by decide), ?_⟩
      rw [List.length_map, List.length_map, show ((ns.length : Int) - ms.length - -1).toNat = qM ns ms + 1 by unfold qM; omega, show (ns.length : Int) - ms.length = (qM ns ms : Int) by unfold qM; omega]
      refine frc (fun i σ H' => ∃ vs fs y2 y5 y6 y7 y8 y9 y10, σ = [some (.ref a), some (.ref b), y2, some (.ref R), some (.ref F), y5, y6, y7, y8, y9, y10] ∧ Same H H' ∧ H' R = some (.lst vs) ∧ H' F = some (.lst fs) ∧ NL K H' vs ns.length (qR ns ms i) ∧ NL K H' fs i (qf ns ms)) ⟨vs, [], none, none, none, none, none, none, none, rfl, sF, by rw [upd_ne nRF]; exact hv, upd_same, nl.at (same_new hF), .nil⟩ (fun i σ H' hi p => ?_) (fun σ H' p => ?_)
      · obtain ⟨vs, fs, y2, y5, y6, y7, y8, y9, y10, rfl, s, hR', hF', nR, nF⟩ := p
        have lead0 := tb.last nb
        simp (maxSteps := 2000000) only [NewO, tLc, wipe, List.map_cons, List.map_nil, tSeq, tIfS, tTest, tOp, tVar, tC, rI0, tPar, tUn, rU, tCons, tNil, tAsg, gName, tCB, tRet, tTup, tLst, rI, rGcd, tNext, tCall, tCallN, tIf, tSl, tPart, tNoPart, rSlL, tDrop, tBM, tBM0, rAppend, rPop, tAndV, tOrV, tNotV, tAnd, tOr, tNot, tB, rEq, rNe, scal_int, gTup, gCons, gNil, gUnl, gSub, rSetL, tRevL, tAug, ipI, rIxL, rIxT, rCat, rRep, TruV, iList, iRng1, iRng2, iRng3, iEnum, tFor, tYes, List.append_nil, List.cons_append, List.nil_append, List.getElem?_cons_zero, List.getElem?_cons_succ, List.set_cons_zero, List.set_cons_succ, Option.some.injEq, exists_eq_left', exists_eq_left, exists_and_left, V.int.injEq, V.bl.injEq, V.ref.injEq, List.cons.injEq, and_true, true_and, and_assoc, decide_eq_true_eq, Bool.not_eq_true', if_true, if_false, Bool.false_eq_true, ite_true, ite_false, Bool.true_eq_false, reduceCtorEq, false_and, and_false, exists_false, false_or, or_false, gUnl, tCallN, rMax, tBreak]
        have hms := List.length_pos_iff.mpr nb
        have hqm : qM ns ms + ms.length = ns.length := by unfold qM; omega
        obtain ⟨p, ap, hp⟩ := nR.ix (z := (qM ns ms : Int) + (i : Int) * -1 + (ms.map V.int).length - 1) (j := qM ns ms - i + ms.length - 1) (by rw [List.length_map]; omega) (by omega)
        refine ⟨_, .inl (hb.at s), _, SqL.of hR', _, ap, _, hb.at s, _, ix_last nb, _, rfl, lead0, fun H2 u s2 n2 e2 => ?_⟩
        have q15 : qM ns ms ≤ 14 := by omega
        have bR := fun j => qR_bits (a := ns) pa pb lead0 i j
        have bF := qf_bits (a := ns) pa pb lead0 i
        have bm := qB_max (ka := 60) (kb := 60) (i := i) (Nat.le_refl _) (Nat.le_refl _) (by omega)
        refine ⟨_, rfl, _, hp.at s2, _, .new e2, fit2 (bR _) (R2b.inv lead0 (Nat.le_of_lt (pb _))) (by omega), fun H3 v s3 n3 e3 => ?_⟩
        have s23 := s2.trans s3
        have hv3 : IsN K H3 v (qf ns ms i) := .new e3
        have nRv : R ≠ v := ne_of_none (s2 _ _ hR') n3
        refine ⟨.inl ⟨rfl, _, SqL.of (s23 _ _ hF')⟩, _, s23 _ _ hF', by rw [nF.len]; exact lt_size (by omega), _, hb.at (same_updD hFn (s.trans s23)), ?_⟩
        refine fre (xs := ms.map V.int) (fun k σ H' => ∃ vs' y2 y7, σ = [some (.ref a), some (.ref b), y2, some (.ref R), some (.ref F), some (.int ((qM ns ms : Int) + (i : Int) * -1)), some (.ref v), y7, y8, y9, y10] ∧ Same H H' ∧ H' R = some (.lst vs') ∧ H' F = some (.lst (fs ++ [.ref v])) ∧ NL K H' vs' ns.length (qS ms (qM ns ms - i) (qf ns ms i) (qR ns ms i) k) ∧ NL K H' (fs ++ [.ref v]) (i + 1) (qf ns ms) ∧ IsN K H' v (qf ns ms i)) ?_ (fun k σ H' hk p => ?_) (fun k x σ H' T' hx p hT => ?_) (fun σ H' p => ?_)
        · refine ⟨vs, y2, y7, rfl, same_updD hFn (s.trans s23), by rw [upd_ne nRF]; exact s23 _ _ hR', upd_same, ?_, ((nF.at s23).snoc hv3).upd (s23 _ _ hF'), upd_lst hv3 (s23 _ _ hF')⟩
          rw [qS_zero]
          exact (nR.at s23).upd (s23 _ _ hF')
        · obtain ⟨vs', y2, y7, rfl, s4, _⟩ := p
          exact hb.at s4
        · obtain ⟨hk, rfl⟩ := get_int hx
          obtain ⟨vs', y2, y7, rfl, s4, hR4, hF4, nR4, nF4, hv4⟩ := p
          simp (maxSteps := 2000000) only [NewO, tLc, wipe, List.map_cons, List.map_nil, tSeq, tIfS, tTest, tOp, tVar, tC, rI0, tPar, tUn, rU, tCons, tNil, tAsg, gName, tCB, tRet, tTup, tLst, rI, rGcd, tNext, tCall, tCallN, tIf, tSl, tPart, tNoPart, rSlL, tDrop, tBM, tBM0, rAppend, rPop, tAndV, tOrV, tNotV, tAnd, tOr, tNot, tB, rEq, rNe, scal_int, gTup, gCons, gNil, gUnl, gSub, rSetL, tRevL, tAug, ipI, rIxL, rIxT, rCat, rRep, TruV, iList, iRng1, iRng2, iRng3, iEnum, tFor, tYes, List.append_nil, List.cons_append, List.nil_append, List.getElem?_cons_zero, List.getElem?_cons_succ, List.set_cons_zero, List.set_cons_succ, Option.some.injEq, exists_eq_left', exists_eq_left, exists_and_left, V.int.injEq, V.bl.injEq, V.ref.injEq, List.cons.injEq, and_true, true_and, and_assoc, decide_eq_true_eq, Bool.not_eq_true', if_true, if_false, Bool.false_eq_true, ite_true, ite_false, Bool.true_eq_false, reduceCtorEq, false_and, and_false, exists_false, false_or, or_false, gUnl, tCallN, rMax, tBreak]
          have sT := same_new (o := .tup [.int (k : Nat), .int (cI ms k)]) hT
          obtain ⟨p, ap, hp⟩ := nR4.ix (z := (qM ns ms : Int) + (i : Int) * -1 + (k : Nat)) (j := qM ns ms - i + k) (by omega) (by omega)
          refine ⟨_, SqT.of upd_same, rfl, _, _, rfl, _, _, rfl, rfl, _, rfl, _, SqL.of (sT _ _ hR4), _, ap, _, rfl, le2, fun u5 n5 => ⟨_, hv4.at (sT.trans (same_new n5)), ((-(cI ms k) : Int) : Rat), .new upd_same, fit2 bF (R2b.negInt (pb _)) (by omega), fun H6 u6 s6 n6 e6 => ?_⟩⟩
          have s56 := sT.trans ((same_new n5).trans s6)
          have br : R2b (qS ms (qM ns ms - i) (qf ns ms i) (qR ns ms i) k (qM ns ms - i + k)) (qB 60 60 i) (qB 60 60 i) := by
            unfold qS
            rw [if_neg (by omega)]
            exact bR _
          refine ⟨_, rfl, _, hp.at s56, _, .new e6, fit2 br (bF.mul (R2b.negInt (pb _))) (by omega), fun H7 u7 s7 n7 e7 => ?_⟩
          have s67 := s56.trans s7
          refine ⟨_, rfl, _, s67 _ _ hR4, _, ixN_nat (n := vs'.length) (j := qM ns ms - i + k) (by omega) (by rw [nR4.len]; omega), ?_⟩
          refine ⟨same_updD hR (s4.trans s67), _, upd_same, ?_, ?_, (nF4.at s67).upd (s67 _ _ hR4), upd_lst (hv4.at s67) (s67 _ _ hR4)⟩
          · rw [upd_ne (Ne.symm nRF)]; exact s67 _ _ hF4
          · refine ((nR4.at s67).set (j := qM ns ms - i + k) (by omega) (.new ?_) fun j hj hne => ?_).upd (s67 _ _ hR4)
            · rw [e7, qS_succ, if_pos rfl]
            · rw [qS_succ, if_neg hne]
        · obtain ⟨vs', y2, y7, rfl, s4, hR4, hF4, nR4, nF4, hv4⟩ := p
          rw [List.length_map] at nR4
          exact ⟨vs', _, y2, _, _, y7, y8, y9, y10, rfl, s4, hR4, hF4, nR4, nF4⟩
      · rename_i H5
        obtain ⟨vs, fs, y2, y5, y6, y7, y8, y9, y10, rfl, s, hR', hF', nR, nF⟩ := p
        simp (maxSteps := 2000000) only [NewO, tLc, wipe, List.map_cons, List.map_nil, tSeq, tIfS, tTest, tOp, tVar, tC, rI0, tPar, tUn, rU, tCons, tNil, tAsg, gName, tCB, tRet, tTup, tLst, rI, rGcd, tNext, tCall, tCallN, tIf, tSl, tPart, tNoPart, rSlL, tDrop, tBM, tBM0, rAppend, rPop, tAndV, tOrV, tNotV, tAnd, tOr, tNot, tB, rEq, rNe, scal_int, gTup, gCons, gNil, gUnl, gSub, rSetL, tRevL, tAug, ipI, rIxL, rIxT, rCat, rRep, TruV, iList, iRng1, iRng2, iRng3, iEnum, tFor, tYes, List.append_nil, List.cons_append, List.nil_append, List.getElem?_cons_zero, List.getElem?_cons_succ, List.set_cons_zero, List.set_cons_succ, Option.some.injEq, exists_eq_left', exists_eq_left, exists_and_left, V.int.injEq, V.bl.injEq, V.ref.injEq, List.cons.injEq, and_true, true_and, and_assoc, decide_eq_true_eq, Bool.not_eq_true', if_true, if_false, Bool.false_eq_true, ite_true, ite_false, Bool.true_eq_false, reduceCtorEq, false_and, and_false, exists_false, false_or, or_false, gUnl, tCallN, rMax, tBreak]
        refine ⟨⟨_, SqL.of hF'⟩, frl (xs := fs) (fun i σ H6 => ∃ (m : Int) (y9 y10 : Option V), σ = [some (.ref a), some (.ref b), y2, some (.ref R), some (.ref F), y5, y6, y7, some (.int m), y9, y10] ∧ Same H' H6 ∧ 0 < m ∧ m.natAbs ≤ 2 ^ (i * 4000000) ∧ ∀ t, t < i → ((qf ns ms t).den : Int) ∣ m) ⟨1, y9, y10, rfl, Same.refl _, by decide, by simp, fun t ht => absurd ht (Nat.not_lt_zero _)⟩ (fun i σ H6 hi p => ?_) (fun i x σ H6 hx p => ?_) (fun σ H6 p => ?_)⟩
        · obtain ⟨m, y9, y10, rfl, s6, _⟩ := p
          exact SqL.of (s6 _ _ hF')
        · obtain ⟨m, y9, y10, rfl, s6, m0, mb, md⟩ := p
          have hi : i < qM ns ms + 1 := by rw [← nF.len]; exact (List.getElem?_eq_some_iff.mp hx).1
          obtain ⟨p, ep, hp⟩ := nF.at_ i hi
          rw [hx] at ep
          cases ep
          simp (maxSteps := 2000000) only [NewO, tLc, wipe, List.map_cons, List.map_nil, tSeq, tIfS, tTest, tOp, tVar, tC, rI0, tPar, tUn, rU, tCons, tNil, tAsg, gName, tCB, tRet, tTup, tLst, rI, rGcd, tNext, tCall, tCallN, tIf, tSl, tPart, tNoPart, rSlL, tDrop, tBM, tBM0, rAppend, rPop, tAndV, tOrV, tNotV, tAnd, tOr, tNot, tB, rEq, rNe, scal_int, gTup, gCons, gNil, gUnl, gSub, rSetL, tRevL, tAug, ipI, rIxL, rIxT, rCat, rRep, TruV, iList, iRng1, iRng2, iRng3, iEnum, tFor, tYes, List.append_nil, List.cons_append, List.nil_append, List.getElem?_cons_zero, List.getElem?_cons_succ, List.set_cons_zero, List.set_cons_succ, Option.some.injEq, exists_eq_left', exists_eq_left, exists_and_left, V.int.injEq, V.bl.injEq, V.ref.injEq, List.cons.injEq, and_true, true_and, and_assoc, decide_eq_true_eq, Bool.not_eq_true', if_true, if_false, Bool.false_eq_true, ite_true, ite_false, Bool.true_eq_false, reduceCtorEq, false_and, and_false, exists_false, false_or, or_false, gUnl, tCallN, rMax, tBreak]
          refine ⟨_, hp.at s6, rfl, _, _, rfl, _, _, rfl, rfl, ?_⟩
          simp (maxSteps := 2000000) only [NewO, tLc, wipe, List.map_cons, List.map_nil, tSeq, tIfS, tTest, tOp, tVar, tC, rI0, tPar, tUn, rU, tCons, tNil, tAsg, gName, tCB, tRet, tTup, tLst, rI, rGcd, tNext, tCall, tCallN, tIf, tSl, tPart, tNoPart, rSlL, tDrop, tBM, tBM0, rAppend, rPop, tAndV, tOrV, tNotV, tAnd, tOr, tNot, tB, rEq, rNe, scal_int, gTup, gCons, gNil, gUnl, gSub, rSetL, tRevL, tAug, ipI, rIxL, rIxT, rCat, rRep, TruV, iList, iRng1, iRng2, iRng3, iEnum, tFor, tYes, List.append_nil, List.cons_append, List.nil_append, List.getElem?_cons_zero, List.getElem?_cons_succ, List.set_cons_zero, List.set_cons_succ, Option.some.injEq, exists_eq_left', exists_eq_left, exists_and_left, V.int.injEq, V.bl.injEq, V.ref.injEq, List.cons.injEq, and_true, true_and, and_assoc, decide_eq_true_eq, Bool.not_eq_true', if_true, if_false, Bool.false_eq_true, ite_true, ite_false, Bool.true_eq_false, reduceCtorEq, false_and, and_false, exists_false, false_or, or_false, gUnl, tCallN, rMax, tBreak]
          obtain ⟨g0, g1, g2, g3, g4⟩ := lcm_step m0 (qf ns ms i).den_nz
          have bF := qf_bits (a := ns) pa pb (tb.last nb) i
          have q15 : qM ns ms ≤ 14 := by
            have := List.length_pos_iff.mpr nb
            unfold qM; omega
          have bm := qB_max (ka := 60) (kb := 60) (i := i) (Nat.le_refl _) (Nat.le_refl _) (by omega)
          have lim : i * 4000000 + 1 + 4000001 ≤ 134217728 := by omega
          have bd : (qf ns ms i).den ≤ 2 ^ 4000000 := Nat.le_trans bF.2 (Nat.pow_le_pow_right (by decide) bm)
          refine ⟨mul_bits (lt_pow_of_le mb) (b := 4000001) (lt_pow_of_le bd) lim, g0, s6, g1, Nat.le_trans g4 ?_, fun t ht => ?_⟩
          · rw [Nat.add_mul, Nat.one_mul, Nat.pow_add]
            exact Nat.mul_le_mul mb bd
          · clear bd g4 mb
            by_cases c : t < i
            · exact Int.dvd_trans (md t c) g2
            · rw [show t = i by omega]; exact g3
        · obtain ⟨m, y9, y10, rfl, s6, m0, mb, md⟩ := p
          rw [nF.len] at mb md
          simp (maxSteps := 2000000) only [NewO, tLc, wipe, List.map_cons, List.map_nil, tSeq, tIfS, tTest, tOp, tVar, tC, rI0, tPar, tUn, rU, tCons, tNil, tAsg, gName, tCB, tRet, tTup, tLst, rI, rGcd, tNext, tCall, tCallN, tIf, tSl, tPart, tNoPart, rSlL, tDrop, tBM, tBM0, rAppend, rPop, tAndV, tOrV, tNotV, tAnd, tOr, tNot, tB, rEq, rNe, scal_int, gTup, gCons, gNil, gUnl, gSub, rSetL, tRevL, tAug, ipI, rIxL, rIxT, rCat, rRep, TruV, iList, iRng1, iRng2, iRng3, iEnum, tFor, tYes, List.append_nil, List.cons_append, List.nil_append, List.getElem?_cons_zero, List.getElem?_cons_succ, List.set_cons_zero, List.set_cons_succ, Option.some.injEq, exists_eq_left', exists_eq_left, exists_and_left, V.int.injEq, V.bl.injEq, V.ref.injEq, List.cons.injEq, and_true, true_and, and_assoc, decide_eq_true_eq, Bool.not_eq_true', if_true, if_false, Bool.false_eq_true, ite_true, ite_false, Bool.true_eq_false, reduceCtorEq, false_and, and_false, exists_false, false_or, or_false, gUnl, tCallN, rMax, tBreak]
          refine ⟨_, SqL.of (s6 _ _ hF'), fun p hp => ⟨⟨_, SqL.of upd_same⟩, fun D' hD => lcl (xs := fs.reverse) (fun i H7 => Same H H7 ∧ Same (upd H6 p (.lst fs.reverse)) H7 ∧ H7 D' = some (.lst ((List.range i).map fun j => V.int ((qf ns ms (qM ns ms - j)).num * m.fdiv (qf ns ms (qM ns ms - j)).den)))) ⟨?_, same_new hD, upd_same⟩ (fun i H7 hi q => ?_) (fun i x H7 hx q => ?_) (fun H7 q => ?_)⟩⟩
          · exact s.trans (s6.trans ((same_new hp).trans (same_new hD)))
          · exact SqL.of (q.2.1 _ _ upd_same)
          · have hi : i < fs.length := by
              have := (List.getElem?_eq_some_iff.mp hx).1
              simpa using this
            rw [List.getElem?_reverse hi] at hx
            obtain ⟨s7, s67, hd⟩ := q
            have fl := nF.len
            obtain ⟨p', ep, hp'⟩ := nF.at_ (fs.length - 1 - i) (by omega)
            rw [hx] at ep
            cases ep
            have bF := qf_bits (a := ns) pa pb (tb.last nb) (fs.length - 1 - i)
            have q15 : qM ns ms ≤ 14 := by
              have := List.length_pos_iff.mpr nb
              unfold qM; omega
            have bm := qB_max (ka := 60) (kb := 60) (i := fs.length - 1 - i) (Nat.le_refl _) (Nat.le_refl _) (by omega)
            have dn : (((qf ns ms (fs.length - 1 - i)).den : Nat) : Int) ≠ 0 := by have := (qf ns ms (fs.length - 1 - i)).den_nz; omega
            have lim : 4000001 + ((qM ns ms + 1) * 4000000 + 1) ≤ 134217728 := by omega
            have ei : fs.length - 1 - i = qM ns ms - i := by omega
            have bn : (qf ns ms (fs.length - 1 - i)).num.natAbs < 2 ^ 4000001 := lt_pow_of_le (Nat.le_trans bF.1 (Nat.pow_le_pow_right (by decide) (by omega)))
            refine ⟨_, rfl, _, hp'.at (s6.trans ((same_new hp).trans s67)), rfl, _, _, rfl, _, _, rfl, rfl, _, rfl, dn, _, rfl, mul_bits bn (lt_pow_of_le (Nat.le_trans (natAbs_div_le dn (md _ (by clear bn; omega))) mb)) lim, ?_⟩
            refine ⟨_, hd, ?_, ?_⟩
            · rw [List.length_map, List.length_range]; exact lt_size (by clear bn mb; omega)
            simp (maxSteps := 2000000) only [NewO, tLc, wipe, List.map_cons, List.map_nil, tSeq, tIfS, tTest, tOp, tVar, tC, rI0, tPar, tUn, rU, tCons, tNil, tAsg, gName, tCB, tRet, tTup, tLst, rI, rGcd, tNext, tCall, tCallN, tIf, tSl, tPart, tNoPart, rSlL, tDrop, tBM, tBM0, rAppend, rPop, tAndV, tOrV, tNotV, tAnd, tOr, tNot, tB, rEq, rNe, scal_int, gTup, gCons, gNil, gUnl, gSub, rSetL, tRevL, tAug, ipI, rIxL, rIxT, rCat, rRep, TruV, iList, iRng1, iRng2, iRng3, iEnum, tFor, tYes, List.append_nil, List.cons_append, List.nil_append, List.getElem?_cons_zero, List.getElem?_cons_succ, List.set_cons_zero, List.set_cons_succ, Option.some.injEq, exists_eq_left', exists_eq_left, exists_and_left, V.int.injEq, V.bl.injEq, V.ref.injEq, List.cons.injEq, and_true, true_and, and_assoc, decide_eq_true_eq, Bool.not_eq_true', if_true, if_false, Bool.false_eq_true, ite_true, ite_false, Bool.true_eq_false, reduceCtorEq, false_and, and_false, exists_false, false_or, or_false, gUnl, tCallN, rMax, tBreak]
            refine ⟨?_, ?_, ?_⟩
            · exact same_updD ((s.trans (s6.trans (same_new hp))).free hD) s7
            · exact same_updD hD s67
            · rw [upd_same, List.range_succ, List.map_append, ei]; rfl
          · obtain ⟨s7, s67, hd⟩ := q
            have fl := nF.len
            rw [List.length_reverse, fl] at hd
            have mdd : ∀ i, i ≤ qM ns ms → ((qf ns ms i).den : Int) ∣ m := fun i hi => md i (Nat.lt_succ_of_le hi)
            refine ⟨zL ns ms m, .new ?_, ?_, zL_tr ta tb nb hlen (Int.ne_of_gt m0) mdd, fun H8 r s8 n8 e8 => hq H8 r _ (s7.trans s8) (s7.free n8) e8 (quo_of ta tb nb hlen (Int.ne_of_gt m0) mdd pwf hwf)⟩
            · rw [hd]; unfold iL zL; rw [map_rangeV]
            · have : (zL ns ms m).length = qM ns ms + 1 := by simp [zL]
              rw [this]
              unfold qM
              clear mb
              omega
end
end W23
namespace W23
open PySem PySem.Spec PyProof.Rows L2 K23
theorem isL_upd {K : PySem.W.Frag} {H : Hp} {C p : Addr} {ns : List Int} {o : HO} (h : IsL K H p ns) (hne : p ≠ C) : IsL K (upd H C o) p ns := by
  rcases h with (h | ⟨z, h⟩) | h
  · exact .inl (.inl (by rw [upd_ne hne]; exact h))
  · exact .inl (.inr ⟨z, by rw [upd_ne hne]; exact h⟩)
  · exact .inr h
/-- a list of polynomials, none at the place C -/
structure CL (K : PySem.W.Frag) (H : Hp) (C : Addr) (vs : List V) (S : List (List Int)) : Prop where
  len : vs.length = S.length
  at_ : ∀ (j : Nat) (a : List Int), S[j]? = some a → ∃ p : Addr, vs[j]? = some (V.ref p) ∧ p ≠ C ∧ IsL K H p a
theorem CL.at {K : PySem.W.Frag} {H H' : Hp} {C : Addr} {vs : List V} {S : List (List Int)} (h : CL K H C vs S) (s : Same H H') : CL K H' C vs S :=
  ⟨h.len, fun j a e => let ⟨p, e1, e2, e3⟩ := h.at_ j a e; ⟨p, e1, e2, e3.at s⟩⟩
theorem CL.upd {K : PySem.W.Frag} {H : Hp} {C : Addr} {vs : List V} {S : List (List Int)} {o : HO} (h : CL K H C vs S) : CL K (L2.upd H C o) C vs S :=
  ⟨h.len, fun j a e => let ⟨p, e1, e2, e3⟩ := h.at_ j a e; ⟨p, e1, e2, isL_upd e3 e2⟩⟩
theorem CL.snoc {K : PySem.W.Frag} {H : Hp} {C p : Addr} {vs : List V} {S : List (List Int)} {a : List Int} (h : CL K H C vs S) (hne : p ≠ C) (hp : IsL K H p a) : CL K H C (vs ++ [.ref p]) (S ++ [a]) := by
  have l := h.len
  refine ⟨by rw [List.length_append, List.length_append, l]; rfl, fun j b e => ?_⟩
  by_cases c : j < S.length
  · rw [List.getElem?_append_left c] at e
    obtain ⟨q, e1, e2⟩ := h.at_ j b e
    exact ⟨q, by rw [List.getElem?_append_left (by omega)]; exact e1, e2⟩
  · have hj := (List.getElem?_eq_some_iff.mp e).1
    rw [List.length_append] at hj
    have : j = S.length := by simp at hj; omega
    subst this
    rw [List.getElem?_append_right (Nat.le_refl _), Nat.sub_self] at e
    cases e
    exact ⟨p, by rw [List.getElem?_append_right (by omega), l, Nat.sub_self]; rfl, hne, hp⟩
theorem cut_last2 (vs : List V) (x y : V) : cutV (vs ++ [x, y]) (some (-2)) none = [x, y] := by
  unfold cutV
  have e : HT.sIx (vs ++ [x, y]).length 0 (some (-2)) = vs.length := by
    show (if (-2 : Int) < 0 then ((-2 : Int) + ((vs ++ [x, y]).length : Int)).toNat else min (-2 : Int).toNat (vs ++ [x, y]).length) = _
    rw [if_pos (by decide), List.length_append]
    show ((-2 : Int) + ((vs.length + 2 : Nat) : Int)).toNat = vs.length
    omega
  rw [e, HT.sIx_none, List.drop_left, List.length_append]
  rw [show vs.length + [x, y].length - vs.length = [x, y].length by omega, List.take_length]
theorem cut_init (ns : List Int) : cutV (ns.map V.int) none (some (-1)) = (ns.dropLast).map V.int := by
  unfold cutV
  rw [HT.sIx_none, List.drop_zero, List.length_map, Nat.sub_zero]
  have e : HT.sIx ns.length ns.length (some (-1)) = ns.length - 1 := by
    show (if (-1 : Int) < 0 then ((-1 : Int) + (ns.length : Int)).toNat else min (-1 : Int).toNat ns.length) = _
    rw [if_pos (by decide)]
    omega
  rw [e, ← List.map_take, List.dropLast_eq_take]
theorem CL.last2 {K : PySem.W.Frag} {H : Hp} {C : Addr} {vs : List V} {S : List (List Int)} {f s : List Int} (h : CL K H C vs (S ++ [f, s])) : ∃ vs0 pf ps, vs = vs0 ++ [V.ref pf, V.ref ps] ∧ IsL K H pf f ∧ IsL K H ps s := by
  have l := h.len
  rw [List.length_append] at l
  have l : vs.length = S.length + 2 := l
  obtain ⟨p, e1, _, e2⟩ := h.at_ S.length f (by rw [List.getElem?_append_right (Nat.le_refl _), Nat.sub_self]; rfl)
  obtain ⟨q, g1, _, g2⟩ := h.at_ (S.length + 1) s (by rw [List.getElem?_append_right (by omega), show S.length + 1 - S.length = 1 by omega]; rfl)
  refine ⟨vs.take S.length, p, q, ?_, e2, g2⟩
  obtain ⟨h1, e1⟩ := List.getElem?_eq_some_iff.mp e1
  obtain ⟨h2, g1⟩ := List.getElem?_eq_some_iff.mp g1
  have d : vs.drop S.length = [V.ref p, V.ref q] := by
    rw [List.drop_eq_getElem_cons (by omega), List.drop_eq_getElem_cons (by omega), e1, g1, List.drop_of_length_le (by omega)]
  rw [← d, List.take_append_drop]
/-- a chain at a place -/
def IsC (K : PySem.W.Frag) (H : Hp) (c : Addr) (S : List (List Int)) : Prop := ∃ C vs, SqL K H c vs ∧ CL K H C vs S
theorem IsC.at {K : PySem.W.Frag} {H H' : Hp} {c : Addr} {S : List (List Int)} (h : IsC K H c S) (s : Same H H') : IsC K H' c S :=
  let ⟨C, vs, a, b⟩ := h; ⟨C, vs, s.seq a, b.at s⟩
section
variable {P : Program} {w : World} {K : PySem.W.Frag} {mg : Str → Option Value} {base : Heap} {A : Nat → Addr} {D : Nat → FuncData}
def spSqf (K : PySem.W.Frag) : Sp := fun vs H Q _ => ∃ (a : Addr) (ns : List Int) (R : List (List Int)), vs = [.ref a] ∧ IsL K H a ns ∧ Asked ns R ∧ ∀ H' p s, Same H H' → H p = none → H' p = some (iL s) → SqF s R → s.length ≤ ns.length → Q (.ref p) H'
theorem ok_square_free (T : Tx P K mg base A D) : FnOk P w K mg base CX0 45 (A 18) (D 18) ["a"] (spSqf K) := by
  refine T.f_square_free.ok sc_square_free (fun vs H Q E h => ?_) (fun cdv Ar outer s H vs Q E hr h => ?_)
  · obtain ⟨a, ns, R, rfl, _⟩ := h
    rfl
  · obtain ⟨a, ns, R, rfl, ha, hA, hq⟩ := h
    refine ⟨_, PSs.nox (pss_one (ps_ret (pe_call (ok_quotient T) (hr.mono (by decide)) (by rfl) T.g_quotient T.f_quotient.kp (b_quotient T) .nil pass0 (pa_cons (pv 0) (pa_cons (pe_call (ok_common_divisor T) (hr.mono (by decide)) (by rfl) T.g_common_divisor T.f_common_divisor.kp (b_common_divisor T) .nil pass0 (pa_cons (pv 0) (pa_cons (pe_call (ok_derivative T) (hr.mono (by decide)) (by rfl) T.g_derivative T.f_derivative.kp (b_derivative T) .nil pass0 (pa_cons (pv 0) pa_nil)) pa_nil))) pa_nil))))), ?_⟩
    rw [show start ["a"] [V.ref a] = [some (V.ref a)] from rfl]
    simp (maxSteps := 2000000) only [NewO, tLc, wipe, List.map_cons, List.map_nil, tSeq, tIfS, tTest, tOp, tVar, tC, rI0, tPar, tUn, rU, tCons, tNil, tAsg, gName, tCB, tRet, tTup, tLst, rI, rGcd, tNext, tCall, tCallN, tIf, tSl, tPart, tNoPart, rSlL, tDrop, tBM, tBM0, rAppend, rPop, tAndV, tOrV, tNotV, tAnd, tOr, tNot, tB, rEq, rNe, scal_int, gTup, gCons, gNil, gUnl, gSub, rSetL, tRevL, tAug, ipI, rIxL, rIxT, rCat, rRep, TruV, iList, iRng1, iRng2, iRng3, iEnum, tFor, tYes, List.append_nil, List.cons_append, List.nil_append, List.getElem?_cons_zero, List.getElem?_cons_succ, List.set_cons_zero, List.set_cons_succ, Option.some.injEq, exists_eq_left', exists_eq_left, exists_and_left, V.int.injEq, V.bl.injEq, V.ref.injEq, List.cons.injEq, and_true, true_and, and_assoc, decide_eq_true_eq, Bool.not_eq_true', if_true, if_false, Bool.false_eq_true, ite_true, ite_false, Bool.true_eq_false, reduceCtorEq, false_and, and_false, exists_false, false_or, or_false, gUnl, tCallN, rMax, tBreak, cxK, spLL, spCd, spQuot]
    have hl := hA.len
    refine ⟨ns, ha, by omega, ⟨48, hA.pb, by decide⟩, fun H1 p s1 n1 e1 => ⟨ns, ha.at s1, derI ns, .new e1, hA.tr, hA.ne, der_tr hA.tr, hA.cdb, fun H2 q g s2 n2 e2 C => ?_⟩⟩
    obtain ⟨f, hf⟩ := hA.fac
    obtain ⟨wf, pwf, ewf⟩ := C.dvA
    refine ⟨ns, ha.at (s1.trans s2), g, .new e2, hA.tr, C.tr, C.ne, dv_len hA.tr hA.ne C.tr pwf ewf, hl, hA.pb.mono (by decide), (pb_gcd hA.mem hA.nd hA.few hf C).mono (by decide), ⟨wf, pwf, ewf⟩, fun H3 r s s3 n3 e3 Qs => ?_⟩
    refine hq H3 r s (s1.trans (s2.trans s3)) (s1.free (s2.free n3)) e3 (sqf_of hA.mem hA.nd hA.few hf C Qs) ?_
    have := Qs.len
    have := List.length_pos_iff.mpr C.ne
    omega
def spChain (K : PySem.W.Frag) : Sp := fun vs H Q _ => ∃ (a : Addr) (s : List Int) (R : List (List Int)), vs = [.ref a] ∧ IsL K H a s ∧ ChA s R ∧ ∀ H' p S, Same H H' → IsC K H' p S → ChnB R S → Q (.ref p) H'
theorem ok_chain_of (T : Tx P K mg base A D) : FnOk P w K mg base CX0 44 (A 22) (D 22) ["p"] (spChain K) := by
  refine T.f_chain_of.ok sc_chain_of (fun vs H Q E h => ?_) (fun cdv Ar outer s H vs Q E hr h => ?_)
  · obtain ⟨a, ns, R, rfl, _⟩ := h
    rfl
  · obtain ⟨a, ns, R, rfl, ha, hA, hq⟩ := h
    refine ⟨_, PSs.nox (pss_cons (ps_set (i := 1) sc_chain_of.nd rfl (.inl rfl) (pe_lst (pa_cons (pe_call (ok_bare T) (hr.mono (by decide)) (by rfl) T.g_bare T.f_bare.kp (b_bare T) .nil pass0 (pa_cons (pv 0) (pa_cons pe_int pa_nil))) (pa_cons (pe_call (ok_bare T) (hr.mono (by decide)) (by rfl) T.g_bare T.f_bare.kp (b_bare T) .nil pass0 (pa_cons (pe_call (ok_derivative T) (hr.mono (by decide)) (by rfl) T.g_derivative T.f_derivative.kp (b_derivative T) .nil pass0 (pa_cons (pv 0) pa_nil)) (pa_cons pe_int pa_nil))) pa_nil)))) (pss_one (ps_while PassesOwn.never (pt_val pe_bl) (pss_cons (ps_asg (pe_slice sl_list (pv 1) (po_some (pe_un un_neg pe_int)) po_none) (pg_unl (n := 2) rfl (pgs_cons (pg_name (i := 2) sc_chain_of.nd rfl (.inl rfl)) (pgs_cons (pg_name (i := 3) sc_chain_of.nd rfl (.inl rfl)) pgs_nil)))) (pss_cons (ps_set (i := 4) sc_chain_of.nd rfl (.inl rfl) (pe_call (ok_false_rest T) (hr.mono (by decide)) (by rfl) T.g_false_rest T.f_false_rest.kp (b_false_rest T) .nil pass0 (pa_cons (pv 2) (pa_cons (pv 3) pa_nil)))) (pss_cons (ps_if (pt_not (pt_truth (pv 4) (by intro _; rfl))) (pss_one (ps_ret (pv 1))) pss_nil) (pss_cons (ps_set (i := 5) sc_chain_of.nd rfl (.inl rfl) (pe_or (pe_cmpR op_gt (pe_ix ix_list (pv 3) (pe_un un_neg pe_int) (fun _ _ => rfl)) pe_int (nomark _)) (pe_one (pe_cmpR op_eq (pe_op op_modN (pe_op op_sub (pe_callB call_len_seq (by rfl) T.z_len (by decide +kernel) (pa_cons (pv 2) pa_nil)) (pe_callB call_len_seq (by rfl) T.z_len (by decide +kernel) (pa_cons (pv 3) pa_nil))) pe_int) pe_int (nomark _))))) (pss_one (ps_expr (pe_bm PySem.F.plainAttrs_list PySem.F.slot_list_append PySem.F.type_list_append mt_append (pv 1) (pa_cons (pe_call (ok_bare T) (hr.mono (by decide)) (by rfl) T.g_bare T.f_bare.kp (b_bare T) .nil pass0 (pa_cons (pv 4) (pa_cons (pe_ifExp (pt_val (pv 5)) (pe_un un_neg pe_int) pe_int) pa_nil))) pa_nil))))))))))), ?_⟩
    rw [show start ["p", "chain", "a", "b", "rest", "turned"] [V.ref a] = [some (V.ref a), none, none, none, none, none] from rfl]
    simp (maxSteps := 2000000) only [NewO, tLc, wipe, List.map_cons, List.map_nil, tSeq, tIfS, tTest, tOp, tVar, tC, rI0, tPar, tUn, rU, tCons, tNil, tAsg, gName, tCB, tRet, tTup, tLst, rI, rGcd, tNext, tCall, tCallN, tIf, tSl, tPart, tNoPart, rSlL, tDrop, tBM, tBM0, rAppend, rPop, tAndV, tOrV, tNotV, tAnd, tOr, tNot, tB, rEq, rNe, scal_int, gTup, gCons, gNil, gUnl, gSub, rSetL, tRevL, tAug, ipI, rIxL, rIxT, rCat, rRep, TruV, iList, iRng1, iRng2, iRng3, iEnum, tFor, tYes, List.append_nil, List.cons_append, List.nil_append, List.getElem?_cons_zero, List.getElem?_cons_succ, List.set_cons_zero, List.set_cons_succ, Option.some.injEq, exists_eq_left', exists_eq_left, exists_and_left, V.int.injEq, V.bl.injEq, V.ref.injEq, List.cons.injEq, and_true, true_and, and_assoc, decide_eq_true_eq, Bool.not_eq_true', if_true, if_false, Bool.false_eq_true, ite_true, ite_false, Bool.true_eq_false, reduceCtorEq, false_and, and_false, exists_false, false_or, or_false, gUnl, tCallN, rMax, tBreak, cxK, spLL, spFr, tWhile]
    have hl := hA.len
    have nne := hA.ne
    have hlong := hA.long
    have td := der_tr hA.tr
    have dl := der_len ns
    have dne : derI ns ≠ [] := fun z => by rw [z] at dl; simp at dl; omega
    obtain ⟨b1, lb, _⟩ := bare_spec hA.tr nne (f := 1) (.inl rfl)
    obtain ⟨d1, ld, _⟩ := bare_spec td dne (f := 1) (.inl rfl)
    rw [dl] at ld
    have b2 : bareI ns 1 ≠ [] := fun z => by rw [z] at lb; simp at lb; omega
    have d2 : bareI (derI ns) 1 ≠ [] := fun z => by rw [z] at ld; simp at ld; omega
    refine ⟨ns, ha, by omega, hA.tr, fun H1 p s1 n1 e1 => ⟨ns, ha.at s1, by omega, ⟨48, hA.pb, by decide⟩, fun H2 q s2 n2 e2 => ⟨derI ns, .new e2, by omega, td, fun H3 r s3 n3 e3 => ⟨le2, fun C nC => ?_⟩⟩⟩⟩
    have nC0 : H C = none := (s1.trans (s2.trans s3)).free nC
    have B0 : ChB (bareI ns 1) (bareI (derI ns) 1) := .start (hA.pb.bare hA.tr nne (.inl rfl)) ((hA.pb.der (by omega)).bare td dne (.inl rfl)) (by decide) (by omega) (by omega)
    refine ⟨fun m σ H' => ∃ (vs : List V) (S0 : List (List Int)) (f s : List Int) (y2 y3 y4 y5 : Option V), σ = [some (.ref a), some (.ref C), y2, y3, y4, y5] ∧ m = s.length ∧ Same H H' ∧ H' C = some (.lst vs) ∧ CL K H' C vs (S0 ++ [f, s]) ∧ Pre (S0 ++ [f, s]) ∧ ChB f s ∧ TrI f ∧ f ≠ [] ∧ TrI s ∧ s ≠ [] ∧ (∀ a ∈ S0 ++ [f, s], TrI a ∧ a ≠ [] ∧ PBd a 60000000 ∧ a.length ≤ 15) ∧ S0.length + s.length ≤ 15 ∧ (∃ u, S0 ++ [f, s] = bareI ns 1 :: bareI (derI ns) 1 :: u), ?_, fun m σ H' hW => ?_⟩
    · have s123 := s1.trans (s2.trans s3)
      have hp3 := s3 _ _ (s2 _ _ e1)
      refine ⟨_, _, [], _, _, none, none, none, none, rfl, rfl, same_updD (s123.free nC) s123, upd_same, ?_, trivial, B0, b1, b2, d1, d2, fun x hx => ?_, by rw [ld]; show 0 + _ ≤ 15; omega, [], rfl⟩
      · have c0 : CL K H3 C [] [] := ⟨rfl, fun j a e => by simp at e⟩
        exact ((c0.snoc (ne_of_none hp3 nC) (.new hp3)).snoc (ne_of_none e3 nC) (.new e3)).upd
      · rcases List.mem_cons.mp hx with rfl | hx
        · exact ⟨b1, b2, (hA.pb.bare hA.tr nne (.inl rfl)).mono (by decide), by omega⟩
        · rcases List.mem_cons.mp hx with rfl | hx
          · exact ⟨d1, d2, ((hA.pb.der (by omega)).bare td dne (.inl rfl)).mono (by decide), by omega⟩
          · cases hx
    · obtain ⟨vs, S0, f, s, y2, y3, y4, y5, rfl, rfl, sm, hC, hL, hP, hB, tf, nf, ts, nn, hall, hlen, hhd⟩ := hW
      simp (maxSteps := 2000000) only [NewO, tLc, wipe, List.map_cons, List.map_nil, tSeq, tIfS, tTest, tOp, tVar, tC, rI0, tPar, tUn, rU, tCons, tNil, tAsg, gName, tCB, tRet, tTup, tLst, rI, rGcd, tNext, tCall, tCallN, tIf, tSl, tPart, tNoPart, rSlL, tDrop, tBM, tBM0, rAppend, rPop, tAndV, tOrV, tNotV, tAnd, tOr, tNot, tB, rEq, rNe, scal_int, gTup, gCons, gNil, gUnl, gSub, rSetL, tRevL, tAug, ipI, rIxL, rIxT, rCat, rRep, TruV, iList, iRng1, iRng2, iRng3, iEnum, tFor, tYes, List.append_nil, List.cons_append, List.nil_append, List.getElem?_cons_zero, List.getElem?_cons_succ, List.set_cons_zero, List.set_cons_succ, Option.some.injEq, exists_eq_left', exists_eq_left, exists_and_left, V.int.injEq, V.bl.injEq, V.ref.injEq, List.cons.injEq, and_true, true_and, and_assoc, decide_eq_true_eq, Bool.not_eq_true', if_true, if_false, Bool.false_eq_true, ite_true, ite_false, Bool.true_eq_false, reduceCtorEq, false_and, and_false, exists_false, false_or, or_false, gUnl, tCallN, rMax, tBreak]
      obtain ⟨vs0, pf, ps, rfl, hf, hs⟩ := hL.last2
      refine ⟨_, fun _ _ h => h, _, SqL.of hC, fun p hp => ?_⟩
      rw [cut_last2]
      have sp := same_new (o := .lst [V.ref pf, V.ref ps]) hp
      have lens := hB.lens
      have hsl := List.length_pos_iff.mpr nn
      obtain ⟨⟨ka, kb, pa, pb, hk⟩, _⟩ := hB.cdb.step tf ts nn
      refine ⟨_, SqL.of upd_same, rfl, _, _, rfl, _, _, rfl, rfl, _, rfl, _, rfl, f, hf.at sp, s, hs.at sp, by omega, by omega, nn, ⟨ka, pa, kb, pb, hk⟩, fun H4 q s4 n4 e4 => ?_⟩
      obtain ⟨r1, r2, r3, _⟩ := frI_spec tf ts nn
      obtain ⟨cs1, cs2⟩ := chain_step tf ts nn (by omega)
      have s44 := sp.trans s4
      have hL4 := hL.at s44
      have hC4 := s44 _ _ hC
      refine ⟨_, .inl ⟨_, SqL.of e4, rfl⟩, ite2 (fun c => ?_) (fun c => ?_)⟩
      · have z : frI f s = [] := by simpa using c
        refine hq H4 C (S0 ++ [f, s]) (sm.trans s44) ⟨C, _, SqL.of hC4, hL4⟩ ⟨⟨fun a ha => ⟨(hall a ha).1, (hall a ha).2.1⟩, ?_, hP, Fin.of (cs1 z)⟩, fun a ha => (hall a ha).2.2, by rw [List.length_append]; show S0.length + 2 ≤ _; omega, ?_⟩
        · obtain ⟨u, hu⟩ := hhd
          exact ⟨_, _, u, hu, head_of hA.mem hA.nd hA.tr hlong hA.fac⟩
        · obtain ⟨u, hu⟩ := hhd
          exact ⟨_, _, hu, hA.bare⟩
      · have rn : frI f s ≠ [] := fun z => c (by rw [z]; rfl)
        have r3 := r3 (by omega)
        have fin : ∀ v : Int, v = (if turnedB f s = true then -1 else 1) → ∀ (H5 : Hp) (u : Addr) (b : Bool), Same H4 H5 → H4 u = none → H5 u = some (iL (bareI (frI f s) v)) → ∃ x, H5 C = some (HO.lst x) ∧ x.length < sizeLine ∧ ∃ m', m' < s.length ∧ ∃ (vs : List V) (S0 : List (List Int)) (f s : List Int) (y2 y3 y4 y5 : Option V), [some (V.ref a), some (V.ref C), some (V.ref pf), some (V.ref ps), some (V.ref q), some (V.bl b)] = [some (.ref a), some (.ref C), y2, y3, y4, y5] ∧ m' = s.length ∧ Same H (upd H5 C (.lst (x ++ [V.ref u]))) ∧ upd H5 C (.lst (x ++ [V.ref u])) C = some (.lst vs) ∧ CL K (upd H5 C (.lst (x ++ [V.ref u]))) C vs (S0 ++ [f, s]) ∧ Pre (S0 ++ [f, s]) ∧ ChB f s ∧ TrI f ∧ f ≠ [] ∧ TrI s ∧ s ≠ [] ∧ (∀ a ∈ S0 ++ [f, s], TrI a ∧ a ≠ [] ∧ PBd a 60000000 ∧ a.length ≤ 15) ∧ S0.length + s.length ≤ 15 ∧ (∃ u, S0 ++ [f, s] = bareI ns 1 :: bareI (derI ns) 1 :: u) := fun v hv H5 u b s5 n5 e5 => by
          have hv1 : v = 1 ∨ v = -1 := by rw [hv]; split <;> simp
          have hC5 := s5 _ _ hC4
          obtain ⟨t1, t2, _⟩ := bare_spec r1 rn hv1
          have t3 : bareI (frI f s) v ≠ [] := fun z => by
            rw [z] at t2
            exact rn (List.length_eq_zero_iff.mp t2.symm)
          have hB' := hB.step tf ts nn hv1 rn
          have vl := hL4.len
          refine ⟨_, hC5, ?_, _, ?_, vs0 ++ [V.ref pf, V.ref ps] ++ [V.ref u], S0 ++ [f], s, bareI (frI f s) v, _, _, _, _, rfl, rfl, ?_⟩
          · rw [vl, List.length_append]
            exact lt_size (by show S0.length + 2 ≤ _; omega)
          · rw [t2]; exact r3
          have cl := ((hL4.at s5).snoc (ne_of_none hC4 n5).symm (.new e5)).upd (o := .lst (vs0 ++ [V.ref pf, V.ref ps] ++ [V.ref u]))
          have ec : S0 ++ [f] ++ [s, bareI (frI f s) v] = S0 ++ [f, s] ++ [bareI (frI f s) v] := by simp
          have ec2 : S0 ++ [f] ++ [s, bareI (frI f s) v] = S0 ++ [f, s, bareI (frI f s) v] := by simp
          refine ⟨?_, upd_same, by rw [ec]; exact cl, ?_, hB', ts, nn, t1, t3, fun x hx => ?_, ?_, ?_⟩
          · exact same_updD nC0 (sm.trans (s44.trans s5))
          · rw [ec2]
            refine hP.snoc ?_
            rw [hv]
            exact cs2 rn
          · rw [ec] at hx
            rcases List.mem_append.mp hx with hx | hx
            · exact hall x hx
            · rcases List.mem_cons.mp hx with rfl | hx
              · have := hB'.lens
                exact ⟨t1, t3, hB'.pb t3, by omega⟩
              · cases hx
          · rw [List.length_append, t2]; show S0.length + 1 + _ ≤ 15; omega
          · obtain ⟨w, hw⟩ := hhd
            exact ⟨w ++ [bareI (frI f s) v], by rw [ec, hw]; rfl⟩
        have hs4 := hs.at s44
        have hq4 : IsL K H4 q (frI f s) := .new e4
        have cT : SqL K H4 C (vs0 ++ [V.ref pf, V.ref ps]) := SqL.of hC4
        have tb : turnedB f s = (decide (0 < cI s (s.length - 1)) || decide ((f.length - s.length) % 2 = 1)) := rfl
        refine ⟨_, rfl, _, hs4, _, ix_last nn, _, rfl, ite2 (fun c1 => ?_) (fun c1 => ?_)⟩
        · refine ⟨.inl ⟨rfl, _, cT⟩, _, hq4, by omega, r1, fun H5 u s5 n5 e5 => fin (-1) ?_ H5 u true s5 n5 e5⟩
          rw [tb, decide_eq_true c1]; rfl
        · have fm : ((((vs0.length : Nat) : Int) - vs0.length)) = 0 := Int.sub_self _
          refine ⟨_, rfl, _, .inl (hf.at s44), _, rfl, _, .inl hs4, by decide, .inl ⟨rfl, _, cT⟩, ?_⟩
          rw [List.length_map, List.length_map, Int.fmod_eq_emod_of_nonneg _ (by decide)]
          refine ite2 (fun c2 => ?_) (fun c2 => ?_)
          · refine ⟨_, hq4, by omega, r1, fun H5 u s5 n5 e5 => fin (-1) ?_ H5 u _ s5 n5 e5⟩
            rw [tb, decide_eq_true (show (f.length - s.length) % 2 = 1 by omega), Bool.or_true]; rfl
          · refine ⟨_, hq4, by omega, r1, fun H5 u s5 n5 e5 => fin 1 ?_ H5 u _ s5 n5 e5⟩
            rw [tb, decide_eq_false c1, decide_eq_false (show ¬(f.length - s.length) % 2 = 1 by omega)]; rfl
theorem ok_changes (T : Tx P K mg base A D) : FnOk P w K mg base CX0 40 (A 23) (D 23) ["signs"] (fun vs H Q _ => ∃ (a : Addr) (ns : List Int), vs = [.ref a] ∧ IsL K H a ns ∧ ns.length ≤ 1000 ∧ ∀ H', Same H H' → Q (.int (chg ns)) H') := by
  refine T.f_changes.ok sc_changes (fun vs H Q E h => ?_) (fun cdv Ar outer s H vs Q E hr h => ?_)
  · obtain ⟨a, ns, rfl, _⟩ := h
    rfl
  · obtain ⟨a, ns, rfl, ha, hl, hq⟩ := h
    refine ⟨_, PSs.nox (pss_cons (ps_asg (pe_lc (own := [("sign", 2)]) (g := gName 2) rfl sc_changes.nd (pi_list (pv 0)) (blkOk_by (own := [("sign", 2)]) (N := ["signs", "kept", "sign", "place"]) (sc := defScope (stm 28)) (by decide +kernel)) (fun _ _ _ _ _ => (pg_name (i := 2) sc_changes.nd rfl (.inl rfl))) (fun _ _ _ _ _ => (pts_one (pt_cmpR op_ne (pv 2) pe_int (nomark _)))) (fun _ _ _ _ _ => (pv 2))) (pg_name (i := 1) sc_changes.nd rfl (.inr rfl))) (pss_one (ps_ret (pe_callB call_len_seq (by rfl) T.z_len (by decide +kernel) (pa_cons (pe_lc (own := [("place", 3)]) (g := gName 3) rfl sc_changes.nd (pi_range2 rfl T.z_range (pa_cons pe_int (pa_cons (pe_callB call_len_seq (by rfl) T.z_len (by decide +kernel) (pa_cons (pv 1) pa_nil)) pa_nil))) (blkOk_by (own := [("place", 3)]) (N := ["signs", "kept", "sign", "place"]) (sc := defScope (stm 28)) (by decide +kernel)) (fun _ _ _ _ _ => (pg_name (i := 3) sc_changes.nd rfl (.inl rfl))) (fun _ _ _ _ _ => (pts_one (pt_cmpR op_ne (pe_ix (ixL K) (pv 1) (pv 3) (fun _ _ => rfl)) (pe_ix (ixL K) (pv 1) (pe_op op_sub (pv 3) pe_int) (fun _ _ => rfl)) (nomark _)))) (fun _ _ _ _ _ => (pv 3))) pa_nil))))), ?_⟩
    rw [show start ["signs", "kept", "sign", "place"] [V.ref a] = [some (V.ref a), none, none, none] from rfl]
    simp (maxSteps := 2000000) only [NewO, tLc, wipe, List.map_cons, List.map_nil, tSeq, tIfS, tTest, tOp, tVar, tC, rI0, tPar, tUn, rU, tCons, tNil, tAsg, gName, tCB, tRet, tTup, tLst, rI, rGcd, tNext, tCall, tCallN, tIf, tSl, tPart, tNoPart, rSlL, tDrop, tBM, tBM0, rAppend, rPop, tAndV, tOrV, tNotV, tAnd, tOr, tNot, tB, rEq, rNe, scal_int, gTup, gCons, gNil, gUnl, gSub, rSetL, tRevL, tAug, ipI, rIxL, rIxT, rCat, rRep, TruV, iList, iRng1, iRng2, iRng3, iEnum, tFor, tYes, List.append_nil, List.cons_append, List.nil_append, List.getElem?_cons_zero, List.getElem?_cons_succ, List.set_cons_zero, List.set_cons_succ, Option.some.injEq, exists_eq_left', exists_eq_left, exists_and_left, V.int.injEq, V.bl.injEq, V.ref.injEq, List.cons.injEq, and_true, true_and, and_assoc, decide_eq_true_eq, Bool.not_eq_true', if_true, if_false, Bool.false_eq_true, ite_true, ite_false, Bool.true_eq_false, reduceCtorEq, false_and, and_false, exists_false, false_or, or_false, gUnl, tCallN, rMax, tBreak, cxK]
    refine ⟨⟨_, ha⟩, fun D hD => lcl (xs := ns.map V.int) (fun i H' => PvF H D (fun i => decide (cI ns i ≠ 0)) (fun i => V.int (cI ns i)) i H') (PvF.start hD) (fun i H' hi p => ha.at p.same) (fun i x H' hx p => ?_) (fun H' p => ?_)⟩
    · obtain ⟨hi, rfl⟩ := get_int hx
      simp (maxSteps := 2000000) only [NewO, tLc, wipe, List.map_cons, List.map_nil, tSeq, tIfS, tTest, tOp, tVar, tC, rI0, tPar, tUn, rU, tCons, tNil, tAsg, gName, tCB, tRet, tTup, tLst, rI, rGcd, tNext, tCall, tCallN, tIf, tSl, tPart, tNoPart, rSlL, tDrop, tBM, tBM0, rAppend, rPop, tAndV, tOrV, tNotV, tAnd, tOr, tNot, tB, rEq, rNe, scal_int, gTup, gCons, gNil, gUnl, gSub, rSetL, tRevL, tAug, ipI, rIxL, rIxT, rCat, rRep, TruV, iList, iRng1, iRng2, iRng3, iEnum, tFor, tYes, List.append_nil, List.cons_append, List.nil_append, List.getElem?_cons_zero, List.getElem?_cons_succ, List.set_cons_zero, List.set_cons_succ, Option.some.injEq, exists_eq_left', exists_eq_left, exists_and_left, V.int.injEq, V.bl.injEq, V.ref.injEq, List.cons.injEq, and_true, true_and, and_assoc, decide_eq_true_eq, Bool.not_eq_true', if_true, if_false, Bool.false_eq_true, ite_true, ite_false, Bool.true_eq_false, reduceCtorEq, false_and, and_false, exists_false, false_or, or_false, gUnl, tCallN, rMax, tBreak]
      refine ite2 (fun c => ?_) (fun c => ?_)
      · exact p.next hD (Same.refl _) (by simpa using c) rfl (lt_size (by omega))
      · exact p.skip (Same.refl _) (by simpa using c)
    · rw [List.length_map] at p
      have hD' := p.d
      have ek : ((List.range ns.length).filter fun i => decide (cI ns i ≠ 0)).map (fun i => V.int (cI ns i)) = (ns.filter (· ≠ 0)).map V.int := by
        have : ((List.range ns.length).map (fun i => cI ns i)) = ns := by
          have := map_idx ns id
          simpa using this
        conv => rhs; rw [← this]
        rw [List.filter_map, List.map_map]; rfl
      rw [ek] at hD'
      have hk : IsL K H' D (ns.filter (· ≠ 0)) := .new hD'
      have kl : (ns.filter (· ≠ 0)).length ≤ ns.length := List.length_filter_le _ _
      have ec : chg ns = chgK (ns.filter (· ≠ 0)) := rfl
      generalize ns.filter (· ≠ 0) = ks at hk kl ec
      have nD := p.same
      refine ⟨_, .inl hk, by decide, by decide, by omega, by rw [List.length_map]; omega, fun D2 hD2 => lcr (fun i H2 => PvF H' D2 (fun i => decide (cI ks (i + 1) ≠ cI ks i)) (fun i => V.int ((i + 1 : Nat) : Int)) i H2) (PvF.start hD2) (fun i H2 hi p2 => ?_) (fun H2 p2 => ?_)⟩
      · rw [List.length_map] at hi
        have e1 : (1 : Int) + (i : Int) = ((i + 1 : Nat) : Int) := by omega
        have hk2 := hk.at p2.same
        refine ⟨_, _, rfl, hk2, _, ix_int (i := i + 1) e1 (by omega), _, rfl, _, hk2, _, ix_int (i := i) (by omega) (by omega), rfl, ite2 (fun c => ?_) (fun c => ?_)⟩
        · refine p2.next hD2 (Same.refl _) ?_ (by rw [e1]) (lt_size (by omega))
          have c := of_decide_eq_false c
          exact decide_eq_true fun z => c (by rw [z])
        · refine p2.skip (Same.refl _) ?_
          have c : decide (V.int (cI ks (i + 1)) = V.int (cI ks i)) = true := by simpa using c
          have c := V.int.inj (of_decide_eq_true c)
          exact decide_eq_false fun z => z c
      · rw [List.length_map, show ((ks.length : Int) - 1).toNat = ks.length - 1 by omega] at p2
        refine ⟨_, .inl (SqL.of p2.d), ?_⟩
        rw [List.length_map, ← chgK_count, ← ec]
        exact hq H2 (nD.trans p2.same)
theorem ok_variations (T : Tx P K mg base A D) : FnOk P w K mg base CX0 44 (A 24) (D 24) ["chain", "x"] (fun vs H Q _ => ∃ (c b : Addr) (S : List (List Int)) (x : Rat), vs = [.ref c, .ref b] ∧ IsC K H c S ∧ IsN K H b x ∧ S.length ≤ 100 ∧ (∀ a ∈ S, PBd a CB ∧ a.length ≤ 15) ∧ XB x ∧ ∀ H', Same H H' → Q (.int (vr x S)) H') := by
  refine T.f_variations.ok sc_variations (fun vs H Q E h => ?_) (fun cdv Ar outer s H vs Q E hr h => ?_)
  · obtain ⟨a, b, S, x, rfl, _⟩ := h
    rfl
  · obtain ⟨a, b, S, x, rfl, ha, hb, hl, hS, hx, hq⟩ := h
    refine ⟨_, PSs.nox (pss_one (ps_ret (pe_call (ok_changes T) (hr.mono (by decide)) (by rfl) T.g_changes T.f_changes.kp (b_changes T) .nil pass0 (pa_cons (pe_lc (own := [("a", 2)]) (g := gName 2) rfl sc_variations.nd (pi_list (pv 0)) (blkOk_by (own := [("a", 2)]) (N := ["chain", "x", "a"]) (sc := defScope (stm 29)) (by decide +kernel)) (fun _ _ _ _ _ => (pg_name (i := 2) sc_variations.nd rfl (.inl rfl))) (fun _ _ _ _ _ => pts_nil) (fun _ _ _ _ _ => (pe_call (ok_sign_at T) (hr.mono (by decide)) (by rfl) T.g_sign_at T.f_sign_at.kp (b_sign_at T) .nil pass0 (pa_cons (pv 2) (pa_cons (pv 1) pa_nil))))) pa_nil)))), ?_⟩
    rw [show start ["chain", "x", "a"] [V.ref a, V.ref b] = [some (V.ref a), some (V.ref b), none] from rfl]
    simp (maxSteps := 2000000) only [NewO, tLc, wipe, List.map_cons, List.map_nil, tSeq, tIfS, tTest, tOp, tVar, tC, rI0, tPar, tUn, rU, tCons, tNil, tAsg, gName, tCB, tRet, tTup, tLst, rI, rGcd, tNext, tCall, tCallN, tIf, tSl, tPart, tNoPart, rSlL, tDrop, tBM, tBM0, rAppend, rPop, tAndV, tOrV, tNotV, tAnd, tOr, tNot, tB, rEq, rNe, scal_int, gTup, gCons, gNil, gUnl, gSub, rSetL, tRevL, tAug, ipI, rIxL, rIxT, rCat, rRep, TruV, iList, iRng1, iRng2, iRng3, iEnum, tFor, tYes, List.append_nil, List.cons_append, List.nil_append, List.getElem?_cons_zero, List.getElem?_cons_succ, List.set_cons_zero, List.set_cons_succ, Option.some.injEq, exists_eq_left', exists_eq_left, exists_and_left, V.int.injEq, V.bl.injEq, V.ref.injEq, List.cons.injEq, and_true, true_and, and_assoc, decide_eq_true_eq, Bool.not_eq_true', if_true, if_false, Bool.false_eq_true, ite_true, ite_false, Bool.true_eq_false, reduceCtorEq, false_and, and_false, exists_false, false_or, or_false, gUnl, tCallN, rMax, tBreak, cxK, spSignAt]
    obtain ⟨C, vs, hv, hL⟩ := ha
    have ls := hL.len
    refine ⟨⟨_, hv⟩, fun D hD => lcl (xs := vs) (fun i H' => PvM H D (fun i => V.int (sg (evI (S.getD i []) x))) i H') (PvM.start hD) (fun i H' hi p => p.same.seq hv) (fun i y H' hy p => ?_) (fun H' p => ?_)⟩
    · have hi : i < S.length := by rw [← ls]; exact (List.getElem?_eq_some_iff.mp hy).1
      obtain ⟨u, e1, _, e2⟩ := hL.at_ i S[i] (List.getElem?_eq_getElem hi)
      rw [hy] at e1
      cases e1
      have hm := hS _ (List.getElem_mem hi)
      exact ⟨_, rfl, _, e2.at p.same, _, hb.at p.same, by omega, hm.1, hx, fun H2 s2 => p.next hD s2 (by rw [List.getD_eq_getElem?_getD, List.getElem?_eq_getElem hi]; rfl) (lt_size (by omega))⟩
    · rw [ls] at p
      have hd := p.d
      have e : (List.range S.length).map (fun i => V.int (sg (evI (S.getD i []) x))) = (sgs x S).map V.int := by
        rw [map_rangeV]
        congr 1
        refine List.ext_getElem (by simp [sgs]) fun i h1 h2 => ?_
        simp only [List.getElem_map, List.getElem_range, sgs, List.getD_eq_getElem?_getD]
        rw [List.getElem?_eq_getElem (by simpa using h1)]; rfl
      rw [e] at hd
      refine ⟨_, IsL.new hd, ?_, fun H2 s2 => hq H2 (p.same.trans s2)⟩
      simp only [sgs, List.length_map]; omega
theorem ok_variations_far (T : Tx P K mg base A D) : FnOk P w K mg base CX0 41 (A 25) (D 25) ["chain", "right"] (fun vs H Q _ => ∃ (c : Addr) (S : List (List Int)) (r : Bool), vs = [.ref c, .bl r] ∧ IsC K H c S ∧ S.length ≤ 100 ∧ (∀ a ∈ S, a ≠ []) ∧ ∀ H', Same H H' → Q (.int (vf r S)) H') := by
  refine T.f_variations_far.ok sc_variations_far (fun vs H Q E h => ?_) (fun cdv Ar outer s H vs Q E hr h => ?_)
  · obtain ⟨a, S, r, rfl, _⟩ := h
    rfl
  · obtain ⟨a, S, r, rfl, ha, hl, hS, hq⟩ := h
    refine ⟨_, PSs.nox (pss_cons (ps_set (i := 2) sc_variations_far.nd rfl (.inl rfl) (pe_lst pa_nil)) (pss_cons (ps_for PassesOwn.never rfl (pi_list (pv 0)) (pg_name (i := 3) sc_variations_far.nd rfl (.inl rfl)) (pss_cons (ps_set (i := 4) sc_variations_far.nd rfl (.inl rfl) (pe_call (ok_sign_of T) (hr.mono (by decide)) (by rfl) T.g_sign_of T.f_sign_of.kp (b_sign_of T) .nil pass0 (pa_cons (pe_ix ix_list (pv 3) (pe_un un_neg pe_int) (fun _ _ => rfl)) pa_nil))) (pss_cons (ps_if (PW.pt (pw_and (pt_not (pt_val (pv 1))) (pw_and1 (pt_cmpR op_eq (pe_op op_modN (pe_callB call_len_seq (by rfl) T.z_len (by decide +kernel) (pa_cons (pv 3) pa_nil)) pe_int) pe_int (nomark _))))) (pss_one (ps_set (i := 4) sc_variations_far.nd rfl (.inl rfl) (pe_un un_neg (pv 4)))) pss_nil) (pss_one (ps_expr (pe_bm PySem.F.plainAttrs_list PySem.F.slot_list_append PySem.F.type_list_append mt_append (pv 2) (pa_cons (pv 4) pa_nil))))))) (pss_one (ps_ret (pe_call (ok_changes T) (hr.mono (by decide)) (by rfl) T.g_changes T.f_changes.kp (b_changes T) .nil pass0 (pa_cons (pv 2) pa_nil)))))), ?_⟩
    rw [show start ["chain", "right", "signs", "a", "sign"] [V.ref a, V.bl r] = [some (V.ref a), some (V.bl r), none, none, none] from rfl]
    simp (maxSteps := 2000000) only [NewO, tLc, wipe, List.map_cons, List.map_nil, tSeq, tIfS, tTest, tOp, tVar, tC, rI0, tPar, tUn, rU, tCons, tNil, tAsg, gName, tCB, tRet, tTup, tLst, rI, rGcd, tNext, tCall, tCallN, tIf, tSl, tPart, tNoPart, rSlL, tDrop, tBM, tBM0, rAppend, rPop, tAndV, tOrV, tNotV, tAnd, tOr, tNot, tB, rEq, rNe, scal_int, gTup, gCons, gNil, gUnl, gSub, rSetL, tRevL, tAug, ipI, rIxL, rIxT, rCat, rRep, TruV, iList, iRng1, iRng2, iRng3, iEnum, tFor, tYes, List.append_nil, List.cons_append, List.nil_append, List.getElem?_cons_zero, List.getElem?_cons_succ, List.set_cons_zero, List.set_cons_succ, Option.some.injEq, exists_eq_left', exists_eq_left, exists_and_left, V.int.injEq, V.bl.injEq, V.ref.injEq, List.cons.injEq, and_true, true_and, and_assoc, decide_eq_true_eq, Bool.not_eq_true', if_true, if_false, Bool.false_eq_true, ite_true, ite_false, Bool.true_eq_false, reduceCtorEq, false_and, and_false, exists_false, false_or, or_false, gUnl, tCallN, rMax, tBreak, cxK]
    obtain ⟨C, vs, hv, hL⟩ := ha
    have ls := hL.len
    refine ⟨Nat.zero_le _, fun D hD => ⟨⟨_, (same_new hD).seq hv⟩, frl (xs := vs) (fun i σ H' => ∃ y3 y4, σ = [some (.ref a), some (.bl r), some (.ref D), y3, y4] ∧ PvM H D (fun i => V.int (far r (S.getD i []))) i H') ⟨_, _, rfl, PvM.start hD⟩ (fun i σ H' hi p => ?_) (fun i x σ H' hx p => ?_) (fun σ H' p => ?_)⟩⟩
    · obtain ⟨_, _, _, p⟩ := p
      exact p.same.seq hv
    · obtain ⟨y3, y4, rfl, p⟩ := p
      have hi : i < S.length := by rw [← ls]; exact (List.getElem?_eq_some_iff.mp hx).1
      obtain ⟨u, e1, _, e2⟩ := hL.at_ i S[i] (List.getElem?_eq_getElem hi)
      rw [hx] at e1
      cases e1
      have hm := hS _ (List.getElem_mem hi)
      simp (maxSteps := 2000000) only [NewO, tLc, wipe, List.map_cons, List.map_nil, tSeq, tIfS, tTest, tOp, tVar, tC, rI0, tPar, tUn, rU, tCons, tNil, tAsg, gName, tCB, tRet, tTup, tLst, rI, rGcd, tNext, tCall, tCallN, tIf, tSl, tPart, tNoPart, rSlL, tDrop, tBM, tBM0, rAppend, rPop, tAndV, tOrV, tNotV, tAnd, tOr, tNot, tB, rEq, rNe, scal_int, gTup, gCons, gNil, gUnl, gSub, rSetL, tRevL, tAug, ipI, rIxL, rIxT, rCat, rRep, TruV, iList, iRng1, iRng2, iRng3, iEnum, tFor, tYes, List.append_nil, List.cons_append, List.nil_append, List.getElem?_cons_zero, List.getElem?_cons_succ, List.set_cons_zero, List.set_cons_succ, Option.some.injEq, exists_eq_left', exists_eq_left, exists_and_left, V.int.injEq, V.bl.injEq, V.ref.injEq, List.cons.injEq, and_true, true_and, and_assoc, decide_eq_true_eq, Bool.not_eq_true', if_true, if_false, Bool.false_eq_true, ite_true, ite_false, Bool.true_eq_false, reduceCtorEq, false_and, and_false, exists_false, false_or, or_false, gUnl, tCallN, rMax, tBreak]
      have hu := e2.at p.same
      have eD : S.getD i [] = S[i] := by rw [List.getD_eq_getElem?_getD, List.getElem?_eq_getElem hi]; rfl
      have tD : tyV K "list" (V.ref D) H' := .inl ⟨rfl, _, SqL.of p.d⟩
      have fin : ∀ z : Int, z = far r S[i] → ∃ x, H' D = some (HO.lst x) ∧ x.length < sizeLine ∧ PvM H D (fun i => V.int (far r (S.getD i []))) (i + 1) (upd H' D (HO.lst (x ++ [V.int z]))) := fun z hz =>
        p.next hD (Same.refl _) (by rw [eD, hz]) (lt_size (by omega))
      have ef : far r S[i] = if r = false ∧ S[i].length % 2 = 0 then -(sI (cI S[i] (S[i].length - 1))) else sI (cI S[i] (S[i].length - 1)) := rfl
      refine ⟨_, hu, _, ix_last hm, _, rfl, ite2 (fun c => ⟨_, .inl hu, by decide, ?_⟩) (fun c => ?_)⟩
      · rw [List.length_map, Int.fmod_eq_emod_of_nonneg _ (by decide)]
        refine ite2 (fun c2 => ⟨tD, fin _ ?_⟩) (fun c2 => ⟨tD, fin _ ?_⟩)
        · rw [ef, if_pos ⟨c, by omega⟩]
        · rw [ef, if_neg fun z => c2 (by omega)]
      · refine ⟨tD, fin _ ?_⟩
        rw [ef, if_neg fun z => c z.1]
    · obtain ⟨y3, y4, rfl, p⟩ := p
      simp (maxSteps := 2000000) only [NewO, tLc, wipe, List.map_cons, List.map_nil, tSeq, tIfS, tTest, tOp, tVar, tC, rI0, tPar, tUn, rU, tCons, tNil, tAsg, gName, tCB, tRet, tTup, tLst, rI, rGcd, tNext, tCall, tCallN, tIf, tSl, tPart, tNoPart, rSlL, tDrop, tBM, tBM0, rAppend, rPop, tAndV, tOrV, tNotV, tAnd, tOr, tNot, tB, rEq, rNe, scal_int, gTup, gCons, gNil, gUnl, gSub, rSetL, tRevL, tAug, ipI, rIxL, rIxT, rCat, rRep, TruV, iList, iRng1, iRng2, iRng3, iEnum, tFor, tYes, List.append_nil, List.cons_append, List.nil_append, List.getElem?_cons_zero, List.getElem?_cons_succ, List.set_cons_zero, List.set_cons_succ, Option.some.injEq, exists_eq_left', exists_eq_left, exists_and_left, V.int.injEq, V.bl.injEq, V.ref.injEq, List.cons.injEq, and_true, true_and, and_assoc, decide_eq_true_eq, Bool.not_eq_true', if_true, if_false, Bool.false_eq_true, ite_true, ite_false, Bool.true_eq_false, reduceCtorEq, false_and, and_false, exists_false, false_or, or_false, gUnl, tCallN, rMax, tBreak]
      rw [ls] at p
      have hd := p.d
      have e : (List.range S.length).map (fun i => V.int (far r (S.getD i []))) = (S.map (far r)).map V.int := by
        rw [map_rangeV]
        congr 1
        refine List.ext_getElem (by simp) fun i h1 h2 => ?_
        simp only [List.getElem_map, List.getElem_range, List.getD_eq_getElem?_getD]
        rw [List.getElem?_eq_getElem (by simpa using h1)]; rfl
      rw [e] at hd
      refine ⟨_, IsL.new hd, ?_, fun H2 s2 => hq H2 (p.same.trans s2)⟩
      simp only [List.length_map]; omega
def spBound (K : PySem.W.Frag) : Sp := fun vs H Q _ => ∃ (a : Addr) (s : List Int) (R : List (List Int)), vs = [.ref a] ∧ IsL K H a s ∧ ChA s R ∧ ∀ H' B, Same H H' → BndOk R B → Q (.int B) H'
theorem ok_bound_of (T : Tx P K mg base A D) : FnOk P w K mg base CX0 40 (A 28) (D 28) ["p"] (spBound K) := by
  refine T.f_bound_of.ok sc_bound_of (fun vs H Q E h => ?_) (fun cdv Ar outer s H vs Q E hr h => ?_)
  · obtain ⟨a, ns, R, rfl, _⟩ := h
    rfl
  · obtain ⟨a, ns, R, rfl, ha, hA, hq⟩ := h
    refine ⟨_, PSs.nox (pss_cons (ps_set (i := 1) sc_bound_of.nd rfl (.inl rfl) (pe_callB (cr_max rfl) (by rfl) T.z_max (by decide +kernel) (pa_cons (pe_lc (own := [("coefficient", 3)]) (g := gName 3) rfl sc_bound_of.nd (pi_list (pe_slice sl_list (pv 0) po_none (po_some (pe_un un_neg pe_int)))) (blkOk_by (own := [("coefficient", 3)]) (N := ["p", "greatest", "lead", "coefficient"]) (sc := defScope (stm 33)) (by decide +kernel)) (fun _ _ _ _ _ => (pg_name (i := 3) sc_bound_of.nd rfl (.inl rfl))) (fun _ _ _ _ _ => pts_nil) (fun _ _ _ _ _ => (pe_callB call_abs (by rfl) T.z_abs (by decide +kernel) (pa_cons (pv 3) pa_nil)))) pa_nil))) (pss_cons (ps_set (i := 2) sc_bound_of.nd rfl (.inl rfl) (pe_callB call_abs (by rfl) T.z_abs (by decide +kernel) (pa_cons (pe_ix ix_list (pv 0) (pe_un un_neg pe_int) (fun _ _ => rfl)) pa_nil))) (pss_one (ps_ret (pe_op op_add pe_int (pe_op (op_fdivP (py_of T.seer T.tree hr (by decide) rfl rfl rfl rfl rfl)) (pe_op op_sub (pe_op op_add (pv 1) (pv 2)) pe_int) (pv 2))))))), ?_⟩
    rw [show start ["p", "greatest", "lead", "coefficient"] [V.ref a] = [some (V.ref a), none, none, none] from rfl]
    simp (maxSteps := 2000000) only [NewO, tLc, wipe, List.map_cons, List.map_nil, tSeq, tIfS, tTest, tOp, tVar, tC, rI0, tPar, tUn, rU, tCons, tNil, tAsg, gName, tCB, tRet, tTup, tLst, rI, rGcd, tNext, tCall, tCallN, tIf, tSl, tPart, tNoPart, rSlL, tDrop, tBM, tBM0, rAppend, rPop, tAndV, tOrV, tNotV, tAnd, tOr, tNot, tB, rEq, rNe, scal_int, gTup, gCons, gNil, gUnl, gSub, rSetL, tRevL, tAug, ipI, rIxL, rIxT, rCat, rRep, TruV, iList, iRng1, iRng2, iRng3, iEnum, tFor, tYes, List.append_nil, List.cons_append, List.nil_append, List.getElem?_cons_zero, List.getElem?_cons_succ, List.set_cons_zero, List.set_cons_succ, Option.some.injEq, exists_eq_left', exists_eq_left, exists_and_left, V.int.injEq, V.bl.injEq, V.ref.injEq, List.cons.injEq, and_true, true_and, and_assoc, decide_eq_true_eq, Bool.not_eq_true', if_true, if_false, Bool.false_eq_true, ite_true, ite_false, Bool.true_eq_false, reduceCtorEq, false_and, and_false, exists_false, false_or, or_false, gUnl, tCallN, rMax, tBreak, cxK]
    have nne := hA.ne
    have hl := hA.len
    have hlong := hA.long
    have ab : ∀ i : Int, (if i < 0 then -i else i) = (i.natAbs : Int) := fun i => by split <;> omega
    have em : ns.dropLast.map (fun i => (i.natAbs : Int)) = (List.range (ns.length - 1)).map fun i => ((cI ns i).natAbs : Int) := by
      refine List.ext_getElem (by simp) fun i h1 h2 => ?_
      simp only [List.length_map, List.length_dropLast] at h1
      simp only [List.getElem_map, List.getElem_range, List.getElem_dropLast]
      rw [cI_get (by omega)]
    refine ⟨_, ha, fun p hp => ?_⟩
    rw [cut_init]
    refine ⟨⟨_, SqL.of upd_same⟩, fun D hD => lcl (xs := ns.dropLast.map V.int) (fun i H' => PvM (upd H p (.lst (ns.dropLast.map V.int))) D (fun i => V.int ((cI ns i).natAbs : Int)) i H') (PvM.start hD) (fun i H' hi p => SqL.of (p.same _ _ upd_same)) (fun i x H' hx q => ?_) (fun H' q => ?_)⟩
    · obtain ⟨hi, rfl⟩ := get_int hx
      rw [List.length_dropLast] at hi
      refine ⟨_, rfl, q.next hD (Same.refl _) ?_ (lt_size (by omega))⟩
      rw [ab, show cI ns.dropLast i = cI ns i by rw [cI_get (by rw [List.length_dropLast]; omega), List.getElem_dropLast, cI_get (by omega)]]
    · have s := (same_new hp).trans q.same
      rw [List.length_map, List.length_dropLast] at q
      have hd := q.d
      rw [map_rangeV] at hd
      refine ⟨_, SqL.of hd, by rw [List.length_map, List.length_range]; omega, fun m hm hmax => ⟨_, ha.at s, _, ix_last nne, _, rfl, ?_, ?_⟩⟩
      · rw [ab]
        have := hA.tr.last nne
        omega
      · rw [ab]
        obtain ⟨k, hk, rfl⟩ := List.mem_map.mp hm
        refine hq H' _ s (bound_ok hA.mem hA.nd hA.tr nne hA.fac hA.pb (g := ((cI ns k).natAbs : Int)) (by omega) ?_ fun i hi => ?_)
        · have := hA.pb k
          rw [Int.natAbs_natCast]; exact this
        · have := hmax _ (List.mem_map.mpr ⟨i, List.mem_range.mpr (by omega), rfl⟩)
          omega
end
end W23
namespace W23
open PySem PySem.Spec PyProof.Rows L2 K23
section
variable {P : Program} {w : World} {K : PySem.W.Frag} {mg : Str → Option Value} {base : Heap} {A : Nat → Addr} {D : Nat → FuncData}
def spCount (K : PySem.W.Frag) : Sp := fun vs H Q _ => ∃ (c b : Addr) (R S : List (List Int)) (x : Rat), vs = [.ref c, .ref b] ∧ IsC K H c S ∧ IsN K H b x ∧ ChnB R S ∧ XB x ∧ ∀ H', Same H H' → Q (.int (NF R x)) H'
theorem ok_count_up_to (T : Tx P K mg base A D) : FnOk P w K mg base CX0 45 (A 27) (D 27) ["chain", "x"] (spCount K) := by
  refine T.f_count_up_to.ok sc_count_up_to (fun vs H Q E h => ?_) (fun cdv Ar outer s H vs Q E hr h => ?_)
  · obtain ⟨c, b, R, S, x, rfl, _⟩ := h
    rfl
  · obtain ⟨c, b, R, S, x, rfl, hc, hb, hC, hx, hq⟩ := h
    refine ⟨_, PSs.nox (pss_one (ps_ret (pe_op op_sub (pe_callN (ok_variations_far T) (hr.mono (by decide)) (by rfl) T.g_variations_far T.f_variations_far.kp (b_variations_far T) pass0 (pa_cons (pv 0) pa_nil) (pk_cons pe_bl pk_nil)) (pe_call (ok_variations T) (hr.mono (by decide)) (by rfl) T.g_variations T.f_variations.kp (b_variations T) .nil pass0 (pa_cons (pv 0) (pa_cons (pv 1) pa_nil)))))), ?_⟩
    rw [show start ["chain", "x"] [V.ref c, V.ref b] = [some (V.ref c), some (V.ref b)] from rfl]
    simp (maxSteps := 2000000) only [NewO, tLc, wipe, List.map_cons, List.map_nil, tSeq, tIfS, tTest, tOp, tVar, tC, rI0, tPar, tUn, rU, tCons, tNil, tAsg, gName, tCB, tRet, tTup, tLst, rI, rGcd, tNext, tCall, tCallN, tIf, tSl, tPart, tNoPart, rSlL, tDrop, tBM, tBM0, rAppend, rPop, tAndV, tOrV, tNotV, tAnd, tOr, tNot, tB, rEq, rNe, scal_int, gTup, gCons, gNil, gUnl, gSub, rSetL, tRevL, tAug, ipI, rIxL, rIxT, rCat, rRep, TruV, iList, iRng1, iRng2, iRng3, iEnum, tFor, tYes, List.append_nil, List.cons_append, List.nil_append, List.getElem?_cons_zero, List.getElem?_cons_succ, List.set_cons_zero, List.set_cons_succ, Option.some.injEq, exists_eq_left', exists_eq_left, exists_and_left, V.int.injEq, V.bl.injEq, V.ref.injEq, List.cons.injEq, and_true, true_and, and_assoc, decide_eq_true_eq, Bool.not_eq_true', if_true, if_false, Bool.false_eq_true, ite_true, ite_false, Bool.true_eq_false, reduceCtorEq, false_and, and_false, exists_false, false_or, or_false, gUnl, tCallN, rMax, tBreak, cxK]
    refine ⟨rfl, rfl, S, hc, hC.sz, fun a ha => (hC.chn.all a ha).2, fun H1 s1 => ⟨S, hc.at s1, x, hb.at s1, hC.sz, hC.el, hx, fun H2 s2 => ?_⟩⟩
    rw [hC.chn.count]
    exact hq H2 (s1.trans s2)
theorem ok_count_roots (T : Tx P K mg base A D) : FnOk P w K mg base CX0 45 (A 26) (D 26) ["p"] (fun vs H Q _ => ∃ (a : Addr) (s : List Int) (R : List (List Int)), vs = [.ref a] ∧ IsL K H a s ∧ ChA s R ∧ ∀ H', Same H H' → Q (.int (TF R)) H') := by
  refine T.f_count_roots.ok sc_count_roots (fun vs H Q E h => ?_) (fun cdv Ar outer s H vs Q E hr h => ?_)
  · obtain ⟨c, s, R, rfl, _⟩ := h
    rfl
  · obtain ⟨c, s, R, rfl, hc, hC, hq⟩ := h
    refine ⟨_, PSs.nox (pss_cons (ps_set (i := 1) sc_count_roots.nd rfl (.inl rfl) (pe_call (ok_chain_of T) (hr.mono (by decide)) (by rfl) T.g_chain_of T.f_chain_of.kp (b_chain_of T) .nil pass0 (pa_cons (pv 0) pa_nil))) (pss_one (ps_ret (pe_op op_sub (pe_callN (ok_variations_far T) (hr.mono (by decide)) (by rfl) T.g_variations_far T.f_variations_far.kp (b_variations_far T) pass0 (pa_cons (pv 1) pa_nil) (pk_cons pe_bl pk_nil)) (pe_callN (ok_variations_far T) (hr.mono (by decide)) (by rfl) T.g_variations_far T.f_variations_far.kp (b_variations_far T) pass0 (pa_cons (pv 1) pa_nil) (pk_cons pe_bl pk_nil)))))), ?_⟩
    rw [show start ["p", "chain"] [V.ref c] = [some (V.ref c), none] from rfl]
    simp (maxSteps := 2000000) only [NewO, tLc, wipe, List.map_cons, List.map_nil, tSeq, tIfS, tTest, tOp, tVar, tC, rI0, tPar, tUn, rU, tCons, tNil, tAsg, gName, tCB, tRet, tTup, tLst, rI, rGcd, tNext, tCall, tCallN, tIf, tSl, tPart, tNoPart, rSlL, tDrop, tBM, tBM0, rAppend, rPop, tAndV, tOrV, tNotV, tAnd, tOr, tNot, tB, rEq, rNe, scal_int, gTup, gCons, gNil, gUnl, gSub, rSetL, tRevL, tAug, ipI, rIxL, rIxT, rCat, rRep, TruV, iList, iRng1, iRng2, iRng3, iEnum, tFor, tYes, List.append_nil, List.cons_append, List.nil_append, List.getElem?_cons_zero, List.getElem?_cons_succ, List.set_cons_zero, List.set_cons_succ, Option.some.injEq, exists_eq_left', exists_eq_left, exists_and_left, V.int.injEq, V.bl.injEq, V.ref.injEq, List.cons.injEq, and_true, true_and, and_assoc, decide_eq_true_eq, Bool.not_eq_true', if_true, if_false, Bool.false_eq_true, ite_true, ite_false, Bool.true_eq_false, reduceCtorEq, false_and, and_false, exists_false, false_or, or_false, gUnl, tCallN, rMax, tBreak, cxK, spChain]
    refine ⟨s, hc, R, hC, fun H1 p S s1 h1 hS => ⟨rfl, rfl, S, h1, hS.sz, fun a ha => (hS.chn.all a ha).2, fun H2 s2 => ⟨rfl, rfl, S, h1.at s2, hS.sz, fun a ha => (hS.chn.all a ha).2, fun H3 s3 => ?_⟩⟩⟩
    rw [hS.chn.total]
    exact hq H3 (s1.trans (s2.trans s3))
theorem IsC.head {K : PySem.W.Frag} {H : Hp} {c : Addr} {R S : List (List Int)} (h : IsC K H c S) (hC : ChnB R S) : ∃ p s vs, SqL K H c vs ∧ atI vs 0 = some (.ref p) ∧ IsL K H p s ∧ ChA s R := by
  obtain ⟨C, vs, hv, hL⟩ := h
  obtain ⟨s, t, rfl, hA⟩ := hC.hd
  obtain ⟨p, e1, _, e2⟩ := hL.at_ 0 s rfl
  exact ⟨p, s, vs, hv, at_of rfl e1, e2, hA⟩
theorem _root_.K23.ChA.zero {s : List Int} {R : List (List Int)} (h : ChA s R) (x : Rat) : sg (evI s x) = 0 ↔ prodE R x = 0 := by
  obtain ⟨c, hc, e⟩ := h.fac
  rw [sg_eq_zero, e]
  constructor
  · intro z
    rcases Rat.mul_eq_zero.mp z with z | z
    · exact absurd z hc
    · exact z
  · intro z; rw [z]; grind
/-- a gap around a root -/
def spNear (K : PySem.W.Frag) : Sp := fun vs H Q _ => ∃ (c r g : Addr) (R S : List (List Int)) (m γ : Rat) (l d : Nat), vs = [.ref c, .ref r, .ref g] ∧ IsC K H c S ∧ IsN K H r m ∧ IsN K H g γ ∧ ChnB R S ∧ Dy l m ∧ DN (2 ^ l) γ ∧ prodE R m = 0 ∧ 0 < γ ∧ γ ≤ sep * ((2 ^ d : Nat) : Rat) ∧ l + d ≤ 3000 ∧ -((2 ^ 60 : Nat) : Rat) ≤ m - γ ∧ m + γ ≤ ((2 ^ 60 : Nat) : Rat) ∧ ∀ H' p γ', Same H H' → IsN K H' p γ' → 0 < γ' → γ' ≤ γ → DN (2 ^ (l + d)) γ' → NearOk R m γ' → Q (.ref p) H'
theorem ok_near (T : Tx P K mg base A D) : FnOk P w K mg base CX0 46 (A 30) (D 30) ["chain", "root", "gap"] (spNear K) := by
  refine T.f_near.ok sc_near (fun vs H Q E h => ?_) (fun cdv Ar outer s H vs Q E hr h => ?_)
  · obtain ⟨c, r, g, R, S, m, γ, l, d, rfl, _⟩ := h
    rfl
  · obtain ⟨c, r, g, R, S, m, γ, l, d, rfl, hc, hr', hg, hC, hm, hγ, hz, g0, g1, ld, b1, b2, hq⟩ := h
    refine ⟨_, PSs.nox (pss_cons (ps_set (i := 3) sc_near.nd rfl (.inl rfl) (pe_ix ix_list (pv 0) pe_int (fun _ _ => rfl))) (pss_one (ps_while PassesOwn.never (pt_val pe_bl) (pss_cons (ps_par (i := 4) (j := 5) (by rfl) sc_near.nd rfl rfl (by decide) rfl rfl (pa_cons (pe_call (ok_minus T) (hr.mono (by decide)) (by rfl) T.g_minus T.f_minus.kp (b_minus T) .nil pass0 (pa_cons (pv 1) (pa_cons (pv 2) pa_nil))) (pa_cons (pe_call (ok_plus T) (hr.mono (by decide)) (by rfl) T.g_plus T.f_plus.kp (b_plus T) .nil pass0 (pa_cons (pv 1) (pa_cons (pv 2) pa_nil))) pa_nil)) (by rfl)) (pss_cons (ps_set (i := 6) sc_near.nd rfl (.inl rfl) (pe_cmpR op_eq (pe_op op_sub (pe_call (ok_count_up_to T) (hr.mono (by decide)) (by rfl) T.g_count_up_to T.f_count_up_to.kp (b_count_up_to T) .nil pass0 (pa_cons (pv 0) (pa_cons (pv 5) pa_nil))) (pe_call (ok_count_up_to T) (hr.mono (by decide)) (by rfl) T.g_count_up_to T.f_count_up_to.kp (b_count_up_to T) .nil pass0 (pa_cons (pv 0) (pa_cons (pv 4) pa_nil)))) pe_int (nomark _))) (pss_cons (ps_if (PW.pt (pw_and (pt_val (pv 6)) (pw_and (pt_cmpR op_ne (pe_call (ok_sign_at T) (hr.mono (by decide)) (by rfl) T.g_sign_at T.f_sign_at.kp (b_sign_at T) .nil pass0 (pa_cons (pv 3) (pa_cons (pv 4) pa_nil))) pe_int (nomark _)) (pw_and1 (pt_cmpR op_ne (pe_call (ok_sign_at T) (hr.mono (by decide)) (by rfl) T.g_sign_at T.f_sign_at.kp (b_sign_at T) .nil pass0 (pa_cons (pv 3) (pa_cons (pv 5) pa_nil))) pe_int (nomark _)))))) (pss_one (ps_ret (pv 2))) pss_nil) (pss_one (ps_set (i := 2) sc_near.nd rfl (.inl rfl) (pe_call (ok_half T) (hr.mono (by decide)) (by rfl) T.g_half T.f_half.kp (b_half T) .nil pass0 (pa_cons (pv 2) (pa_cons (pe_glob (v := .ref _) rfl T.nought.choose_spec.1 rfl) pa_nil))))))))))), ?_⟩
    rw [show start ["chain", "root", "gap", "p", "low", "high", "alone"] [V.ref c, V.ref r, V.ref g] = [some (V.ref c), some (V.ref r), some (V.ref g), none, none, none, none] from rfl]
    simp (maxSteps := 2000000) only [NewO, tLc, wipe, List.map_cons, List.map_nil, tSeq, tIfS, tTest, tOp, tVar, tC, rI0, tPar, tUn, rU, tCons, tNil, tAsg, gName, tCB, tRet, tTup, tLst, rI, rGcd, tNext, tCall, tCallN, tIf, tSl, tPart, tNoPart, rSlL, tDrop, tBM, tBM0, rAppend, rPop, tAndV, tOrV, tNotV, tAnd, tOr, tNot, tB, rEq, rNe, scal_int, gTup, gCons, gNil, gUnl, gSub, rSetL, tRevL, tAug, ipI, rIxL, rIxT, rCat, rRep, TruV, iList, iRng1, iRng2, iRng3, iEnum, tFor, tYes, List.append_nil, List.cons_append, List.nil_append, List.getElem?_cons_zero, List.getElem?_cons_succ, List.set_cons_zero, List.set_cons_succ, Option.some.injEq, exists_eq_left', exists_eq_left, exists_and_left, V.int.injEq, V.bl.injEq, V.ref.injEq, List.cons.injEq, and_true, true_and, and_assoc, decide_eq_true_eq, Bool.not_eq_true', if_true, if_false, Bool.false_eq_true, ite_true, ite_false, Bool.true_eq_false, reduceCtorEq, false_and, and_false, exists_false, false_or, or_false, gUnl, tCallN, rMax, tBreak, cxK, spCount, spBin, spHalf, spSignAt, tWhile]
    obtain ⟨p, s, vs, hv, hp0, hp, hA⟩ := hc.head hC
    refine ⟨_, hv, _, hp0, fun e σ H' => ∃ (g' : Addr) (γ' : Rat) (k : Nat) (y4 y5 y6 : Option V), σ = [some (.ref c), some (.ref r), some (.ref g'), some (.ref p), y4, y5, y6] ∧ e = d - k ∧ k ≤ d ∧ Same H H' ∧ IsN K H' g' γ' ∧ 0 < γ' ∧ γ' ≤ γ ∧ DN (2 ^ (l + k)) γ' ∧ γ' ≤ sep * ((2 ^ (d - k) : Nat) : Rat), ⟨d, g, γ, 0, none, none, none, rfl, rfl, Nat.zero_le _, Same.refl _, hg, g0, Rat.le_refl, hγ, g1⟩, fun e σ H' hW => ?_⟩
    obtain ⟨g', γ', k, y4, y5, y6, rfl, rfl, hk, sm, hg', g0', gl', hd', gs'⟩ := hW
    simp (maxSteps := 2000000) only [NewO, tLc, wipe, List.map_cons, List.map_nil, tSeq, tIfS, tTest, tOp, tVar, tC, rI0, tPar, tUn, rU, tCons, tNil, tAsg, gName, tCB, tRet, tTup, tLst, rI, rGcd, tNext, tCall, tCallN, tIf, tSl, tPart, tNoPart, rSlL, tDrop, tBM, tBM0, rAppend, rPop, tAndV, tOrV, tNotV, tAnd, tOr, tNot, tB, rEq, rNe, scal_int, gTup, gCons, gNil, gUnl, gSub, rSetL, tRevL, tAug, ipI, rIxL, rIxT, rCat, rRep, TruV, iList, iRng1, iRng2, iRng3, iEnum, tFor, tYes, List.append_nil, List.cons_append, List.nil_append, List.getElem?_cons_zero, List.getElem?_cons_succ, List.set_cons_zero, List.set_cons_succ, Option.some.injEq, exists_eq_left', exists_eq_left, exists_and_left, V.int.injEq, V.bl.injEq, V.ref.injEq, List.cons.injEq, and_true, true_and, and_assoc, decide_eq_true_eq, Bool.not_eq_true', if_true, if_false, Bool.false_eq_true, ite_true, ite_false, Bool.true_eq_false, reduceCtorEq, false_and, and_false, exists_false, false_or, or_false, gUnl, tCallN, rMax, tBreak]
    have dm : DN (2 ^ (l + k)) m := hm.dn.up (by omega)
    have yl : Dy (l + k) (m - γ') := ⟨dm.sub hd', by grind, by have := hm.hi; grind⟩
    have yh : Dy (l + k) (m + γ') := ⟨dm.add hd', by have := hm.lo; grind, by grind⟩
    have bm := (hm.up (Nat.le_add_right l k)).xb (by omega)
    have bg : XB γ' := by
      have := hd'.bits (b := 61) (Nat.two_pow_pos _) (Nat.le_refl _) (by have : (0 : Rat) ≤ ((2 ^ 61 : Nat) : Rat) := by decide +kernel
                                                                         grind) (by have := hm.lo; have : ((2 ^ 61 : Nat) : Rat) = 2 * ((2 ^ 60 : Nat) : Rat) := by decide +kernel
                                                                                    grind)
      exact this.mono (by omega) (by omega)
    have xl := yl.xb (by omega)
    have xh := yh.xb (by omega)
    refine ⟨_, fun _ _ h => h, m, hr'.at sm, γ', hg', fit2 bm bg (by decide), fun H2 u s2 n2 e2 => ⟨m, hr'.at (sm.trans s2), γ', hg'.at s2, fit2 bm bg (by decide), fun H3 v s3 n3 e3 => ?_⟩⟩
    have s23 := s2.trans s3
    have hu : IsN K H3 u (m - γ') := .new (s3 _ _ e2)
    have hv' : IsN K H3 v (m + γ') := .new e3
    have sm3 := sm.trans s23
    refine ⟨R, S, hc.at sm3, _, hv', hC, xh, fun H4 s4 => ⟨R, S, hc.at (sm3.trans s4), _, hu.at s4, hC, xl, fun H5 s5 => ?_⟩⟩
    have s35 := s4.trans s5
    have sm5 := sm3.trans s35
    have fin : ¬ NearOk R m γ' → ∀ (H6 : Hp) (al : Bool), Same H H6 → IsN K H6 g' γ' → ∃ x, IsN K H6 g' x ∧ ∃ x3, IsN K H6 T.nought.choose x3 ∧ Fit2 x x3 ∧ (∃ k, RB (x + x3) k ∧ k ≤ 134217720) ∧ ∀ (H' : Hp) (p1 : Addr), Same H6 H' → H6 p1 = none → H' p1 = some (nT ((x + x3) / 2)) → ∃ m', m' < d - k ∧ ∃ (g' : Addr) (γ' : Rat) (k : Nat) (y4 y5 y6 : Option V), [some (V.ref c), some (.ref r), some (.ref p1), some (.ref p), some (.ref u), some (.ref v), some (.bl al)] = [some (.ref c), some (.ref r), some (.ref g'), some (.ref p), y4, y5, y6] ∧ m' = d - k ∧ k ≤ d ∧ Same H H' ∧ IsN K H' g' γ' ∧ 0 < γ' ∧ γ' ≤ γ ∧ DN (2 ^ (l + k)) γ' ∧ γ' ≤ sep * ((2 ^ (d - k) : Nat) : Rat) := fun bad H6 al s6 hg6 => by
      have hk2 : k < d := by
        apply Decidable.byContradiction
        intro z
        have e0 : d - k = 0 := by omega
        rw [e0] at gs'
        refine bad (near_ok hC.chn.mem hC.chn.nd hz g0' ?_)
        have : ((2 ^ 0 : Nat) : Rat) = 1 := rfl
        rw [this] at gs'
        grind
      have ez : γ' + 0 = γ' := by grind
      refine ⟨γ', hg6, 0, T.nought.choose_spec.2 _, fit2 bg (R2b.zero) (by decide), ⟨4001, by rw [ez]; exact R2b.rb bg (by omega) (by omega), by decide⟩, fun H7 p1 s7 n7 e7 => ⟨d - (k + 1), by omega, p1, γ' / 2, k + 1, _, _, _, rfl, rfl, by omega, s6.trans s7, ?_, by grind, by grind, ?_, ?_⟩⟩
      · rw [ez] at e7; exact .new e7
      · have := hd'.half
        rwa [← Nat.pow_succ] at this
      · have e1 : d - k = d - (k + 1) + 1 := by omega
        rw [e1, pow2r] at gs'
        grind
    have hg5 := hg'.at (s23.trans s35)
    refine ite2 (fun c1 => ?_) (fun c1 => ?_)
    · refine ⟨s, hp.at sm5, _, hu.at s35, by have := hA.len; omega, hA.pb.mono (by decide), xl, fun H6 s6 => ite2 (fun c2 => ?_) (fun c2 => ?_)⟩
      · refine ⟨s, hp.at (sm5.trans s6), _, hv'.at (s35.trans s6), by have := hA.len; omega, hA.pb.mono (by decide), xh, fun H7 s7 => ite2 (fun c3 => ?_) (fun c3 => ?_)⟩
        · have c2 := of_decide_eq_false c2
          have c3 := of_decide_eq_false c3
          exact hq H7 g' γ' (sm5.trans (s6.trans s7)) (hg5.at (s6.trans s7)) g0' gl' (hd'.up (by omega)) ⟨c1, fun z => c2 ((hA.zero _).mpr z), fun z => c3 ((hA.zero _).mpr z)⟩
        · refine fin (fun N => c3 (decide_eq_false fun z => N.hi ((hA.zero _).mp z))) H7 _ (sm5.trans (s6.trans s7)) (hg5.at (s6.trans s7))
      · exact fin (fun N => c2 (decide_eq_false fun z => N.lo ((hA.zero _).mp z))) H6 _ (sm5.trans s6) (hg5.at s6)
    · exact fin (fun N => c1 N.one) H5 _ sm5 hg5
/-- an interval: a pair of numbers -/
def IsI (K : PySem.W.Frag) (H : Hp) (a : Addr) (lo hi : Rat) : Prop := ∃ p q, SqT K H a [.ref p, .ref q] ∧ IsN K H p lo ∧ IsN K H q hi
theorem IsI.at {K : PySem.W.Frag} {H H' : Hp} {a : Addr} {lo hi : Rat} (h : IsI K H a lo hi) (s : Same H H') : IsI K H' a lo hi :=
  let ⟨p, q, a, b, c⟩ := h; ⟨p, q, same_tup s a, b.at s, c.at s⟩
def adr (e : Addr × Rat × Rat) : V := .ref e.1
theorem filter_idx {α : Type} (L : List α) (q : α → Bool) (g : α → V) (d : α) : ((List.range L.length).filter fun i => q (L.getD i d)).map (fun i => g (L.getD i d)) = (L.filter q).map g := by
  have : (List.range L.length).map (fun i => L.getD i d) = L := by
    refine List.ext_getElem (by simp) fun i h1 h2 => ?_
    simp only [List.getElem_map, List.getElem_range, List.getD_eq_getElem?_getD]
    rw [List.getElem?_eq_getElem h2]; rfl
  conv => rhs; rw [← this]
  rw [List.filter_map, List.map_map]; rfl
theorem getD_of {α : Type} {L : List α} {i : Nat} {d : α} (h : i < L.length) : L.getD i d = L[i] := by
  rw [List.getD_eq_getElem?_getD, List.getElem?_eq_getElem h]; rfl
theorem get_adr {L : List (Addr × Rat × Rat)} {i : Nat} {x : V} (h : (L.map adr)[i]? = some x) : ∃ hi : i < L.length, x = adr L[i] := by
  rw [List.getElem?_map] at h
  cases q : L[i]? with
  | none => rw [q] at h; cases h
  | some c =>
    rw [q] at h
    obtain ⟨hi, e⟩ := List.getElem?_eq_some_iff.mp q
    exact ⟨hi, by rw [e]; exact (Option.some.inj h).symm⟩
def spSort (K : PySem.W.Frag) : Sp := fun vs H Q _ => ∃ (a : Addr) (es : List (Addr × Rat × Rat)), vs = [.ref a] ∧ SqL K H a (es.map adr) ∧ es.length ≤ 1000 ∧ (∀ e ∈ es, IsI K H e.1 e.2.1 e.2.2 ∧ XB e.2.1) ∧ (es.Pairwise fun a b => a.2.1 ≠ b.2.1) ∧ ∀ (H' : Hp) (p : Addr) (es' : List (Addr × Rat × Rat)), Same H H' → H' p = some (.lst (es'.map adr)) → es'.Perm es → (es'.Pairwise fun a b => a.2.1 < b.2.1) → Q (.ref p) H'
theorem ok_in_order (T : Tx P K mg base A D) : FnOk P w K mg base CX0 41 (A 33) (D 33) ["intervals"] (spSort K) := by
  refine T.f_in_order.ok sc_in_order (fun vs H Q E h => ?_) (fun cdv Ar outer s H vs Q E hr h => ?_)
  · obtain ⟨a, es, rfl, _⟩ := h
    rfl
  · obtain ⟨a, es, rfl, ha, hl, hI, hd, hq⟩ := h
    refine ⟨_, PSs.nox (pss_cons (ps_set (i := 1) sc_in_order.nd rfl (.inl rfl) (pe_lst pa_nil)) (pss_cons (ps_for PassesOwn.never rfl (pi_list (pv 0)) (pg_name (i := 2) sc_in_order.nd rfl (.inr rfl)) (pss_cons (ps_setLc (i := 3) (own := [("other", 4)]) (g := gName 4) rfl sc_in_order.nd rfl rfl (sw_true rfl rfl rfl (by decide +kernel)) (pi_list (pv 1)) (blkOk_by (own := [("other", 4)]) (N := ["intervals", "found", "one", "before", "other"]) (sc := defScope (stm 38)) (by decide +kernel)) (fun _ _ _ _ _ => (pg_name (i := 4) sc_in_order.nd rfl (.inl rfl))) (fun _ _ _ _ _ => (pts_one (pt_cmpR op_lt (pe_call (ok_compare T) (hr.mono (by decide)) (by rfl) T.g_compare T.f_compare.kp (b_compare T) .nil pass0 (pa_cons (pe_ix (ixT K) (pv 4) pe_int (fun _ _ => rfl)) (pa_cons (pe_ix (ixT K) (pv 2) pe_int (fun _ _ => rfl)) pa_nil))) pe_int (nomark _)))) (fun _ _ _ _ _ => (pv 4))) (pss_one (ps_set (i := 1) sc_in_order.nd rfl (.inl rfl) (pe_op op_cat (pe_op op_cat (pv 3) (pe_lst (pa_cons (pv 2) pa_nil))) (pe_slice sl_list (pv 1) (po_some (pe_callB call_len_seq (by rfl) T.z_len (by decide +kernel) (pa_cons (pv 3) pa_nil))) po_none)))))) (pss_one (ps_ret (pv 1))))), ?_⟩
    rw [show start ["intervals", "found", "one", "before", "other"] [V.ref a] = [some (V.ref a), none, none, none, none] from rfl]
    simp (maxSteps := 2000000) only [NewO, tLc, wipe, List.map_cons, List.map_nil, tSeq, tIfS, tTest, tOp, tVar, tC, rI0, tPar, tUn, rU, tCons, tNil, tAsg, gName, tCB, tRet, tTup, tLst, rI, rGcd, tNext, tCall, tCallN, tIf, tSl, tPart, tNoPart, rSlL, tDrop, tBM, tBM0, rAppend, rPop, tAndV, tOrV, tNotV, tAnd, tOr, tNot, tB, rEq, rNe, scal_int, gTup, gCons, gNil, gUnl, gSub, rSetL, tRevL, tAug, ipI, rIxL, rIxT, rCat, rRep, TruV, iList, iRng1, iRng2, iRng3, iEnum, tFor, tYes, List.append_nil, List.cons_append, List.nil_append, List.getElem?_cons_zero, List.getElem?_cons_succ, List.set_cons_zero, List.set_cons_succ, Option.some.injEq, exists_eq_left', exists_eq_left, exists_and_left, V.int.injEq, V.bl.injEq, V.ref.injEq, List.cons.injEq, and_true, true_and, and_assoc, decide_eq_true_eq, Bool.not_eq_true', if_true, if_false, Bool.false_eq_true, ite_true, ite_false, Bool.true_eq_false, reduceCtorEq, false_and, and_false, exists_false, false_or, or_false, gUnl, tCallN, rMax, tBreak, cxK, spCompare]
    refine ⟨Nat.zero_le _, fun F0 nF => ⟨⟨_, (same_new nF).seq ha⟩, frl (xs := es.map adr) (fun i σ H' => ∃ (F : Addr) (L : List (Addr × Rat × Rat)) (y2 y3 y4 : Option V), σ = [some (.ref a), some (.ref F), y2, y3, y4] ∧ Same H H' ∧ H' F = some (.lst (L.map adr)) ∧ L.Perm (es.take i) ∧ L.Pairwise fun a b => a.2.1 < b.2.1) ⟨F0, [], none, none, none, rfl, same_new nF, upd_same, List.Perm.refl _, .nil⟩ (fun i σ H' hi p => ?_) (fun i x σ H' hx p => ?_) (fun σ H' p => ?_)⟩⟩
    · obtain ⟨F, L, y2, y3, y4, rfl, s, _⟩ := p
      exact s.seq ha
    · obtain ⟨hi, rfl⟩ := get_adr hx
      obtain ⟨F, L, y2, y3, y4, rfl, s, hF, hP, hS⟩ := p
      simp (maxSteps := 2000000) only [NewO, tLc, wipe, List.map_cons, List.map_nil, tSeq, tIfS, tTest, tOp, tVar, tC, rI0, tPar, tUn, rU, tCons, tNil, tAsg, gName, tCB, tRet, tTup, tLst, rI, rGcd, tNext, tCall, tCallN, tIf, tSl, tPart, tNoPart, rSlL, tDrop, tBM, tBM0, rAppend, rPop, tAndV, tOrV, tNotV, tAnd, tOr, tNot, tB, rEq, rNe, scal_int, gTup, gCons, gNil, gUnl, gSub, rSetL, tRevL, tAug, ipI, rIxL, rIxT, rCat, rRep, TruV, iList, iRng1, iRng2, iRng3, iEnum, tFor, tYes, List.append_nil, List.cons_append, List.nil_append, List.getElem?_cons_zero, List.getElem?_cons_succ, List.set_cons_zero, List.set_cons_succ, Option.some.injEq, exists_eq_left', exists_eq_left, exists_and_left, V.int.injEq, V.bl.injEq, V.ref.injEq, List.cons.injEq, and_true, true_and, and_assoc, decide_eq_true_eq, Bool.not_eq_true', if_true, if_false, Bool.false_eq_true, ite_true, ite_false, Bool.true_eq_false, reduceCtorEq, false_and, and_false, exists_false, false_or, or_false, gUnl, tCallN, rMax, tBreak]
      have hLl : L.length ≤ 1000 := by
        have := hP.length_eq
        rw [List.length_take] at this
        omega
      have hLm : ∀ e ∈ L, e ∈ es.take i := fun e he => hP.mem_iff.mp he
      have hm : es[i] ∈ es := List.getElem_mem hi
      have iI := hI _ hm
      refine ⟨⟨_, SqL.of hF⟩, fun D hD => lcl (xs := L.map adr) (fun k H' => PvF _ D (fun k => decide ((L.getD k (0, 0, 0)).2.1 < es[i].2.1)) (fun k => adr (L.getD k (0, 0, 0))) k H') (PvF.start hD) (fun k H2 hk p => SqL.of (p.same _ _ hF)) (fun k y H2 hy p => ?_) (fun H2 p => ?_)⟩
      · obtain ⟨hk, rfl⟩ := get_adr hy
        simp (maxSteps := 2000000) only [NewO, tLc, wipe, List.map_cons, List.map_nil, tSeq, tIfS, tTest, tOp, tVar, tC, rI0, tPar, tUn, rU, tCons, tNil, tAsg, gName, tCB, tRet, tTup, tLst, rI, rGcd, tNext, tCall, tCallN, tIf, tSl, tPart, tNoPart, rSlL, tDrop, tBM, tBM0, rAppend, rPop, tAndV, tOrV, tNotV, tAnd, tOr, tNot, tB, rEq, rNe, scal_int, gTup, gCons, gNil, gUnl, gSub, rSetL, tRevL, tAug, ipI, rIxL, rIxT, rCat, rRep, TruV, iList, iRng1, iRng2, iRng3, iEnum, tFor, tYes, List.append_nil, List.cons_append, List.nil_append, List.getElem?_cons_zero, List.getElem?_cons_succ, List.set_cons_zero, List.set_cons_succ, Option.some.injEq, exists_eq_left', exists_eq_left, exists_and_left, V.int.injEq, V.bl.injEq, V.ref.injEq, List.cons.injEq, and_true, true_and, and_assoc, decide_eq_true_eq, Bool.not_eq_true', if_true, if_false, Bool.false_eq_true, ite_true, ite_false, Bool.true_eq_false, reduceCtorEq, false_and, and_false, exists_false, false_or, or_false, gUnl, tCallN, rMax, tBreak]
        have hk1 := List.getElem_mem hk
        have hk2 := hI _ (List.mem_of_mem_take (hLm _ hk1))
        have s2 := s.trans p.same
        obtain ⟨u1, u2, a1, a2, a3⟩ := hk2.1.at s2
        obtain ⟨v1, v2, b1, b2, b3⟩ := iI.1.at s2
        refine ⟨_, rfl, _, a1, _, rfl, _, rfl, _, b1, _, rfl, _, rfl, _, rfl, _, a2, _, b2, fit2 hk2.2 iI.2 (by decide), ?_⟩
        have e : L.getD k (0, 0, 0) = L[k] := getD_of hk
        by_cases c : L[k].2.1 < es[i].2.1
        · rw [if_pos c, if_pos (by decide)]
          exact p.next hD (Same.refl _) (by rw [e]; exact decide_eq_true c) (by rw [e]) (lt_size (by omega))
        · rw [if_neg c, if_neg (by split <;> decide)]
          exact p.skip (Same.refl _) (by rw [e]; exact decide_eq_false c)
      · rw [List.length_map] at p
        have hd' := p.d
        rw [filter_idx L (fun e => decide (e.2.1 < es[i].2.1)) adr (0, 0, 0)] at hd'
        have s2 := s.trans p.same
        have hF2 := p.same _ _ hF
        refine ⟨by show 1 ≤ sizeLine; decide, fun p1 n1 => ⟨_, by rw [upd_ne (ne_of_none hd' n1)]; exact hd', _, upd_same, ?_, fun p2 n2 => ?_⟩⟩
        · rw [List.length_map]
          have := List.length_filter_le (fun e : Addr × Rat × Rat => decide (e.2.1 < es[i].2.1)) L
          exact le_size (by show _ + 1 ≤ _; omega)
        have t1 := same_new (o := .lst [adr es[i]]) n1
        have t2 := t1.trans (same_new (o := .lst ((L.filter (fun e => decide (e.2.1 < es[i].2.1))).map adr ++ [adr es[i]])) n2)
        refine ⟨_, .inl (SqL.of (t2 _ _ hd')), _, SqL.of (t2 _ _ hF2), fun p3 n3 => ⟨_, by rw [upd_ne (ne_of_none (by rw [upd_same]) n3), upd_same], _, upd_same, ?_, fun p4 n4 => ?_⟩⟩
        · rw [cut_drop, List.length_append, List.length_drop, List.length_map, List.length_map]
          have := List.length_filter_le (fun e : Addr × Rat × Rat => decide (e.2.1 < es[i].2.1)) L
          exact le_size (by show _ + 1 + _ ≤ _; omega)
        have t4 := (t2.trans (same_new n3)).trans (same_new (o := .lst ((L.filter (fun e => decide (e.2.1 < es[i].2.1))).map adr ++ [adr es[i]] ++ cutV (L.map adr) (some ↑((L.filter (fun e => decide (e.2.1 < es[i].2.1))).map adr).length) none)) n4)
        have ne : ∀ a ∈ L, a.2.1 ≠ es[i].2.1 := fun a ha => by
          have := hLm a ha
          obtain ⟨j, hj, e⟩ := List.getElem_of_mem this
          rw [List.length_take] at hj
          rw [List.getElem_take] at e
          rw [← e]
          exact (List.pairwise_iff_getElem.mp hd) j i (by omega) hi (by omega)
        obtain ⟨i1, i2⟩ := insS_ok (key := fun e : Addr × Rat × Rat => e.2.1) hS ne
        refine ⟨s2.trans t4, insS (fun e : Addr × Rat × Rat => e.2.1) L es[i], ?_, ?_, i1⟩
        · rw [upd_same, cut_drop, List.length_map]
          unfold insS
          rw [List.map_append, List.map_append, List.map_drop]; rfl
        · refine i2.trans ?_
          rw [List.take_succ, List.getElem?_eq_getElem hi]
          exact (List.Perm.cons _ hP).trans (List.perm_append_comm (l₁ := [es[i]]) (l₂ := es.take i))
    · obtain ⟨F, L, y2, y3, y4, rfl, s, hF, hP, hS⟩ := p
      simp (maxSteps := 2000000) only [NewO, tLc, wipe, List.map_cons, List.map_nil, tSeq, tIfS, tTest, tOp, tVar, tC, rI0, tPar, tUn, rU, tCons, tNil, tAsg, gName, tCB, tRet, tTup, tLst, rI, rGcd, tNext, tCall, tCallN, tIf, tSl, tPart, tNoPart, rSlL, tDrop, tBM, tBM0, rAppend, rPop, tAndV, tOrV, tNotV, tAnd, tOr, tNot, tB, rEq, rNe, scal_int, gTup, gCons, gNil, gUnl, gSub, rSetL, tRevL, tAug, ipI, rIxL, rIxT, rCat, rRep, TruV, iList, iRng1, iRng2, iRng3, iEnum, tFor, tYes, List.append_nil, List.cons_append, List.nil_append, List.getElem?_cons_zero, List.getElem?_cons_succ, List.set_cons_zero, List.set_cons_succ, Option.some.injEq, exists_eq_left', exists_eq_left, exists_and_left, V.int.injEq, V.bl.injEq, V.ref.injEq, List.cons.injEq, and_true, true_and, and_assoc, decide_eq_true_eq, Bool.not_eq_true', if_true, if_false, Bool.false_eq_true, ite_true, ite_false, Bool.true_eq_false, reduceCtorEq, false_and, and_false, exists_false, false_or, or_false, gUnl, tCallN, rMax, tBreak]
      rw [List.length_map, List.take_length] at hP
      exact hq H' F L s hF hP hS
end
end W23
namespace W23
open PySem PySem.Spec PyProof.Rows L2 K23
theorem upd_tup {K : PySem.W.Frag} {H : Hp} {p a : Addr} {ts xs ys : List V} (h : SqT K H p ts) (ha : H a = some (.lst xs)) : SqT K (upd H a (.lst ys)) p ts := by
  rcases h with (h | ⟨o, h⟩) | h
  · refine .inl (.inl ?_)
    rw [upd_ne (ne_of h ha (by intro z; cases z))]; exact h
  · refine .inl (.inr ⟨o, ?_⟩)
    rw [upd_ne (ne_of h ha (by intro z; cases z))]; exact h
  · exact .inr h
theorem IsI.upd {K : PySem.W.Frag} {H : Hp} {p a : Addr} {lo hi : Rat} {xs ys : List V} (h : IsI K H p lo hi) (ha : H a = some (.lst xs)) : IsI K (L2.upd H a (.lst ys)) p lo hi :=
  let ⟨u, v, x, y, z⟩ := h; ⟨u, v, upd_tup x ha, upd_lst y ha, upd_lst z ha⟩
abbrev WE := Addr × Rat × Rat × Nat × Nat
def adw (e : WE) : V := .ref e.1
/-- found and waiting -/
structure Sv (K : PySem.W.Frag) (R : List (List Int)) (H : Hp) (fl wl : Addr) (Es : List (Addr × Rat × Rat)) (Ws : List WE) : Prop where
  f : H fl = some (.lst (Es.map adr))
  w : H wl = some (.lst (Ws.map adw).reverse)
  ne : fl ≠ wl
  es : ∀ e ∈ Es, IsI K H e.1 e.2.1 e.2.2 ∧ Fo R e.2.1 e.2.2
  ws : ∀ e ∈ Ws, IsI K H e.1 e.2.1 e.2.2.1 ∧ Wt R e.2.1 e.2.2.1 e.2.2.2.1 e.2.2.2.2
theorem Sv.at {K : PySem.W.Frag} {R : List (List Int)} {H H' : Hp} {fl wl : Addr} {Es : List (Addr × Rat × Rat)} {Ws : List WE} (h : Sv K R H fl wl Es Ws) (s : Same H H') : Sv K R H' fl wl Es Ws :=
  ⟨s _ _ h.f, s _ _ h.w, h.ne, fun e he => ⟨(h.es e he).1.at s, (h.es e he).2⟩, fun e he => ⟨(h.ws e he).1.at s, (h.ws e he).2⟩⟩
theorem Sv.pop {K : PySem.W.Frag} {R : List (List Int)} {H : Hp} {fl wl : Addr} {Es : List (Addr × Rat × Rat)} {e : WE} {Ws : List WE} (h : Sv K R H fl wl Es (e :: Ws)) :
    Sv K R (upd H wl (.lst ((e :: Ws).map adw).reverse.dropLast)) fl wl Es Ws ∧ IsI K (upd H wl (.lst ((e :: Ws).map adw).reverse.dropLast)) e.1 e.2.1 e.2.2.1 ∧ ((e :: Ws).map adw).reverse[((e :: Ws).map adw).reverse.length - 1]? = some (adw e) := by
  have q : ((e :: Ws).map adw).reverse = (Ws.map adw).reverse ++ [adw e] := by simp
  refine ⟨⟨by rw [upd_ne h.ne]; exact h.f, ?_, h.ne, fun x hx => ⟨(h.es x hx).1.upd h.w, (h.es x hx).2⟩, fun x hx => ⟨(h.ws x (List.mem_cons_of_mem _ hx)).1.upd h.w, (h.ws x (List.mem_cons_of_mem _ hx)).2⟩⟩, (h.ws e List.mem_cons_self).1.upd h.w, ?_⟩
  · rw [upd_same, q, List.dropLast_concat]
  · rw [q, List.length_append, List.getElem?_append_right (by show _ ≤ _ + 1 - 1; omega)]
    show [adw e][_ + 1 - 1 - _]? = _
    rw [Nat.add_sub_cancel, Nat.sub_self]; rfl
theorem Sv.pushW {K : PySem.W.Frag} {R : List (List Int)} {H : Hp} {fl wl : Addr} {Es : List (Addr × Rat × Rat)} {Ws : List WE} (h : Sv K R H fl wl Es Ws) (e : WE) (he : IsI K H e.1 e.2.1 e.2.2.1) (hw : Wt R e.2.1 e.2.2.1 e.2.2.2.1 e.2.2.2.2) :
    Sv K R (upd H wl (.lst ((Ws.map adw).reverse ++ [.ref e.1]))) fl wl Es (e :: Ws) := by
  refine ⟨by rw [upd_ne h.ne]; exact h.f, ?_, h.ne, fun x hx => ⟨(h.es x hx).1.upd h.w, (h.es x hx).2⟩, fun x hx => ?_⟩
  · rw [upd_same, List.map_cons, List.reverse_cons]; rfl
  · rcases List.mem_cons.mp hx with rfl | hx
    · exact ⟨he.upd h.w, hw⟩
    · exact ⟨(h.ws x hx).1.upd h.w, (h.ws x hx).2⟩
theorem Sv.pushF {K : PySem.W.Frag} {R : List (List Int)} {H : Hp} {fl wl : Addr} {Es : List (Addr × Rat × Rat)} {Ws : List WE} (h : Sv K R H fl wl Es Ws) (e : Addr × Rat × Rat) (he : IsI K H e.1 e.2.1 e.2.2) (hf : Fo R e.2.1 e.2.2) :
    Sv K R (upd H fl (.lst (Es.map adr ++ [.ref e.1]))) fl wl (Es ++ [e]) Ws := by
  refine ⟨?_, by rw [upd_ne h.ne.symm]; exact h.w, h.ne, fun x hx => ?_, fun x hx => ⟨(h.ws x hx).1.upd h.f, (h.ws x hx).2⟩⟩
  · rw [upd_same, List.map_append]; rfl
  · rcases List.mem_append.mp hx with hx | hx
    · exact ⟨(h.es x hx).1.upd h.f, (h.es x hx).2⟩
    · rcases List.mem_cons.mp hx with rfl | hx
      · exact ⟨he.upd h.f, hf⟩
      · cases hx
/-- a new pair -/
theorem IsI.new {K : PySem.W.Frag} {H : Hp} {u p q : Addr} {lo hi : Rat} (hp : IsN K H p lo) (hq : IsN K H q hi) (n : H u = none) : IsI K (L2.upd H u (.tup [.ref p, .ref q])) u lo hi :=
  ⟨p, q, SqT.of upd_same, hp.at (same_new n), hq.at (same_new n)⟩
section
variable {P : Program} {w : World} {K : PySem.W.Frag} {mg : Str → Option Value} {base : Heap} {A : Nat → Addr} {D : Nat → FuncData}
def spIvs (K : PySem.W.Frag) : Sp := fun vs H Q _ => ∃ (c w1 : Addr) (R S : List (List Int)), vs = [.ref c, .ref w1] ∧ IsC K H c S ∧ IsN K H w1 1 ∧ ChnB R S ∧ ∀ (H' : Hp) (p : Addr) (es : List (Addr × Rat × Rat)), Same H H' → H' p = some (.lst (es.map adr)) → (∀ e ∈ es, IsI K H' e.1 e.2.1 e.2.2) → (∀ k : Nat, (k : Int) < TF R → ∃ e, es[k]? = some e ∧ Fo R e.2.1 e.2.2 ∧ BF R e.2.1 = k) → Q (.ref p) H'
theorem ok_intervals_by (T : Tx P K mg base A D) : FnOk P w K mg base CX0 47 (A 32) (D 32) ["chain", "width"] (spIvs K) := by
  refine T.f_intervals_by.ok sc_intervals_by (fun vs H Q E h => ?_) (fun cdv Ar outer s H vs Q E hr h => ?_)
  · obtain ⟨c, w1, R, S, rfl, _⟩ := h
    rfl
  · obtain ⟨c, w1, R, S, rfl, hc, hw, hC, hq⟩ := h
    refine ⟨_, PSs.nox (pss_cons (ps_set (i := 2) sc_intervals_by.nd rfl (.inl rfl) (pe_call (ok_bound_of T) (hr.mono (by decide)) (by rfl) T.g_bound_of T.f_bound_of.kp (b_bound_of T) .nil pass0 (pa_cons (pe_ix ix_list (pv 0) pe_int (fun _ _ => rfl)) pa_nil))) (pss_cons (ps_set (i := 3) sc_intervals_by.nd rfl (.inl rfl) (pe_lst pa_nil)) (pss_cons (ps_set (i := 4) sc_intervals_by.nd rfl (.inl rfl) (pe_lst (pa_cons (pe_tup (pa_cons (pe_tup (pa_cons (pe_un un_neg (pv 2)) (pa_cons pe_int pa_nil))) (pa_cons (pe_tup (pa_cons (pv 2) (pa_cons pe_int pa_nil))) pa_nil))) pa_nil))) (pss_cons (ps_while PassesOwn.never (pt_truth (pv 4) (by intro _; rfl)) (pss_cons (ps_asg (pe_bm0 PySem.F.plainAttrs_list PySem.F.slot_list_pop PySem.F.type_list_pop mt_pop (pv 4)) (pg_tup (n := 2) (by rfl) (pgs_cons (pg_name (i := 5) sc_intervals_by.nd rfl (.inl rfl)) (pgs_cons (pg_name (i := 6) sc_intervals_by.nd rfl (.inl rfl)) pgs_nil)))) (pss_cons (ps_set (i := 7) sc_intervals_by.nd rfl (.inl rfl) (pe_op op_sub (pe_call (ok_count_up_to T) (hr.mono (by decide)) (by rfl) T.g_count_up_to T.f_count_up_to.kp (b_count_up_to T) .nil pass0 (pa_cons (pv 0) (pa_cons (pv 6) pa_nil))) (pe_call (ok_count_up_to T) (hr.mono (by decide)) (by rfl) T.g_count_up_to T.f_count_up_to.kp (b_count_up_to T) .nil pass0 (pa_cons (pv 0) (pa_cons (pv 5) pa_nil))))) (pss_one (ps_if (PW.pt (pw_and (pt_cmpR op_eq (pv 7) pe_int (nomark _)) (pw_and1 (pt_cmpR op_le (pe_call (ok_compare T) (hr.mono (by decide)) (by rfl) T.g_compare T.f_compare.kp (b_compare T) .nil pass0 (pa_cons (pe_call (ok_minus T) (hr.mono (by decide)) (by rfl) T.g_minus T.f_minus.kp (b_minus T) .nil pass0 (pa_cons (pv 6) (pa_cons (pv 5) pa_nil))) (pa_cons (pv 1) pa_nil))) pe_int (nomark _))))) (pss_one (ps_expr (pe_bm PySem.F.plainAttrs_list PySem.F.slot_list_append PySem.F.type_list_append mt_append (pv 3) (pa_cons (pe_tup (pa_cons (pv 5) (pa_cons (pv 6) pa_nil))) pa_nil)))) (pss_one (ps_if (pt_cmpR op_gt (pv 7) pe_int (nomark _)) (pss_cons (ps_set (i := 8) sc_intervals_by.nd rfl (.inl rfl) (pe_call (ok_half T) (hr.mono (by decide)) (by rfl) T.g_half T.f_half.kp (b_half T) .nil pass0 (pa_cons (pv 5) (pa_cons (pv 6) pa_nil)))) (pss_one (ps_if (pt_cmpR op_eq (pe_call (ok_sign_at T) (hr.mono (by decide)) (by rfl) T.g_sign_at T.f_sign_at.kp (b_sign_at T) .nil pass0 (pa_cons (pe_ix ix_list (pv 0) pe_int (fun _ _ => rfl)) (pa_cons (pv 8) pa_nil))) pe_int (nomark _)) (pss_cons (ps_set (i := 9) sc_intervals_by.nd rfl (.inl rfl) (pe_call (ok_near T) (hr.mono (by decide)) (by rfl) T.g_near T.f_near.kp (b_near T) .nil pass0 (pa_cons (pv 0) (pa_cons (pv 8) (pa_cons (pe_call (ok_half T) (hr.mono (by decide)) (by rfl) T.g_half T.f_half.kp (b_half T) .nil pass0 (pa_cons (pe_call (ok_minus T) (hr.mono (by decide)) (by rfl) T.g_minus T.f_minus.kp (b_minus T) .nil pass0 (pa_cons (pv 6) (pa_cons (pv 8) pa_nil))) (pa_cons (pe_glob (v := .ref _) rfl T.nought.choose_spec.1 rfl) pa_nil))) pa_nil))))) (pss_cons (ps_expr (pe_bm PySem.F.plainAttrs_list PySem.F.slot_list_append PySem.F.type_list_append mt_append (pv 4) (pa_cons (pe_tup (pa_cons (pe_call (ok_plus T) (hr.mono (by decide)) (by rfl) T.g_plus T.f_plus.kp (b_plus T) .nil pass0 (pa_cons (pv 8) (pa_cons (pv 9) pa_nil))) (pa_cons (pv 6) pa_nil))) pa_nil))) (pss_cons (ps_expr (pe_bm PySem.F.plainAttrs_list PySem.F.slot_list_append PySem.F.type_list_append mt_append (pv 3) (pa_cons (pe_tup (pa_cons (pv 8) (pa_cons (pv 8) pa_nil))) pa_nil))) (pss_one (ps_expr (pe_bm PySem.F.plainAttrs_list PySem.F.slot_list_append PySem.F.type_list_append mt_append (pv 4) (pa_cons (pe_tup (pa_cons (pv 5) (pa_cons (pe_call (ok_minus T) (hr.mono (by decide)) (by rfl) T.g_minus T.f_minus.kp (b_minus T) .nil pass0 (pa_cons (pv 8) (pa_cons (pv 9) pa_nil))) pa_nil))) pa_nil))))))) (pss_cons (ps_expr (pe_bm PySem.F.plainAttrs_list PySem.F.slot_list_append PySem.F.type_list_append mt_append (pv 4) (pa_cons (pe_tup (pa_cons (pv 8) (pa_cons (pv 6) pa_nil))) pa_nil))) (pss_one (ps_expr (pe_bm PySem.F.plainAttrs_list PySem.F.slot_list_append PySem.F.type_list_append mt_append (pv 4) (pa_cons (pe_tup (pa_cons (pv 5) (pa_cons (pv 8) pa_nil))) pa_nil)))))))) pss_nil))))))) (pss_one (ps_ret (pe_call (ok_in_order T) (hr.mono (by decide)) (by rfl) T.g_in_order T.f_in_order.kp (b_in_order T) .nil pass0 (pa_cons (pv 3) pa_nil)))))))), ?_⟩
    rw [show start ["chain", "width", "bound", "found", "waiting", "low", "high", "many", "middle", "gap"] [V.ref c, V.ref w1] = [some (V.ref c), some (V.ref w1), none, none, none, none, none, none, none, none] from rfl]
    simp (maxSteps := 2000000) only [NewO, tLc, wipe, List.map_cons, List.map_nil, tSeq, tIfS, tTest, tOp, tVar, tC, rI0, tPar, tUn, rU, tCons, tNil, tAsg, gName, tCB, tRet, tTup, tLst, rI, rGcd, tNext, tCall, tCallN, tIf, tSl, tPart, tNoPart, rSlL, tDrop, tBM, tBM0, rAppend, rPop, tAndV, tOrV, tNotV, tAnd, tOr, tNot, tB, rEq, rNe, scal_int, gTup, gCons, gNil, gUnl, gSub, rSetL, tRevL, tAug, ipI, rIxL, rIxT, rCat, rRep, TruV, iList, iRng1, iRng2, iRng3, iEnum, tFor, tYes, List.append_nil, List.cons_append, List.nil_append, List.getElem?_cons_zero, List.getElem?_cons_succ, List.set_cons_zero, List.set_cons_succ, Option.some.injEq, exists_eq_left', exists_eq_left, exists_and_left, V.int.injEq, V.bl.injEq, V.ref.injEq, List.cons.injEq, and_true, true_and, and_assoc, decide_eq_true_eq, Bool.not_eq_true', if_true, if_false, Bool.false_eq_true, ite_true, ite_false, Bool.true_eq_false, reduceCtorEq, false_and, and_false, exists_false, false_or, or_false, gUnl, tCallN, rMax, tBreak, cxK, spCount, spBin, spHalf, spSignAt, spCompare, spNear, spBound, spSort, tWhile]
    obtain ⟨p, s, vs, hv, hp0, hp, hA⟩ := hc.head hC
    have hm := hC.chn.mem
    have nd := hC.chn.nd
    have few := few_roots R hm nd
    refine ⟨_, hv, _, hp0, p, rfl, s, hp, R, hA, fun H1 B s1 hB => ?_⟩
    obtain ⟨wt0, wn0, wn1⟩ := Wt.start hm nd hB few
    refine ⟨Nat.zero_le _, fun fl nfl => ⟨by show 2 ≤ sizeLine; decide, fun p1 n1 => ⟨by show 2 ≤ sizeLine; decide, fun p2 n2 => ⟨by show 2 ≤ sizeLine; decide, fun p3 n3 => ⟨by show 1 ≤ sizeLine; decide, fun wl nwl => ?_⟩⟩⟩⟩⟩
    have t1 := same_new (o := .lst []) nfl
    have t2 := same_new (o := .tup [V.int (-B), V.int 1]) n1
    have t3 := same_new (o := .tup [V.int B, V.int 1]) n2
    have t4 := same_new (o := .tup [V.ref p1, V.ref p2]) n3
    have t5 := same_new (o := .lst [V.ref p3]) nwl
    have i1 : IsN K _ p1 ((-B : Int) : Rat) := IsN.new (H := upd (upd H1 fl (.lst [])) p1 (.tup [V.int (-B), V.int 1])) upd_same
    have i2 : IsN K _ p2 (B : Rat) := IsN.new (H := upd (upd (upd H1 fl (.lst [])) p1 (.tup [V.int (-B), V.int 1])) p2 (.tup [V.int B, V.int 1])) upd_same
    have i3 := (IsI.new (i1.at t3) i2 n3).at t5
    have hfl := ((t2.trans t3).trans t4) _ _ (upd_same (H := H1) (a := fl) (o := .lst []))
    have nfl0 : H fl = none := s1.free nfl
    have nwl0 : H wl = none := (s1.trans (t1.trans (t2.trans (t3.trans t4)))).free nwl
    refine ⟨fun m σ H' => ∃ (Es : List (Addr × Rat × Rat)) (Ws : List WE) (y5 y6 y7 y8 y9 : Option V), σ = [some (.ref c), some (.ref w1), some (.int B), some (.ref fl), some (.ref wl), y5, y6, y7, y8, y9] ∧ m = ms (fun e => e.2.2.2.1) Ws ∧ Same H H' ∧ Sv K R H' fl wl Es Ws ∧ StkOk (Ws.map fun e => e.2.2.2.1) ∧ ∀ k : Int, cfi (fun e => BF R e.2.1) k Es + cwi (fun e => NF R e.2.1) (fun e => NF R e.2.2.1) k Ws = if 0 ≤ k ∧ k < TF R then 1 else 0, ⟨_, [], [(p3, ((-B : Int) : Rat), (B : Rat), 65, 0)], none, none, none, none, none, rfl, rfl, ?_, ⟨?_, upd_same, ne_of_none hfl nwl, (fun e he => by cases he), fun e he => ?_⟩, ⟨.nil, (fun x hx => by cases hx), Nat.le_refl 65, fun x hx => by cases hx⟩, fun k => ?_⟩, fun m σ H' hW => ?_⟩
    · exact s1.trans (t1.trans (t2.trans (t3.trans (t4.trans t5))))
    · exact t5 _ _ hfl
    · rcases List.mem_cons.mp he with rfl | he
      · exact ⟨i3, wt0⟩
      · cases he
    · simp only [cfi, cwi, wn0, wn1]
      omega
    · obtain ⟨Es, Ws, y5, y6, y7, y8, y9, rfl, rfl, sm, sv, stk, cnt⟩ := hW
      have fin : ∀ (H7 : Hp) (Es' : List (Addr × Rat × Rat)) (Ws' : List WE) (a5 a6 a7 a8 a9 : Option V), Same H H7 → Sv K R H7 fl wl Es' Ws' → StkOk (Ws'.map fun e => e.2.2.2.1) → ms (fun e => e.2.2.2.1) Ws' < ms (fun e => e.2.2.2.1) Ws → (∀ k : Int, cfi (fun e => BF R e.2.1) k Es' + cwi (fun e => NF R e.2.1) (fun e => NF R e.2.2.1) k Ws' = if 0 ≤ k ∧ k < TF R then 1 else 0) → ∃ m', m' < ms (fun e => e.2.2.2.1) Ws ∧ ∃ (Es : List (Addr × Rat × Rat)) (Ws : List WE) (y5 y6 y7 y8 y9 : Option V), [some (V.ref c), some (.ref w1), some (.int B), some (.ref fl), some (.ref wl), a5, a6, a7, a8, a9] = [some (.ref c), some (.ref w1), some (.int B), some (.ref fl), some (.ref wl), y5, y6, y7, y8, y9] ∧ m' = ms (fun e => e.2.2.2.1) Ws ∧ Same H H7 ∧ Sv K R H7 fl wl Es Ws ∧ StkOk (Ws.map fun e => e.2.2.2.1) ∧ ∀ k : Int, cfi (fun e => BF R e.2.1) k Es + cwi (fun e => NF R e.2.1) (fun e => NF R e.2.2.1) k Ws = if 0 ≤ k ∧ k < TF R then 1 else 0 := fun H7 Es' Ws' a5 a6 a7 a8 a9 f1 f2 f3 f4 f5 => ⟨_, f4, Es', Ws', _, _, _, _, _, rfl, rfl, f1, f2, f3, f5⟩
      simp (maxSteps := 2000000) only [NewO, tLc, wipe, List.map_cons, List.map_nil, tSeq, tIfS, tTest, tOp, tVar, tC, rI0, tPar, tUn, rU, tCons, tNil, tAsg, gName, tCB, tRet, tTup, tLst, rI, rGcd, tNext, tCall, tCallN, tIf, tSl, tPart, tNoPart, rSlL, tDrop, tBM, tBM0, rAppend, rPop, tAndV, tOrV, tNotV, tAnd, tOr, tNot, tB, rEq, rNe, scal_int, gTup, gCons, gNil, gUnl, gSub, rSetL, tRevL, tAug, ipI, rIxL, rIxT, rCat, rRep, TruV, iList, iRng1, iRng2, iRng3, iEnum, tFor, tYes, List.append_nil, List.cons_append, List.nil_append, List.getElem?_cons_zero, List.getElem?_cons_succ, List.set_cons_zero, List.set_cons_succ, Option.some.injEq, exists_eq_left', exists_eq_left, exists_and_left, V.int.injEq, V.bl.injEq, V.ref.injEq, List.cons.injEq, and_true, true_and, and_assoc, decide_eq_true_eq, Bool.not_eq_true', if_true, if_false, Bool.false_eq_true, ite_true, ite_false, Bool.true_eq_false, reduceCtorEq, false_and, and_false, exists_false, false_or, or_false, gUnl, tCallN, rMax, tBreak]
      refine ⟨_, .inl ⟨_, SqL.of sv.w, rfl⟩, ite2 (fun c0 => ?_) (fun c0 => ?_)⟩
      · match Ws, c0, sv, stk, cnt, fin with
        | (ea, lo, hi, d, l) :: Wr, _, sv, stk, cnt, fin =>
        obtain ⟨sv1, ⟨u, v, i1, hlo, hhi⟩, top⟩ := sv.pop
        obtain ⟨_, hWt⟩ := sv.ws _ List.mem_cons_self
        have hWt : Wt R lo hi d l := hWt
        have xlo := hWt.d1.xb (by have := hWt.lk hm; omega)
        have xhi := hWt.d2.xb (by have := hWt.lk hm; omega)
        have sm2 := same_updD (o := .lst (((ea, lo, hi, d, l) :: Wr).map adw).reverse.dropLast) nwl0 sm
        refine ⟨_, fun _ _ h => h, .inl ⟨rfl, _, SqL.of sv.w⟩, _, sv.w, _, top, _, rfl, _, i1, rfl, _, _, rfl, _, _, rfl, rfl, _, rfl, R, S, hc.at sm2, hi, hhi, hC, xhi, fun H2 s2 => ⟨_, rfl, R, S, hc.at (sm2.trans s2), lo, hlo.at s2, hC, xlo, fun H3 s3 => ?_⟩⟩
        have s23 := s2.trans s3
        have sm3 := sm2.trans s23
        have hlo := hlo.at s23
        have hhi := hhi.at s23
        have i1 := same_tup s23 i1
        have sv3 := sv1.at s23
        have mono := nf_mono hm (show lo ≤ hi by have := hWt.lt; grind)
        have lk := hWt.lk hm
        refine ite2 (fun c1 => ?_) (fun c1 => ?_)
        · refine ⟨_, rfl, _, rfl, hi, hhi, lo, hlo, fit2 xhi xlo (by decide), fun H4 pw s4 n4 e4 => ⟨hi - lo, .new e4, 1, hw.at (sm3.trans s4), ?_, ?_⟩⟩
          · have b1 : R2b (hi - lo) 4000 4000 := (((hWt.d2.dn.sub hWt.d1.dn).bits (b := 62) (Nat.two_pow_pos _) (Nat.le_refl _) (by
              have := hWt.lt
              have : (0 : Rat) ≤ ((2 ^ 62 : Nat) : Rat) := by decide +kernel
              grind) (by
              have := hWt.d1.lo
              have := hWt.d2.hi
              have : ((2 ^ 62 : Nat) : Rat) = 4 * ((2 ^ 60 : Nat) : Rat) := by decide +kernel
              have : (0 : Rat) ≤ ((2 ^ 60 : Nat) : Rat) := by decide +kernel
              grind))).mono (by omega) (by omega)
            exact fit2 b1 (R2b.int (c := 1) (k := 0) (by decide)) (by decide)
          refine ite2 (fun c2 => ?_) (fun c2 => ?_)
          · have wd : hi - lo ≤ 1 := by
              apply Decidable.byContradiction
              intro z
              rw [if_neg (by grind), if_pos (by grind)] at c2
              exact absurd c2 (by decide)
            have F := hWt.leaf hm c1 wd
            have sv4 := sv3.at s4
            refine ⟨.inl ⟨rfl, _, SqL.of sv4.f⟩, by show 2 ≤ sizeLine; decide, fun pq n5 => ⟨_, (sv4.at (same_new n5)).f, ?_, ?_⟩⟩
            · rw [List.length_map]
              exact lt_size (by have := found_len cnt few; omega)
            · refine fin _ _ _ _ _ _ _ _ ?_ ((sv4.at (same_new n5)).pushF (pq, lo, hi) (IsI.new (hlo.at s4) (hhi.at s4) n5) F) stk.pop ?_ ?_
              · exact same_updD nfl0 ((sm3.trans s4).trans (same_new n5))
              · have := Nat.two_pow_pos d
                simp only [ms, Nat.pow_succ]; omega
              · intro k
                have := cnt k
                have e := (bf_nf hm nd lo).1 hWt.z1
                rw [cfi_append]
                simp only [cfi, cwi, e] at this ⊢
                rw [← this]
                split <;> split <;> omega
          · refine ite2 (fun c3 => ?_) (fun c3 => absurd c3 (by omega))
            have cc : ¬(NF R hi - NF R lo = 1 ∧ hi - lo ≤ 1) := fun z => c2 (by
              have := z.2
              by_cases q : hi - lo < 1
              · rw [if_pos q]; decide
              · rw [if_neg q, if_neg (by grind)]; decide)
            obtain ⟨d', rfl⟩ := hWt.deep hm nd cc (by omega)
            have lk := hWt.lk hm
            have dmid := hWt.d1.mid hWt.d2
            have xmid := dmid.xb (by omega)
            have smB := sm3.trans s4
            refine ⟨_, rfl, _, rfl, lo, hlo.at s4, hi, hhi.at s4, fit2 xlo xhi (by decide), ⟨8002, R2b.rb (xlo.add xhi (m := 8000) (by decide) (by decide)) (by decide) (by decide), by decide⟩, fun H8 pm s8 n8 e8 => ?_⟩
            have sm8 := smB.trans s8
            have hmid : IsN K H8 pm ((lo + hi) / 2) := .new e8
            have sv8 := (sv3.at s4).at s8
            have hlo8 := (hlo.at s4).at s8
            have hhi8 := (hhi.at s4).at s8
            refine ⟨_, sm8.seq hv, _, hp0, p, rfl, s, hp.at sm8, _, hmid, by have := hA.len; omega, hA.pb.mono (by decide), xmid, fun H9 s9 => ?_⟩
            have sm9 := sm8.trans s9
            have hmid := hmid.at s9
            have sv9 := sv8.at s9
            have hlo9 := hlo8.at s9
            have hhi9 := hhi8.at s9
            refine ite2 (fun z => ?_) (fun z => ?_)
            · have z := (hA.zero _).mp z
              have ez : hi - (lo + hi) / 2 + 0 = hi - (lo + hi) / 2 := by grind
              have dg := (hWt.d2.dn.up (Nat.le_succ l)).sub dmid.dn
              have lt := hWt.lt
              have wd := hWt.wd
              have l1 := hWt.d1.lo
              have l2 := hWt.d2.hi
              have k0 : (0 : Rat) ≤ ((2 ^ 60 : Nat) : Rat) := by decide +kernel
              have k1 : ((2 ^ 62 : Nat) : Rat) = 4 * ((2 ^ 60 : Nat) : Rat) := by decide +kernel
              rw [pow2r] at wd
              have bw : R2b (hi - (lo + hi) / 2) 4000 4000 := (dg.bits (b := 62) (Nat.two_pow_pos _) (Nat.le_refl _) (by grind) (by grind)).mono (by omega) (by omega)
              refine ⟨_, rfl, hi, hhi9, (lo + hi) / 2, hmid, fit2 xhi xmid (by decide), fun H10 q1 s10 n10 e10 => ⟨hi - (lo + hi) / 2, .new e10, 0, T.nought.choose_spec.2 _, fit2 bw R2b.zero (by decide), ⟨4001, by rw [ez]; exact R2b.rb bw (by decide) (by decide), by decide⟩, fun H11 q2 s11 n11 e11 => ?_⟩⟩
              rw [ez] at e11
              have sm11 := sm9.trans (s10.trans s11)
              have dg2 := dg.half
              rw [← Nat.pow_succ] at dg2
              refine ⟨R, S, hc.at sm11, (lo + hi) / 2, (hmid.at s10).at s11, (hi - (lo + hi) / 2 + 0) / 2, by rw [ez]; exact .new e11, hC, l + 2, dmid.up (by omega), by rw [ez]; exact dg2, z, by rw [ez]; grind, d', by rw [ez]; grind, by have := hWt.dl; omega, by rw [ez]; grind, by rw [ez]; grind, fun H12 q3 γ s12 h12 g0 g1 gd N => ?_⟩
              rw [ez] at g1
              have st := (s10.trans s11).trans s12
              have sm12 := sm9.trans st
              have sv12 := sv9.at st
              have hmid := hmid.at st
              have hlo12 := hlo9.at st
              have hhi12 := hhi9.at st
              have gd : DN (2 ^ (l + d' + 2)) γ := gd.up (by omega)
              obtain ⟨F, wl1, wr1, m1, m2, m3, m4⟩ := hWt.mid hm nd z g0 g1 gd N
              have bg : R2b γ 4000 4000 := (gd.bits (b := 62) (Nat.two_pow_pos _) (Nat.le_refl _) (by grind) (by grind)).mono (by have := hWt.dl; omega) (by have := hWt.dl; omega)
              have wlen : (Wr.map adw).reverse.length < sizeLine := by
                have := stk.pop.len
                rw [List.length_map] at this
                rw [List.length_reverse, List.length_map]
                exact lt_size (by omega)
              refine ⟨.inl ⟨rfl, _, SqL.of sv12.w⟩, _, hmid, γ, h12, fit2 xmid bg (by decide), fun H13 r1 s13 n13 e13 => ⟨by show 2 ≤ sizeLine; decide, fun q4 n14 => ?_⟩⟩
              have svA := (sv12.at s13).at (same_new (o := .tup [V.ref r1, V.ref v]) n14)
              have svB := svA.pushW (q4, (lo + hi) / 2 + γ, hi, d', l + d' + 2) (IsI.new (IsN.new e13) (hhi12.at s13) n14) wr1
              have hmidB := upd_lst (ys := (Wr.map adw).reverse ++ [.ref q4]) ((hmid.at s13).at (same_new (o := .tup [V.ref r1, V.ref v]) n14)) svA.w
              have hgB := upd_lst (ys := (Wr.map adw).reverse ++ [.ref q4]) ((h12.at s13).at (same_new (o := .tup [V.ref r1, V.ref v]) n14)) svA.w
              have hloB := upd_lst (ys := (Wr.map adw).reverse ++ [.ref q4]) ((hlo12.at s13).at (same_new (o := .tup [V.ref r1, V.ref v]) n14)) svA.w
              refine ⟨_, svA.w, wlen, .inl ⟨rfl, _, SqL.of svB.f⟩, by show 2 ≤ sizeLine; decide, fun q5 n15 => ?_⟩
              have svB' := svB.at (same_new (o := .tup [V.ref pm, V.ref pm]) n15)
              have svC := svB'.pushF (q5, (lo + hi) / 2, (lo + hi) / 2) (IsI.new hmidB hmidB n15) F
              have hmidC := upd_lst (ys := Es.map adr ++ [.ref q5]) (hmidB.at (same_new (o := .tup [V.ref pm, V.ref pm]) n15)) svB'.f
              have hgC := upd_lst (ys := Es.map adr ++ [.ref q5]) (hgB.at (same_new (o := .tup [V.ref pm, V.ref pm]) n15)) svB'.f
              have hloC := upd_lst (ys := Es.map adr ++ [.ref q5]) (hloB.at (same_new (o := .tup [V.ref pm, V.ref pm]) n15)) svB'.f
              refine ⟨_, svB'.f, ?_, .inl ⟨rfl, _, SqL.of svC.w⟩, _, hmidC, γ, hgC, fit2 xmid bg (by decide), fun H14 r2 s14 n16 e16 => ⟨by show 2 ≤ sizeLine; decide, fun q6 n17 => ?_⟩⟩
              · rw [List.length_map]
                exact lt_size (by have := found_len cnt few; omega)
              have svD := (svC.at s14).at (same_new (o := .tup [V.ref u, V.ref r2]) n17)
              have svE := svD.pushW (q6, lo, (lo + hi) / 2 - γ, d', l + d' + 2) (IsI.new (hloC.at s14) (IsN.new e16) n17) wl1
              refine ⟨_, svD.w, ?_, fin _ _ _ _ _ _ _ _ (same_updD nwl0 ((same_updD nfl0 ((same_updD nwl0 (sm12.trans (s13.trans (same_new n14)))).trans (same_new n15))).trans (s14.trans (same_new n17)))) svE stk.two ?_ ?_⟩
              · have := stk.pop.len
                rw [List.length_map] at this
                rw [List.length_reverse, List.length_map, List.length_cons]
                exact lt_size (by omega)
              · have := Nat.two_pow_pos (d' + 1)
                simp only [ms]
                rw [Nat.pow_succ 2 (d' + 1)]
                omega
              · intro k
                have := cnt k
                rw [cfi_append]
                simp only [cfi, cwi] at this ⊢
                rw [← this]
                split <;> split <;> split <;> split <;> omega
            · have z : prodE R ((lo + hi) / 2) ≠ 0 := fun q => z ((hA.zero _).mpr q)
              have wlen : (Wr.map adw).reverse.length < sizeLine := by
                have := stk.pop.len
                rw [List.length_map] at this
                rw [List.length_reverse, List.length_map]
                exact lt_size (by omega)
              refine ⟨.inl ⟨rfl, _, SqL.of sv9.w⟩, by show 2 ≤ sizeLine; decide, fun q nq => ⟨_, (sv9.at (same_new (o := .tup [V.ref pm, V.ref v]) nq)).w, wlen, .inl ⟨rfl, _, SqL.of upd_same⟩, by show 2 ≤ sizeLine; decide, fun q2 nq2 => ?_⟩⟩
              obtain ⟨w1', w2', m1, m2⟩ := hWt.two hm z
              have sv10 := (sv9.at (same_new (o := .tup [V.ref pm, V.ref v]) nq)).pushW (q, (lo + hi) / 2, hi, d', l + 1) (IsI.new hmid hhi9 nq) w2'
              have hlo10 := upd_lst (ys := (Wr.map adw).reverse ++ [.ref q]) (hlo9.at (same_new (o := .tup [V.ref pm, V.ref v]) nq)) (sv9.at (same_new (o := .tup [V.ref pm, V.ref v]) nq)).w
              have hmid10 := upd_lst (ys := (Wr.map adw).reverse ++ [.ref q]) (hmid.at (same_new (o := .tup [V.ref pm, V.ref v]) nq)) (sv9.at (same_new (o := .tup [V.ref pm, V.ref v]) nq)).w
              have sv11 := (sv10.at (same_new (o := .tup [V.ref u, V.ref pm]) nq2)).pushW (q2, lo, (lo + hi) / 2, d', l + 1) (IsI.new hlo10 hmid10 nq2) w1'
              refine ⟨_, (sv10.at (same_new (o := .tup [V.ref u, V.ref pm]) nq2)).w, ?_, fin _ _ _ _ _ _ _ _ (same_updD nwl0 ((same_updD nwl0 (sm9.trans (same_new (o := .tup [V.ref pm, V.ref v]) nq))).trans (same_new (o := .tup [V.ref u, V.ref pm]) nq2))) sv11 stk.two ?_ ?_⟩
              · have := stk.pop.len
                rw [List.length_map] at this
                rw [List.length_reverse, List.length_map, List.length_cons]
                exact lt_size (by omega)
              · have := Nat.two_pow_pos (d' + 1)
                simp only [ms]
                rw [Nat.pow_succ 2 (d' + 1)]
                omega
              · intro k
                have := cnt k
                simp only [cwi] at this ⊢
                rw [← this]
                split <;> split <;> split <;> omega
        · refine ite2 (fun c3 => ?_) (fun c3 => ?_)
          · have cc : ¬(NF R hi - NF R lo = 1 ∧ hi - lo ≤ 1) := fun z => c1 z.1
            obtain ⟨d', rfl⟩ := hWt.deep hm nd cc (by omega)
            have lk := hWt.lk hm
            have dmid := hWt.d1.mid hWt.d2
            have xmid := dmid.xb (by omega)
            have smB := sm3.trans (Same.refl H3)
            refine ⟨_, rfl, _, rfl, lo, hlo.at (Same.refl H3), hi, hhi.at (Same.refl H3), fit2 xlo xhi (by decide), ⟨8002, R2b.rb (xlo.add xhi (m := 8000) (by decide) (by decide)) (by decide) (by decide), by decide⟩, fun H8 pm s8 n8 e8 => ?_⟩
            have sm8 := smB.trans s8
            have hmid : IsN K H8 pm ((lo + hi) / 2) := .new e8
            have sv8 := (sv3.at (Same.refl H3)).at s8
            have hlo8 := (hlo.at (Same.refl H3)).at s8
            have hhi8 := (hhi.at (Same.refl H3)).at s8
            refine ⟨_, sm8.seq hv, _, hp0, p, rfl, s, hp.at sm8, _, hmid, by have := hA.len; omega, hA.pb.mono (by decide), xmid, fun H9 s9 => ?_⟩
            have sm9 := sm8.trans s9
            have hmid := hmid.at s9
            have sv9 := sv8.at s9
            have hlo9 := hlo8.at s9
            have hhi9 := hhi8.at s9
            refine ite2 (fun z => ?_) (fun z => ?_)
            · have z := (hA.zero _).mp z
              have ez : hi - (lo + hi) / 2 + 0 = hi - (lo + hi) / 2 := by grind
              have dg := (hWt.d2.dn.up (Nat.le_succ l)).sub dmid.dn
              have lt := hWt.lt
              have wd := hWt.wd
              have l1 := hWt.d1.lo
              have l2 := hWt.d2.hi
              have k0 : (0 : Rat) ≤ ((2 ^ 60 : Nat) : Rat) := by decide +kernel
              have k1 : ((2 ^ 62 : Nat) : Rat) = 4 * ((2 ^ 60 : Nat) : Rat) := by decide +kernel
              rw [pow2r] at wd
              have bw : R2b (hi - (lo + hi) / 2) 4000 4000 := (dg.bits (b := 62) (Nat.two_pow_pos _) (Nat.le_refl _) (by grind) (by grind)).mono (by omega) (by omega)
              refine ⟨_, rfl, hi, hhi9, (lo + hi) / 2, hmid, fit2 xhi xmid (by decide), fun H10 q1 s10 n10 e10 => ⟨hi - (lo + hi) / 2, .new e10, 0, T.nought.choose_spec.2 _, fit2 bw R2b.zero (by decide), ⟨4001, by rw [ez]; exact R2b.rb bw (by decide) (by decide), by decide⟩, fun H11 q2 s11 n11 e11 => ?_⟩⟩
              rw [ez] at e11
              have sm11 := sm9.trans (s10.trans s11)
              have dg2 := dg.half
              rw [← Nat.pow_succ] at dg2
              refine ⟨R, S, hc.at sm11, (lo + hi) / 2, (hmid.at s10).at s11, (hi - (lo + hi) / 2 + 0) / 2, by rw [ez]; exact .new e11, hC, l + 2, dmid.up (by omega), by rw [ez]; exact dg2, z, by rw [ez]; grind, d', by rw [ez]; grind, by have := hWt.dl; omega, by rw [ez]; grind, by rw [ez]; grind, fun H12 q3 γ s12 h12 g0 g1 gd N => ?_⟩
              rw [ez] at g1
              have st := (s10.trans s11).trans s12
              have sm12 := sm9.trans st
              have sv12 := sv9.at st
              have hmid := hmid.at st
              have hlo12 := hlo9.at st
              have hhi12 := hhi9.at st
              have gd : DN (2 ^ (l + d' + 2)) γ := gd.up (by omega)
              obtain ⟨F, wl1, wr1, m1, m2, m3, m4⟩ := hWt.mid hm nd z g0 g1 gd N
              have bg : R2b γ 4000 4000 := (gd.bits (b := 62) (Nat.two_pow_pos _) (Nat.le_refl _) (by grind) (by grind)).mono (by have := hWt.dl; omega) (by have := hWt.dl; omega)
              have wlen : (Wr.map adw).reverse.length < sizeLine := by
                have := stk.pop.len
                rw [List.length_map] at this
                rw [List.length_reverse, List.length_map]
                exact lt_size (by omega)
              refine ⟨.inl ⟨rfl, _, SqL.of sv12.w⟩, _, hmid, γ, h12, fit2 xmid bg (by decide), fun H13 r1 s13 n13 e13 => ⟨by show 2 ≤ sizeLine; decide, fun q4 n14 => ?_⟩⟩
              have svA := (sv12.at s13).at (same_new (o := .tup [V.ref r1, V.ref v]) n14)
              have svB := svA.pushW (q4, (lo + hi) / 2 + γ, hi, d', l + d' + 2) (IsI.new (IsN.new e13) (hhi12.at s13) n14) wr1
              have hmidB := upd_lst (ys := (Wr.map adw).reverse ++ [.ref q4]) ((hmid.at s13).at (same_new (o := .tup [V.ref r1, V.ref v]) n14)) svA.w
              have hgB := upd_lst (ys := (Wr.map adw).reverse ++ [.ref q4]) ((h12.at s13).at (same_new (o := .tup [V.ref r1, V.ref v]) n14)) svA.w
              have hloB := upd_lst (ys := (Wr.map adw).reverse ++ [.ref q4]) ((hlo12.at s13).at (same_new (o := .tup [V.ref r1, V.ref v]) n14)) svA.w
              refine ⟨_, svA.w, wlen, .inl ⟨rfl, _, SqL.of svB.f⟩, by show 2 ≤ sizeLine; decide, fun q5 n15 => ?_⟩
              have svB' := svB.at (same_new (o := .tup [V.ref pm, V.ref pm]) n15)
              have svC := svB'.pushF (q5, (lo + hi) / 2, (lo + hi) / 2) (IsI.new hmidB hmidB n15) F
              have hmidC := upd_lst (ys := Es.map adr ++ [.ref q5]) (hmidB.at (same_new (o := .tup [V.ref pm, V.ref pm]) n15)) svB'.f
              have hgC := upd_lst (ys := Es.map adr ++ [.ref q5]) (hgB.at (same_new (o := .tup [V.ref pm, V.ref pm]) n15)) svB'.f
              have hloC := upd_lst (ys := Es.map adr ++ [.ref q5]) (hloB.at (same_new (o := .tup [V.ref pm, V.ref pm]) n15)) svB'.f
              refine ⟨_, svB'.f, ?_, .inl ⟨rfl, _, SqL.of svC.w⟩, _, hmidC, γ, hgC, fit2 xmid bg (by decide), fun H14 r2 s14 n16 e16 => ⟨by show 2 ≤ sizeLine; decide, fun q6 n17 => ?_⟩⟩
              · rw [List.length_map]
                exact lt_size (by have := found_len cnt few; omega)
              have svD := (svC.at s14).at (same_new (o := .tup [V.ref u, V.ref r2]) n17)
              have svE := svD.pushW (q6, lo, (lo + hi) / 2 - γ, d', l + d' + 2) (IsI.new (hloC.at s14) (IsN.new e16) n17) wl1
              refine ⟨_, svD.w, ?_, fin _ _ _ _ _ _ _ _ (same_updD nwl0 ((same_updD nfl0 ((same_updD nwl0 (sm12.trans (s13.trans (same_new n14)))).trans (same_new n15))).trans (s14.trans (same_new n17)))) svE stk.two ?_ ?_⟩
              · have := stk.pop.len
                rw [List.length_map] at this
                rw [List.length_reverse, List.length_map, List.length_cons]
                exact lt_size (by omega)
              · have := Nat.two_pow_pos (d' + 1)
                simp only [ms]
                rw [Nat.pow_succ 2 (d' + 1)]
                omega
              · intro k
                have := cnt k
                rw [cfi_append]
                simp only [cfi, cwi] at this ⊢
                rw [← this]
                split <;> split <;> split <;> split <;> omega
            · have z : prodE R ((lo + hi) / 2) ≠ 0 := fun q => z ((hA.zero _).mpr q)
              have wlen : (Wr.map adw).reverse.length < sizeLine := by
                have := stk.pop.len
                rw [List.length_map] at this
                rw [List.length_reverse, List.length_map]
                exact lt_size (by omega)
              refine ⟨.inl ⟨rfl, _, SqL.of sv9.w⟩, by show 2 ≤ sizeLine; decide, fun q nq => ⟨_, (sv9.at (same_new (o := .tup [V.ref pm, V.ref v]) nq)).w, wlen, .inl ⟨rfl, _, SqL.of upd_same⟩, by show 2 ≤ sizeLine; decide, fun q2 nq2 => ?_⟩⟩
              obtain ⟨w1', w2', m1, m2⟩ := hWt.two hm z
              have sv10 := (sv9.at (same_new (o := .tup [V.ref pm, V.ref v]) nq)).pushW (q, (lo + hi) / 2, hi, d', l + 1) (IsI.new hmid hhi9 nq) w2'
              have hlo10 := upd_lst (ys := (Wr.map adw).reverse ++ [.ref q]) (hlo9.at (same_new (o := .tup [V.ref pm, V.ref v]) nq)) (sv9.at (same_new (o := .tup [V.ref pm, V.ref v]) nq)).w
              have hmid10 := upd_lst (ys := (Wr.map adw).reverse ++ [.ref q]) (hmid.at (same_new (o := .tup [V.ref pm, V.ref v]) nq)) (sv9.at (same_new (o := .tup [V.ref pm, V.ref v]) nq)).w
              have sv11 := (sv10.at (same_new (o := .tup [V.ref u, V.ref pm]) nq2)).pushW (q2, lo, (lo + hi) / 2, d', l + 1) (IsI.new hlo10 hmid10 nq2) w1'
              refine ⟨_, (sv10.at (same_new (o := .tup [V.ref u, V.ref pm]) nq2)).w, ?_, fin _ _ _ _ _ _ _ _ (same_updD nwl0 ((same_updD nwl0 (sm9.trans (same_new (o := .tup [V.ref pm, V.ref v]) nq))).trans (same_new (o := .tup [V.ref u, V.ref pm]) nq2))) sv11 stk.two ?_ ?_⟩
              · have := stk.pop.len
                rw [List.length_map] at this
                rw [List.length_reverse, List.length_map, List.length_cons]
                exact lt_size (by omega)
              · have := Nat.two_pow_pos (d' + 1)
                simp only [ms]
                rw [Nat.pow_succ 2 (d' + 1)]
                omega
              · intro k
                have := cnt k
                simp only [cwi] at this ⊢
                rw [← this]
                split <;> split <;> split <;> omega
          · refine fin _ _ _ _ _ _ _ _ sm3 sv3 stk.pop ?_ ?_
            · have := Nat.two_pow_pos d
              simp only [ms, Nat.pow_succ]; omega
            · intro k
              have := cnt k
              simp only [cfi, cwi] at this ⊢
              rw [← this]
              rw [if_neg (show ¬(NF R lo ≤ k ∧ k < NF R hi) by omega)]
              omega
      · have hW : Ws = [] := by
          cases Ws with
          | nil => rfl
          | cons e t => exact absurd (by simp) c0
        subst hW
        have cnt' : ∀ k : Int, cfi (fun e => BF R e.2.1) k Es = if 0 ≤ k ∧ k < TF R then 1 else 0 := fun k => cnt k
        have el := found_len cnt few
        refine ⟨Es, SqL.of sv.f, by omega, fun e he => ⟨(sv.es e he).1, (sv.es e he).2.d1.xb (by decide)⟩, ?_, fun H2 p2 es' s2 h2 hperm hsort => hq H2 p2 es' (sm.trans s2) h2 (fun e he => (sv.es e (hperm.mem_iff.mp he)).1.at s2) fun k hk => ?_⟩
        · have ap : Es.Pairwise fun a b => BF R a.2.1 ≠ BF R b.2.1 := cfi_apart (idx := fun e : Addr × Rat × Rat => BF R e.2.1) fun k => by rw [cnt']; split <;> omega
          exact ap.imp fun {a b} h q => h (by rw [q])
        · obtain ⟨e, he, q1, q2⟩ := places (lo := fun e : Addr × Rat × Rat => e.2.1) (hi := fun e => e.2.2) hm cnt' hperm hsort hk
          exact ⟨e, q1, (sv.es e he).2, q2⟩
end
end W23
namespace W23
open PySem PySem.Spec PyProof.Rows L2 K23
theorem divInt_bits {n d : Int} {a b : Nat} (hd : d ≠ 0) (hn : n.natAbs ≤ 2 ^ a) (hd2 : d.natAbs ≤ 2 ^ b) : R2b (Rat.divInt n d) a b := by
  rw [R2b, Rat.den_divInt, Rat.num_divInt, if_neg hd]
  refine ⟨Nat.le_trans (Int.natAbs_ediv_le_natAbs _ _) ?_, Nat.le_trans (Nat.div_le_self _ _) hd2⟩
  rw [Int.natAbs_mul, Int.natAbs_sign_of_ne_zero hd, Nat.one_mul]
  exact hn
def ChO (R S : List (List Int)) : Prop := (S = [] ∧ R = []) ∨ ChnB R S
theorem dp_num {K : PySem.W.Frag} {H : Hp} {a : Addr} {r : Rat} (h : IsN K H a r) : Dp K H (.ref a) (.tuple [.int r.num, .int r.den]) := .tup h (.cons (.int _) (.cons (.int _) .nil))
theorem num_ne (a b : Rat) : PyData.eqv (.tuple [.int a.num, .int a.den]) (.tuple [.int b.num, .int b.den]) = decide (a = b) := by
  show (a.num == b.num && ((a.den : Int) == (b.den : Int) && true)) = decide (a = b)
  by_cases e : a = b
  · subst e; simp
  · rw [decide_eq_false e, Bool.and_true]
    cases h1 : a.num == b.num with
    | false => rfl
    | true =>
      cases h2 : ((a.den : Int) == (b.den : Int)) with
      | false => rfl
      | true =>
        have h1 := eq_of_beq h1
        have h2 := eq_of_beq h2
        exact absurd (Rat.ext h1 (by omega)) e
section
variable {P : Program} {w : World} {K : PySem.W.Frag} {mg : Str → Option Value} {base : Heap} {A : Nat → Addr} {D : Nat → FuncData}
def spFree (K : PySem.W.Frag) : Sp := fun vs H Q _ => ∃ (a : Addr) (s : List Int) (R : List (List Int)), vs = [.ref a] ∧ IsL K H a s ∧ Asked s R ∧ ∀ H' p S, Same H H' → IsC K H' p S → ChO R S → Q (.ref p) H'
theorem ok_free_chain (T : Tx P K mg base A D) : FnOk P w K mg base CX0 46 (A 39) (D 39) ["a"] (spFree K) := by
  refine T.f_free_chain.ok sc_free_chain (fun vs H Q E h => ?_) (fun cdv Ar outer s H vs Q E hr h => ?_)
  · obtain ⟨a, s, R, rfl, _⟩ := h
    rfl
  · obtain ⟨a, s, R, rfl, ha, hA, hq⟩ := h
    refine ⟨_, PSs.nox (pss_one (ps_ret (pe_ifExp (pt_cmpR op_gt (pe_callB call_len_seq (by rfl) T.z_len (by decide +kernel) (pa_cons (pv 0) pa_nil)) pe_int (nomark _)) (pe_call (ok_chain_of T) (hr.mono (by decide)) (by rfl) T.g_chain_of T.f_chain_of.kp (b_chain_of T) .nil pass0 (pa_cons (pe_call (ok_square_free T) (hr.mono (by decide)) (by rfl) T.g_square_free T.f_square_free.kp (b_square_free T) .nil pass0 (pa_cons (pv 0) pa_nil)) pa_nil)) (pe_lst pa_nil)))), ?_⟩
    rw [show start ["a"] [V.ref a] = [some (V.ref a)] from rfl]
    simp (maxSteps := 2000000) only [NewO, tLc, wipe, List.map_cons, List.map_nil, tSeq, tIfS, tTest, tOp, tVar, tC, rI0, tPar, tUn, rU, tCons, tNil, tAsg, gName, tCB, tRet, tTup, tLst, rI, rGcd, tNext, tCall, tCallN, tIf, tSl, tPart, tNoPart, rSlL, tDrop, tBM, tBM0, rAppend, rPop, tAndV, tOrV, tNotV, tAnd, tOr, tNot, tB, rEq, rNe, scal_int, gTup, gCons, gNil, gUnl, gSub, rSetL, tRevL, tAug, ipI, rIxL, rIxT, rCat, rRep, TruV, iList, iRng1, iRng2, iRng3, iEnum, tFor, tYes, List.append_nil, List.cons_append, List.nil_append, List.getElem?_cons_zero, List.getElem?_cons_succ, List.set_cons_zero, List.set_cons_succ, Option.some.injEq, exists_eq_left', exists_eq_left, exists_and_left, V.int.injEq, V.bl.injEq, V.ref.injEq, List.cons.injEq, and_true, true_and, and_assoc, decide_eq_true_eq, Bool.not_eq_true', if_true, if_false, Bool.false_eq_true, ite_true, ite_false, Bool.true_eq_false, reduceCtorEq, false_and, and_false, exists_false, false_or, or_false, gUnl, tCallN, rMax, tBreak, cxK, spChain, spSqf]
    obtain ⟨f, hf⟩ := hA.fac
    have fl := fac_len hA.tr (fun g hg => by
      rcases List.mem_append.mp hg with h | h
      · exact hA.mem g h
      · exact hA.mem g (List.mem_filter.mp h).1) hf
    refine ⟨_, .inl ha, ite2 (fun c => ?_) (fun c => ?_)⟩
    · rw [List.length_map] at c
      have nR : R ≠ [] := fun z => (fl.2.mpr (by omega)) (by rw [z]; rfl)
      refine ⟨s, ha, R, hA, fun H1 p s' s1 n1 e1 S l1 => ⟨s', .new e1, R, ⟨S.tr, (fac_len S.tr hA.mem S.fac).2.mp nR, by have := hA.len; omega, S.pb.mono (by decide), hA.mem, hA.nd, S.fac⟩, fun H2 q Sc s2 h2 hC => hq H2 q Sc (s1.trans s2) h2 (.inr hC)⟩⟩
    · rw [List.length_map] at c
      have nR : R = [] := by
        cases R with
        | nil => rfl
        | cons g t => exact absurd (fl.2.mp (by simp)) (by omega)
      have z0 : CL K H a [] [] := ⟨rfl, fun j a e => by simp at e⟩
      exact ⟨Nat.zero_le _, fun p hp => hq _ p [] (same_new hp) ⟨a, [], SqL.of upd_same, z0.at (same_new hp)⟩ (.inl ⟨rfl, nR⟩)⟩
def spHasB (K : PySem.W.Frag) : Sp := fun vs H Q _ => ∃ (c b d : Addr) (R S : List (List Int)) (lo hi : Rat), vs = [.ref c, .ref b, .ref d] ∧ IsC K H c S ∧ ChO R S ∧ IsN K H b lo ∧ IsN K H d hi ∧ XB lo ∧ XB hi ∧ ∀ H', Same H H' → Q (.bl (hasB S lo hi)) H'
theorem ok_has_root_by (T : Tx P K mg base A D) : FnOk P w K mg base CX0 45 (A 40) (D 40) ["chain", "low", "high"] (spHasB K) := by
  refine T.f_has_root_by.ok sc_has_root_by (fun vs H Q E h => ?_) (fun cdv Ar outer s H vs Q E hr h => ?_)
  · obtain ⟨c, b, d, R, S, lo, hi, rfl, _⟩ := h
    rfl
  · obtain ⟨c, b, d, R, S, lo, hi, rfl, hc, hC, hb, hd, xl, xh, hq⟩ := h
    refine ⟨_, PSs.nox (pss_cons (ps_if (pt_not (pt_truth (pv 0) (by intro _; rfl))) (pss_one (ps_ret pe_bl)) pss_nil) (pss_cons (ps_if (pt_cmpR op_eq (pe_call (ok_sign_at T) (hr.mono (by decide)) (by rfl) T.g_sign_at T.f_sign_at.kp (b_sign_at T) .nil pass0 (pa_cons (pe_ix ix_list (pv 0) pe_int (fun _ _ => rfl)) (pa_cons (pv 1) pa_nil))) pe_int (nomark _)) (pss_one (ps_ret pe_bl)) pss_nil) (pss_one (ps_ret (pe_and (pe_cmpR (op_neD hr.units) (pv 1) (pv 2) (nomark _)) (pe_one (pe_cmpR op_gt (pe_call (ok_variations T) (hr.mono (by decide)) (by rfl) T.g_variations T.f_variations.kp (b_variations T) .nil pass0 (pa_cons (pv 0) (pa_cons (pv 1) pa_nil))) (pe_call (ok_variations T) (hr.mono (by decide)) (by rfl) T.g_variations T.f_variations.kp (b_variations T) .nil pass0 (pa_cons (pv 0) (pa_cons (pv 2) pa_nil))) (nomark _)))))))), ?_⟩
    rw [show start ["chain", "low", "high"] [V.ref c, V.ref b, V.ref d] = [some (V.ref c), some (V.ref b), some (V.ref d)] from rfl]
    simp (maxSteps := 2000000) only [NewO, tLc, wipe, List.map_cons, List.map_nil, tSeq, tIfS, tTest, tOp, tVar, tC, rI0, tPar, tUn, rU, tCons, tNil, tAsg, gName, tCB, tRet, tTup, tLst, rI, rGcd, tNext, tCall, tCallN, tIf, tSl, tPart, tNoPart, rSlL, tDrop, tBM, tBM0, rAppend, rPop, tAndV, tOrV, tNotV, tAnd, tOr, tNot, tB, rEq, rNe, scal_int, gTup, gCons, gNil, gUnl, gSub, rSetL, tRevL, tAug, ipI, rIxL, rIxT, rCat, rRep, TruV, iList, iRng1, iRng2, iRng3, iEnum, tFor, tYes, List.append_nil, List.cons_append, List.nil_append, List.getElem?_cons_zero, List.getElem?_cons_succ, List.set_cons_zero, List.set_cons_succ, Option.some.injEq, exists_eq_left', exists_eq_left, exists_and_left, V.int.injEq, V.bl.injEq, V.ref.injEq, List.cons.injEq, and_true, true_and, and_assoc, decide_eq_true_eq, Bool.not_eq_true', if_true, if_false, Bool.false_eq_true, ite_true, ite_false, Bool.true_eq_false, reduceCtorEq, false_and, and_false, exists_false, false_or, or_false, gUnl, tCallN, rMax, tBreak, cxK, spSignAt, rNeD]
    obtain ⟨C, vs, hv, hL⟩ := id hc
    have ll := hL.len
    refine ⟨_, .inl ⟨_, hv, rfl⟩, ite2 (fun c0 => ?_) (fun c0 => ?_)⟩
    · have hS : S = [] := by
        have : vs = [] := by simpa using c0
        rw [this] at ll
        exact List.length_eq_zero_iff.mp ll.symm
      subst hS
      exact hq H (Same.refl _)
    · have hC : ChnB R S := by
        rcases hC with ⟨z, _⟩ | z
        · subst z
          have : vs = [] := List.length_eq_zero_iff.mp ll
          exact absurd (by rw [this]; rfl) c0
        · exact z
      obtain ⟨s, t, rfl, hA⟩ := hC.hd
      obtain ⟨p, e1, _, e2⟩ := hL.at_ 0 s rfl
      have e : hasB (s :: t) lo hi = (decide (sg (evI s lo) = 0) || (decide (lo ≠ hi) && decide (vr lo (s :: t) > vr hi (s :: t)))) := rfl
      rw [e] at hq
      refine ⟨_, hv, _, at_of rfl e1, p, rfl, s, e2, lo, hb, by have := hA.len; omega, hA.pb.mono (by decide), xl, fun H1 s1 => ite2 (fun c1 => ?_) (fun c1 => ?_)⟩
      · rw [decide_eq_true c1, Bool.true_or] at hq
        exact hq H1 s1
      · rw [decide_eq_false c1, Bool.false_or] at hq
        refine ⟨_, dp_num (hb.at s1), _, dp_num (hd.at s1), rfl, rfl, ?_⟩
        rw [num_ne]
        refine ite2 (fun c2 => ?_) (fun c2 => ?_)
        · have c2 := of_decide_eq_false c2
          refine ⟨_, hc.at s1, lo, hb.at s1, hC.sz, hC.el, xl, fun H2 s2 => ⟨_, hc.at (s1.trans s2), hi, hd.at (s1.trans s2), hC.sz, hC.el, xh, fun H3 s3 => ?_⟩⟩
          have := hq H3 (s1.trans (s2.trans s3))
          rw [decide_eq_true c2, Bool.true_and] at this
          exact this
        · have c2 : lo = hi := by simpa using c2
          have := hq H1 s1
          rw [decide_eq_false (fun z => z c2), Bool.false_and] at this
          exact this
def spHasIn (K : PySem.W.Frag) : Sp := fun vs H Q _ => ∃ (a b d : Addr) (s : List Int) (R : List (List Int)) (lo hi : Rat), vs = [.ref a, .ref b, .ref d] ∧ IsL K H a s ∧ Asked s R ∧ IsN K H b lo ∧ IsN K H d hi ∧ lo ≤ hi ∧ XB lo ∧ XB hi ∧ ∀ H' b, Same H H' → (b = true ↔ ∃ j ∈ flat R, 0 ≤ rt j lo ∧ rt j hi ≤ 0) → Q (.bl b) H'
theorem ok_has_root_in (T : Tx P K mg base A D) : FnOk P w K mg base CX0 47 (A 41) (D 41) ["a", "low", "high"] (spHasIn K) := by
  refine T.f_has_root_in.ok sc_has_root_in (fun vs H Q E h => ?_) (fun cdv Ar outer s H vs Q E hr h => ?_)
  · obtain ⟨a, b, d, s, R, lo, hi, rfl, _⟩ := h
    rfl
  · obtain ⟨a, b, d, s, R, lo, hi, rfl, ha, hA, hb, hd, hle, xl, xh, hq⟩ := h
    refine ⟨_, PSs.nox (pss_one (ps_ret (pe_call (ok_has_root_by T) (hr.mono (by decide)) (by rfl) T.g_has_root_by T.f_has_root_by.kp (b_has_root_by T) .nil pass0 (pa_cons (pe_call (ok_free_chain T) (hr.mono (by decide)) (by rfl) T.g_free_chain T.f_free_chain.kp (b_free_chain T) .nil pass0 (pa_cons (pv 0) pa_nil)) (pa_cons (pv 1) (pa_cons (pv 2) pa_nil)))))), ?_⟩
    rw [show start ["a", "low", "high"] [V.ref a, V.ref b, V.ref d] = [some (V.ref a), some (V.ref b), some (V.ref d)] from rfl]
    simp (maxSteps := 2000000) only [NewO, tLc, wipe, List.map_cons, List.map_nil, tSeq, tIfS, tTest, tOp, tVar, tC, rI0, tPar, tUn, rU, tCons, tNil, tAsg, gName, tCB, tRet, tTup, tLst, rI, rGcd, tNext, tCall, tCallN, tIf, tSl, tPart, tNoPart, rSlL, tDrop, tBM, tBM0, rAppend, rPop, tAndV, tOrV, tNotV, tAnd, tOr, tNot, tB, rEq, rNe, scal_int, gTup, gCons, gNil, gUnl, gSub, rSetL, tRevL, tAug, ipI, rIxL, rIxT, rCat, rRep, TruV, iList, iRng1, iRng2, iRng3, iEnum, tFor, tYes, List.append_nil, List.cons_append, List.nil_append, List.getElem?_cons_zero, List.getElem?_cons_succ, List.set_cons_zero, List.set_cons_succ, Option.some.injEq, exists_eq_left', exists_eq_left, exists_and_left, V.int.injEq, V.bl.injEq, V.ref.injEq, List.cons.injEq, and_true, true_and, and_assoc, decide_eq_true_eq, Bool.not_eq_true', if_true, if_false, Bool.false_eq_true, ite_true, ite_false, Bool.true_eq_false, reduceCtorEq, false_and, and_false, exists_false, false_or, or_false, gUnl, tCallN, rMax, tBreak, cxK, spFree, spHasB]
    refine ⟨s, ha, R, hA, fun H1 p S s1 h1 hC => ⟨R, S, h1, hC, lo, hb.at s1, hi, hd.at s1, xl, xh, fun H2 s2 => hq H2 _ (s1.trans s2) ?_⟩⟩
    rcases hC with ⟨z1, z2⟩ | z
    · subst z1 z2
      constructor
      · intro h; cases h
      · rintro ⟨j, hj, _⟩; cases hj
    · exact hasB_iff z.chn hle
def spHalved (K : PySem.W.Frag) : Sp := fun vs H Q _ => ∃ (a b d : Addr) (s : List Int) (R : List (List Int)) (ρ : Nat) (lo hi : Rat) (l : Nat), vs = [.ref a, .ref b, .ref d] ∧ IsL K H a s ∧ ChA s R ∧ IsN K H b lo ∧ IsN K H d hi ∧ lo < hi ∧ Dy l lo ∧ Dy l hi ∧ l ≤ 3800 ∧ Aro R ρ lo hi ∧ ∀ H' p lo' hi', Same H H' → IsI K H' p lo' hi' → Aro R ρ lo' hi' → Dy (l + 1) lo' → Dy (l + 1) hi' → hi' - lo' ≤ (hi - lo) / 2 → Q (.ref p) H'
theorem ok_halved (T : Tx P K mg base A D) : FnOk P w K mg base CX0 44 (A 42) (D 42) ["p", "low", "high"] (spHalved K) := by
  refine T.f_halved.ok sc_halved (fun vs H Q E h => ?_) (fun cdv Ar outer s H vs Q E hr h => ?_)
  · obtain ⟨a, b, d, s, R, ρ, lo, hi, l, rfl, _⟩ := h
    rfl
  · obtain ⟨a, b, d, s, R, ρ, lo, hi, l, rfl, ha, hA, hb, hd, hlt, d1, d2, hl, hAr, hq⟩ := h
    refine ⟨_, PSs.nox (pss_cons (ps_set (i := 3) sc_halved.nd rfl (.inl rfl) (pe_call (ok_half T) (hr.mono (by decide)) (by rfl) T.g_half T.f_half.kp (b_half T) .nil pass0 (pa_cons (pv 1) (pa_cons (pv 2) pa_nil)))) (pss_cons (ps_if (pt_cmpR op_eq (pe_call (ok_sign_at T) (hr.mono (by decide)) (by rfl) T.g_sign_at T.f_sign_at.kp (b_sign_at T) .nil pass0 (pa_cons (pv 0) (pa_cons (pv 3) pa_nil))) pe_int (nomark _)) (pss_one (ps_ret (pe_tup (pa_cons (pv 3) (pa_cons (pv 3) pa_nil))))) pss_nil) (pss_cons (ps_if (pt_cmpR op_ne (pe_call (ok_sign_at T) (hr.mono (by decide)) (by rfl) T.g_sign_at T.f_sign_at.kp (b_sign_at T) .nil pass0 (pa_cons (pv 0) (pa_cons (pv 1) pa_nil))) (pe_call (ok_sign_at T) (hr.mono (by decide)) (by rfl) T.g_sign_at T.f_sign_at.kp (b_sign_at T) .nil pass0 (pa_cons (pv 0) (pa_cons (pv 3) pa_nil))) (nomark _)) (pss_one (ps_ret (pe_tup (pa_cons (pv 1) (pa_cons (pv 3) pa_nil))))) pss_nil) (pss_one (ps_ret (pe_tup (pa_cons (pv 3) (pa_cons (pv 2) pa_nil)))))))), ?_⟩
    rw [show start ["p", "low", "high", "middle"] [V.ref a, V.ref b, V.ref d] = [some (V.ref a), some (V.ref b), some (V.ref d), none] from rfl]
    simp (maxSteps := 2000000) only [NewO, tLc, wipe, List.map_cons, List.map_nil, tSeq, tIfS, tTest, tOp, tVar, tC, rI0, tPar, tUn, rU, tCons, tNil, tAsg, gName, tCB, tRet, tTup, tLst, rI, rGcd, tNext, tCall, tCallN, tIf, tSl, tPart, tNoPart, rSlL, tDrop, tBM, tBM0, rAppend, rPop, tAndV, tOrV, tNotV, tAnd, tOr, tNot, tB, rEq, rNe, scal_int, gTup, gCons, gNil, gUnl, gSub, rSetL, tRevL, tAug, ipI, rIxL, rIxT, rCat, rRep, TruV, iList, iRng1, iRng2, iRng3, iEnum, tFor, tYes, List.append_nil, List.cons_append, List.nil_append, List.getElem?_cons_zero, List.getElem?_cons_succ, List.set_cons_zero, List.set_cons_succ, Option.some.injEq, exists_eq_left', exists_eq_left, exists_and_left, V.int.injEq, V.bl.injEq, V.ref.injEq, List.cons.injEq, and_true, true_and, and_assoc, decide_eq_true_eq, Bool.not_eq_true', if_true, if_false, Bool.false_eq_true, ite_true, ite_false, Bool.true_eq_false, reduceCtorEq, false_and, and_false, exists_false, false_or, or_false, gUnl, tCallN, rMax, tBreak, cxK, spSignAt, spHalf]
    have xl := d1.xb (by omega)
    have xh := d2.xb (by omega)
    have dm := d1.mid d2
    have xm := dm.xb (by omega)
    have hlen := hA.len
    obtain ⟨cc, hcc, ecc⟩ := hA.fac
    obtain ⟨r1, r2⟩ := hAr.half hA.nd (mid := (lo + hi) / 2) (by grind) (by grind) hcc ecc
    refine ⟨lo, hb, hi, hd, fit2 xl xh (by decide), ⟨8002, R2b.rb (xl.add xh (m := 8000) (by decide) (by decide)) (by decide) (by decide), by decide⟩, fun H1 p s1 n1 e1 => ?_⟩
    have hp : IsN K H1 p ((lo + hi) / 2) := .new e1
    refine ⟨s, ha.at s1, _, hp, by omega, hA.pb.mono (by decide), xm, fun H2 s2 => ite2 (fun c => ?_) (fun c => ?_)⟩
    · exact ⟨by show 2 ≤ sizeLine; decide, fun q nq => hq _ q _ _ (s1.trans (s2.trans (same_new nq))) (IsI.new (hp.at s2) (hp.at s2) nq) (r1 c) dm dm (by grind)⟩
    · obtain ⟨r2, r3⟩ := r2 c
      have s12 := s1.trans s2
      refine ⟨s, ha.at s12, lo, hb.at s12, by omega, hA.pb.mono (by decide), xl, fun H3 s3 => ⟨s, ha.at (s12.trans s3), _, hp.at (s2.trans s3), by omega, hA.pb.mono (by decide), xm, fun H4 s4 => ?_⟩⟩
      have s34 := s3.trans s4
      have s14 := s12.trans s34
      refine ite2 (fun c2 => ?_) (fun c2 => ?_)
      · have c2 := of_decide_eq_false c2
        exact ⟨by show 2 ≤ sizeLine; decide, fun q nq => hq _ q _ _ (s14.trans (same_new nq)) (IsI.new (hb.at s14) (hp.at (s2.trans s34)) nq) (r2 c2) (d1.up (by omega)) dm (by grind)⟩
      · have c2 : sg (evI s lo) = sg (evI s ((lo + hi) / 2)) := by simpa using c2
        exact ⟨by show 2 ≤ sizeLine; decide, fun q nq => hq _ q _ _ (s14.trans (same_new nq)) (IsI.new (hp.at (s2.trans s34)) (hd.at s14) nq) (r3 c2) dm (d2.up (by omega)) (by grind)⟩
theorem ok_intervals_of (T : Tx P K mg base A D) : FnOk P w K mg base CX0 48 (A 31) (D 31) ["p", "width"] (fun vs H Q _ => ∃ (a w1 : Addr) (s : List Int) (R : List (List Int)), vs = [.ref a, .ref w1] ∧ IsL K H a s ∧ ChA s R ∧ IsN K H w1 1 ∧ ∀ (H' : Hp) (p : Addr) (es : List (Addr × Rat × Rat)), Same H H' → H' p = some (.lst (es.map adr)) → (∀ e ∈ es, IsI K H' e.1 e.2.1 e.2.2) → (∀ k : Nat, (k : Int) < TF R → ∃ e, es[k]? = some e ∧ Fo R e.2.1 e.2.2 ∧ BF R e.2.1 = k) → Q (.ref p) H') := by
  refine T.f_intervals_of.ok sc_intervals_of (fun vs H Q E h => ?_) (fun cdv Ar outer s H vs Q E hr h => ?_)
  · obtain ⟨a, w1, s, R, rfl, _⟩ := h
    rfl
  · obtain ⟨a, w1, s, R, rfl, ha, hA, hw, hq⟩ := h
    refine ⟨_, PSs.nox (pss_one (ps_ret (pe_callN (ok_intervals_by T) (hr.mono (by decide)) (by rfl) T.g_intervals_by T.f_intervals_by.kp (b_intervals_by T) pass0 (pa_cons (pe_call (ok_chain_of T) (hr.mono (by decide)) (by rfl) T.g_chain_of T.f_chain_of.kp (b_chain_of T) .nil pass0 (pa_cons (pv 0) pa_nil)) pa_nil) (pk_cons (pv 1) pk_nil)))), ?_⟩
    rw [show start ["p", "width"] [V.ref a, V.ref w1] = [some (V.ref a), some (V.ref w1)] from rfl]
    simp (maxSteps := 2000000) only [NewO, tLc, wipe, List.map_cons, List.map_nil, tSeq, tIfS, tTest, tOp, tVar, tC, rI0, tPar, tUn, rU, tCons, tNil, tAsg, gName, tCB, tRet, tTup, tLst, rI, rGcd, tNext, tCall, tCallN, tIf, tSl, tPart, tNoPart, rSlL, tDrop, tBM, tBM0, rAppend, rPop, tAndV, tOrV, tNotV, tAnd, tOr, tNot, tB, rEq, rNe, scal_int, gTup, gCons, gNil, gUnl, gSub, rSetL, tRevL, tAug, ipI, rIxL, rIxT, rCat, rRep, TruV, iList, iRng1, iRng2, iRng3, iEnum, tFor, tYes, List.append_nil, List.cons_append, List.nil_append, List.getElem?_cons_zero, List.getElem?_cons_succ, List.set_cons_zero, List.set_cons_succ, Option.some.injEq, exists_eq_left', exists_eq_left, exists_and_left, V.int.injEq, V.bl.injEq, V.ref.injEq, List.cons.injEq, and_true, true_and, and_assoc, decide_eq_true_eq, Bool.not_eq_true', if_true, if_false, Bool.false_eq_true, ite_true, ite_false, Bool.true_eq_false, reduceCtorEq, false_and, and_false, exists_false, false_or, or_false, gUnl, tCallN, rMax, tBreak, cxK, spChain, spIvs]
    refine ⟨s, ha, R, hA, fun H1 p S s1 h1 hC => ⟨rfl, rfl, R, S, h1, hw.at s1, hC, fun H2 q es s2 h2 => hq H2 q es (s1.trans s2) h2⟩⟩
def spIv (K : PySem.W.Frag) : Sp := fun vs H Q _ => ∃ (a : Addr) (k : Nat) (s : List Int) (R : List (List Int)), vs = [.ref a, .int k] ∧ IsL K H a s ∧ ChA s R ∧ (k : Int) < TF R ∧ ∀ (H' : Hp) (p : Addr) lo hi, Same H H' → IsI K H' p lo hi → Fo R lo hi → BF R lo = k → Q (.ref p) H'
theorem ok_interval_of (T : Tx P K mg base A D) : FnOk P w K mg base CX0 49 (A 38) (D 38) ["p", "place"] (spIv K) := by
  refine T.f_interval_of.ok sc_interval_of (fun vs H Q E h => ?_) (fun cdv Ar outer s H vs Q E hr h => ?_)
  · obtain ⟨a, k, s, R, rfl, _⟩ := h
    rfl
  · obtain ⟨a, k, s, R, rfl, ha, hA, hk, hq⟩ := h
    refine ⟨_, PSs.nox (pss_one (ps_ret (pe_ix ix_list (pe_callN (ok_intervals_of T) (hr.mono (by decide)) (by rfl) T.g_intervals_of T.f_intervals_of.kp (b_intervals_of T) pass0 (pa_cons (pv 0) pa_nil) (pk_cons (pe_tup (pa_cons pe_int (pa_cons pe_int pa_nil))) pk_nil)) (pv 1) (fun _ _ => rfl)))), ?_⟩
    rw [show start ["p", "place"] [V.ref a, V.int k] = [some (V.ref a), some (V.int k)] from rfl]
    simp (maxSteps := 2000000) only [NewO, tLc, wipe, List.map_cons, List.map_nil, tSeq, tIfS, tTest, tOp, tVar, tC, rI0, tPar, tUn, rU, tCons, tNil, tAsg, gName, tCB, tRet, tTup, tLst, rI, rGcd, tNext, tCall, tCallN, tIf, tSl, tPart, tNoPart, rSlL, tDrop, tBM, tBM0, rAppend, rPop, tAndV, tOrV, tNotV, tAnd, tOr, tNot, tB, rEq, rNe, scal_int, gTup, gCons, gNil, gUnl, gSub, rSetL, tRevL, tAug, ipI, rIxL, rIxT, rCat, rRep, TruV, iList, iRng1, iRng2, iRng3, iEnum, tFor, tYes, List.append_nil, List.cons_append, List.nil_append, List.getElem?_cons_zero, List.getElem?_cons_succ, List.set_cons_zero, List.set_cons_succ, Option.some.injEq, exists_eq_left', exists_eq_left, exists_and_left, V.int.injEq, V.bl.injEq, V.ref.injEq, List.cons.injEq, and_true, true_and, and_assoc, decide_eq_true_eq, Bool.not_eq_true', if_true, if_false, Bool.false_eq_true, ite_true, ite_false, Bool.true_eq_false, reduceCtorEq, false_and, and_false, exists_false, false_or, or_false, gUnl, tCallN, rMax, tBreak, cxK]
    refine ⟨by show 2 ≤ sizeLine; decide, fun u nu => ⟨rfl, rfl, s, ha.at (same_new nu), R, hA, IsN.new (r := 1) upd_same, fun H1 p es s1 h1 hI hP => ?_⟩⟩
    obtain ⟨e, e1, e2, e3⟩ := hP k hk
    exact ⟨_, SqL.of h1, adr e, at_of rfl (by rw [List.getElem?_map, e1]; rfl), hq H1 e.1 _ _ ((same_new nu).trans s1) (hI e (List.mem_of_getElem? e1)) e2 e3⟩
def spInside (K : PySem.W.Frag) : Sp := fun vs H Q _ => ∃ (a iv b : Addr) (s o : List Int) (R : List (List Int)) (ρ : Nat) (lo hi : Rat) (z : Int), vs = [.ref a, .ref iv, .ref b] ∧ IsL K H a s ∧ ChA s R ∧ R.length ≤ 6 ∧ IsI K H iv lo hi ∧ Dy 2000 lo ∧ Dy 2000 hi ∧ hi - lo ≤ 1 ∧ Aro R ρ lo hi ∧ IsL K H b o ∧ ((o = [] ∧ z = 0) ∨ (o ≠ [] ∧ ∃ Ro O c, Asked o Ro ∧ c ≠ 0 ∧ (∀ x, evI o x = c * prodE O x) ∧ (∀ g, g ∈ O ↔ g ∈ Ro) ∧ z = sg c * sgP ρ O)) ∧ ∀ H', Same H H' → Q (.int z) H'
theorem ok_sign_inside (T : Tx P K mg base A D) : FnOk P w K mg base CX0 48 (A 43) (D 43) ["p", "interval", "a"] (spInside K) := by
  refine T.f_sign_inside.ok sc_sign_inside (fun vs H Q E h => ?_) (fun cdv Ar outer s H vs Q E hr h => ?_)
  · obtain ⟨a, iv, b, s, o, R, ρ, lo, hi, z, rfl, _⟩ := h
    rfl
  · obtain ⟨a, iv, b, s, o, R, ρ, lo, hi, z, rfl, ha, hA, few, hiv, d1, d2, hw, hAr, hb, hz, hq⟩ := h
    refine ⟨_, PSs.nox (pss_cons (ps_if (pt_not (pt_truth (pv 2) (by intro _; rfl))) (pss_one (ps_ret pe_int)) pss_nil) (pss_cons (ps_asg (pv 1) (pg_tup (n := 2) (by rfl) (pgs_cons (pg_name (i := 3) sc_sign_inside.nd rfl (.inl rfl)) (pgs_cons (pg_name (i := 4) sc_sign_inside.nd rfl (.inl rfl)) pgs_nil)))) (pss_cons (ps_if (pt_val (pe_call (ok_has_root_in T) (hr.mono (by decide)) (by rfl) T.g_has_root_in T.f_has_root_in.kp (b_has_root_in T) .nil pass0 (pa_cons (pe_call (ok_common_divisor T) (hr.mono (by decide)) (by rfl) T.g_common_divisor T.f_common_divisor.kp (b_common_divisor T) .nil pass0 (pa_cons (pv 0) (pa_cons (pv 2) pa_nil))) (pa_cons (pv 3) (pa_cons (pv 4) pa_nil))))) (pss_one (ps_ret pe_int)) pss_nil) (pss_cons (ps_set (i := 5) sc_sign_inside.nd rfl (.inl rfl) (pe_call (ok_free_chain T) (hr.mono (by decide)) (by rfl) T.g_free_chain T.f_free_chain.kp (b_free_chain T) .nil pass0 (pa_cons (pv 2) pa_nil))) (pss_cons (ps_while PassesOwn.never (pt_val (pe_call (ok_has_root_by T) (hr.mono (by decide)) (by rfl) T.g_has_root_by T.f_has_root_by.kp (b_has_root_by T) .nil pass0 (pa_cons (pv 5) (pa_cons (pv 3) (pa_cons (pv 4) pa_nil))))) (pss_one (ps_asg (pe_call (ok_halved T) (hr.mono (by decide)) (by rfl) T.g_halved T.f_halved.kp (b_halved T) .nil pass0 (pa_cons (pv 0) (pa_cons (pv 3) (pa_cons (pv 4) pa_nil)))) (pg_tup (n := 2) (by rfl) (pgs_cons (pg_name (i := 3) sc_sign_inside.nd rfl (.inl rfl)) (pgs_cons (pg_name (i := 4) sc_sign_inside.nd rfl (.inl rfl)) pgs_nil)))))) (pss_one (ps_ret (pe_call (ok_sign_at T) (hr.mono (by decide)) (by rfl) T.g_sign_at T.f_sign_at.kp (b_sign_at T) .nil pass0 (pa_cons (pv 2) (pa_cons (pv 3) pa_nil)))))))))), ?_⟩
    rw [show start ["p", "interval", "a", "low", "high", "chain"] [V.ref a, V.ref iv, V.ref b] = [some (V.ref a), some (V.ref iv), some (V.ref b), none, none, none] from rfl]
    simp (maxSteps := 2000000) only [NewO, tLc, wipe, List.map_cons, List.map_nil, tSeq, tIfS, tTest, tOp, tVar, tC, rI0, tPar, tUn, rU, tCons, tNil, tAsg, gName, tCB, tRet, tTup, tLst, rI, rGcd, tNext, tCall, tCallN, tIf, tSl, tPart, tNoPart, rSlL, tDrop, tBM, tBM0, rAppend, rPop, tAndV, tOrV, tNotV, tAnd, tOr, tNot, tB, rEq, rNe, scal_int, gTup, gCons, gNil, gUnl, gSub, rSetL, tRevL, tAug, ipI, rIxL, rIxT, rCat, rRep, TruV, iList, iRng1, iRng2, iRng3, iEnum, tFor, tYes, List.append_nil, List.cons_append, List.nil_append, List.getElem?_cons_zero, List.getElem?_cons_succ, List.set_cons_zero, List.set_cons_succ, Option.some.injEq, exists_eq_left', exists_eq_left, exists_and_left, V.int.injEq, V.bl.injEq, V.ref.injEq, List.cons.injEq, and_true, true_and, and_assoc, decide_eq_true_eq, Bool.not_eq_true', if_true, if_false, Bool.false_eq_true, ite_true, ite_false, Bool.true_eq_false, reduceCtorEq, false_and, and_false, exists_false, false_or, or_false, gUnl, tCallN, rMax, tBreak, cxK, spHasIn, spCd, spFree, spHasB, spHalved, spSignAt, tWhile]
    refine ⟨_, .inl ⟨_, hb, rfl⟩, ite2 (fun c0 => ?_) (fun c0 => ?_)⟩
    · have on : o = [] := by simpa using c0
      rcases hz with ⟨_, h0⟩ | ⟨h0, _⟩
      · subst h0; exact hq H (Same.refl _)
      · exact absurd on h0
    rcases hz with ⟨h0, _⟩ | ⟨on, Ro, O, cc, hO, hcc, ecc, hmem, hzz⟩
    · exact absurd (by rw [h0]; rfl) c0
    obtain ⟨u, v, i1, hlo, hhi⟩ := hiv
    have ρ26 := hAr.lt26
    have inn := hAr.inn
    have Om : ∀ g ∈ O, g ∈ menu := fun g hg => hO.mem g ((hmem g).mp hg)
    have flatO : ∀ j, j ∈ flat O ↔ j ∈ flat Ro := fun j => by rw [mem_flat, mem_flat, hmem]
    refine ⟨_, i1, rfl, _, _, rfl, _, _, rfl, rfl, s, ha, o, hb, hA.tr, hA.ne, hO.tr, .start hA.pb hO.pb (by decide) hA.len hO.len, fun H1 p g s1 n1 e1 C => ?_⟩
    have fg := gcd_fac C hA.mem hA.nd Om hA.fac ⟨cc, hcc, ecc⟩
    have cm : ∀ f ∈ common R O, f ∈ R ∧ f ∈ O := fun f hf => ⟨(List.mem_filter.mp hf).1, of_decide_eq_true (List.mem_filter.mp hf).2⟩
    have cl : (common R O).length ≤ 6 := Nat.le_trans (List.length_filter_le _ _) few
    obtain ⟨wf, pwf, ewf⟩ := C.dvA
    have gl := dv_len hA.tr hA.ne C.tr pwf ewf
    have gA : Asked g (common R O) := ⟨C.tr, C.ne, Nat.le_trans gl hA.len, (pb_prim C.prim (fun f hf => hA.mem f (cm f hf).1) cl fg).mono (by decide), fun f hf => hA.mem f (cm f hf).1, hA.nd.sublist List.filter_sublist, cl, fun _ => false, by
      rw [List.filter_eq_nil_iff.mpr (fun _ _ h => by cases h), List.append_nil]; exact fg⟩
    have xl := d1.xb (by decide)
    have xh := d2.xb (by decide)
    refine ⟨_, rfl, _, rfl, g, .new e1, common R O, gA, lo, hlo.at s1, hi, hhi.at s1, inn.le, xl, xh, fun H2 bb s2 hbb => ite2 (fun c => ?_) (fun c => ?_)⟩
    · obtain ⟨j, hj, j1, j2⟩ := hbb.mp c
      have hj' := mem_flat.mp hj
      have jr : j = ρ := hAr.only (mem_flat.mpr ⟨hj'.1, (cm _ hj'.2).1⟩) j1 j2
      have hρO : ρ ∈ flat O := by rw [← jr]; exact mem_flat.mpr ⟨hj'.1, (cm _ hj'.2).2⟩
      rw [sgP_zero hρO, Int.mul_zero] at hzz
      subst hzz
      exact hq H2 (s1.trans s2)
    · have nO : ρ ∉ flat Ro := fun h => c (hbb.mpr ⟨ρ, by
        have h1 := mem_flat.mp ((flatO ρ).mpr h)
        have h2 := mem_flat.mp hAr.r
        exact mem_flat.mpr ⟨ρ26, List.mem_filter.mpr ⟨h2.2, decide_eq_true h1.2⟩⟩, inn.a, inn.b⟩)
      have s12 := s1.trans s2
      refine ⟨o, hb.at s12, Ro, hO, fun H3 c S s3 hc hC => ?_⟩
      have s13 := s12.trans s3
      refine ⟨fun m σ H' => ∃ (u v : Addr) (lo hi : Rat), σ = [some (.ref a), some (.ref iv), some (.ref b), some (.ref u), some (.ref v), some (.ref c)] ∧ m ≤ 14 ∧ Same H3 H' ∧ IsN K H' u lo ∧ IsN K H' v hi ∧ Aro R ρ lo hi ∧ Dy (2014 - m) lo ∧ Dy (2014 - m) hi ∧ hi - lo ≤ sep * ((2 ^ m : Nat) : Rat), ⟨14, u, v, lo, hi, rfl, by decide, Same.refl _, hlo.at s13, hhi.at s13, hAr, d1.up (by decide), d2.up (by decide), ?_⟩, fun m σ H' hW => ?_⟩
      · have : sep * ((2 ^ 14 : Nat) : Rat) = 1 := by decide +kernel
        rw [this]; exact hw
      · obtain ⟨u, v, lo, hi, rfl, hm, s4, hlo, hhi, hAr, d1, d2, hw⟩ := hW
        simp (maxSteps := 2000000) only [NewO, tLc, wipe, List.map_cons, List.map_nil, tSeq, tIfS, tTest, tOp, tVar, tC, rI0, tPar, tUn, rU, tCons, tNil, tAsg, gName, tCB, tRet, tTup, tLst, rI, rGcd, tNext, tCall, tCallN, tIf, tSl, tPart, tNoPart, rSlL, tDrop, tBM, tBM0, rAppend, rPop, tAndV, tOrV, tNotV, tAnd, tOr, tNot, tB, rEq, rNe, scal_int, gTup, gCons, gNil, gUnl, gSub, rSetL, tRevL, tAug, ipI, rIxL, rIxT, rCat, rRep, TruV, iList, iRng1, iRng2, iRng3, iEnum, tFor, tYes, List.append_nil, List.cons_append, List.nil_append, List.getElem?_cons_zero, List.getElem?_cons_succ, List.set_cons_zero, List.set_cons_succ, Option.some.injEq, exists_eq_left', exists_eq_left, exists_and_left, V.int.injEq, V.bl.injEq, V.ref.injEq, List.cons.injEq, and_true, true_and, and_assoc, decide_eq_true_eq, Bool.not_eq_true', if_true, if_false, Bool.false_eq_true, ite_true, ite_false, Bool.true_eq_false, reduceCtorEq, false_and, and_false, exists_false, false_or, or_false, gUnl, tCallN, rMax, tBreak]
        have xl := d1.xb (by omega)
        have xh := d2.xb (by omega)
        have inn := hAr.inn
        refine ⟨Ro, S, hc.at s4, hC, lo, hlo, hi, hhi, xl, xh, fun H4 s5 => ?_⟩
        have iff : hasB S lo hi = true ↔ ∃ j ∈ flat Ro, 0 ≤ rt j lo ∧ rt j hi ≤ 0 := by
          rcases hC with ⟨z1, z2⟩ | z
          · subst z1 z2
            constructor
            · intro h; cases h
            · rintro ⟨j, hj, _⟩; cases hj
          · exact hasB_iff z.chn inn.le
        refine ite2 (fun c1 => ?_) (fun c1 => ?_)
        · obtain ⟨j, hj, j1, j2⟩ := iff.mp c1
          have jne : j ≠ ρ := fun z => nO (by rw [← z]; exact hj)
          have j26 := (mem_flat.mp hj).1
          have hlt : lo < hi := by
            rcases hAr.at_ with ⟨q, _⟩ | ⟨q, _⟩
            · exact absurd (hAr.narrow (by have := sep_pos; grind) j26 j1 j2) jne
            · exact q
          obtain ⟨k, rfl⟩ : ∃ k, m = k + 1 := by
            cases m with
            | succ k => exact ⟨k, rfl⟩
            | zero =>
              have : ((2 ^ 0 : Nat) : Rat) = 1 := rfl
              rw [this] at hw
              exact absurd (hAr.narrow (by grind) j26 j1 j2) jne
          have s45 := s4.trans s5
          have s15 := s13.trans s45
          refine ⟨_, fun _ _ h => h, s, ha.at s15, R, hA, ρ, lo, hlo.at s5, hi, hhi.at s5, hlt, 2014 - (k + 1), d1, d2, by omega, hAr, fun H6 q lo' hi' s6 hI hAr' e1 e2 hw' => ?_⟩
          obtain ⟨u', v', i2, hlo', hhi'⟩ := hI
          refine ⟨_, i2, rfl, _, _, rfl, _, _, rfl, rfl, k, by omega, u', v', rfl, by omega, s45.trans s6, lo', hlo', hi', hhi', hAr', e1.up (by omega), e2.up (by omega), ?_⟩
          rw [pow2r] at hw
          grind
        · have s45 := s4.trans s5
          have s15 := s13.trans s45
          refine ⟨o, hb.at s15, lo, hlo.at s5, by have := hO.len; omega, hO.pb.mono (by decide), xl, fun H6 s6 => ?_⟩
          have off : ∀ j ∈ flat O, Off j lo hi := fun j hj => (off_iff (mem_flat.mp hj).1).mpr fun q => c1 (iff.mpr ⟨j, (flatO j).mp hj, q.1, q.2⟩)
          have := sgP_off ρ26 inn Om off
          rw [ecc, sg_mul, this, ← hzz]
          exact hq H6 (s15.trans s6)
def spRoot (K : PySem.W.Frag) : Sp := fun vs H Q _ => ∃ (a b : Addr) (k : Nat) (s o : List Int) (R : List (List Int)) (ρ : Nat) (z : Int), vs = [.ref a, .int k, .ref b] ∧ IsL K H a s ∧ ChA s R ∧ R.length ≤ 6 ∧ IsR R k ρ ∧ IsL K H b o ∧ ((o = [] ∧ z = 0) ∨ (o ≠ [] ∧ ∃ Ro O c, Asked o Ro ∧ c ≠ 0 ∧ (∀ x, evI o x = c * prodE O x) ∧ (∀ g, g ∈ O ↔ g ∈ Ro) ∧ z = sg c * sgP ρ O)) ∧ (k : Int) < TF R ∧ ∀ H', Same H H' → Q (.int z) H'
theorem ok_sign_at_root (T : Tx P K mg base A D) : FnOk P w K mg base CX0 50 (A 44) (D 44) ["p", "place", "a"] (spRoot K) := by
  refine T.f_sign_at_root.ok sc_sign_at_root (fun vs H Q E h => ?_) (fun cdv Ar outer s H vs Q E hr h => ?_)
  · obtain ⟨a, b, k, s, o, R, ρ, z, rfl, _⟩ := h
    rfl
  · obtain ⟨a, b, k, s, o, R, ρ, z, rfl, ha, hA, few, hR, hb, hz, hk, hq⟩ := h
    refine ⟨_, PSs.nox (pss_one (ps_ret (pe_call (ok_sign_inside T) (hr.mono (by decide)) (by rfl) T.g_sign_inside T.f_sign_inside.kp (b_sign_inside T) .nil pass0 (pa_cons (pv 0) (pa_cons (pe_call (ok_interval_of T) (hr.mono (by decide)) (by rfl) T.g_interval_of T.f_interval_of.kp (b_interval_of T) .nil pass0 (pa_cons (pv 0) (pa_cons (pv 1) pa_nil))) (pa_cons (pv 2) pa_nil)))))), ?_⟩
    rw [show start ["p", "place", "a"] [V.ref a, V.int k, V.ref b] = [some (V.ref a), some (V.int k), some (V.ref b)] from rfl]
    simp (maxSteps := 2000000) only [NewO, tLc, wipe, List.map_cons, List.map_nil, tSeq, tIfS, tTest, tOp, tVar, tC, rI0, tPar, tUn, rU, tCons, tNil, tAsg, gName, tCB, tRet, tTup, tLst, rI, rGcd, tNext, tCall, tCallN, tIf, tSl, tPart, tNoPart, rSlL, tDrop, tBM, tBM0, rAppend, rPop, tAndV, tOrV, tNotV, tAnd, tOr, tNot, tB, rEq, rNe, scal_int, gTup, gCons, gNil, gUnl, gSub, rSetL, tRevL, tAug, ipI, rIxL, rIxT, rCat, rRep, TruV, iList, iRng1, iRng2, iRng3, iEnum, tFor, tYes, List.append_nil, List.cons_append, List.nil_append, List.getElem?_cons_zero, List.getElem?_cons_succ, List.set_cons_zero, List.set_cons_succ, Option.some.injEq, exists_eq_left', exists_eq_left, exists_and_left, V.int.injEq, V.bl.injEq, V.ref.injEq, List.cons.injEq, and_true, true_and, and_assoc, decide_eq_true_eq, Bool.not_eq_true', if_true, if_false, Bool.false_eq_true, ite_true, ite_false, Bool.true_eq_false, reduceCtorEq, false_and, and_false, exists_false, false_or, or_false, gUnl, tCallN, rMax, tBreak, cxK, spInside, spIv]
    refine ⟨k, rfl, s, ha, R, hA, hk, fun H1 p lo hi s1 hI F e => ⟨s, ha.at s1, o, R, hA, few, ρ, lo, hi, hI, F.d1, F.d2, ?_, F.aro hA.mem hA.nd hR e, hb.at s1, z, ?_, fun H2 s2 => hq H2 (s1.trans s2)⟩⟩
    · rcases F.or with ⟨q, _⟩ | ⟨_, _, _, _, q⟩
      · rw [q]; grind
      · exact q
    · rcases hz with h | ⟨h1, Ro, O, c, h2, h3⟩
      · exact .inl h
      · exact .inr ⟨h1, Ro, h2, O, c, h3⟩
theorem ok_compare_by (T : Tx P K mg base A D) : FnOk P w K mg base CX0 46 (A 35) (D 35) ["chain", "place", "x"] (fun vs H Q _ => ∃ (c x : Addr) (k : Nat) (R S : List (List Int)) (r : Rat), vs = [.ref c, .int k, .ref x] ∧ IsC K H c S ∧ ChnB R S ∧ IsN K H x r ∧ XB r ∧ ∀ H' (z : Int), Same H H' → (z = 0 → NF R r = k + 1 ∧ prodE R r = 0) → Q (.int z) H') := by
  refine T.f_compare_by.ok sc_compare_by (fun vs H Q E h => ?_) (fun cdv Ar outer s H vs Q E hr h => ?_)
  · obtain ⟨c, x, k, R, S, r, rfl, _⟩ := h
    rfl
  · obtain ⟨c, x, k, R, S, r, rfl, hc, hC, hx, xr, hq⟩ := h
    refine ⟨_, PSs.nox (pss_cons (ps_set (i := 3) sc_compare_by.nd rfl (.inl rfl) (pe_ix ix_list (pv 0) pe_int (fun _ _ => rfl))) (pss_cons (ps_set (i := 4) sc_compare_by.nd rfl (.inl rfl) (pe_call (ok_count_up_to T) (hr.mono (by decide)) (by rfl) T.g_count_up_to T.f_count_up_to.kp (b_count_up_to T) .nil pass0 (pa_cons (pv 0) (pa_cons (pv 2) pa_nil)))) (pss_cons (ps_if (pt_cmpR op_le (pv 4) (pv 1) (nomark _)) (pss_one (ps_ret pe_int)) pss_nil) (pss_one (ps_ret (pe_ifExp (PW.pt (pw_and (pt_cmpR op_eq (pv 4) (pe_op op_add (pv 1) pe_int) (nomark _)) (pw_and1 (pt_cmpR op_eq (pe_call (ok_sign_at T) (hr.mono (by decide)) (by rfl) T.g_sign_at T.f_sign_at.kp (b_sign_at T) .nil pass0 (pa_cons (pv 3) (pa_cons (pv 2) pa_nil))) pe_int (nomark _))))) pe_int (pe_un un_neg pe_int))))))), ?_⟩
    rw [show start ["chain", "place", "x", "p", "many"] [V.ref c, V.int k, V.ref x] = [some (V.ref c), some (V.int k), some (V.ref x), none, none] from rfl]
    simp (maxSteps := 2000000) only [NewO, tLc, wipe, List.map_cons, List.map_nil, tSeq, tIfS, tTest, tOp, tVar, tC, rI0, tPar, tUn, rU, tCons, tNil, tAsg, gName, tCB, tRet, tTup, tLst, rI, rGcd, tNext, tCall, tCallN, tIf, tSl, tPart, tNoPart, rSlL, tDrop, tBM, tBM0, rAppend, rPop, tAndV, tOrV, tNotV, tAnd, tOr, tNot, tB, rEq, rNe, scal_int, gTup, gCons, gNil, gUnl, gSub, rSetL, tRevL, tAug, ipI, rIxL, rIxT, rCat, rRep, TruV, iList, iRng1, iRng2, iRng3, iEnum, tFor, tYes, List.append_nil, List.cons_append, List.nil_append, List.getElem?_cons_zero, List.getElem?_cons_succ, List.set_cons_zero, List.set_cons_succ, Option.some.injEq, exists_eq_left', exists_eq_left, exists_and_left, V.int.injEq, V.bl.injEq, V.ref.injEq, List.cons.injEq, and_true, true_and, and_assoc, decide_eq_true_eq, Bool.not_eq_true', if_true, if_false, Bool.false_eq_true, ite_true, ite_false, Bool.true_eq_false, reduceCtorEq, false_and, and_false, exists_false, false_or, or_false, gUnl, tCallN, rMax, tBreak, cxK, spCount, spSignAt]
    obtain ⟨p, s, vs, hv, hp0, hp, hA⟩ := hc.head hC
    refine ⟨_, hv, _, hp0, R, S, hc, r, hx, hC, xr, fun H1 s1 => ite2 (fun _ => hq H1 1 s1 fun z => absurd z (by decide)) (fun c1 => ite2 (fun c2 => ⟨p, rfl, s, hp.at s1, r, hx.at s1, by have := hA.len; omega, hA.pb.mono (by decide), xr, fun H2 s2 => ite2 (fun c3 => hq H2 0 (s1.trans s2) fun _ => ⟨c2, (hA.zero _).mp c3⟩) (fun _ => hq H2 (-1) (s1.trans s2) fun z => absurd z (by decide))⟩) (fun _ => hq H1 (-1) s1 fun z => absurd z (by decide)))⟩
theorem ok_compare_root (T : Tx P K mg base A D) : FnOk P w K mg base CX0 47 (A 34) (D 34) ["p", "place", "x"] (fun vs H Q _ => ∃ (a x : Addr) (k : Nat) (s : List Int) (R : List (List Int)) (r : Rat), vs = [.ref a, .int k, .ref x] ∧ IsL K H a s ∧ ChA s R ∧ IsN K H x r ∧ XB r ∧ ∀ H' (z : Int), Same H H' → (z = 0 → NF R r = k + 1 ∧ prodE R r = 0) → Q (.int z) H') := by
  refine T.f_compare_root.ok sc_compare_root (fun vs H Q E h => ?_) (fun cdv Ar outer s H vs Q E hr h => ?_)
  · obtain ⟨a, x, k, s, R, r, rfl, _⟩ := h
    rfl
  · obtain ⟨a, x, k, s, R, r, rfl, ha, hA, hx, xr, hq⟩ := h
    refine ⟨_, PSs.nox (pss_one (ps_ret (pe_call (ok_compare_by T) (hr.mono (by decide)) (by rfl) T.g_compare_by T.f_compare_by.kp (b_compare_by T) .nil pass0 (pa_cons (pe_call (ok_chain_of T) (hr.mono (by decide)) (by rfl) T.g_chain_of T.f_chain_of.kp (b_chain_of T) .nil pass0 (pa_cons (pv 0) pa_nil)) (pa_cons (pv 1) (pa_cons (pv 2) pa_nil)))))), ?_⟩
    rw [show start ["p", "place", "x"] [V.ref a, V.int k, V.ref x] = [some (V.ref a), some (V.int k), some (V.ref x)] from rfl]
    simp (maxSteps := 2000000) only [NewO, tLc, wipe, List.map_cons, List.map_nil, tSeq, tIfS, tTest, tOp, tVar, tC, rI0, tPar, tUn, rU, tCons, tNil, tAsg, gName, tCB, tRet, tTup, tLst, rI, rGcd, tNext, tCall, tCallN, tIf, tSl, tPart, tNoPart, rSlL, tDrop, tBM, tBM0, rAppend, rPop, tAndV, tOrV, tNotV, tAnd, tOr, tNot, tB, rEq, rNe, scal_int, gTup, gCons, gNil, gUnl, gSub, rSetL, tRevL, tAug, ipI, rIxL, rIxT, rCat, rRep, TruV, iList, iRng1, iRng2, iRng3, iEnum, tFor, tYes, List.append_nil, List.cons_append, List.nil_append, List.getElem?_cons_zero, List.getElem?_cons_succ, List.set_cons_zero, List.set_cons_succ, Option.some.injEq, exists_eq_left', exists_eq_left, exists_and_left, V.int.injEq, V.bl.injEq, V.ref.injEq, List.cons.injEq, and_true, true_and, and_assoc, decide_eq_true_eq, Bool.not_eq_true', if_true, if_false, Bool.false_eq_true, ite_true, ite_false, Bool.true_eq_false, reduceCtorEq, false_and, and_false, exists_false, false_or, or_false, gUnl, tCallN, rMax, tBreak, cxK, spChain]
    exact ⟨s, ha, R, hA, fun H1 p S s1 h1 hC => ⟨x, k, rfl, rfl, R, S, h1, hC, r, hx.at s1, xr, fun H2 z s2 => hq H2 z (s1.trans s2)⟩⟩
theorem ok_floor_by (T : Tx P K mg base A D) : FnOk P w K mg base CX0 46 (A 37) (D 37) ["chain", "place", "grid"] (fun vs H Q _ => ∃ (c : Addr) (k : Nat) (g : Int) (R S : List (List Int)), vs = [.ref c, .int k, .int g] ∧ IsC K H c S ∧ ChnB R S ∧ 0 < g ∧ g.natAbs < 2 ^ 50 ∧ ∀ H' (z : Int), Same H H' → z.natAbs ≤ 2 ^ 100 → Q (.int z) H') := by
  refine T.f_floor_by.ok sc_floor_by (fun vs H Q E h => ?_) (fun cdv Ar outer s H vs Q E hr h => ?_)
  · obtain ⟨c, k, g, R, S, rfl, _⟩ := h
    rfl
  · obtain ⟨c, k, g, R, S, rfl, hc, hC, g0, gb, hq⟩ := h
    refine ⟨_, PSs.nox (pss_cons (ps_set (i := 3) sc_floor_by.nd rfl (.inl rfl) (pe_ix ix_list (pv 0) pe_int (fun _ _ => rfl))) (pss_cons (ps_par (i := 4) (j := 5) (by rfl) sc_floor_by.nd rfl rfl (by decide) rfl rfl (pa_cons (pe_op op_mulX (pe_un un_neg (pv 2)) (pe_call (ok_bound_of T) (hr.mono (by decide)) (by rfl) T.g_bound_of T.f_bound_of.kp (b_bound_of T) .nil pass0 (pa_cons (pv 3) pa_nil))) (pa_cons (pe_op op_mulX (pv 2) (pe_call (ok_bound_of T) (hr.mono (by decide)) (by rfl) T.g_bound_of T.f_bound_of.kp (b_bound_of T) .nil pass0 (pa_cons (pv 3) pa_nil))) pa_nil)) (by rfl)) (pss_cons (ps_while PassesOwn.never (pt_cmpR op_gt (pe_op op_sub (pv 5) (pv 4)) pe_int (nomark _)) (pss_cons (ps_set (i := 6) sc_floor_by.nd rfl (.inl rfl) (pe_op (op_fdivP (py_of T.seer T.tree hr (by decide) rfl rfl rfl rfl rfl)) (pe_op op_add (pv 4) (pv 5)) pe_int)) (pss_cons (ps_set (i := 7) sc_floor_by.nd rfl (.inl rfl) (pe_call (ok_number T) (hr.mono (by decide)) (by rfl) T.g_number T.f_number.kp (b_number T) .nil pass0 (pa_cons (pv 6) (pa_cons (pv 2) pa_nil)))) (pss_cons (ps_set (i := 8) sc_floor_by.nd rfl (.inl rfl) (pe_op op_sub (pe_call (ok_count_up_to T) (hr.mono (by decide)) (by rfl) T.g_count_up_to T.f_count_up_to.kp (b_count_up_to T) .nil pass0 (pa_cons (pv 0) (pa_cons (pv 7) pa_nil))) (pe_callTy call_int1 (by rfl) T.z_int (by decide +kernel) (pa_cons (pe_cmpR op_eq (pe_call (ok_sign_at T) (hr.mono (by decide)) (by rfl) T.g_sign_at T.f_sign_at.kp (b_sign_at T) .nil pass0 (pa_cons (pv 3) (pa_cons (pv 7) pa_nil))) pe_int (nomark _)) pa_nil)))) (pss_one (ps_if (pt_cmpR op_le (pv 8) (pv 1) (nomark _)) (pss_one (ps_set (i := 4) sc_floor_by.nd rfl (.inl rfl) (pv 6))) (pss_one (ps_set (i := 5) sc_floor_by.nd rfl (.inl rfl) (pv 6))))))))) (pss_one (ps_ret (pv 4)))))), ?_⟩
    rw [show start ["chain", "place", "grid", "p", "low", "high", "middle", "x", "below"] [V.ref c, V.int k, V.int g] = [some (V.ref c), some (V.int k), some (V.int g), none, none, none, none, none, none] from rfl]
    simp (maxSteps := 2000000) only [NewO, tLc, wipe, List.map_cons, List.map_nil, tSeq, tIfS, tTest, tOp, tVar, tC, rI0, tPar, tUn, rU, tCons, tNil, tAsg, gName, tCB, tRet, tTup, tLst, rI, rGcd, tNext, tCall, tCallN, tIf, tSl, tPart, tNoPart, rSlL, tDrop, tBM, tBM0, rAppend, rPop, tAndV, tOrV, tNotV, tAnd, tOr, tNot, tB, rEq, rNe, scal_int, gTup, gCons, gNil, gUnl, gSub, rSetL, tRevL, tAug, ipI, rIxL, rIxT, rCat, rRep, TruV, iList, iRng1, iRng2, iRng3, iEnum, tFor, tYes, List.append_nil, List.cons_append, List.nil_append, List.getElem?_cons_zero, List.getElem?_cons_succ, List.set_cons_zero, List.set_cons_succ, Option.some.injEq, exists_eq_left', exists_eq_left, exists_and_left, V.int.injEq, V.bl.injEq, V.ref.injEq, List.cons.injEq, and_true, true_and, and_assoc, decide_eq_true_eq, Bool.not_eq_true', if_true, if_false, Bool.false_eq_true, ite_true, ite_false, Bool.true_eq_false, reduceCtorEq, false_and, and_false, exists_false, false_or, or_false, gUnl, tCallN, rMax, tBreak, cxK, spCount, spSignAt, spBound, spNumber, tWhile]
    obtain ⟨p, s, vs, hv, hp0, hp, hA⟩ := hc.head hC
    have mulb : ∀ B : Int, B.natAbs < 2 ^ 50 → (g * B).natAbs ≤ 2 ^ 100 := fun B hB => by
      rw [Int.natAbs_mul, show (100 : Nat) = 50 + 50 from rfl, Nat.pow_add]
      exact Nat.mul_le_mul (Nat.le_of_lt gb) (Nat.le_of_lt hB)
    refine ⟨_, hv, _, hp0, p, rfl, s, hp, R, hA, fun H1 B s1 hB => ⟨mul_bits (a := 50) (b := 50) (by rw [Int.natAbs_neg]; exact gb) hB.bits (by decide), p, rfl, s, hp.at s1, R, hA, fun H2 B2 s2 hB2 => ⟨mul_bits gb hB2.bits (by decide), ?_⟩⟩⟩
    have s12 := s1.trans s2
    refine ⟨fun m σ H' => ∃ (lo hi : Int) (y6 y7 y8 : Option V), σ = [some (.ref c), some (.int k), some (.int g), some (.ref p), some (.int lo), some (.int hi), y6, y7, y8] ∧ m = (hi - lo).toNat ∧ Same H H' ∧ lo.natAbs ≤ 2 ^ 100 ∧ hi.natAbs ≤ 2 ^ 100, ⟨_, _, _, none, none, none, rfl, rfl, s12, by rw [Int.neg_mul, Int.natAbs_neg]; exact mulb B hB.bits, mulb B2 hB2.bits⟩, fun m σ H' hW => ?_⟩
    obtain ⟨lo, hi, y6, y7, y8, rfl, rfl, sm, hlo, hhi⟩ := hW
    simp (maxSteps := 2000000) only [NewO, tLc, wipe, List.map_cons, List.map_nil, tSeq, tIfS, tTest, tOp, tVar, tC, rI0, tPar, tUn, rU, tCons, tNil, tAsg, gName, tCB, tRet, tTup, tLst, rI, rGcd, tNext, tCall, tCallN, tIf, tSl, tPart, tNoPart, rSlL, tDrop, tBM, tBM0, rAppend, rPop, tAndV, tOrV, tNotV, tAnd, tOr, tNot, tB, rEq, rNe, scal_int, gTup, gCons, gNil, gUnl, gSub, rSetL, tRevL, tAug, ipI, rIxL, rIxT, rCat, rRep, TruV, iList, iRng1, iRng2, iRng3, iEnum, tFor, tYes, List.append_nil, List.cons_append, List.nil_append, List.getElem?_cons_zero, List.getElem?_cons_succ, List.set_cons_zero, List.set_cons_succ, Option.some.injEq, exists_eq_left', exists_eq_left, exists_and_left, V.int.injEq, V.bl.injEq, V.ref.injEq, List.cons.injEq, and_true, true_and, and_assoc, decide_eq_true_eq, Bool.not_eq_true', if_true, if_false, Bool.false_eq_true, ite_true, ite_false, Bool.true_eq_false, reduceCtorEq, false_and, and_false, exists_false, false_or, or_false, gUnl, tCallN, rMax, tBreak]
    refine ite2 (fun c1 => ?_) (fun c1 => hq H' lo sm hlo)
    have ef : (lo + hi).fdiv 2 = (lo + hi) / 2 := Int.fdiv_eq_ediv_of_nonneg _ (by decide)
    rw [ef]
    have hmid : ((lo + hi) / 2).natAbs ≤ 2 ^ 100 := by
      generalize 2 ^ 100 = N at hlo hhi
      omega
    have xm : XB (Rat.divInt ((lo + hi) / 2) g) := (divInt_bits (Int.ne_of_gt g0) hmid (Nat.le_of_lt gb)).mono (by decide) (by decide)
    refine ⟨_, fun _ _ h => h, by decide, Int.ne_of_gt g0, fun H1 q s3 n3 e3 => ⟨R, S, hc.at (sm.trans s3), _, .new e3, hC, xm, fun H2 s4 => ⟨s, hp.at (sm.trans (s3.trans s4)), _, (IsN.new e3).at s4, by have := hA.len; omega, hA.pb.mono (by decide), xm, fun H3 s5 => ite2 (fun c2 => ?_) (fun c2 => ?_)⟩⟩⟩
    · exact ⟨_, by omega, _, _, _, _, _, rfl, rfl, sm.trans (s3.trans (s4.trans s5)), hmid, hhi⟩
    · exact ⟨_, by omega, _, _, _, _, _, rfl, rfl, sm.trans (s3.trans (s4.trans s5)), hlo, hmid⟩
theorem ok_floor_of (T : Tx P K mg base A D) : FnOk P w K mg base CX0 47 (A 36) (D 36) ["p", "place", "grid"] (fun vs H Q _ => ∃ (a : Addr) (k : Nat) (g : Int) (s : List Int) (R : List (List Int)), vs = [.ref a, .int k, .int g] ∧ IsL K H a s ∧ ChA s R ∧ 0 < g ∧ g.natAbs < 2 ^ 50 ∧ ∀ H' (z : Int), Same H H' → z.natAbs ≤ 2 ^ 100 → Q (.int z) H') := by
  refine T.f_floor_of.ok sc_floor_of (fun vs H Q E h => ?_) (fun cdv Ar outer s H vs Q E hr h => ?_)
  · obtain ⟨a, k, g, s, R, rfl, _⟩ := h
    rfl
  · obtain ⟨a, k, g, s, R, rfl, ha, hA, g0, gb, hq⟩ := h
    refine ⟨_, PSs.nox (pss_one (ps_ret (pe_callN (ok_floor_by T) (hr.mono (by decide)) (by rfl) T.g_floor_by T.f_floor_by.kp (b_floor_by T) pass0 (pa_cons (pe_call (ok_chain_of T) (hr.mono (by decide)) (by rfl) T.g_chain_of T.f_chain_of.kp (b_chain_of T) .nil pass0 (pa_cons (pv 0) pa_nil)) (pa_cons (pv 1) pa_nil)) (pk_cons (pv 2) pk_nil)))), ?_⟩
    rw [show start ["p", "place", "grid"] [V.ref a, V.int k, V.int g] = [some (V.ref a), some (V.int k), some (V.int g)] from rfl]
    simp (maxSteps := 2000000) only [NewO, tLc, wipe, List.map_cons, List.map_nil, tSeq, tIfS, tTest, tOp, tVar, tC, rI0, tPar, tUn, rU, tCons, tNil, tAsg, gName, tCB, tRet, tTup, tLst, rI, rGcd, tNext, tCall, tCallN, tIf, tSl, tPart, tNoPart, rSlL, tDrop, tBM, tBM0, rAppend, rPop, tAndV, tOrV, tNotV, tAnd, tOr, tNot, tB, rEq, rNe, scal_int, gTup, gCons, gNil, gUnl, gSub, rSetL, tRevL, tAug, ipI, rIxL, rIxT, rCat, rRep, TruV, iList, iRng1, iRng2, iRng3, iEnum, tFor, tYes, List.append_nil, List.cons_append, List.nil_append, List.getElem?_cons_zero, List.getElem?_cons_succ, List.set_cons_zero, List.set_cons_succ, Option.some.injEq, exists_eq_left', exists_eq_left, exists_and_left, V.int.injEq, V.bl.injEq, V.ref.injEq, List.cons.injEq, and_true, true_and, and_assoc, decide_eq_true_eq, Bool.not_eq_true', if_true, if_false, Bool.false_eq_true, ite_true, ite_false, Bool.true_eq_false, reduceCtorEq, false_and, and_false, exists_false, false_or, or_false, gUnl, tCallN, rMax, tBreak, cxK, spChain]
    exact ⟨s, ha, R, hA, fun H1 p S s1 h1 hC => ⟨rfl, rfl, k, rfl, R, S, h1, hC, g0, gb, fun H2 z s2 => hq H2 z (s1.trans s2)⟩⟩
def spRat (K : PySem.W.Frag) : Sp := fun vs H Q _ => ∃ (a : Addr) (s : List Int) (R : List (List Int)), vs = [.ref a] ∧ IsL K H a s ∧ Asked s R ∧ ∀ H' p ys, Same H H' → H' p = some (.lst ys) → (∀ y ∈ ys, ∃ q r, y = V.ref q ∧ IsN K H' q r ∧ XB r) → Q (.ref p) H'
theorem ok_rational_roots (T : Tx P K mg base A D) : FnOk P w K mg base CX0 48 (A 45) (D 45) ["a"] (spRat K) := by
  refine T.f_rational_roots.ok sc_rational_roots (fun vs H Q E h => ?_) (fun cdv Ar outer s H vs Q E hr h => ?_)
  · obtain ⟨a, s, R, rfl, _⟩ := h
    rfl
  · obtain ⟨a, s, R, rfl, ha, hA, hq⟩ := h
    refine ⟨_, PSs.nox (pss_cons (ps_if (pt_cmpR op_lt (pe_callB call_len_seq (by rfl) T.z_len (by decide +kernel) (pa_cons (pv 0) pa_nil)) pe_int (nomark _)) (pss_one (ps_ret (pe_lst pa_nil))) pss_nil) (pss_cons (ps_set (i := 1) sc_rational_roots.nd rfl (.inl rfl) (pe_call (ok_square_free T) (hr.mono (by decide)) (by rfl) T.g_square_free T.f_square_free.kp (b_square_free T) .nil pass0 (pa_cons (pv 0) pa_nil))) (pss_cons (ps_set (i := 2) sc_rational_roots.nd rfl (.inl rfl) (pe_lst pa_nil)) (pss_cons (ps_for PassesOwn.never rfl (pi_range1 rfl T.z_range (pa_cons (pe_call (ok_count_roots T) (hr.mono (by decide)) (by rfl) T.g_count_roots T.f_count_roots.kp (b_count_roots T) .nil pass0 (pa_cons (pv 1) pa_nil)) pa_nil)) (pg_name (i := 3) sc_rational_roots.nd rfl (.inl rfl)) (pss_cons (ps_set (i := 4) sc_rational_roots.nd rfl (.inl rfl) (pe_call (ok_number T) (hr.mono (by decide)) (by rfl) T.g_number T.f_number.kp (b_number T) .nil pass0 (pa_cons (pe_callN (ok_floor_of T) (hr.mono (by decide)) (by rfl) T.g_floor_of T.f_floor_of.kp (b_floor_of T) pass0 (pa_cons (pv 1) (pa_cons (pv 3) pa_nil)) (pk_cons (pe_ix ix_list (pv 1) (pe_un un_neg pe_int) (fun _ _ => rfl)) pk_nil)) (pa_cons (pe_ix ix_list (pv 1) (pe_un un_neg pe_int) (fun _ _ => rfl)) pa_nil)))) (pss_one (ps_if (pt_cmpR op_eq (pe_call (ok_sign_at T) (hr.mono (by decide)) (by rfl) T.g_sign_at T.f_sign_at.kp (b_sign_at T) .nil pass0 (pa_cons (pv 1) (pa_cons (pv 4) pa_nil))) pe_int (nomark _)) (pss_one (ps_expr (pe_bm PySem.F.plainAttrs_list PySem.F.slot_list_append PySem.F.type_list_append mt_append (pv 2) (pa_cons (pv 4) pa_nil)))) pss_nil)))) (pss_one (ps_ret (pv 2))))))), ?_⟩
    rw [show start ["a", "p", "found", "place", "x"] [V.ref a] = [some (V.ref a), none, none, none, none] from rfl]
    simp (maxSteps := 2000000) only [NewO, tLc, wipe, List.map_cons, List.map_nil, tSeq, tIfS, tTest, tOp, tVar, tC, rI0, tPar, tUn, rU, tCons, tNil, tAsg, gName, tCB, tRet, tTup, tLst, rI, rGcd, tNext, tCall, tCallN, tIf, tSl, tPart, tNoPart, rSlL, tDrop, tBM, tBM0, rAppend, rPop, tAndV, tOrV, tNotV, tAnd, tOr, tNot, tB, rEq, rNe, scal_int, gTup, gCons, gNil, gUnl, gSub, rSetL, tRevL, tAug, ipI, rIxL, rIxT, rCat, rRep, TruV, iList, iRng1, iRng2, iRng3, iEnum, tFor, tYes, List.append_nil, List.cons_append, List.nil_append, List.getElem?_cons_zero, List.getElem?_cons_succ, List.set_cons_zero, List.set_cons_succ, Option.some.injEq, exists_eq_left', exists_eq_left, exists_and_left, V.int.injEq, V.bl.injEq, V.ref.injEq, List.cons.injEq, and_true, true_and, and_assoc, decide_eq_true_eq, Bool.not_eq_true', if_true, if_false, Bool.false_eq_true, ite_true, ite_false, Bool.true_eq_false, reduceCtorEq, false_and, and_false, exists_false, false_or, or_false, gUnl, tCallN, rMax, tBreak, cxK, spChain, spSqf, spNumber, spSignAt]
    obtain ⟨f, hf⟩ := hA.fac
    have fl := fac_len hA.tr (fun g hg => by
      rcases List.mem_append.mp hg with h | h
      · exact hA.mem g h
      · exact hA.mem g (List.mem_filter.mp h).1) hf
    refine ⟨_, .inl ha, ite2 (fun c => ?_) (fun c => ?_)⟩
    · exact ⟨Nat.zero_le _, fun p hp => hq _ p [] (same_new hp) upd_same fun y hy => by cases hy⟩
    rw [List.length_map] at c
    have nR : R ≠ [] := fun z => (fl.2.mpr (by omega)) (by rw [z]; rfl)
    refine ⟨s, ha, R, hA, fun H1 p s' s1 n1 e1 S l1 => ⟨Nat.zero_le _, fun F nF => ?_⟩⟩
    have hC : ChA s' R := ⟨S.tr, (fac_len S.tr hA.mem S.fac).2.mp nR, by have := hA.len; omega, S.pb.mono (by decide), hA.mem, hA.nd, S.fac⟩
    have tf := few_roots R hA.mem hA.nd
    have tl := RF_len hA.mem
    have hp' : IsL K (upd H1 F (.lst [])) p s' := (IsL.new e1).at (same_new nF)
    refine ⟨s', hp', R, hC, fun H2 s2 => ⟨by omega, by omega, frr (fun i σ H' => ∃ (ys : List V) (y3 y4 : Option V), σ = [some (.ref a), some (.ref p), some (.ref F), y3, y4] ∧ Same H H' ∧ IsL K H' p s' ∧ H' F = some (.lst ys) ∧ ys.length ≤ i ∧ ∀ y ∈ ys, ∃ q r, y = V.ref q ∧ IsN K H' q r ∧ XB r) ⟨[], none, none, rfl, s1.trans ((same_new nF).trans s2), hp'.at s2, s2 _ _ upd_same, Nat.zero_le _, fun y hy => by cases hy⟩ (fun i σ H' hi p => ?_) (fun σ H' p => ?_)⟩⟩
    · obtain ⟨ys, y3, y4, rfl, s3, hp3, hF, hl, hy⟩ := p
      simp (maxSteps := 2000000) only [NewO, tLc, wipe, List.map_cons, List.map_nil, tSeq, tIfS, tTest, tOp, tVar, tC, rI0, tPar, tUn, rU, tCons, tNil, tAsg, gName, tCB, tRet, tTup, tLst, rI, rGcd, tNext, tCall, tCallN, tIf, tSl, tPart, tNoPart, rSlL, tDrop, tBM, tBM0, rAppend, rPop, tAndV, tOrV, tNotV, tAnd, tOr, tNot, tB, rEq, rNe, scal_int, gTup, gCons, gNil, gUnl, gSub, rSetL, tRevL, tAug, ipI, rIxL, rIxT, rCat, rRep, TruV, iList, iRng1, iRng2, iRng3, iEnum, tFor, tYes, List.append_nil, List.cons_append, List.nil_append, List.getElem?_cons_zero, List.getElem?_cons_succ, List.set_cons_zero, List.set_cons_succ, Option.some.injEq, exists_eq_left', exists_eq_left, exists_and_left, V.int.injEq, V.bl.injEq, V.ref.injEq, List.cons.injEq, and_true, true_and, and_assoc, decide_eq_true_eq, Bool.not_eq_true', if_true, if_false, Bool.false_eq_true, ite_true, ite_false, Bool.true_eq_false, reduceCtorEq, false_and, and_false, exists_false, false_or, or_false, gUnl, tCallN, rMax, tBreak]
      have sne : s' ≠ [] := hC.ne
      have lead : (0 : Int) < cI s' (s'.length - 1) := S.lead
      have lb : (cI s' (s'.length - 1)).natAbs < 2 ^ 47 := S.pb _
      have nF0 : H F = none := s1.free nF
      have pF : p ≠ F := ne_of_none e1 nF
      refine ⟨_, hp3, _, ix_last sne, rfl, rfl, i, by omega, _, rfl, s', hp3, R, hC, lead, Nat.lt_of_lt_of_le lb (Nat.pow_le_pow_right (by decide) (by decide)), fun H4 z s4 hz => ⟨_, hp3.at s4, _, ix_last sne, _, rfl, Int.ne_of_gt lead, fun H5 q s5 n5 e5 => ?_⟩⟩
      have s45 := s4.trans s5
      have xz : XB (Rat.divInt z (cI s' (s'.length - 1))) := (divInt_bits (Int.ne_of_gt lead) hz (Nat.le_of_lt lb)).mono (by decide) (by decide)
      have hq5 : IsN K H5 q _ := .new e5
      refine ⟨s', hp3.at s45, _, hq5, by have := hC.len; omega, hC.pb.mono (by decide), xz, fun H6 s6 => ite2 (fun c2 => ?_) (fun c2 => ?_)⟩
      · have s46 := s45.trans s6
        have hF6 := s46 _ _ hF
        refine ⟨.inl ⟨rfl, _, SqL.of hF6⟩, _, hF6, lt_size (by omega), same_updD nF0 (s3.trans s46), isL_upd (hp3.at s46) pF, _, upd_same, by rw [List.length_append]; show ys.length + 1 ≤ _; omega, fun y hy' => ?_⟩
        rcases List.mem_append.mp hy' with h | h
        · obtain ⟨u, r, a1, a2, a3⟩ := hy y h
          exact ⟨u, a1, r, upd_lst (a2.at s46) hF6, a3⟩
        · rcases List.mem_cons.mp h with rfl | h
          · exact ⟨q, rfl, _, upd_lst (hq5.at s6) hF6, xz⟩
          · cases h
      · have s46 := s45.trans s6
        refine ⟨s3.trans s46, hp3.at s46, ys, s46 _ _ hF, by omega, fun y h => ?_⟩
        obtain ⟨u, r, a1, a2, a3⟩ := hy y h
        exact ⟨u, a1, r, a2.at s46, a3⟩
    · obtain ⟨ys, y3, y4, rfl, s3, hp3, hF, hl, hy⟩ := p
      simp (maxSteps := 2000000) only [NewO, tLc, wipe, List.map_cons, List.map_nil, tSeq, tIfS, tTest, tOp, tVar, tC, rI0, tPar, tUn, rU, tCons, tNil, tAsg, gName, tCB, tRet, tTup, tLst, rI, rGcd, tNext, tCall, tCallN, tIf, tSl, tPart, tNoPart, rSlL, tDrop, tBM, tBM0, rAppend, rPop, tAndV, tOrV, tNotV, tAnd, tOr, tNot, tB, rEq, rNe, scal_int, gTup, gCons, gNil, gUnl, gSub, rSetL, tRevL, tAug, ipI, rIxL, rIxT, rCat, rRep, TruV, iList, iRng1, iRng2, iRng3, iEnum, tFor, tYes, List.append_nil, List.cons_append, List.nil_append, List.getElem?_cons_zero, List.getElem?_cons_succ, List.set_cons_zero, List.set_cons_succ, Option.some.injEq, exists_eq_left', exists_eq_left, exists_and_left, V.int.injEq, V.bl.injEq, V.ref.injEq, List.cons.injEq, and_true, true_and, and_assoc, decide_eq_true_eq, Bool.not_eq_true', if_true, if_false, Bool.false_eq_true, ite_true, ite_false, Bool.true_eq_false, reduceCtorEq, false_and, and_false, exists_false, false_or, or_false, gUnl, tCallN, rMax, tBreak]
      exact hq H' F ys s3 hF hy
end
end W23
namespace W23
open PySem PySem.Spec PyProof.Rows L2 K23
section
variable {P : Program} {w : World} {K : PySem.W.Frag} {mg : Str → Option Value} {base : Heap} {A : Nat → Addr} {D : Nat → FuncData}
theorem ok__law_draws (T : Tx P K mg base A D) : FnOk P w K mg base CX0 40 (A 46) (D 46) ["_law_script", "_law_count_here"] (fun vs H Q _ => ∃ (a : Addr) (ns : List Int), vs = [.ref a, .int 50] ∧ IsL K H a ns ∧ ns.length ≤ 1000 ∧ ∀ H' p ds, Same H H' → H' p = some (iL ds) → ds.length = 50 → (∀ d ∈ ds, 0 ≤ d ∧ d < 1000) → Q (.ref p) H') := by
  refine T.f__law_draws.ok sc__law_draws (fun vs H Q E h => ?_) (fun cdv Ar outer s H vs Q E hr h => ?_)
  · obtain ⟨a, ns, rfl, _⟩ := h
    rfl
  · obtain ⟨a, ns, rfl, ha, hl, hq⟩ := h
    refine ⟨_, PSs.nox (pss_cons (ps_setLc (i := 2) (own := [("_law_cell", 8)]) (g := gName 8) rfl sc__law_draws.nd rfl rfl (sw_true rfl rfl rfl (by decide +kernel)) (pi_list (pv 0)) (blkOk_by (own := [("_law_cell", 8)]) (N := ["_law_script", "_law_count_here", "_law_rests", "_law_draws_here", "_law_k", "_law_value", "_law_at_here", "_law_mixed", "_law_cell"]) (sc := defScope (stm 52)) (by decide +kernel)) (fun _ _ _ _ _ => (pg_name (i := 8) sc__law_draws.nd rfl (.inl rfl))) (fun _ _ _ _ _ => pts_nil) (fun _ _ _ _ _ => (pv 8))) (pss_cons (ps_set (i := 3) sc__law_draws.nd rfl (.inl rfl) (pe_lst pa_nil)) (pss_cons (ps_for PassesOwn.never rfl (pi_range1 rfl T.z_range (pa_cons (pv 1) pa_nil)) (pg_name (i := 4) sc__law_draws.nd rfl (.inl rfl)) (pss_cons (ps_set (i := 5) sc__law_draws.nd rfl (.inl rfl) pe_int) (pss_cons (ps_if (pt_cmpR op_gt (pe_callB call_len_seq (by rfl) T.z_len (by decide +kernel) (pa_cons (pv 2) pa_nil)) pe_int (nomark _)) (pss_cons (ps_set (i := 6) sc__law_draws.nd rfl (.inl rfl) (pe_op op_modN (pe_callTy call_int1 (by rfl) T.z_int (by decide +kernel) (pa_cons (pv 4) pa_nil)) (pe_callB call_len_seq (by rfl) T.z_len (by decide +kernel) (pa_cons (pv 2) pa_nil)))) (pss_one (ps_if (pt_cmpR op_ge (pe_ix ix_list (pv 2) (pv 6) (fun _ _ => rfl)) (pe_op op_pow pe_int pe_int) (nomark _)) (pss_cons (ps_set (i := 5) sc__law_draws.nd rfl (.inl rfl) (pe_op op_modN (pe_callTy call_int1 (by rfl) T.z_int (by decide +kernel) (pa_cons (pe_ix ix_list (pv 2) (pv 6) (fun _ _ => rfl)) pa_nil)) pe_int)) (pss_one (ps_asg (pe_op (op_fdivP (py_of T.seer T.tree hr (by decide) rfl rfl rfl rfl rfl)) (pe_ix ix_list (pv 2) (pv 6) (fun _ _ => rfl)) pe_int) (pg_sub (pv 2) (pv 6) set_list)))) (pss_cons (ps_set (i := 7) sc__law_draws.nd rfl (.inl rfl) (pe_op op_modN (pe_callTy call_int1 (by rfl) T.z_int (by decide +kernel) (pa_cons (pe_op op_add (pe_op op_add (pe_op op_mul (pe_ix ix_list (pv 2) (pv 6) (fun _ _ => rfl)) pe_int) (pe_op op_mul (pv 4) pe_int)) pe_int) pa_nil)) pe_int)) (pss_cons (ps_set (i := 7) sc__law_draws.nd rfl (.inl rfl) (pe_op op_modN (pe_callTy call_int1 (by rfl) T.z_int (by decide +kernel) (pa_cons (pe_op op_add (pe_op op_mul (pv 7) pe_int) (pv 6)) pa_nil)) pe_int)) (pss_one (ps_set (i := 5) sc__law_draws.nd rfl (.inl rfl) (pe_op op_modN (pe_callTy call_int1 (by rfl) T.z_int (by decide +kernel) (pa_cons (pe_op (op_fdivP (py_of T.seer T.tree hr (by decide) rfl rfl rfl rfl rfl)) (pv 7) pe_int) pa_nil)) pe_int)))))))) pss_nil) (pss_one (ps_expr (pe_bm PySem.F.plainAttrs_list PySem.F.slot_list_append PySem.F.type_list_append mt_append (pv 3) (pa_cons (pv 5) pa_nil))))))) (pss_one (ps_ret (pv 3)))))), ?_⟩
    rw [show start ["_law_script", "_law_count_here", "_law_rests", "_law_draws_here", "_law_k", "_law_value", "_law_at_here", "_law_mixed", "_law_cell"] [V.ref a, V.int 50] = [some (V.ref a), some (V.int 50), none, none, none, none, none, none, none] from rfl]
    simp (maxSteps := 2000000) only [NewO, tLc, wipe, List.map_cons, List.map_nil, tSeq, tIfS, tTest, tOp, tVar, tC, rI0, tPar, tUn, rU, tCons, tNil, tAsg, gName, tCB, tRet, tTup, tLst, rI, rGcd, tNext, tCall, tCallN, tIf, tSl, tPart, tNoPart, rSlL, tDrop, tBM, tBM0, rAppend, rPop, tAndV, tOrV, tNotV, tAnd, tOr, tNot, tB, rEq, rNe, scal_int, gTup, gCons, gNil, gUnl, gSub, rSetL, tRevL, tAug, ipI, rIxL, rIxT, rCat, rRep, TruV, iList, iRng1, iRng2, iRng3, iEnum, tFor, tYes, List.append_nil, List.cons_append, List.nil_append, List.getElem?_cons_zero, List.getElem?_cons_succ, List.set_cons_zero, List.set_cons_succ, Option.some.injEq, exists_eq_left', exists_eq_left, exists_and_left, V.int.injEq, V.bl.injEq, V.ref.injEq, List.cons.injEq, and_true, true_and, and_assoc, decide_eq_true_eq, Bool.not_eq_true', if_true, if_false, Bool.false_eq_true, ite_true, ite_false, Bool.true_eq_false, reduceCtorEq, false_and, and_false, exists_false, false_or, or_false, gUnl, tCallN, rMax, tBreak, cxK]
    refine ⟨⟨_, ha⟩, fun R hR => lcl (xs := ns.map V.int) (fun i H' => PvM H R (fun i => V.int (cI ns i)) i H') (PvM.start hR) (fun i H' hi p => ha.at p.same) (fun i x H' hx p => ?_) (fun H' p => ?_)⟩
    · obtain ⟨hi, rfl⟩ := get_int hx
      exact p.next hR (Same.refl _) rfl (lt_size (by omega))
    · rw [List.length_map] at p
      have hRl := p.d
      rw [show (List.range ns.length).map (fun i => V.int (cI ns i)) = ns.map V.int from by
        have := map_idx ns id
        rw [map_rangeV]
        simp only [id] at this
        rw [this, List.map_id'']; exact fun _ => rfl] at hRl
      refine ⟨Nat.zero_le _, fun L hL => ⟨by decide, by decide, frr (fun i σ H2 => ∃ (rs ds : List Int) (y4 y5 y6 y7 y8 : Option V), σ = [some (.ref a), some (.int 50), some (.ref R), some (.ref L), y4, y5, y6, y7, y8] ∧ Same H H2 ∧ H2 R = some (iL rs) ∧ rs.length ≤ 1000 ∧ H2 L = some (iL ds) ∧ ds.length = i ∧ ∀ d ∈ ds, 0 ≤ d ∧ d < 1000) ⟨ns, [], none, none, none, none, none, rfl, p.same.trans (same_new hL), by rw [upd_ne (ne_of_none hRl hL)]; exact hRl, hl, upd_same, rfl, fun d hd => by cases hd⟩ (fun i σ H2 hi q => ?_) (fun σ H2 q => ?_)⟩⟩
      · obtain ⟨rs, ds, y4, y5, y6, y7, y8, rfl, s, h1, h2, h3, h4, h5⟩ := q
        have nRL : R ≠ L := ne_of_none hRl hL
        simp (maxSteps := 2000000) only [NewO, tLc, wipe, List.map_cons, List.map_nil, tSeq, tIfS, tTest, tOp, tVar, tC, rI0, tPar, tUn, rU, tCons, tNil, tAsg, gName, tCB, tRet, tTup, tLst, rI, rGcd, tNext, tCall, tCallN, tIf, tSl, tPart, tNoPart, rSlL, tDrop, tBM, tBM0, rAppend, rPop, tAndV, tOrV, tNotV, tAnd, tOr, tNot, tB, rEq, rNe, scal_int, gTup, gCons, gNil, gUnl, gSub, rSetL, tRevL, tAug, ipI, rIxL, rIxT, rCat, rRep, TruV, iList, iRng1, iRng2, iRng3, iEnum, tFor, tYes, List.append_nil, List.cons_append, List.nil_append, List.getElem?_cons_zero, List.getElem?_cons_succ, List.set_cons_zero, List.set_cons_succ, Option.some.injEq, exists_eq_left', exists_eq_left, exists_and_left, V.int.injEq, V.bl.injEq, V.ref.injEq, List.cons.injEq, and_true, true_and, and_assoc, decide_eq_true_eq, Bool.not_eq_true', if_true, if_false, Bool.false_eq_true, ite_true, ite_false, Bool.true_eq_false, reduceCtorEq, false_and, and_false, exists_false, false_or, or_false, gUnl, tCallN, rMax, tBreak]
        have fin : ∀ (H3 : Hp) (rs' : List Int) (d : Int), Same H H3 → H3 R = some (.lst (rs'.map V.int)) → rs'.length ≤ 1000 → H3 L = some (iL ds) → 0 ≤ d ∧ d < 1000 → tyV K "list" (V.ref L) H3 ∧ ∃ x, H3 L = some (.lst x) ∧ x.length < sizeLine ∧ Same H (upd H3 L (.lst (x ++ [V.int d]))) ∧ ∃ x9, upd H3 L (.lst (x ++ [V.int d])) R = some (iL x9) ∧ x9.length ≤ 1000 ∧ ∃ x10, upd H3 L (.lst (x ++ [V.int d])) L = some (iL x10) ∧ x10.length = i + 1 ∧ ∀ d ∈ x10, 0 ≤ d ∧ d < 1000 := fun H3 rs' d t1 t2 t3 t4 t5 => by
          refine ⟨.inl ⟨rfl, _, SqL.of t4⟩, _, t4, ?_, same_updD (p.same.free hL) t1, rs', by rw [upd_ne nRL]; exact t2, t3, ds ++ [d], ?_, ?_, fun e he => ?_⟩
          · rw [List.length_map]; exact lt_size (by omega)
          · rw [upd_same]; unfold iL; rw [List.map_append]; rfl
          · rw [List.length_append, h4]; rfl
          · rcases List.mem_append.mp he with he | he
            · exact h5 e he
            · rcases List.mem_cons.mp he with rfl | he
              · exact t5
              · cases he
        have hRs : SqL K H2 R (rs.map V.int) := SqL.of h1
        have m1000 : ∀ z : Int, 0 ≤ z.fmod 1000 ∧ z.fmod 1000 < 1000 := fun z => by
          rw [Int.fmod_eq_emod_of_nonneg _ (by decide)]; omega
        refine ⟨_, .inl hRs, ite2 (fun c => ?_) (fun c => ?_)⟩
        · rw [List.length_map] at c
          have ix : ((0 : Int) + (i : Int)).fmod ((rs.map V.int).length : Nat) = ((i % rs.length : Nat) : Int) := by
            rw [List.length_map, Int.zero_add, Int.fmod_eq_emod_of_nonneg _ (by omega)]; rfl
          have lt : i % rs.length < rs.length := Nat.mod_lt _ (by omega)
          have at1 := ix_int ix lt
          refine ⟨_, .inl hRs, by rw [List.length_map]; omega, _, hRs, _, at1, by unfold CPow; decide, _, rfl, ite2 (fun c2 => ?_) (fun c2 => ?_)⟩
          · refine ⟨_, hRs, _, at1, .inl ⟨_, rfl, by decide, _, hRs, _, at1, _, rfl, by decide, _, h1, _, ixN_nat ix (by rw [List.length_map]; exact lt), ?_⟩⟩
            refine fin _ (rs.set (i % rs.length) ((cI rs (i % rs.length)).fdiv 1000)) _ (same_updD (hR) s) ?_ (by rw [List.length_set]; exact h2) (by rw [upd_ne (Ne.symm nRL)]; exact h3) (m1000 _)
            rw [upd_same, List.map_set]
          · exact ⟨_, hRs, _, at1, _, rfl, .inr (by decide), .inr (by decide), by decide, .inr (by decide), by decide, by decide, by decide, fin H2 rs _ s h1 h2 h3 (m1000 _)⟩
        · exact fin H2 rs 0 s h1 h2 h3 (by decide)
      · obtain ⟨rs, ds, y4, y5, y6, y7, y8, rfl, s, h1, h2, h3, h4, h5⟩ := q
        simp (maxSteps := 2000000) only [NewO, tLc, wipe, List.map_cons, List.map_nil, tSeq, tIfS, tTest, tOp, tVar, tC, rI0, tPar, tUn, rU, tCons, tNil, tAsg, gName, tCB, tRet, tTup, tLst, rI, rGcd, tNext, tCall, tCallN, tIf, tSl, tPart, tNoPart, rSlL, tDrop, tBM, tBM0, rAppend, rPop, tAndV, tOrV, tNotV, tAnd, tOr, tNot, tB, rEq, rNe, scal_int, gTup, gCons, gNil, gUnl, gSub, rSetL, tRevL, tAug, ipI, rIxL, rIxT, rCat, rRep, TruV, iList, iRng1, iRng2, iRng3, iEnum, tFor, tYes, List.append_nil, List.cons_append, List.nil_append, List.getElem?_cons_zero, List.getElem?_cons_succ, List.set_cons_zero, List.set_cons_succ, Option.some.injEq, exists_eq_left', exists_eq_left, exists_and_left, V.int.injEq, V.bl.injEq, V.ref.injEq, List.cons.injEq, and_true, true_and, and_assoc, decide_eq_true_eq, Bool.not_eq_true', if_true, if_false, Bool.false_eq_true, ite_true, ite_false, Bool.true_eq_false, reduceCtorEq, false_and, and_false, exists_false, false_or, or_false, gUnl, tCallN, rMax, tBreak]
        exact hq H2 L ds s h3 h4 h5
def spGcdL : Sp := fun vs H Q _ => ∃ a b : Int, vs = [.int a, .int b] ∧ b.natAbs < 2 ^ 9990 ∧ Q (.int (Nat.gcd a.natAbs b.natAbs : Nat)) H
theorem ok__law_gcd (T : Tx P K mg base A D) : FnOk P w K mg base CX0 40 (A 47) (D 47) ["_law_a", "_law_b"] spGcdL := by
  refine T.f__law_gcd.ok sc__law_gcd (fun vs H Q E h => ?_) (fun cdv Ar outer s H vs Q E hr h => ?_)
  · obtain ⟨a, b, rfl, _⟩ := h
    rfl
  · obtain ⟨a, b, rfl, hb, hq⟩ := h
    refine ⟨_, PSs.nox (pss_cons (ps_par (i := 0) (j := 1) (by rfl) sc__law_gcd.nd rfl rfl (by decide) rfl rfl (pa_cons (pe_callB call_abs (by rfl) T.z_abs (by decide +kernel) (pa_cons (pv 0) pa_nil)) (pa_cons (pe_callB call_abs (by rfl) T.z_abs (by decide +kernel) (pa_cons (pv 1) pa_nil)) pa_nil)) (by rfl)) (pss_cons (ps_for PassesOwn.never rfl (pi_range1 rfl T.z_range (pa_cons pe_int pa_nil)) (pg_name (i := 2) sc__law_gcd.nd rfl (.inl rfl)) (pss_cons (ps_if (pt_cmpR op_eq (pv 1) pe_int (nomark _)) (pss_one ps_break) pss_nil) (pss_one (ps_par (i := 0) (j := 1) (by rfl) sc__law_gcd.nd rfl rfl (by decide) rfl rfl (pa_cons (pv 1) (pa_cons (pe_op op_modN (pe_callTy call_int1 (by rfl) T.z_int (by decide +kernel) (pa_cons (pv 0) pa_nil)) (pv 1)) pa_nil)) (by rfl))))) (pss_one (ps_ret (pv 0))))), ?_⟩
    rw [show start ["_law_a", "_law_b", "_law_turn"] [V.int a, V.int b] = [some (V.int a), some (V.int b), none] from rfl]
    simp (maxSteps := 2000000) only [NewO, tLc, wipe, List.map_cons, List.map_nil, tSeq, tIfS, tTest, tOp, tVar, tC, rI0, tPar, tUn, rU, tCons, tNil, tAsg, gName, tCB, tRet, tTup, tLst, rI, rGcd, tNext, tCall, tCallN, tIf, tSl, tPart, tNoPart, rSlL, tDrop, tBM, tBM0, rAppend, rPop, tAndV, tOrV, tNotV, tAnd, tOr, tNot, tB, rEq, rNe, scal_int, gTup, gCons, gNil, gUnl, gSub, rSetL, tRevL, tAug, ipI, rIxL, rIxT, rCat, rRep, TruV, iList, iRng1, iRng2, iRng3, iEnum, tFor, tYes, List.append_nil, List.cons_append, List.nil_append, List.getElem?_cons_zero, List.getElem?_cons_succ, List.set_cons_zero, List.set_cons_succ, Option.some.injEq, exists_eq_left', exists_eq_left, exists_and_left, V.int.injEq, V.bl.injEq, V.ref.injEq, List.cons.injEq, and_true, true_and, and_assoc, decide_eq_true_eq, Bool.not_eq_true', if_true, if_false, Bool.false_eq_true, ite_true, ite_false, Bool.true_eq_false, reduceCtorEq, false_and, and_false, exists_false, false_or, or_false, gUnl, tCallN, rMax, tBreak, cxK]
    have ab : ∀ i : Int, (if i < 0 then -i else i) = (i.natAbs : Int) := fun i => by split <;> omega
    refine ⟨by decide, by decide, frr (fun i σ H' => ∃ (x y : Nat) (z : Option V), σ = [some (.int x), some (.int y), z] ∧ H' = H ∧ Eu (Nat.gcd a.natAbs b.natAbs) 9990 i x y) ⟨a.natAbs, b.natAbs, none, by rw [ab, ab], rfl, rfl, .inl ⟨rfl, hb⟩⟩ (fun i σ H' hi q => ?_) (fun σ H' q => ?_)⟩
    · obtain ⟨x, y, z, rfl, rfl, E⟩ := q
      simp (maxSteps := 2000000) only [NewO, tLc, wipe, List.map_cons, List.map_nil, tSeq, tIfS, tTest, tOp, tVar, tC, rI0, tPar, tUn, rU, tCons, tNil, tAsg, gName, tCB, tRet, tTup, tLst, rI, rGcd, tNext, tCall, tCallN, tIf, tSl, tPart, tNoPart, rSlL, tDrop, tBM, tBM0, rAppend, rPop, tAndV, tOrV, tNotV, tAnd, tOr, tNot, tB, rEq, rNe, scal_int, gTup, gCons, gNil, gUnl, gSub, rSetL, tRevL, tAug, ipI, rIxL, rIxT, rCat, rRep, TruV, iList, iRng1, iRng2, iRng3, iEnum, tFor, tYes, List.append_nil, List.cons_append, List.nil_append, List.getElem?_cons_zero, List.getElem?_cons_succ, List.set_cons_zero, List.set_cons_succ, Option.some.injEq, exists_eq_left', exists_eq_left, exists_and_left, V.int.injEq, V.bl.injEq, V.ref.injEq, List.cons.injEq, and_true, true_and, and_assoc, decide_eq_true_eq, Bool.not_eq_true', if_true, if_false, Bool.false_eq_true, ite_true, ite_false, Bool.true_eq_false, reduceCtorEq, false_and, and_false, exists_false, false_or, or_false, gUnl, tCallN, rMax, tBreak]
      refine ite2 (fun c => ?_) (fun c => ?_)
      · have c : y = 0 := by omega
        subst c
        rw [E.done]; exact hq
      · refine ⟨by omega, y, rfl, x % y, ?_, E.step (by omega)⟩
        rw [Int.fmod_eq_emod_of_nonneg _ (by omega)]; rfl
    · obtain ⟨x, y, z, rfl, rfl, E⟩ := q
      simp (maxSteps := 2000000) only [NewO, tLc, wipe, List.map_cons, List.map_nil, tSeq, tIfS, tTest, tOp, tVar, tC, rI0, tPar, tUn, rU, tCons, tNil, tAsg, gName, tCB, tRet, tTup, tLst, rI, rGcd, tNext, tCall, tCallN, tIf, tSl, tPart, tNoPart, rSlL, tDrop, tBM, tBM0, rAppend, rPop, tAndV, tOrV, tNotV, tAnd, tOr, tNot, tB, rEq, rNe, scal_int, gTup, gCons, gNil, gUnl, gSub, rSetL, tRevL, tAug, ipI, rIxL, rIxT, rCat, rRep, TruV, iList, iRng1, iRng2, iRng3, iEnum, tFor, tYes, List.append_nil, List.cons_append, List.nil_append, List.getElem?_cons_zero, List.getElem?_cons_succ, List.set_cons_zero, List.set_cons_succ, Option.some.injEq, exists_eq_left', exists_eq_left, exists_and_left, V.int.injEq, V.bl.injEq, V.ref.injEq, List.cons.injEq, and_true, true_and, and_assoc, decide_eq_true_eq, Bool.not_eq_true', if_true, if_false, Bool.false_eq_true, ite_true, ite_false, Bool.true_eq_false, reduceCtorEq, false_and, and_false, exists_false, false_or, or_false, gUnl, tCallN, rMax, tBreak]
      have y0 : y = 0 := E.fin (by decide)
      subst y0
      rw [E.done]; exact hq
def spNumL : Sp := fun vs H Q _ => ∃ n d : Int, vs = [.int n, .int d] ∧ d ≠ 0 ∧ d.natAbs < 2 ^ 9990 ∧ NewO H Q (nT (Rat.divInt n d))
theorem ok__law_number (T : Tx P K mg base A D) : FnOk P w K mg base CX0 41 (A 48) (D 48) ["_law_n", "_law_d"] spNumL := by
  refine T.f__law_number.ok sc__law_number (fun vs H Q E h => ?_) (fun cdv Ar outer s H vs Q E hr h => ?_)
  · obtain ⟨n, d, rfl, _⟩ := h
    rfl
  · obtain ⟨n, d, rfl, hd, hb, q⟩ := h
    have py : PyR (cxOf CX0 P w K mg base ["_law_n", "_law_d", "_law_common"] "_law_number" (defScope (stm 54)) (A 48) cdv Ar outer s H E).nox := py_of T.seer T.tree hr (by decide) rfl rfl rfl rfl rfl
    refine ⟨_, PSs.nox (pss_cons (ps_if (pt_cmpR op_lt (pv 1) pe_int (nomark _)) (pss_one (ps_par (i := 0) (j := 1) (by rfl) sc__law_number.nd rfl rfl (by decide) rfl rfl (pa_cons (pe_un un_neg (pv 0)) (pa_cons (pe_un un_neg (pv 1)) pa_nil)) (by rfl))) pss_nil) (pss_cons (ps_set (i := 2) sc__law_number.nd rfl (.inl rfl) (pe_call (ok__law_gcd T) (hr.mono (by decide)) (by rfl) T.g__law_gcd T.f__law_gcd.kp (b__law_gcd T) .nil pass0 (pa_cons (pv 0) (pa_cons (pv 1) pa_nil)))) (pss_one (ps_ret (pe_tup (pa_cons (pe_op (op_fdivP (py_of T.seer T.tree hr (by decide) rfl rfl rfl rfl rfl)) (pv 0) (pv 2)) (pa_cons (pe_op (op_fdivP (py_of T.seer T.tree hr (by decide) rfl rfl rfl rfl rfl)) (pv 1) (pv 2)) pa_nil))))))), ?_⟩
    rw [show start ["_law_n", "_law_d", "_law_common"] [V.int n, V.int d] = [some (V.int n), some (V.int d), none] from rfl]
    simp (maxSteps := 2000000) only [NewO, tLc, wipe, List.map_cons, List.map_nil, tSeq, tIfS, tTest, tOp, tVar, tC, rI0, tPar, tUn, rU, tCons, tNil, tAsg, gName, tCB, tRet, tTup, tLst, rI, rGcd, tNext, tCall, tCallN, tIf, tSl, tPart, tNoPart, rSlL, tDrop, tBM, tBM0, rAppend, rPop, tAndV, tOrV, tNotV, tAnd, tOr, tNot, tB, rEq, rNe, scal_int, gTup, gCons, gNil, gUnl, gSub, rSetL, tRevL, tAug, ipI, rIxL, rIxT, rCat, rRep, TruV, iList, iRng1, iRng2, iRng3, iEnum, tFor, tYes, List.append_nil, List.cons_append, List.nil_append, List.getElem?_cons_zero, List.getElem?_cons_succ, List.set_cons_zero, List.set_cons_succ, Option.some.injEq, exists_eq_left', exists_eq_left, exists_and_left, V.int.injEq, V.bl.injEq, V.ref.injEq, List.cons.injEq, and_true, true_and, and_assoc, decide_eq_true_eq, Bool.not_eq_true', if_true, if_false, Bool.false_eq_true, ite_true, ite_false, Bool.true_eq_false, reduceCtorEq, false_and, and_false, exists_false, false_or, or_false, gUnl, tCallN, rMax, tBreak, cxK, spGcdL]
    refine ite2 (fun c => ?_) (fun c => ?_)
    · obtain ⟨e1, e2, e3⟩ := num_eq n d hd (-n) (-d) (by rw [if_pos c]) (by rw [if_pos c])
      refine ⟨by rw [Int.natAbs_neg]; exact hb, e3, e3, le2, fun p hp => ?_⟩
      rw [e1, e2]
      exact q.to (Same.refl _) hp
    · obtain ⟨e1, e2, e3⟩ := num_eq n d hd n d (by rw [if_neg c]) (by rw [if_neg c])
      refine ⟨hb, e3, e3, le2, fun p hp => ?_⟩
      rw [e1, e2]
      exact q.to (Same.refl _) hp
/-- two numbers whose denominators' product fits the law's gcd -/
def FitL (a b : Rat) : Prop := Fit2 a b ∧ a.den * b.den < 2 ^ 9990
theorem FitL.fit {a b : Rat} (h : FitL a b) : Fit2 a b := h.1
theorem FitL.d {a b : Rat} (h : FitL a b) : ((a.den : Int) * b.den).natAbs < 2 ^ 9990 := by
  rw [Int.natAbs_mul]
  exact h.2
theorem fitL {a b : Rat} {n d n' d' : Nat} (h : R2b a n d) (k : R2b b n' d') (e : max n d + max n' d' + 2 ≤ 134217728) (e2 : d + d' < 9990) : FitL a b := by
  refine ⟨fit2 h k e, Nat.lt_of_le_of_lt (Nat.mul_le_mul h.2 k.2) ?_⟩
  rw [← Nat.pow_add]
  exact Nat.pow_lt_pow_right (by decide) e2
theorem hv_bitsL {ns : List Int} {x : Rat} (hx : R2b x 2420 2400) {kb : Nat} (hb : PB ns kb) : ∀ i, i ≤ ns.length → R2b (hv ns x i) (kb + i * 4821) (i * 2400)
  | 0, _ => by
    have : hv ns x 0 = 0 := by
      unfold hv
      rw [Nat.sub_zero, List.drop_of_length_le (Nat.le_refl _)]; rfl
    rw [this]
    exact R2b.zero.mono (Nat.zero_le _) (Nat.zero_le _)
  | i + 1, hi => by
    rw [hv_succ hi]
    have h1 := (hv_bitsL hx hb i (by omega)).mul hx
    have h2 := h1.add (m := kb + i * 4821 + 2420 + 2400) (R2b.int (Nat.le_of_lt (hb (ns.length - 1 - i)))) (by omega) (by omega)
    exact h2.mono (by omega) (by omega)
theorem cI_take' {ns : List Int} {i j : Nat} (h : i < j) (hj : j ≤ ns.length) : cI (ns.take j) i = cI ns i := by
  rw [cI_get (by rw [List.length_take]; omega), List.getElem_take, cI_get (by omega)]
def spBinL (K : PySem.W.Frag) (f : Rat → Rat → Rat) : Sp := fun vs H Q _ => ∃ (p q : Addr) (a b : Rat), vs = [.ref p, .ref q] ∧ IsN K H p a ∧ IsN K H q b ∧ FitL a b ∧ NewO H Q (nT (f a b))
theorem ok__law_plus (T : Tx P K mg base A D) : FnOk P w K mg base CX0 42 (A 49) (D 49) ["_law_a", "_law_b"] (spBinL K fun a b => a + b) := by
  refine T.f__law_plus.ok sc__law_plus (fun vs H Q E h => ?_) (fun cdv Ar outer s H vs Q E hr h => ?_)
  · obtain ⟨p, q, a, b, rfl, _⟩ := h
    rfl
  · obtain ⟨p, q, a, b, rfl, ha, hb, hf, hq⟩ := h
    refine ⟨_, PSs.nox (pss_one (ps_ret (pe_call (ok__law_number T) (hr.mono (by decide)) (by rfl) T.g__law_number T.f__law_number.kp (b__law_number T) .nil pass0 (pa_cons (pe_op op_add (pe_op op_mulX (pe_ix ix_tup (pv 0) pe_int (fun _ _ => rfl)) (pe_ix ix_tup (pv 1) pe_int (fun _ _ => rfl))) (pe_op op_mulX (pe_ix ix_tup (pv 1) pe_int (fun _ _ => rfl)) (pe_ix ix_tup (pv 0) pe_int (fun _ _ => rfl)))) (pa_cons (pe_op op_mulX (pe_ix ix_tup (pv 0) pe_int (fun _ _ => rfl)) (pe_ix ix_tup (pv 1) pe_int (fun _ _ => rfl))) pa_nil))))), ?_⟩
    rw [show start ["_law_a", "_law_b"] [V.ref p, V.ref q] = [some (V.ref p), some (V.ref q)] from rfl]
    simp (maxSteps := 2000000) only [NewO, tLc, wipe, List.map_cons, List.map_nil, tSeq, tIfS, tTest, tOp, tVar, tC, rI0, tPar, tUn, rU, tCons, tNil, tAsg, gName, tCB, tRet, tTup, tLst, rI, rGcd, tNext, tCall, tCallN, tIf, tSl, tPart, tNoPart, rSlL, tDrop, tBM, tBM0, rAppend, rPop, tAndV, tOrV, tNotV, tAnd, tOr, tNot, tB, rEq, rNe, scal_int, gTup, gCons, gNil, gUnl, gSub, rSetL, tRevL, tAug, ipI, rIxL, rIxT, rCat, rRep, TruV, iList, iRng1, iRng2, iRng3, iEnum, tFor, tYes, List.append_nil, List.cons_append, List.nil_append, List.getElem?_cons_zero, List.getElem?_cons_succ, List.set_cons_zero, List.set_cons_succ, Option.some.injEq, exists_eq_left', exists_eq_left, exists_and_left, V.int.injEq, V.bl.injEq, V.ref.injEq, List.cons.injEq, and_true, true_and, and_assoc, decide_eq_true_eq, Bool.not_eq_true', if_true, if_false, Bool.false_eq_true, ite_true, ite_false, Bool.true_eq_false, reduceCtorEq, false_and, and_false, exists_false, false_or, or_false, gUnl, tCallN, rMax, tBreak, spNumL, cxK]
    obtain ⟨m1, m2, m3, m4, _⟩ := hf.fit.m
    refine ⟨_, ha, _, rfl, _, hb, _, rfl, _, rfl, _, rfl, m2, _, hb, _, rfl, _, ha, _, rfl, _, rfl, _, rfl, m3, _, ha, _, rfl, _, hb, _, rfl, _, rfl, _, rfl, m4, den_ne a b, hf.d, ?_⟩
    rw [plus_eq]
    exact hq
theorem ok__law_times (T : Tx P K mg base A D) : FnOk P w K mg base CX0 42 (A 50) (D 50) ["_law_a", "_law_b"] (spBinL K fun a b => a * b) := by
  refine T.f__law_times.ok sc__law_times (fun vs H Q E h => ?_) (fun cdv Ar outer s H vs Q E hr h => ?_)
  · obtain ⟨p, q, a, b, rfl, _⟩ := h
    rfl
  · obtain ⟨p, q, a, b, rfl, ha, hb, hf, hq⟩ := h
    refine ⟨_, PSs.nox (pss_one (ps_ret (pe_call (ok__law_number T) (hr.mono (by decide)) (by rfl) T.g__law_number T.f__law_number.kp (b__law_number T) .nil pass0 (pa_cons (pe_op op_mulX (pe_ix ix_tup (pv 0) pe_int (fun _ _ => rfl)) (pe_ix ix_tup (pv 1) pe_int (fun _ _ => rfl))) (pa_cons (pe_op op_mulX (pe_ix ix_tup (pv 0) pe_int (fun _ _ => rfl)) (pe_ix ix_tup (pv 1) pe_int (fun _ _ => rfl))) pa_nil))))), ?_⟩
    rw [show start ["_law_a", "_law_b"] [V.ref p, V.ref q] = [some (V.ref p), some (V.ref q)] from rfl]
    simp (maxSteps := 2000000) only [NewO, tLc, wipe, List.map_cons, List.map_nil, tSeq, tIfS, tTest, tOp, tVar, tC, rI0, tPar, tUn, rU, tCons, tNil, tAsg, gName, tCB, tRet, tTup, tLst, rI, rGcd, tNext, tCall, tCallN, tIf, tSl, tPart, tNoPart, rSlL, tDrop, tBM, tBM0, rAppend, rPop, tAndV, tOrV, tNotV, tAnd, tOr, tNot, tB, rEq, rNe, scal_int, gTup, gCons, gNil, gUnl, gSub, rSetL, tRevL, tAug, ipI, rIxL, rIxT, rCat, rRep, TruV, iList, iRng1, iRng2, iRng3, iEnum, tFor, tYes, List.append_nil, List.cons_append, List.nil_append, List.getElem?_cons_zero, List.getElem?_cons_succ, List.set_cons_zero, List.set_cons_succ, Option.some.injEq, exists_eq_left', exists_eq_left, exists_and_left, V.int.injEq, V.bl.injEq, V.ref.injEq, List.cons.injEq, and_true, true_and, and_assoc, decide_eq_true_eq, Bool.not_eq_true', if_true, if_false, Bool.false_eq_true, ite_true, ite_false, Bool.true_eq_false, reduceCtorEq, false_and, and_false, exists_false, false_or, or_false, gUnl, tCallN, rMax, tBreak, spNumL, cxK]
    obtain ⟨m1, m2, m3, m4, _⟩ := hf.fit.m
    refine ⟨_, ha, _, rfl, _, hb, _, rfl, _, rfl, _, rfl, m1, _, ha, _, rfl, _, hb, _, rfl, _, rfl, _, rfl, m4, den_ne a b, hf.d, ?_⟩
    rw [times_eq]
    exact hq
theorem ok__law_minus (T : Tx P K mg base A D) : FnOk P w K mg base CX0 43 (A 51) (D 51) ["_law_a", "_law_b"] (spBinL K fun a b => a - b) := by
  refine T.f__law_minus.ok sc__law_minus (fun vs H Q E h => ?_) (fun cdv Ar outer s H vs Q E hr h => ?_)
  · obtain ⟨p, q, a, b, rfl, _⟩ := h
    rfl
  · obtain ⟨p, q, a, b, rfl, ha, hb, hf, hq⟩ := h
    refine ⟨_, PSs.nox (pss_one (ps_ret (pe_call (ok__law_plus T) (hr.mono (by decide)) (by rfl) T.g__law_plus T.f__law_plus.kp (b__law_plus T) .nil pass0 (pa_cons (pv 0) (pa_cons (pe_tup (pa_cons (pe_un un_neg (pe_ix ix_tup (pv 1) pe_int (fun _ _ => rfl))) (pa_cons (pe_ix ix_tup (pv 1) pe_int (fun _ _ => rfl)) pa_nil))) pa_nil))))), ?_⟩
    rw [show start ["_law_a", "_law_b"] [V.ref p, V.ref q] = [some (V.ref p), some (V.ref q)] from rfl]
    simp (maxSteps := 2000000) only [NewO, tLc, wipe, List.map_cons, List.map_nil, tSeq, tIfS, tTest, tOp, tVar, tC, rI0, tPar, tUn, rU, tCons, tNil, tAsg, gName, tCB, tRet, tTup, tLst, rI, rGcd, tNext, tCall, tCallN, tIf, tSl, tPart, tNoPart, rSlL, tDrop, tBM, tBM0, rAppend, rPop, tAndV, tOrV, tNotV, tAnd, tOr, tNot, tB, rEq, rNe, scal_int, gTup, gCons, gNil, gUnl, gSub, rSetL, tRevL, tAug, ipI, rIxL, rIxT, rCat, rRep, TruV, iList, iRng1, iRng2, iRng3, iEnum, tFor, tYes, List.append_nil, List.cons_append, List.nil_append, List.getElem?_cons_zero, List.getElem?_cons_succ, List.set_cons_zero, List.set_cons_succ, Option.some.injEq, exists_eq_left', exists_eq_left, exists_and_left, V.int.injEq, V.bl.injEq, V.ref.injEq, List.cons.injEq, and_true, true_and, and_assoc, decide_eq_true_eq, Bool.not_eq_true', if_true, if_false, Bool.false_eq_true, ite_true, ite_false, Bool.true_eq_false, reduceCtorEq, false_and, and_false, exists_false, false_or, or_false, gUnl, tCallN, rMax, tBreak, spBinL, cxK]
    have e2 : nT (-b) = .tup [.int (-b.num), .int b.den] := by unfold nT; rw [Rat.neg_num, Rat.neg_den]
    refine ⟨_, hb, _, rfl, _, rfl, _, hb, _, rfl, le2, fun u nu => ⟨a, ha.at (same_new nu), -b, .new (by rw [upd_same, e2]), ?_, fun H1 r s1 n1 e1 => hq H1 r ((same_new nu).trans s1) ((same_new nu).free n1) ?_⟩⟩
    · obtain ⟨⟨j, k, h1, h2, h3⟩, h4⟩ := hf
      exact ⟨⟨j, k, h1, ⟨by rw [Rat.neg_num, Int.natAbs_neg]; exact h2.1, by rw [Rat.neg_den]; exact h2.2⟩, h3⟩, by rw [Rat.neg_den]; exact h4⟩
    · rw [e1]; show some (nT (a + -b)) = some (nT (a - b)); rw [Rat.sub_eq_add_neg]
theorem ok__law_trim (T : Tx P K mg base A D) : FnOk P w K mg base CX0 40 (A 52) (D 52) ["_law_a"] (spLL K (fun _ => True) trimI) := by
  refine T.f__law_trim.ok sc__law_trim (fun vs H Q E h => ?_) (fun cdv Ar outer s H vs Q E hr h => ?_)
  · obtain ⟨a, ns, rfl, _⟩ := h
    rfl
  · obtain ⟨a, ns, rfl, ha, hl, _, hq⟩ := h
    refine ⟨_, PSs.nox (pss_cons (ps_set (i := 1) sc__law_trim.nd rfl (.inl rfl) (pe_callTy call_list_of (by rfl) T.z_list (by decide +kernel) (pa_cons (pv 0) pa_nil))) (pss_cons (ps_for PassesOwn.never rfl (pi_range1 rfl T.z_range (pa_cons (pe_callB call_len_seq (by rfl) T.z_len (by decide +kernel) (pa_cons (pv 0) pa_nil)) pa_nil)) (pg_name (i := 2) sc__law_trim.nd rfl (.inl rfl)) (pss_one (ps_if (PW.pt (pw_and (pt_cmpR op_gt (pe_callB call_len_seq (by rfl) T.z_len (by decide +kernel) (pa_cons (pv 1) pa_nil)) pe_int (nomark _)) (pw_and1 (pt_cmpR op_eq (pe_ix ix_list (pv 1) (pe_un un_neg pe_int) (fun _ _ => rfl)) pe_int (nomark _))))) (pss_one (ps_expr (pe_bm0 PySem.F.plainAttrs_list PySem.F.slot_list_pop PySem.F.type_list_pop mt_pop (pv 1)))) pss_nil))) (pss_one (ps_ret (pv 1))))), ?_⟩
    rw [show start ["_law_a", "_law_found", "_law_turn"] [V.ref a] = [some (V.ref a), none, none] from rfl]
    simp (maxSteps := 2000000) only [NewO, tLc, wipe, List.map_cons, List.map_nil, tSeq, tIfS, tTest, tOp, tVar, tC, rI0, tPar, tUn, rU, tCons, tNil, tAsg, gName, tCB, tRet, tTup, tLst, rI, rGcd, tNext, tCall, tCallN, tIf, tSl, tPart, tNoPart, rSlL, tDrop, tBM, tBM0, rAppend, rPop, tAndV, tOrV, tNotV, tAnd, tOr, tNot, tB, rEq, rNe, scal_int, gTup, gCons, gNil, gUnl, gSub, rSetL, tRevL, tAug, ipI, rIxL, rIxT, rCat, rRep, TruV, iList, iRng1, iRng2, iRng3, iEnum, tFor, tYes, List.append_nil, List.cons_append, List.nil_append, List.getElem?_cons_zero, List.getElem?_cons_succ, List.set_cons_zero, List.set_cons_succ, Option.some.injEq, exists_eq_left', exists_eq_left, exists_and_left, V.int.injEq, V.bl.injEq, V.ref.injEq, List.cons.injEq, and_true, true_and, and_assoc, decide_eq_true_eq, Bool.not_eq_true', if_true, if_false, Bool.false_eq_true, ite_true, ite_false, Bool.true_eq_false, reduceCtorEq, false_and, and_false, exists_false, false_or, or_false, gUnl, tCallN, rMax, tBreak, cxK]
    refine ⟨_, .inl ha, fun L hL => ⟨_, .inl (ha.at (same_new hL)), by omega, by rw [List.length_map]; omega, frr (fun i σ H' => ∃ (j : Nat) (y : Option V), σ = [some (.ref a), some (.ref L), y] ∧ Same H H' ∧ H' L = some (iL (ns.take j)) ∧ j ≤ ns.length ∧ (∀ i, j ≤ i → cI ns i = 0) ∧ (j + i = ns.length ∨ j = 0 ∨ cI ns (j - 1) ≠ 0)) ⟨ns.length, none, rfl, same_new hL, by rw [upd_same, List.take_length]; rfl, Nat.le_refl _, fun i hi => cI_out hi, .inl rfl⟩ (fun i σ H' hi q => ?_) (fun σ H' q => ?_)⟩⟩
    · obtain ⟨j, y, rfl, s, h1, h2, h3, h4⟩ := q
      simp (maxSteps := 2000000) only [NewO, tLc, wipe, List.map_cons, List.map_nil, tSeq, tIfS, tTest, tOp, tVar, tC, rI0, tPar, tUn, rU, tCons, tNil, tAsg, gName, tCB, tRet, tTup, tLst, rI, rGcd, tNext, tCall, tCallN, tIf, tSl, tPart, tNoPart, rSlL, tDrop, tBM, tBM0, rAppend, rPop, tAndV, tOrV, tNotV, tAnd, tOr, tNot, tB, rEq, rNe, scal_int, gTup, gCons, gNil, gUnl, gSub, rSetL, tRevL, tAug, ipI, rIxL, rIxT, rCat, rRep, TruV, iList, iRng1, iRng2, iRng3, iEnum, tFor, tYes, List.append_nil, List.cons_append, List.nil_append, List.getElem?_cons_zero, List.getElem?_cons_succ, List.set_cons_zero, List.set_cons_succ, Option.some.injEq, exists_eq_left', exists_eq_left, exists_and_left, V.int.injEq, V.bl.injEq, V.ref.injEq, List.cons.injEq, and_true, true_and, and_assoc, decide_eq_true_eq, Bool.not_eq_true', if_true, if_false, Bool.false_eq_true, ite_true, ite_false, Bool.true_eq_false, reduceCtorEq, false_and, and_false, exists_false, false_or, or_false, gUnl, tCallN, rMax, tBreak]
      have hL1 : SqL K H' L ((ns.take j).map V.int) := SqL.of h1
      have lj : ((ns.take j).map V.int).length = j := by rw [List.length_map, List.length_take]; omega
      refine ⟨_, .inl hL1, ite2 (fun c => ?_) (fun c => ?_)⟩
      · rw [lj] at c
        have tn : ns.take j ≠ [] := fun z => by rw [z] at lj; simp at lj; omega
        have il := ix_last tn
        rw [List.length_take, show min j ns.length - 1 = j - 1 by omega, cI_take' (by omega) h2] at il
        refine ⟨_, hL1, _, il, rfl, ite2 (fun c2 => ?_) (fun c2 => ?_)⟩
        · have c2 := V.int.inj c2
          refine ⟨.inl ⟨rfl, _, hL1⟩, _, h1, V.int (cI ns (j - 1)), ?_, ?_⟩
          · rw [lj, List.getElem?_map, List.getElem?_take, if_pos (by omega), List.getElem?_eq_getElem (by omega), cI_get (by omega)]; rfl
          · refine ⟨same_updD hL s, j - 1, ?_, by omega, fun k hk => ?_, ?_⟩
            · rw [upd_same]
              unfold iL
              rw [List.dropLast_eq_take, lj, ← List.map_take, List.take_take, show min (j - 1) j = j - 1 by omega]
            · by_cases e : k = j - 1
              · rw [e]; exact c2
              · exact h3 k (by omega)
            · rcases h4 with h | h | h
              · exact .inl (by omega)
              · omega
              · exact absurd c2 h
        · exact ⟨s, j, h1, h2, h3, .inr (.inr fun z => c2 (by rw [z]))⟩
      · rw [lj] at c
        exact ⟨s, j, h1, h2, h3, .inr (.inl (by omega))⟩
    · obtain ⟨j, y, rfl, s, h1, h2, h3, h4⟩ := q
      simp (maxSteps := 2000000) only [NewO, tLc, wipe, List.map_cons, List.map_nil, tSeq, tIfS, tTest, tOp, tVar, tC, rI0, tPar, tUn, rU, tCons, tNil, tAsg, gName, tCB, tRet, tTup, tLst, rI, rGcd, tNext, tCall, tCallN, tIf, tSl, tPart, tNoPart, rSlL, tDrop, tBM, tBM0, rAppend, rPop, tAndV, tOrV, tNotV, tAnd, tOr, tNot, tB, rEq, rNe, scal_int, gTup, gCons, gNil, gUnl, gSub, rSetL, tRevL, tAug, ipI, rIxL, rIxT, rCat, rRep, TruV, iList, iRng1, iRng2, iRng3, iEnum, tFor, tYes, List.append_nil, List.cons_append, List.nil_append, List.getElem?_cons_zero, List.getElem?_cons_succ, List.set_cons_zero, List.set_cons_succ, Option.some.injEq, exists_eq_left', exists_eq_left, exists_and_left, V.int.injEq, V.bl.injEq, V.ref.injEq, List.cons.injEq, and_true, true_and, and_assoc, decide_eq_true_eq, Bool.not_eq_true', if_true, if_false, Bool.false_eq_true, ite_true, ite_false, Bool.true_eq_false, reduceCtorEq, false_and, and_false, exists_false, false_or, or_false, gUnl, tCallN, rMax, tBreak]
      rw [trimI_take h2 h3 (by
        rcases h4 with h | h | h
        · rw [List.length_map] at h; exact .inl (by omega)
        · exact .inl h
        · exact .inr h)] at h1
      exact hq H' L s hL h1
theorem ok__law_mul (T : Tx P K mg base A D) : FnOk P w K mg base CX0 41 (A 53) (D 53) ["_law_a", "_law_b"] (fun vs H Q _ => ∃ (a b : Addr) (ns ms : List Int), vs = [.ref a, .ref b] ∧ IsL K H a ns ∧ IsL K H b ms ∧ ns.length ≤ 100 ∧ ms.length ≤ 100 ∧ (∃ j k, PB ns j ∧ PB ms k ∧ j + k ≤ 134217728) ∧ ∀ H' p F, Same H H' → H p = none → H' p = some (iL (trimI F)) → MuI ns ms F ns.length 0 → Q (.ref p) H') := by
  refine T.f__law_mul.ok sc__law_mul (fun vs H Q E h => ?_) (fun cdv Ar outer s H vs Q E hr h => ?_)
  · obtain ⟨a, b, ns, ms, rfl, _⟩ := h
    rfl
  · obtain ⟨a, b, ns, ms, rfl, ha, hb, hl, hm, ⟨j, k, pj, pk, hjk⟩, hq⟩ := h
    refine ⟨_, PSs.nox (pss_cons (ps_set (i := 2) sc__law_mul.nd rfl (.inl rfl) (pe_op op_rep (pe_lst (pa_cons pe_int pa_nil)) (pe_op op_add (pe_callB call_len_seq (by rfl) T.z_len (by decide +kernel) (pa_cons (pv 0) pa_nil)) (pe_callB call_len_seq (by rfl) T.z_len (by decide +kernel) (pa_cons (pv 1) pa_nil))))) (pss_cons (ps_for PassesOwn.never rfl (pi_range1 rfl T.z_range (pa_cons (pe_callB call_len_seq (by rfl) T.z_len (by decide +kernel) (pa_cons (pv 0) pa_nil)) pa_nil)) (pg_name (i := 3) sc__law_mul.nd rfl (.inl rfl)) (pss_one (ps_for PassesOwn.never rfl (pi_range1 rfl T.z_range (pa_cons (pe_callB call_len_seq (by rfl) T.z_len (by decide +kernel) (pa_cons (pv 1) pa_nil)) pa_nil)) (pg_name (i := 4) sc__law_mul.nd rfl (.inl rfl)) (pss_one (ps_asg (pe_op op_add (pe_ix ix_list (pv 2) (pe_op op_add (pv 3) (pv 4)) (fun _ _ => rfl)) (pe_op op_mulX (pe_ix ix_list (pv 0) (pv 3) (fun _ _ => rfl)) (pe_ix ix_list (pv 1) (pv 4) (fun _ _ => rfl)))) (pg_sub (pv 2) (pe_op op_add (pv 3) (pv 4)) set_list)))))) (pss_one (ps_ret (pe_call (ok__law_trim T) (hr.mono (by decide)) (by rfl) T.g__law_trim T.f__law_trim.kp (b__law_trim T) .nil pass0 (pa_cons (pv 2) pa_nil)))))), ?_⟩
    rw [show start ["_law_a", "_law_b", "_law_found", "_law_i", "_law_j"] [V.ref a, V.ref b] = [some (V.ref a), some (V.ref b), none, none, none] from rfl]
    simp (maxSteps := 2000000) only [NewO, tLc, wipe, List.map_cons, List.map_nil, tSeq, tIfS, tTest, tOp, tVar, tC, rI0, tPar, tUn, rU, tCons, tNil, tAsg, gName, tCB, tRet, tTup, tLst, rI, rGcd, tNext, tCall, tCallN, tIf, tSl, tPart, tNoPart, rSlL, tDrop, tBM, tBM0, rAppend, rPop, tAndV, tOrV, tNotV, tAnd, tOr, tNot, tB, rEq, rNe, scal_int, gTup, gCons, gNil, gUnl, gSub, rSetL, tRevL, tAug, ipI, rIxL, rIxT, rCat, rRep, TruV, iList, iRng1, iRng2, iRng3, iEnum, tFor, tYes, List.append_nil, List.cons_append, List.nil_append, List.getElem?_cons_zero, List.getElem?_cons_succ, List.set_cons_zero, List.set_cons_succ, Option.some.injEq, exists_eq_left', exists_eq_left, exists_and_left, V.int.injEq, V.bl.injEq, V.ref.injEq, List.cons.injEq, and_true, true_and, and_assoc, decide_eq_true_eq, Bool.not_eq_true', if_true, if_false, Bool.false_eq_true, ite_true, ite_false, Bool.true_eq_false, reduceCtorEq, false_and, and_false, exists_false, false_or, or_false, gUnl, tCallN, rMax, tBreak, cxK, spLL]
    refine ⟨by show 1 ≤ sizeLine; decide, fun p0 n0 => ⟨_, .inl (ha.at (same_new n0)), _, .inl (hb.at (same_new n0)), _, upd_same, by omega, by rw [List.length_map, List.length_map]; omega, by
      rw [List.length_map, List.length_map]; exact le_size (by show 1 * _ ≤ _; omega), fun F nF => ?_⟩⟩
    have t0 := same_new (o := .lst [V.int 0]) n0
    have er : HO.lst (List.replicate (((ns.map V.int).length : Int) + ((ms.map V.int).length : Int)).toNat [V.int 0]).flatten = iL (List.replicate (ns.length + ms.length) 0) := by
      unfold iL
      rw [List.length_map, List.length_map, List.map_replicate, show ((ns.length : Int) + (ms.length : Int)).toNat = ns.length + ms.length by omega]
      congr 1
      generalize ns.length + ms.length = n
      induction n with
      | zero => rfl
      | succ n ih => rw [List.replicate_succ, List.flatten_cons, ih]; rfl
    rw [er]
    have nF0 : H F = none := t0.free nF
    have tF := t0.trans (same_new (o := iL (List.replicate (ns.length + ms.length) 0)) nF)
    refine ⟨_, .inl (ha.at tF), by omega, by rw [List.length_map]; omega, frr (fun i σ H' => ∃ (f : List Int) (y3 y4 : Option V), σ = [some (.ref a), some (.ref b), some (.ref F), y3, y4] ∧ Same H H' ∧ H' F = some (iL f) ∧ MuI ns ms f i 0) ⟨_, none, none, rfl, tF, upd_same, MuI.start ns ms⟩ (fun i σ H' hi q => ?_) (fun σ H' q => ?_)⟩
    · rw [List.length_map] at hi
      obtain ⟨f, y3, y4, rfl, s, hF, hM⟩ := q
      simp (maxSteps := 2000000) only [NewO, tLc, wipe, List.map_cons, List.map_nil, tSeq, tIfS, tTest, tOp, tVar, tC, rI0, tPar, tUn, rU, tCons, tNil, tAsg, gName, tCB, tRet, tTup, tLst, rI, rGcd, tNext, tCall, tCallN, tIf, tSl, tPart, tNoPart, rSlL, tDrop, tBM, tBM0, rAppend, rPop, tAndV, tOrV, tNotV, tAnd, tOr, tNot, tB, rEq, rNe, scal_int, gTup, gCons, gNil, gUnl, gSub, rSetL, tRevL, tAug, ipI, rIxL, rIxT, rCat, rRep, TruV, iList, iRng1, iRng2, iRng3, iEnum, tFor, tYes, List.append_nil, List.cons_append, List.nil_append, List.getElem?_cons_zero, List.getElem?_cons_succ, List.set_cons_zero, List.set_cons_succ, Option.some.injEq, exists_eq_left', exists_eq_left, exists_and_left, V.int.injEq, V.bl.injEq, V.ref.injEq, List.cons.injEq, and_true, true_and, and_assoc, decide_eq_true_eq, Bool.not_eq_true', if_true, if_false, Bool.false_eq_true, ite_true, ite_false, Bool.true_eq_false, reduceCtorEq, false_and, and_false, exists_false, false_or, or_false, gUnl, tCallN, rMax, tBreak]
      refine ⟨_, .inl (hb.at s), by omega, by rw [List.length_map]; omega, frr (fun jj σ H' => ∃ (f : List Int) (y4 : Option V), σ = [some (.ref a), some (.ref b), some (.ref F), some (.int (0 + i)), y4] ∧ Same H H' ∧ H' F = some (iL f) ∧ MuI ns ms f i jj) ⟨f, y4, rfl, s, hF, hM⟩ (fun jj σ H2 hj q => ?_) (fun σ H2 q => ?_)⟩
      · rw [List.length_map] at hj
        obtain ⟨f, y4, rfl, s, hF, hM⟩ := q
        simp (maxSteps := 2000000) only [NewO, tLc, wipe, List.map_cons, List.map_nil, tSeq, tIfS, tTest, tOp, tVar, tC, rI0, tPar, tUn, rU, tCons, tNil, tAsg, gName, tCB, tRet, tTup, tLst, rI, rGcd, tNext, tCall, tCallN, tIf, tSl, tPart, tNoPart, rSlL, tDrop, tBM, tBM0, rAppend, rPop, tAndV, tOrV, tNotV, tAnd, tOr, tNot, tB, rEq, rNe, scal_int, gTup, gCons, gNil, gUnl, gSub, rSetL, tRevL, tAug, ipI, rIxL, rIxT, rCat, rRep, TruV, iList, iRng1, iRng2, iRng3, iEnum, tFor, tYes, List.append_nil, List.cons_append, List.nil_append, List.getElem?_cons_zero, List.getElem?_cons_succ, List.set_cons_zero, List.set_cons_succ, Option.some.injEq, exists_eq_left', exists_eq_left, exists_and_left, V.int.injEq, V.bl.injEq, V.ref.injEq, List.cons.injEq, and_true, true_and, and_assoc, decide_eq_true_eq, Bool.not_eq_true', if_true, if_false, Bool.false_eq_true, ite_true, ite_false, Bool.true_eq_false, reduceCtorEq, false_and, and_false, exists_false, false_or, or_false, gUnl, tCallN, rMax, tBreak]
        have fl := hM.len
        have hFs : SqL K H2 F (f.map V.int) := SqL.of hF
        have ei : (0 : Int) + (i : Int) + (0 + (jj : Int)) = ((i + jj : Nat) : Int) := by omega
        refine ⟨_, hFs, _, ix_int ei (by omega), _, ha.at s, _, ix_int (i := i) (by omega) (by omega), _, hb.at s, _, ix_int (i := jj) (by omega) (by omega), _, rfl, _, rfl, mul_bits (pj _) (pk _) hjk, _, rfl, _, hF, _, ixN_nat ei (by rw [List.length_map]; omega), same_updD nF0 s, f.set (i + jj) (cI f (i + jj) + cI ns i * cI ms jj), ?_, hM.step (by omega) (by omega)⟩
        rw [upd_same]; unfold iL; rw [List.map_set]
      · obtain ⟨f, y4, rfl, s, hF, hM⟩ := q
        rw [List.length_map] at hM
        simp (maxSteps := 2000000) only [NewO, tLc, wipe, List.map_cons, List.map_nil, tSeq, tIfS, tTest, tOp, tVar, tC, rI0, tPar, tUn, rU, tCons, tNil, tAsg, gName, tCB, tRet, tTup, tLst, rI, rGcd, tNext, tCall, tCallN, tIf, tSl, tPart, tNoPart, rSlL, tDrop, tBM, tBM0, rAppend, rPop, tAndV, tOrV, tNotV, tAnd, tOr, tNot, tB, rEq, rNe, scal_int, gTup, gCons, gNil, gUnl, gSub, rSetL, tRevL, tAug, ipI, rIxL, rIxT, rCat, rRep, TruV, iList, iRng1, iRng2, iRng3, iEnum, tFor, tYes, List.append_nil, List.cons_append, List.nil_append, List.getElem?_cons_zero, List.getElem?_cons_succ, List.set_cons_zero, List.set_cons_succ, Option.some.injEq, exists_eq_left', exists_eq_left, exists_and_left, V.int.injEq, V.bl.injEq, V.ref.injEq, List.cons.injEq, and_true, true_and, and_assoc, decide_eq_true_eq, Bool.not_eq_true', if_true, if_false, Bool.false_eq_true, ite_true, ite_false, Bool.true_eq_false, reduceCtorEq, false_and, and_false, exists_false, false_or, or_false, gUnl, tCallN, rMax, tBreak]
        exact ⟨s, f, hF, hM.next (by omega)⟩
    · obtain ⟨f, y3, y4, rfl, s, hF, hM⟩ := q
      simp (maxSteps := 2000000) only [NewO, tLc, wipe, List.map_cons, List.map_nil, tSeq, tIfS, tTest, tOp, tVar, tC, rI0, tPar, tUn, rU, tCons, tNil, tAsg, gName, tCB, tRet, tTup, tLst, rI, rGcd, tNext, tCall, tCallN, tIf, tSl, tPart, tNoPart, rSlL, tDrop, tBM, tBM0, rAppend, rPop, tAndV, tOrV, tNotV, tAnd, tOr, tNot, tB, rEq, rNe, scal_int, gTup, gCons, gNil, gUnl, gSub, rSetL, tRevL, tAug, ipI, rIxL, rIxT, rCat, rRep, TruV, iList, iRng1, iRng2, iRng3, iEnum, tFor, tYes, List.append_nil, List.cons_append, List.nil_append, List.getElem?_cons_zero, List.getElem?_cons_succ, List.set_cons_zero, List.set_cons_succ, Option.some.injEq, exists_eq_left', exists_eq_left, exists_and_left, V.int.injEq, V.bl.injEq, V.ref.injEq, List.cons.injEq, and_true, true_and, and_assoc, decide_eq_true_eq, Bool.not_eq_true', if_true, if_false, Bool.false_eq_true, ite_true, ite_false, Bool.true_eq_false, reduceCtorEq, false_and, and_false, exists_false, false_or, or_false, gUnl, tCallN, rMax, tBreak]
      rw [List.length_map] at hM
      have fl := hM.len
      exact ⟨f, .new hF, by omega, fun H3 r s3 n3 e3 => hq H3 r f (s.trans s3) (s.free n3) e3 hM⟩
def spAtL (K : PySem.W.Frag) : Sp := fun vs H Q _ => ∃ (a b : Addr) (ns : List Int) (x : Rat), vs = [.ref a, .ref b] ∧ IsL K H a ns ∧ IsN K H b x ∧ ns.length ≤ 4 ∧ PB ns 10 ∧ R2b x 2420 2400 ∧ (∀ H' p, Same H H' → IsN K H' p (evI ns x) → Q (.ref p) H')
theorem ok__law_at (T : Tx P K mg base A D) : FnOk P w K mg base CX0 43 (A 54) (D 54) ["_law_a", "_law_x_here"] (spAtL K) := by
  refine T.f__law_at.ok sc__law_at (fun vs H Q E h => ?_) (fun cdv Ar outer s H vs Q E hr h => ?_)
  · obtain ⟨a, b, ns, x, rfl, _⟩ := h
    rfl
  · obtain ⟨a, b, ns, x, rfl, ha, hx, hl, hb, hxb, hq⟩ := h
    refine ⟨_, PSs.nox (pss_cons (ps_set (i := 2) sc__law_at.nd rfl (.inl rfl) (pe_tup (pa_cons pe_int (pa_cons pe_int pa_nil)))) (pss_cons (ps_for PassesOwn.never rfl (pi_range1 rfl T.z_range (pa_cons (pe_callB call_len_seq (by rfl) T.z_len (by decide +kernel) (pa_cons (pv 0) pa_nil)) pa_nil)) (pg_name (i := 3) sc__law_at.nd rfl (.inl rfl)) (pss_one (ps_set (i := 2) sc__law_at.nd rfl (.inl rfl) (pe_call (ok__law_plus T) (hr.mono (by decide)) (by rfl) T.g__law_plus T.f__law_plus.kp (b__law_plus T) .nil pass0 (pa_cons (pe_call (ok__law_times T) (hr.mono (by decide)) (by rfl) T.g__law_times T.f__law_times.kp (b__law_times T) .nil pass0 (pa_cons (pv 2) (pa_cons (pv 1) pa_nil))) (pa_cons (pe_tup (pa_cons (pe_ix ix_list (pv 0) (pe_op op_sub (pe_op op_sub (pe_callB call_len_seq (by rfl) T.z_len (by decide +kernel) (pa_cons (pv 0) pa_nil)) pe_int) (pv 3)) (fun _ _ => rfl)) (pa_cons pe_int pa_nil))) pa_nil)))))) (pss_one (ps_ret (pv 2))))), ?_⟩
    rw [show start ["_law_a", "_law_x_here", "_law_found", "_law_k"] [V.ref a, V.ref b] = [some (V.ref a), some (V.ref b), none, none] from rfl]
    simp (maxSteps := 2000000) only [NewO, tLc, wipe, List.map_cons, List.map_nil, tSeq, tIfS, tTest, tOp, tVar, tC, rI0, tPar, tUn, rU, tCons, tNil, tAsg, gName, tCB, tRet, tTup, tLst, rI, rGcd, tNext, tCall, tCallN, tIf, tSl, tPart, tNoPart, rSlL, tDrop, tBM, tBM0, rAppend, rPop, tAndV, tOrV, tNotV, tAnd, tOr, tNot, tB, rEq, rNe, scal_int, gTup, gCons, gNil, gUnl, gSub, rSetL, tRevL, tAug, ipI, rIxL, rIxT, rCat, rRep, TruV, iList, iRng1, iRng2, iRng3, iEnum, tFor, tYes, List.append_nil, List.cons_append, List.nil_append, List.getElem?_cons_zero, List.getElem?_cons_succ, List.set_cons_zero, List.set_cons_succ, Option.some.injEq, exists_eq_left', exists_eq_left, exists_and_left, V.int.injEq, V.bl.injEq, V.ref.injEq, List.cons.injEq, and_true, true_and, and_assoc, decide_eq_true_eq, Bool.not_eq_true', if_true, if_false, Bool.false_eq_true, ite_true, ite_false, Bool.true_eq_false, reduceCtorEq, false_and, and_false, exists_false, false_or, or_false, gUnl, tCallN, rMax, tBreak, cxK, spBinL]
    refine ⟨le2, fun u nu => ⟨_, .inl (ha.at (same_new nu)), by omega, by rw [List.length_map]; omega, frr (fun i σ H' => ∃ (p : Addr) (y : Option V), σ = [some (.ref a), some (.ref b), some (.ref p), y] ∧ Same H H' ∧ IsN K H' p (hv ns x i)) ⟨u, none, rfl, same_new nu, ?_⟩ (fun i σ H' hi q => ?_) (fun σ H' q => ?_)⟩⟩
    · have h0 : hv ns x 0 = 0 := by
        unfold hv
        rw [Nat.sub_zero, List.drop_of_length_le (Nat.le_refl _)]; rfl
      rw [h0]
      exact .new (r := 0) upd_same
    · rw [List.length_map] at hi
      obtain ⟨p, y, rfl, s, hp⟩ := q
      simp (maxSteps := 2000000) only [NewO, tLc, wipe, List.map_cons, List.map_nil, tSeq, tIfS, tTest, tOp, tVar, tC, rI0, tPar, tUn, rU, tCons, tNil, tAsg, gName, tCB, tRet, tTup, tLst, rI, rGcd, tNext, tCall, tCallN, tIf, tSl, tPart, tNoPart, rSlL, tDrop, tBM, tBM0, rAppend, rPop, tAndV, tOrV, tNotV, tAnd, tOr, tNot, tB, rEq, rNe, scal_int, gTup, gCons, gNil, gUnl, gSub, rSetL, tRevL, tAug, ipI, rIxL, rIxT, rCat, rRep, TruV, iList, iRng1, iRng2, iRng3, iEnum, tFor, tYes, List.append_nil, List.cons_append, List.nil_append, List.getElem?_cons_zero, List.getElem?_cons_succ, List.set_cons_zero, List.set_cons_succ, Option.some.injEq, exists_eq_left', exists_eq_left, exists_and_left, V.int.injEq, V.bl.injEq, V.ref.injEq, List.cons.injEq, and_true, true_and, and_assoc, decide_eq_true_eq, Bool.not_eq_true', if_true, if_false, Bool.false_eq_true, ite_true, ite_false, Bool.true_eq_false, reduceCtorEq, false_and, and_false, exists_false, false_or, or_false, gUnl, tCallN, rMax, tBreak]
      have bt := hv_bitsL hxb hb i (by omega)
      have bm := bt.mul hxb
      have bc : R2b (cI ns (ns.length - 1 - i) : Rat) 10 0 := R2b.int (Nat.le_of_lt (hb _))
      refine ⟨_, hp, _, hx.at s, fitL bt hxb (by omega) (by omega), fun H2 q s2 n2 e2 => ⟨_, .inl (ha.at (s.trans s2)), _, ha.at (s.trans s2), _, ix_int (i := ns.length - 1 - i) (by rw [List.length_map]; omega) (by omega), le2, fun v nv => ⟨_, (IsN.new e2).at (same_new nv), (cI ns (ns.length - 1 - i) : Rat), IsN.new upd_same, fitL bm bc (by omega) (by omega), fun H3 z s3 n3 e3 => ⟨s.trans (s2.trans ((same_new nv).trans s3)), ?_⟩⟩⟩⟩
      rw [hv_succ (by omega)]
      exact .new e3
    · obtain ⟨p, y, rfl, s, hp⟩ := q
      simp (maxSteps := 2000000) only [NewO, tLc, wipe, List.map_cons, List.map_nil, tSeq, tIfS, tTest, tOp, tVar, tC, rI0, tPar, tUn, rU, tCons, tNil, tAsg, gName, tCB, tRet, tTup, tLst, rI, rGcd, tNext, tCall, tCallN, tIf, tSl, tPart, tNoPart, rSlL, tDrop, tBM, tBM0, rAppend, rPop, tAndV, tOrV, tNotV, tAnd, tOr, tNot, tB, rEq, rNe, scal_int, gTup, gCons, gNil, gUnl, gSub, rSetL, tRevL, tAug, ipI, rIxL, rIxT, rCat, rRep, TruV, iList, iRng1, iRng2, iRng3, iEnum, tFor, tYes, List.append_nil, List.cons_append, List.nil_append, List.getElem?_cons_zero, List.getElem?_cons_succ, List.set_cons_zero, List.set_cons_succ, Option.some.injEq, exists_eq_left', exists_eq_left, exists_and_left, V.int.injEq, V.bl.injEq, V.ref.injEq, List.cons.injEq, and_true, true_and, and_assoc, decide_eq_true_eq, Bool.not_eq_true', if_true, if_false, Bool.false_eq_true, ite_true, ite_false, Bool.true_eq_false, reduceCtorEq, false_and, and_false, exists_false, false_or, or_false, gUnl, tCallN, rMax, tBreak]
      refine hq H' p s ?_
      have e : hv ns x ((List.map V.int ns).length : Int).toNat = evI ns x := by
        unfold hv
        rw [Int.toNat_natCast, List.length_map, Nat.sub_self, List.drop_zero]
      rw [e] at hp
      exact hp
theorem ok__law_sign (T : Tx P K mg base A D) : FnOk P w K mg base CX0 40 (A 55) (D 55) ["_law_n"] (fun vs H Q _ => ∃ n : Int, vs = [.int n] ∧ Q (.int (sI n)) H) := by
  refine T.f__law_sign.ok sc__law_sign (fun vs H Q E h => ?_) (fun cdv Ar outer s H vs Q E hr h => ?_)
  · obtain ⟨n, rfl, _⟩ := h
    rfl
  · obtain ⟨n, rfl, hq⟩ := h
    refine ⟨_, PSs.nox (pss_one (ps_ret (pe_op op_sub (pe_callTy call_int1 (by rfl) T.z_int (by decide +kernel) (pa_cons (pe_cmpR op_gt (pv 0) pe_int (nomark _)) pa_nil)) (pe_callTy call_int1 (by rfl) T.z_int (by decide +kernel) (pa_cons (pe_cmpR op_lt (pv 0) pe_int (nomark _)) pa_nil))))), ?_⟩
    rw [show start ["_law_n"] [V.int n] = [some (V.int n)] from rfl]
    simp (maxSteps := 2000000) only [NewO, tLc, wipe, List.map_cons, List.map_nil, tSeq, tIfS, tTest, tOp, tVar, tC, rI0, tPar, tUn, rU, tCons, tNil, tAsg, gName, tCB, tRet, tTup, tLst, rI, rGcd, tNext, tCall, tCallN, tIf, tSl, tPart, tNoPart, rSlL, tDrop, tBM, tBM0, rAppend, rPop, tAndV, tOrV, tNotV, tAnd, tOr, tNot, tB, rEq, rNe, scal_int, gTup, gCons, gNil, gUnl, gSub, rSetL, tRevL, tAug, ipI, rIxL, rIxT, rCat, rRep, TruV, iList, iRng1, iRng2, iRng3, iEnum, tFor, tYes, List.append_nil, List.cons_append, List.nil_append, List.getElem?_cons_zero, List.getElem?_cons_succ, List.set_cons_zero, List.set_cons_succ, Option.some.injEq, exists_eq_left', exists_eq_left, exists_and_left, V.int.injEq, V.bl.injEq, V.ref.injEq, List.cons.injEq, and_true, true_and, and_assoc, decide_eq_true_eq, Bool.not_eq_true', if_true, if_false, Bool.false_eq_true, ite_true, ite_false, Bool.true_eq_false, reduceCtorEq, false_and, and_false, exists_false, false_or, or_false, gUnl, tCallN, rMax, tBreak, cxK]
    exact hq
def spSgnL (K : PySem.W.Frag) : Sp := fun vs H Q _ => ∃ (a b : Addr) (ns : List Int) (x : Rat), vs = [.ref a, .ref b] ∧ IsL K H a ns ∧ IsN K H b x ∧ ns.length ≤ 4 ∧ PB ns 10 ∧ R2b x 2420 2400 ∧ (∀ H', Same H H' → Q (.int (sg (evI ns x))) H')
theorem ok__law_sign_at (T : Tx P K mg base A D) : FnOk P w K mg base CX0 44 (A 56) (D 56) ["_law_a", "_law_x_here"] (spSgnL K) := by
  refine T.f__law_sign_at.ok sc__law_sign_at (fun vs H Q E h => ?_) (fun cdv Ar outer s H vs Q E hr h => ?_)
  · obtain ⟨a, b, ns, x, rfl, _⟩ := h
    rfl
  · obtain ⟨a, b, ns, x, rfl, ha, hx, hl, hb, hxb, hq⟩ := h
    refine ⟨_, PSs.nox (pss_one (ps_ret (pe_call (ok__law_sign T) (hr.mono (by decide)) (by rfl) T.g__law_sign T.f__law_sign.kp (b__law_sign T) .nil pass0 (pa_cons (pe_ix ix_tup (pe_call (ok__law_at T) (hr.mono (by decide)) (by rfl) T.g__law_at T.f__law_at.kp (b__law_at T) .nil pass0 (pa_cons (pv 0) (pa_cons (pv 1) pa_nil))) pe_int (fun _ _ => rfl)) pa_nil)))), ?_⟩
    rw [show start ["_law_a", "_law_x_here"] [V.ref a, V.ref b] = [some (V.ref a), some (V.ref b)] from rfl]
    simp (maxSteps := 2000000) only [NewO, tLc, wipe, List.map_cons, List.map_nil, tSeq, tIfS, tTest, tOp, tVar, tC, rI0, tPar, tUn, rU, tCons, tNil, tAsg, gName, tCB, tRet, tTup, tLst, rI, rGcd, tNext, tCall, tCallN, tIf, tSl, tPart, tNoPart, rSlL, tDrop, tBM, tBM0, rAppend, rPop, tAndV, tOrV, tNotV, tAnd, tOr, tNot, tB, rEq, rNe, scal_int, gTup, gCons, gNil, gUnl, gSub, rSetL, tRevL, tAug, ipI, rIxL, rIxT, rCat, rRep, TruV, iList, iRng1, iRng2, iRng3, iEnum, tFor, tYes, List.append_nil, List.cons_append, List.nil_append, List.getElem?_cons_zero, List.getElem?_cons_succ, List.set_cons_zero, List.set_cons_succ, Option.some.injEq, exists_eq_left', exists_eq_left, exists_and_left, V.int.injEq, V.bl.injEq, V.ref.injEq, List.cons.injEq, and_true, true_and, and_assoc, decide_eq_true_eq, Bool.not_eq_true', if_true, if_false, Bool.false_eq_true, ite_true, ite_false, Bool.true_eq_false, reduceCtorEq, false_and, and_false, exists_false, false_or, or_false, gUnl, tCallN, rMax, tBreak, cxK, spAtL]
    refine ⟨ns, ha, x, hx, hl, hb, hxb, fun H1 p s1 h1 => ⟨_, h1, _, rfl, _, rfl, ?_⟩⟩
    rw [← sg_num]
    exact hq H1 s1
end
end W23
namespace W23
open PySem PySem.Spec PyProof.Rows L2 K23
section
variable {P : Program} {w : World} {K : PySem.W.Frag} {mg : Str → Option Value} {base : Heap} {A : Nat → Addr} {D : Nat → FuncData}
theorem mb {i j : Int} {a b : Nat} (hi : i.natAbs < 2 ^ a) (hj : j.natAbs < 2 ^ b) : (i * j).natAbs < 2 ^ (a + b) := by
  rw [Int.natAbs_mul, Nat.pow_add]
  exact Nat.mul_lt_mul'' hi hj
theorem nb {i : Int} {a : Nat} (hi : i.natAbs < 2 ^ a) : (-i).natAbs < 2 ^ a := by rw [Int.natAbs_neg]; exact hi
abbrev XL (x : Rat) : Prop := R2b x 2500 2500
def spRS (K : PySem.W.Frag) : Sp := fun vs H Q _ => ∃ (a b : Addr) (f : List Int) (x : Rat), vs = [.ref a, .ref b] ∧ IsL K H a f ∧ f ∈ menu ∧ IsN K H b x ∧ XL x ∧ NewO H Q (iL (rs f x))
theorem ok__law_root_signs (T : Tx P K mg base A D) : FnOk P w K mg base CX0 41 (A 58) (D 58) ["_law_factor", "_law_x_here"] (spRS K) := by
  refine T.f__law_root_signs.ok sc__law_root_signs (fun vs H Q E h => ?_) (fun cdv Ar outer s H vs Q E hr h => ?_)
  · obtain ⟨a, b, f, x, rfl, _⟩ := h
    rfl
  · obtain ⟨a, b, f, x, rfl, ha, hf, hb, hx, hq⟩ := h
    refine ⟨_, PSs.nox (pss_cons (ps_if (pt_cmpR op_eq (pe_callB call_len_seq (by rfl) T.z_len (by decide +kernel) (pa_cons (pv 0) pa_nil)) pe_int (nomark _)) (pss_one (ps_ret (pe_lst (pa_cons (pe_call (ok__law_sign T) (hr.mono (by decide)) (by rfl) T.g__law_sign T.f__law_sign.kp (b__law_sign T) .nil pass0 (pa_cons (pe_op op_sub (pe_op op_mulX (pe_un un_neg (pe_ix ix_list (pv 0) pe_int (fun _ _ => rfl))) (pe_ix ix_tup (pv 1) pe_int (fun _ _ => rfl))) (pe_op op_mulX (pe_ix ix_list (pv 0) pe_int (fun _ _ => rfl)) (pe_ix ix_tup (pv 1) pe_int (fun _ _ => rfl)))) pa_nil)) pa_nil)))) pss_nil) (pss_cons (ps_if (pt_cmpR op_eq (pe_callB call_len_seq (by rfl) T.z_len (by decide +kernel) (pa_cons (pv 0) pa_nil)) pe_int (nomark _)) (pss_one (ps_ret (pe_lst (pa_cons (pe_call (ok__law_sign T) (hr.mono (by decide)) (by rfl) T.g__law_sign T.f__law_sign.kp (b__law_sign T) .nil pass0 (pa_cons (pe_op op_sub (pe_op op_mulX (pe_op op_mulX (pe_op op_mulX (pe_un un_neg (pe_ix ix_list (pv 0) pe_int (fun _ _ => rfl))) (pe_ix ix_tup (pv 1) pe_int (fun _ _ => rfl))) (pe_ix ix_tup (pv 1) pe_int (fun _ _ => rfl))) (pe_ix ix_tup (pv 1) pe_int (fun _ _ => rfl))) (pe_op op_mulX (pe_op op_mulX (pe_ix ix_tup (pv 1) pe_int (fun _ _ => rfl)) (pe_ix ix_tup (pv 1) pe_int (fun _ _ => rfl))) (pe_ix ix_tup (pv 1) pe_int (fun _ _ => rfl)))) pa_nil)) pa_nil)))) pss_nil) (pss_cons (ps_if (PW.pt (pw_or (pt_cmpR op_ne (pe_ix ix_list (pv 0) pe_int (fun _ _ => rfl)) pe_int (nomark _)) (pw_or1 (pt_cmpR op_gt (pe_ix ix_list (pv 0) pe_int (fun _ _ => rfl)) pe_int (nomark _))))) (pss_one (ps_ret (pe_lst pa_nil))) pss_nil) (pss_cons (ps_set (i := 2) sc__law_root_signs.nd rfl (.inl rfl) (pe_call (ok__law_sign T) (hr.mono (by decide)) (by rfl) T.g__law_sign T.f__law_sign.kp (b__law_sign T) .nil pass0 (pa_cons (pe_op op_sub (pe_op op_mulX (pe_op op_mulX (pe_un un_neg (pe_ix ix_list (pv 0) pe_int (fun _ _ => rfl))) (pe_ix ix_tup (pv 1) pe_int (fun _ _ => rfl))) (pe_ix ix_tup (pv 1) pe_int (fun _ _ => rfl))) (pe_op op_mulX (pe_op op_mulX (pe_ix ix_list (pv 0) pe_int (fun _ _ => rfl)) (pe_ix ix_tup (pv 1) pe_int (fun _ _ => rfl))) (pe_ix ix_tup (pv 1) pe_int (fun _ _ => rfl)))) pa_nil))) (pss_cons (ps_if (pt_cmpR op_gt (pe_ix ix_tup (pv 1) pe_int (fun _ _ => rfl)) pe_int (nomark _)) (pss_one (ps_ret (pe_lst (pa_cons (pe_un un_neg pe_int) (pa_cons (pv 2) pa_nil))))) pss_nil) (pss_cons (ps_if (pt_cmpR op_lt (pe_ix ix_tup (pv 1) pe_int (fun _ _ => rfl)) pe_int (nomark _)) (pss_one (ps_ret (pe_lst (pa_cons (pe_un un_neg (pv 2)) (pa_cons pe_int pa_nil))))) pss_nil) (pss_one (ps_ret (pe_lst (pa_cons (pe_un un_neg pe_int) (pa_cons pe_int pa_nil))))))))))), ?_⟩
    rw [show start ["_law_factor", "_law_x_here", "_law_square"] [V.ref a, V.ref b] = [some (V.ref a), some (V.ref b), none] from rfl]
    simp (maxSteps := 2000000) only [NewO, tLc, wipe, List.map_cons, List.map_nil, tSeq, tIfS, tTest, tOp, tVar, tC, rI0, tPar, tUn, rU, tCons, tNil, tAsg, gName, tCB, tRet, tTup, tLst, rI, rGcd, tNext, tCall, tCallN, tIf, tSl, tPart, tNoPart, rSlL, tDrop, tBM, tBM0, rAppend, rPop, tAndV, tOrV, tNotV, tAnd, tOr, tNot, tB, rEq, rNe, scal_int, gTup, gCons, gNil, gUnl, gSub, rSetL, tRevL, tAug, ipI, rIxL, rIxT, rCat, rRep, TruV, iList, iRng1, iRng2, iRng3, iEnum, tFor, tYes, List.append_nil, List.cons_append, List.nil_append, List.getElem?_cons_zero, List.getElem?_cons_succ, List.set_cons_zero, List.set_cons_succ, Option.some.injEq, exists_eq_left', exists_eq_left, exists_and_left, V.int.injEq, V.bl.injEq, V.ref.injEq, List.cons.injEq, and_true, true_and, and_assoc, decide_eq_true_eq, Bool.not_eq_true', if_true, if_false, Bool.false_eq_true, ite_true, ite_false, Bool.true_eq_false, reduceCtorEq, false_and, and_false, exists_false, false_or, or_false, gUnl, tCallN, rMax, tBreak, cxK]
    have bn : x.num.natAbs < 2 ^ 2501 := Nat.lt_of_le_of_lt hx.1 (Nat.pow_lt_pow_right (by decide) (by decide))
    have bd : ((x.den : Nat) : Int).natAbs < 2 ^ 2501 := Nat.lt_of_le_of_lt hx.2 (Nat.pow_lt_pow_right (by decide) (by decide))
    have l1f := l1_menu hf
    have cf := l1_coef f
    have bc : ∀ i, (cI f i).natAbs < 2 ^ 8 := fun i => by
      have := cf i
      have : (2 : Nat) ^ 8 = 256 := by decide
      omega
    cases shape_menu hf with
    | lin u v h0 h1 h2 =>
      have b0 : u.natAbs < 2 ^ 8 := bc 0
      have b1 : v.natAbs < 2 ^ 8 := bc 1
      refine ⟨_, .inl ha, ite2 (fun _ => ⟨_, ha, _, rfl, _, rfl, _, hb, _, rfl, _, rfl, mul_bits (nb b0) bd (by decide), _, ha, _, rfl, _, hb, _, rfl, _, rfl, _, rfl, mul_bits b1 bn (by decide), by show 1 ≤ sizeLine; decide, fun p hp => hq.to' (Same.refl _) hp ?_⟩) (fun c => absurd rfl c)⟩
      unfold iL
      rw [rs_two _ (.inl rfl), root_lin]; rfl
    | cub =>
      refine ⟨_, .inl ha, ite2 (fun c => absurd c (by decide)) (fun _ => ⟨_, .inl ha, ite2 (fun _ => ?_) (fun c => absurd rfl c)⟩)⟩
      have b0 : (- -2 : Int).natAbs < 2 ^ 2 := by decide
      refine ⟨_, ha, _, rfl, _, rfl, _, hb, _, rfl, _, rfl, mul_bits b0 bd (by decide), _, hb, _, rfl, _, rfl, mul_bits (mb b0 bd) bd (by decide), _, hb, _, rfl, _, rfl, mul_bits (mb (mb b0 bd) bd) bd (by decide), ?_⟩
      refine ⟨_, hb, _, rfl, _, hb, _, rfl, _, rfl, _, rfl, mul_bits bn bn (by decide), _, hb, _, rfl, _, rfl, mul_bits (mb bn bn) bn (by decide), by show 1 ≤ sizeLine; decide, fun p hp => hq.to' (Same.refl _) hp ?_⟩
      unfold iL
      rw [rs_two _ (.inr rfl), root_cub]; rfl
    | sq u v h0 h1 h2 =>
      have b0 : (-v).natAbs < 2 ^ 8 := bc 0
      have b2 : u.natAbs < 2 ^ 8 := bc 2
      refine ⟨_, .inl ha, ite2 (fun c => absurd (show (3 : Int) = 2 from c) (by decide)) (fun _ => ⟨_, .inl ha, ite2 (fun c => absurd (show (3 : Int) = 4 from c) (by decide)) (fun _ => ?_)⟩)⟩
      have e := root_sq u v x
      have es := rs_sq h0 (show 0 < v by omega) x
      obtain ⟨np1, np2⟩ := num_pos x
      refine ⟨_, ha, _, rfl, rfl, ite2 (fun c => absurd c (by decide)) (fun _ => ⟨_, ha, _, rfl, _, rfl, ite2 (fun c => absurd c (by omega)) (fun _ => ?_)⟩)⟩
      refine ⟨_, ha, _, rfl, _, rfl, _, hb, _, rfl, _, rfl, mul_bits (nb b0) bd (by decide), _, hb, _, rfl, _, rfl, mul_bits (mb (nb b0) bd) bd (by decide), _, ha, _, rfl, _, hb, _, rfl, _, rfl, _, rfl, mul_bits b2 bn (by decide), _, hb, _, rfl, _, rfl, mul_bits (mb b2 bn) bn (by decide), _, hb, _, rfl, _, rfl, ite2 (fun c => ?_) (fun c => ?_)⟩
      · refine ⟨by show 2 ≤ sizeLine; decide, fun p hp => hq.to' (Same.refl _) hp ?_⟩
        unfold iL
        rw [es, if_pos (np1.mpr c), e]; rfl
      · refine ⟨_, hb, _, rfl, _, rfl, ite2 (fun c2 => ⟨by show 2 ≤ sizeLine; decide, fun p hp => hq.to' (Same.refl _) hp ?_⟩) (fun c2 => ⟨by show 2 ≤ sizeLine; decide, fun p hp => hq.to' (Same.refl _) hp ?_⟩)⟩
        · unfold iL
          rw [es, if_neg (fun z => c (np1.mp z)), if_pos (np2.mpr c2), e]; rfl
        · unfold iL
          rw [es, if_neg (fun z => c (np1.mp z)), if_neg (fun z => c2 (np2.mp z))]; rfl
    | po1 =>
      refine ⟨_, .inl ha, ite2 (fun c => absurd c (by decide)) (fun _ => ⟨_, .inl ha, ite2 (fun c => absurd c (by decide)) (fun _ => ?_)⟩)⟩
      refine ⟨_, ha, _, rfl, rfl, ite2 (fun c => absurd c (by decide)) (fun _ => ⟨_, ha, _, rfl, _, rfl, ite2 (fun _ => ⟨Nat.zero_le _, fun p hp => hq.to' (Same.refl _) hp (by rw [rs_po1]; rfl)⟩) (fun c => absurd (by decide) c)⟩)⟩
    | po2 =>
      refine ⟨_, .inl ha, ite2 (fun c => absurd c (by decide)) (fun _ => ⟨_, .inl ha, ite2 (fun c => absurd c (by decide)) (fun _ => ?_)⟩)⟩
      refine ⟨_, ha, _, rfl, rfl, ite2 (fun _ => ⟨Nat.zero_le _, fun p hp => hq.to' (Same.refl _) hp (by rw [rs_po2]; rfl)⟩) (fun c => absurd (by decide) c)⟩
def spBelow (K : PySem.W.Frag) : Sp := fun vs H Q _ => ∃ (c b : Addr) (F : List (List Int)) (x : Rat), vs = [.ref c, .ref b] ∧ IsC K H c F ∧ (∀ f ∈ F, f ∈ menu) ∧ F.length ≤ 100 ∧ IsN K H b x ∧ XL x ∧ NewO H Q (.tup [.int (BF F x), .bl (decide (prodE F x = 0))])
theorem ok__law_below (T : Tx P K mg base A D) : FnOk P w K mg base CX0 42 (A 59) (D 59) ["_law_factors_here", "_law_x_here"] (spBelow K) := by
  refine T.f__law_below.ok sc__law_below (fun vs H Q E h => ?_) (fun cdv Ar outer s H vs Q E hr h => ?_)
  · obtain ⟨c, b, F, x, rfl, _⟩ := h
    rfl
  · obtain ⟨c, b, F, x, rfl, hc, hm, hl, hb, hx, hq⟩ := h
    refine ⟨_, PSs.nox (pss_cons (ps_set (i := 2) sc__law_below.nd rfl (.inl rfl) (pe_lst pa_nil)) (pss_cons (ps_for PassesOwn.never rfl (pi_list (pv 0)) (pg_name (i := 3) sc__law_below.nd rfl (.inl rfl)) (pss_one (ps_set (i := 2) sc__law_below.nd rfl (.inl rfl) (pe_op op_cat (pv 2) (pe_call (ok__law_root_signs T) (hr.mono (by decide)) (by rfl) T.g__law_root_signs T.f__law_root_signs.kp (b__law_root_signs T) .nil pass0 (pa_cons (pv 3) (pa_cons (pv 1) pa_nil))))))) (pss_one (ps_ret (pe_tup (pa_cons (pe_callB call_len_seq (by rfl) T.z_len (by decide +kernel) (pa_cons (pe_lc (own := [("_law_sign_here", 4)]) (g := gName 4) rfl sc__law_below.nd (pi_list (pv 2)) (blkOk_by (own := [("_law_sign_here", 4)]) (N := ["_law_factors_here", "_law_x_here", "_law_signs", "_law_factor", "_law_sign_here"]) (sc := defScope (stm 70)) (by decide +kernel)) (fun _ _ _ _ _ => (pg_name (i := 4) sc__law_below.nd rfl (.inl rfl))) (fun _ _ _ _ _ => (pts_one (pt_cmpR op_lt (pv 4) pe_int (nomark _)))) (fun _ _ _ _ _ => (pv 4))) pa_nil)) (pa_cons (pe_cmpR op_in_seq pe_int (pv 2) (nomarkIn _)) pa_nil))))))), ?_⟩
    rw [show start ["_law_factors_here", "_law_x_here", "_law_signs", "_law_factor", "_law_sign_here"] [V.ref c, V.ref b] = [some (V.ref c), some (V.ref b), none, none, none] from rfl]
    simp (maxSteps := 2000000) only [NewO, tLc, wipe, List.map_cons, List.map_nil, tSeq, tIfS, tTest, tOp, tVar, tC, rI0, tPar, tUn, rU, tCons, tNil, tAsg, gName, tCB, tRet, tTup, tLst, rI, rGcd, tNext, tCall, tCallN, tIf, tSl, tPart, tNoPart, rSlL, tDrop, tBM, tBM0, rAppend, rPop, tAndV, tOrV, tNotV, tAnd, tOr, tNot, tB, rEq, rNe, scal_int, gTup, gCons, gNil, gUnl, gSub, rSetL, tRevL, tAug, ipI, rIxL, rIxT, rCat, rRep, TruV, iList, iRng1, iRng2, iRng3, iEnum, tFor, tYes, List.append_nil, List.cons_append, List.nil_append, List.getElem?_cons_zero, List.getElem?_cons_succ, List.set_cons_zero, List.set_cons_succ, Option.some.injEq, exists_eq_left', exists_eq_left, exists_and_left, V.int.injEq, V.bl.injEq, V.ref.injEq, List.cons.injEq, and_true, true_and, and_assoc, decide_eq_true_eq, Bool.not_eq_true', if_true, if_false, Bool.false_eq_true, ite_true, ite_false, Bool.true_eq_false, reduceCtorEq, false_and, and_false, exists_false, false_or, or_false, gUnl, tCallN, rMax, tBreak, cxK, spRS, rIn]
    obtain ⟨C, vs, hv, hL⟩ := id hc
    have ls := hL.len
    refine ⟨Nat.zero_le _, fun S0 nS => ⟨⟨_, (same_new nS).seq hv⟩, frl (xs := vs) (fun i σ H' => ∃ (S : Addr) (y3 y4 : Option V), σ = [some (.ref c), some (.ref b), some (.ref S), y3, y4] ∧ Same H H' ∧ H' S = some (iL (sgn (F.take i) x))) ⟨S0, none, none, rfl, same_new nS, upd_same⟩ (fun i σ H' hi q => ?_) (fun i y σ H' hy q => ?_) (fun σ H' q => ?_)⟩⟩
    · obtain ⟨S, y3, y4, rfl, s, hS⟩ := q
      exact s.seq hv
    · obtain ⟨S, y3, y4, rfl, s, hS⟩ := q
      have hi : i < F.length := by rw [← ls]; exact (List.getElem?_eq_some_iff.mp hy).1
      obtain ⟨u, e1, _, e2⟩ := hL.at_ i F[i] (List.getElem?_eq_getElem hi)
      rw [hy] at e1
      cases e1
      have mF := hm _ (List.getElem_mem hi)
      have mT : ∀ f ∈ F.take i, f ∈ menu := fun f hf => hm f (List.mem_of_mem_take hf)
      simp (maxSteps := 2000000) only [NewO, tLc, wipe, List.map_cons, List.map_nil, tSeq, tIfS, tTest, tOp, tVar, tC, rI0, tPar, tUn, rU, tCons, tNil, tAsg, gName, tCB, tRet, tTup, tLst, rI, rGcd, tNext, tCall, tCallN, tIf, tSl, tPart, tNoPart, rSlL, tDrop, tBM, tBM0, rAppend, rPop, tAndV, tOrV, tNotV, tAnd, tOr, tNot, tB, rEq, rNe, scal_int, gTup, gCons, gNil, gUnl, gSub, rSetL, tRevL, tAug, ipI, rIxL, rIxT, rCat, rRep, TruV, iList, iRng1, iRng2, iRng3, iEnum, tFor, tYes, List.append_nil, List.cons_append, List.nil_append, List.getElem?_cons_zero, List.getElem?_cons_succ, List.set_cons_zero, List.set_cons_succ, Option.some.injEq, exists_eq_left', exists_eq_left, exists_and_left, V.int.injEq, V.bl.injEq, V.ref.injEq, List.cons.injEq, and_true, true_and, and_assoc, decide_eq_true_eq, Bool.not_eq_true', if_true, if_false, Bool.false_eq_true, ite_true, ite_false, Bool.true_eq_false, reduceCtorEq, false_and, and_false, exists_false, false_or, or_false, gUnl, tCallN, rMax, tBreak]
      refine ⟨F[i], e2.at s, mF, x, hb.at s, hx, fun H2 p s2 n2 e2 => ⟨_, s2 _ _ hS, _, e2, ?_, fun q nq => ⟨s.trans (s2.trans (same_new nq)), ?_⟩⟩⟩
      · rw [List.length_map, List.length_map]
        have a := sgn_len mT x
        have b := rs_small _ mF x
        rw [List.length_take] at a
        exact le_size (by omega)
      · rw [upd_same]
        unfold iL
        rw [← List.map_append, List.take_succ, List.getElem?_eq_getElem hi]
        unfold sgn
        rw [List.flatMap_append]
        simp
    · obtain ⟨S, y3, y4, rfl, s, hS⟩ := q
      rw [ls, List.take_length] at hS
      have gl := sgn_len hm x
      simp (maxSteps := 2000000) only [NewO, tLc, wipe, List.map_cons, List.map_nil, tSeq, tIfS, tTest, tOp, tVar, tC, rI0, tPar, tUn, rU, tCons, tNil, tAsg, gName, tCB, tRet, tTup, tLst, rI, rGcd, tNext, tCall, tCallN, tIf, tSl, tPart, tNoPart, rSlL, tDrop, tBM, tBM0, rAppend, rPop, tAndV, tOrV, tNotV, tAnd, tOr, tNot, tB, rEq, rNe, scal_int, gTup, gCons, gNil, gUnl, gSub, rSetL, tRevL, tAug, ipI, rIxL, rIxT, rCat, rRep, TruV, iList, iRng1, iRng2, iRng3, iEnum, tFor, tYes, List.append_nil, List.cons_append, List.nil_append, List.getElem?_cons_zero, List.getElem?_cons_succ, List.set_cons_zero, List.set_cons_succ, Option.some.injEq, exists_eq_left', exists_eq_left, exists_and_left, V.int.injEq, V.bl.injEq, V.ref.injEq, List.cons.injEq, and_true, true_and, and_assoc, decide_eq_true_eq, Bool.not_eq_true', if_true, if_false, Bool.false_eq_true, ite_true, ite_false, Bool.true_eq_false, reduceCtorEq, false_and, and_false, exists_false, false_or, or_false, gUnl, tCallN, rMax, tBreak]
      have hSs : SqL K H' S ((sgn F x).map V.int) := SqL.of hS
      refine ⟨⟨_, hSs⟩, fun D hD => lcl (xs := (sgn F x).map V.int) (fun i H2 => PvF H' D (fun i => decide (cI (sgn F x) i < 0)) (fun i => V.int (cI (sgn F x) i)) i H2) (PvF.start hD) (fun i H2 hi p => SqL.of (p.same _ _ hS)) (fun i y H2 hy p => ?_) (fun H2 p => ?_)⟩
      · obtain ⟨hi, rfl⟩ := get_int hy
        simp (maxSteps := 2000000) only [NewO, tLc, wipe, List.map_cons, List.map_nil, tSeq, tIfS, tTest, tOp, tVar, tC, rI0, tPar, tUn, rU, tCons, tNil, tAsg, gName, tCB, tRet, tTup, tLst, rI, rGcd, tNext, tCall, tCallN, tIf, tSl, tPart, tNoPart, rSlL, tDrop, tBM, tBM0, rAppend, rPop, tAndV, tOrV, tNotV, tAnd, tOr, tNot, tB, rEq, rNe, scal_int, gTup, gCons, gNil, gUnl, gSub, rSetL, tRevL, tAug, ipI, rIxL, rIxT, rCat, rRep, TruV, iList, iRng1, iRng2, iRng3, iEnum, tFor, tYes, List.append_nil, List.cons_append, List.nil_append, List.getElem?_cons_zero, List.getElem?_cons_succ, List.set_cons_zero, List.set_cons_succ, Option.some.injEq, exists_eq_left', exists_eq_left, exists_and_left, V.int.injEq, V.bl.injEq, V.ref.injEq, List.cons.injEq, and_true, true_and, and_assoc, decide_eq_true_eq, Bool.not_eq_true', if_true, if_false, Bool.false_eq_true, ite_true, ite_false, Bool.true_eq_false, reduceCtorEq, false_and, and_false, exists_false, false_or, or_false, gUnl, tCallN, rMax, tBreak]
        refine ite2 (fun c => ?_) (fun c => ?_)
        · exact p.next hD (Same.refl _) (decide_eq_true c) rfl (lt_size (by omega))
        · exact p.skip (Same.refl _) (decide_eq_false c)
      · rw [List.length_map] at p
        have hd := p.d
        have ek : ((List.range (sgn F x).length).filter fun i => decide (cI (sgn F x) i < 0)).map (fun i => V.int (cI (sgn F x) i)) = ((sgn F x).filter fun s => decide (s < 0)).map V.int := by
          have : ((List.range (sgn F x).length).map (fun i => cI (sgn F x) i)) = sgn F x := by
            have := map_idx (sgn F x) id
            simpa using this
          conv => rhs; rw [← this]
          rw [List.filter_map, List.map_map]; rfl
        rw [ek] at hd
        have es : inV (.int 0) ((sgn F x).map V.int) = decide (prodE F x = 0) := by
          rw [decide_eq_decide.mpr (sgn_zero hm x).symm]
          unfold inV
          rw [List.any_map]
          rw [Bool.eq_iff_iff, List.any_eq_true, decide_eq_true_eq]
          constructor
          · rintro ⟨y, hy, e⟩
            have : y = 0 := by simpa [eqV] using e
            rw [← this]; exact hy
          · intro h
            exact ⟨0, h, rfl⟩
        refine ⟨_, .inl (SqL.of hd), _, .inl (SqL.of (p.same _ _ hS)), rfl, ?_, le2, fun p2 n2 => ?_⟩
        · rw [List.all_map]; exact List.all_eq_true.mpr fun _ _ => rfl
        · rw [es, List.length_map, sgn_bf hm]
          exact hq.to (s.trans p.same) n2
theorem ok__law_count (T : Tx P K mg base A D) : FnOk P w K mg base CX0 43 (A 60) (D 60) ["_law_factors_here"] (fun vs H Q _ => ∃ (c : Addr) (F : List (List Int)), vs = [.ref c] ∧ IsC K H c F ∧ (∀ f ∈ F, f ∈ menu) ∧ F.length ≤ 100 ∧ ∀ H', Same H H' → Q (.int (TF F)) H') := by
  refine T.f__law_count.ok sc__law_count (fun vs H Q E h => ?_) (fun cdv Ar outer s H vs Q E hr h => ?_)
  · obtain ⟨c, F, rfl, _⟩ := h
    rfl
  · obtain ⟨c, F, rfl, hc, hm, hl, hq⟩ := h
    refine ⟨_, PSs.nox (pss_one (ps_ret (pe_ix ix_tup (pe_call (ok__law_below T) (hr.mono (by decide)) (by rfl) T.g__law_below T.f__law_below.kp (b__law_below T) .nil pass0 (pa_cons (pv 0) (pa_cons (pe_tup (pa_cons pe_int (pa_cons pe_int pa_nil))) pa_nil))) pe_int (fun _ _ => rfl)))), ?_⟩
    rw [show start ["_law_factors_here"] [V.ref c] = [some (V.ref c)] from rfl]
    simp (maxSteps := 2000000) only [NewO, tLc, wipe, List.map_cons, List.map_nil, tSeq, tIfS, tTest, tOp, tVar, tC, rI0, tPar, tUn, rU, tCons, tNil, tAsg, gName, tCB, tRet, tTup, tLst, rI, rGcd, tNext, tCall, tCallN, tIf, tSl, tPart, tNoPart, rSlL, tDrop, tBM, tBM0, rAppend, rPop, tAndV, tOrV, tNotV, tAnd, tOr, tNot, tB, rEq, rNe, scal_int, gTup, gCons, gNil, gUnl, gSub, rSetL, tRevL, tAug, ipI, rIxL, rIxT, rCat, rRep, TruV, iList, iRng1, iRng2, iRng3, iEnum, tFor, tYes, List.append_nil, List.cons_append, List.nil_append, List.getElem?_cons_zero, List.getElem?_cons_succ, List.set_cons_zero, List.set_cons_succ, Option.some.injEq, exists_eq_left', exists_eq_left, exists_and_left, V.int.injEq, V.bl.injEq, V.ref.injEq, List.cons.injEq, and_true, true_and, and_assoc, decide_eq_true_eq, Bool.not_eq_true', if_true, if_false, Bool.false_eq_true, ite_true, ite_false, Bool.true_eq_false, reduceCtorEq, false_and, and_false, exists_false, false_or, or_false, gUnl, tCallN, rMax, tBreak, cxK, spBelow]
    refine ⟨le2, fun u nu => ⟨F, hc.at (same_new nu), hm, hl, 1000, IsN.new (r := 1000) upd_same, (R2b.int (c := 1000) (k := 10) (by decide)).mono (by decide) (by decide), fun H1 p s1 n1 e1 => ⟨_, SqT.of e1, _, rfl, ?_⟩⟩⟩
    rw [bf_1000 hm]
    exact hq H1 ((same_new nu).trans s1)
theorem ok__law_product (T : Tx P K mg base A D) : FnOk P w K mg base CX0 42 (A 62) (D 62) ["_law_factors_here"] (fun vs H Q _ => ∃ (c : Addr) (F : List (List Int)), vs = [.ref c] ∧ IsC K H c F ∧ (∀ f ∈ F, f ∈ menu) ∧ F.length ≤ 6 ∧ ∀ H' p s, Same H H' → H p = none → H' p = some (iL s) → Prd s F → Q (.ref p) H') := by
  refine T.f__law_product.ok sc__law_product (fun vs H Q E h => ?_) (fun cdv Ar outer s H vs Q E hr h => ?_)
  · obtain ⟨c, F, rfl, _⟩ := h
    rfl
  · obtain ⟨c, F, rfl, hc, hm, hl, hq⟩ := h
    refine ⟨_, PSs.nox (pss_cons (ps_set (i := 1) sc__law_product.nd rfl (.inl rfl) (pe_lst (pa_cons pe_int pa_nil))) (pss_cons (ps_for PassesOwn.never rfl (pi_list (pv 0)) (pg_name (i := 2) sc__law_product.nd rfl (.inl rfl)) (pss_one (ps_set (i := 1) sc__law_product.nd rfl (.inl rfl) (pe_call (ok__law_mul T) (hr.mono (by decide)) (by rfl) T.g__law_mul T.f__law_mul.kp (b__law_mul T) .nil pass0 (pa_cons (pv 1) (pa_cons (pv 2) pa_nil)))))) (pss_one (ps_ret (pv 1))))), ?_⟩
    rw [show start ["_law_factors_here", "_law_found", "_law_factor"] [V.ref c] = [some (V.ref c), none, none] from rfl]
    simp (maxSteps := 2000000) only [NewO, tLc, wipe, List.map_cons, List.map_nil, tSeq, tIfS, tTest, tOp, tVar, tC, rI0, tPar, tUn, rU, tCons, tNil, tAsg, gName, tCB, tRet, tTup, tLst, rI, rGcd, tNext, tCall, tCallN, tIf, tSl, tPart, tNoPart, rSlL, tDrop, tBM, tBM0, rAppend, rPop, tAndV, tOrV, tNotV, tAnd, tOr, tNot, tB, rEq, rNe, scal_int, gTup, gCons, gNil, gUnl, gSub, rSetL, tRevL, tAug, ipI, rIxL, rIxT, rCat, rRep, TruV, iList, iRng1, iRng2, iRng3, iEnum, tFor, tYes, List.append_nil, List.cons_append, List.nil_append, List.getElem?_cons_zero, List.getElem?_cons_succ, List.set_cons_zero, List.set_cons_succ, Option.some.injEq, exists_eq_left', exists_eq_left, exists_and_left, V.int.injEq, V.bl.injEq, V.ref.injEq, List.cons.injEq, and_true, true_and, and_assoc, decide_eq_true_eq, Bool.not_eq_true', if_true, if_false, Bool.false_eq_true, ite_true, ite_false, Bool.true_eq_false, reduceCtorEq, false_and, and_false, exists_false, false_or, or_false, gUnl, tCallN, rMax, tBreak, cxK]
    obtain ⟨C, vs, hv, hL⟩ := id hc
    have ls := hL.len
    refine ⟨by show 1 ≤ sizeLine; decide, fun S0 nS => ⟨⟨_, (same_new nS).seq hv⟩, frl (xs := vs) (fun i σ H' => ∃ (S : Addr) (s : List Int) (y : Option V), σ = [some (.ref c), some (.ref S), y] ∧ Same H H' ∧ H S = none ∧ H' S = some (iL s) ∧ Prd s (F.take i)) ⟨S0, [1], none, rfl, same_new nS, nS, upd_same, Prd.start⟩ (fun i σ H' hi q => ?_) (fun i y σ H' hy q => ?_) (fun σ H' q => ?_)⟩⟩
    · obtain ⟨S, s, y, rfl, sm, nS, hS, hP⟩ := q
      exact sm.seq hv
    · obtain ⟨S, s, y, rfl, sm, nS, hS, hP⟩ := q
      have hi : i < F.length := by rw [← ls]; exact (List.getElem?_eq_some_iff.mp hy).1
      obtain ⟨u, e1, _, e2⟩ := hL.at_ i F[i] (List.getElem?_eq_getElem hi)
      rw [hy] at e1
      cases e1
      have mF := hm _ (List.getElem_mem hi)
      simp (maxSteps := 2000000) only [NewO, tLc, wipe, List.map_cons, List.map_nil, tSeq, tIfS, tTest, tOp, tVar, tC, rI0, tPar, tUn, rU, tCons, tNil, tAsg, gName, tCB, tRet, tTup, tLst, rI, rGcd, tNext, tCall, tCallN, tIf, tSl, tPart, tNoPart, rSlL, tDrop, tBM, tBM0, rAppend, rPop, tAndV, tOrV, tNotV, tAnd, tOr, tNot, tB, rEq, rNe, scal_int, gTup, gCons, gNil, gUnl, gSub, rSetL, tRevL, tAug, ipI, rIxL, rIxT, rCat, rRep, TruV, iList, iRng1, iRng2, iRng3, iEnum, tFor, tYes, List.append_nil, List.cons_append, List.nil_append, List.getElem?_cons_zero, List.getElem?_cons_succ, List.set_cons_zero, List.set_cons_succ, Option.some.injEq, exists_eq_left', exists_eq_left, exists_and_left, V.int.injEq, V.bl.injEq, V.ref.injEq, List.cons.injEq, and_true, true_and, and_assoc, decide_eq_true_eq, Bool.not_eq_true', if_true, if_false, Bool.false_eq_true, ite_true, ite_false, Bool.true_eq_false, reduceCtorEq, false_and, and_false, exists_false, false_or, or_false, gUnl, tCallN, rMax, tBreak]
      have tl : (F.take i).length = i := by rw [List.length_take]; omega
      have sl : s.length ≤ 100 := by
        rw [hP.len]
        have : ∀ {G : List (List Int)}, (∀ f ∈ G, f ∈ menu) → dg G ≤ 3 * G.length := fun {G} => by
          induction G with
          | nil => intro _; exact Nat.le_refl _
          | cons g G ih =>
            intro h
            have := ih fun f hf => h f (List.mem_cons_of_mem _ hf)
            have l := of_decide_eq_true (List.all_eq_true.mp menu_len g (h g List.mem_cons_self))
            have e : dg (g :: G) = (g.length - 1) + dg G := by simp [dg]
            rw [e, List.length_cons]; omega
        have := this (G := F.take i) fun f hf => hm f (List.mem_of_mem_take hf)
        omega
      have ml := of_decide_eq_true (List.all_eq_true.mp menu_len _ mF)
      have pS : PB s 48 := fun k => Nat.lt_of_le_of_lt (Nat.le_trans (l1_coef s k) hP.sz) (by
        rw [tl]
        exact Nat.lt_of_le_of_lt (Nat.pow_le_pow_right (by decide) (show i ≤ 6 by omega)) (by decide))
      have pF : PB F[i] 8 := fun k => Nat.lt_of_le_of_lt (Nat.le_trans (l1_coef _ k) (l1_menu mF)) (by decide)
      refine ⟨s, .new hS, F[i], e2.at sm, sl, by omega, ⟨48, pS, 8, pF, by decide⟩, fun H2 p f s2 n2 e2 M => ⟨sm.trans s2, sm.free n2, trimI f, e2, ?_⟩⟩
      have := hP.snoc mF M
      rw [List.take_succ, List.getElem?_eq_getElem hi]
      exact this
    · obtain ⟨S, s, y, rfl, sm, nS, hS, hP⟩ := q
      simp (maxSteps := 2000000) only [NewO, tLc, wipe, List.map_cons, List.map_nil, tSeq, tIfS, tTest, tOp, tVar, tC, rI0, tPar, tUn, rU, tCons, tNil, tAsg, gName, tCB, tRet, tTup, tLst, rI, rGcd, tNext, tCall, tCallN, tIf, tSl, tPart, tNoPart, rSlL, tDrop, tBM, tBM0, rAppend, rPop, tAndV, tOrV, tNotV, tAnd, tOr, tNot, tB, rEq, rNe, scal_int, gTup, gCons, gNil, gUnl, gSub, rSetL, tRevL, tAug, ipI, rIxL, rIxT, rCat, rRep, TruV, iList, iRng1, iRng2, iRng3, iEnum, tFor, tYes, List.append_nil, List.cons_append, List.nil_append, List.getElem?_cons_zero, List.getElem?_cons_succ, List.set_cons_zero, List.set_cons_succ, Option.some.injEq, exists_eq_left', exists_eq_left, exists_and_left, V.int.injEq, V.bl.injEq, V.ref.injEq, List.cons.injEq, and_true, true_and, and_assoc, decide_eq_true_eq, Bool.not_eq_true', if_true, if_false, Bool.false_eq_true, ite_true, ite_false, Bool.true_eq_false, reduceCtorEq, false_and, and_false, exists_false, false_or, or_false, gUnl, tCallN, rMax, tBreak]
      rw [ls, List.take_length] at hP
      exact hq H' S s sm nS hS hP
end
end W23
namespace W23
open PySem PySem.Spec PyProof.Rows L2 K23
/-- a list of live lists of ints, none at C -/
structure LV (H : Hp) (C : Addr) (vs : List V) (S : List (List Int)) : Prop where
  len : vs.length = S.length
  at_ : ∀ (j : Nat) (a : List Int), S[j]? = some a → ∃ p : Addr, vs[j]? = some (V.ref p) ∧ p ≠ C ∧ H p = some (iL a)
theorem LV.nil {H : Hp} {C : Addr} : LV H C [] [] := ⟨rfl, fun j a e => by simp at e⟩
theorem LV.at {H H' : Hp} {C : Addr} {vs : List V} {S : List (List Int)} (h : LV H C vs S) (s : Same H H') : LV H' C vs S :=
  ⟨h.len, fun j a e => let ⟨p, e1, e2, e3⟩ := h.at_ j a e; ⟨p, e1, e2, s _ _ e3⟩⟩
theorem LV.upd {H : Hp} {C : Addr} {vs : List V} {S : List (List Int)} {o : HO} (h : LV H C vs S) : LV (L2.upd H C o) C vs S :=
  ⟨h.len, fun j a e => let ⟨p, e1, e2, e3⟩ := h.at_ j a e; ⟨p, e1, e2, by rw [upd_ne e2]; exact e3⟩⟩
theorem LV.any {H : Hp} {C r : Addr} {vs : List V} {S : List (List Int)} (h : LV H C vs S) (n : H r = none) : LV H r vs S :=
  ⟨h.len, fun j a e => let ⟨p, e1, e2, e3⟩ := h.at_ j a e; ⟨p, e1, ne_of_none e3 n, e3⟩⟩
theorem LV.cl {K : PySem.W.Frag} {H : Hp} {C : Addr} {vs : List V} {S : List (List Int)} (h : LV H C vs S) : CL K H C vs S :=
  ⟨h.len, fun j a e => let ⟨p, e1, e2, e3⟩ := h.at_ j a e; ⟨p, e1, e2, .new e3⟩⟩
theorem LV.append {H : Hp} {C : Addr} {vs ws : List V} {S T : List (List Int)} (h : LV H C vs S) (k : LV H C ws T) : LV H C (vs ++ ws) (S ++ T) := by
  have l := h.len
  refine ⟨by rw [List.length_append, List.length_append, l, k.len], fun j a e => ?_⟩
  by_cases c : j < S.length
  · rw [List.getElem?_append_left c] at e
    obtain ⟨q, e1, e2⟩ := h.at_ j a e
    exact ⟨q, by rw [List.getElem?_append_left (by omega)]; exact e1, e2⟩
  · rw [List.getElem?_append_right (by omega)] at e
    obtain ⟨q, e1, e2⟩ := k.at_ _ a e
    exact ⟨q, by rw [List.getElem?_append_right (by omega), l]; exact e1, e2⟩
theorem LV.snoc {H : Hp} {C p : Addr} {vs : List V} {S : List (List Int)} {a : List Int} (h : LV H C vs S) (hne : p ≠ C) (hp : H p = some (iL a)) : LV H C (vs ++ [V.ref p]) (S ++ [a]) :=
  h.append ⟨rfl, fun j b e => by
    cases j with
    | zero => cases e; exact ⟨p, rfl, hne, hp⟩
    | succ j => simp at e⟩
section
variable {P : Program} {w : World} {K : PySem.W.Frag} {mg : Str → Option Value} {base : Heap} {A : Nat → Addr} {D : Nat → FuncData}
def spFacs : Sp := fun vs H Q _ => vs = [] ∧ ∀ H' p vs, Same H H' → H' p = some (.lst vs) → LV H' p vs menu → Q (.ref p) H'
theorem ok__law_factors (T : Tx P K mg base A D) : FnOk P w K mg base CX0 40 (A 57) (D 57) [] spFacs := by
  refine T.f__law_factors.ok sc__law_factors (fun vs H Q E h => ?_) (fun cdv Ar outer s H vs Q E hr h => ?_)
  · obtain ⟨rfl, _⟩ := h
    rfl
  · obtain ⟨rfl, hq⟩ := h
    refine ⟨_, PSs.nox (pss_cons (ps_set (i := 0) sc__law_factors.nd rfl (.inl rfl) (pe_op op_cat (pe_op op_cat (pe_lst (pa_cons (pe_lst (pa_cons (pe_un un_neg pe_int) (pa_cons pe_int pa_nil))) (pa_cons (pe_lst (pa_cons (pe_un un_neg pe_int) (pa_cons pe_int pa_nil))) pa_nil))) (pe_lc (own := [("_law_k", 1)]) (g := gName 1) rfl sc__law_factors.nd (pi_range2 rfl T.z_range (pa_cons (pe_un un_neg pe_int) (pa_cons pe_int pa_nil))) (blkOk_by (own := [("_law_k", 1)]) (N := ["_law_found", "_law_k"]) (sc := defScope (stm 68)) (by decide +kernel)) (fun _ _ _ _ _ => (pg_name (i := 1) sc__law_factors.nd rfl (.inl rfl))) (fun _ _ _ _ _ => pts_nil) (fun _ _ _ _ _ => (pe_lst (pa_cons (pv 1) (pa_cons pe_int pa_nil)))))) (pe_lst (pa_cons (pe_lst (pa_cons pe_int (pa_cons pe_int pa_nil))) (pa_cons (pe_lst (pa_cons (pe_un un_neg pe_int) (pa_cons pe_int pa_nil))) (pa_cons (pe_lst (pa_cons pe_int (pa_cons pe_int pa_nil))) (pa_cons (pe_lst (pa_cons (pe_un un_neg pe_int) (pa_cons pe_int pa_nil))) (pa_cons (pe_lst (pa_cons pe_int (pa_cons pe_int pa_nil))) (pa_cons (pe_lst (pa_cons (pe_un un_neg pe_int) (pa_cons pe_int pa_nil))) pa_nil))))))))) (pss_one (ps_ret (pe_op op_cat (pv 0) (pe_lst (pa_cons (pe_lst (pa_cons (pe_un un_neg pe_int) (pa_cons pe_int (pa_cons pe_int pa_nil)))) (pa_cons (pe_lst (pa_cons (pe_un un_neg pe_int) (pa_cons pe_int (pa_cons pe_int pa_nil)))) (pa_cons (pe_lst (pa_cons (pe_un un_neg pe_int) (pa_cons pe_int (pa_cons pe_int pa_nil)))) (pa_cons (pe_lst (pa_cons pe_int (pa_cons pe_int (pa_cons pe_int pa_nil)))) (pa_cons (pe_lst (pa_cons pe_int (pa_cons pe_int (pa_cons pe_int pa_nil)))) (pa_cons (pe_lst (pa_cons (pe_un un_neg pe_int) (pa_cons pe_int (pa_cons pe_int pa_nil)))) (pa_cons (pe_lst (pa_cons (pe_un un_neg pe_int) (pa_cons pe_int (pa_cons pe_int (pa_cons pe_int pa_nil))))) pa_nil)))))))))))), ?_⟩
    rw [show start ["_law_found", "_law_k"] [] = [none, none] from rfl]
    simp (maxSteps := 2000000) only [NewO, tLc, wipe, List.map_cons, List.map_nil, tSeq, tIfS, tTest, tOp, tVar, tC, rI0, tPar, tUn, rU, tCons, tNil, tAsg, gName, tCB, tRet, tTup, tLst, rI, rGcd, tNext, tCall, tCallN, tIf, tSl, tPart, tNoPart, rSlL, tDrop, tBM, tBM0, rAppend, rPop, tAndV, tOrV, tNotV, tAnd, tOr, tNot, tB, rEq, rNe, scal_int, gTup, gCons, gNil, gUnl, gSub, rSetL, tRevL, tAug, ipI, rIxL, rIxT, rCat, rRep, TruV, iList, iRng1, iRng2, iRng3, iEnum, tFor, tYes, List.append_nil, List.cons_append, List.nil_append, List.getElem?_cons_zero, List.getElem?_cons_succ, List.set_cons_zero, List.set_cons_succ, Option.some.injEq, exists_eq_left', exists_eq_left, exists_and_left, V.int.injEq, V.bl.injEq, V.ref.injEq, List.cons.injEq, and_true, true_and, and_assoc, decide_eq_true_eq, Bool.not_eq_true', if_true, if_false, Bool.false_eq_true, ite_true, ite_false, Bool.true_eq_false, reduceCtorEq, false_and, and_false, exists_false, false_or, or_false, gUnl, tCallN, rMax, tBreak, cxK]
    refine ⟨by show 2 ≤ sizeLine; decide, fun p0 n0 => ?_⟩
    generalize e0 : upd H p0 (HO.lst [V.int (-100), V.int 101]) = G1
    have s0 : Same H G1 := by rw [← e0]; exact same_new n0
    have a0 : G1 p0 = some (HO.lst [V.int (-100), V.int 101]) := by rw [← e0, upd_same]
    clear e0
    refine ⟨by show 2 ≤ sizeLine; decide, fun p1 n1 => ?_⟩
    generalize e1 : upd G1 p1 (HO.lst [V.int (-101), V.int 102]) = G2
    have s1 : Same G1 G2 := by rw [← e1]; exact same_new n1
    have a1 : G2 p1 = some (HO.lst [V.int (-101), V.int 102]) := by rw [← e1, upd_same]
    clear e1
    refine ⟨by show 2 ≤ sizeLine; decide, fun p2 n2 => ?_⟩
    generalize e2 : upd G2 p2 (HO.lst [V.ref p0, V.ref p1]) = G3
    have s2 : Same G2 G3 := by rw [← e2]; exact same_new n2
    have a2 : G3 p2 = some (HO.lst [V.ref p0, V.ref p1]) := by rw [← e2, upd_same]
    clear e2
    have v2 : LV G3 p2 [V.ref p0, V.ref p1] [[-100, 101], [-101, 102]] := (LV.nil.snoc (a := [-100, 101]) (ne_of_none (s1 _ _ a0) n2) (s2 _ _ (s1 _ _ a0))).snoc (a := [-101, 102]) (ne_of_none a1 n2) (s2 _ _ a1)
    have s02 : Same H G3 := s0.trans (s1.trans s2)
    refine ⟨by decide, by decide, by decide, by decide, fun D nD => lcr (fun i H' => Same G3 H' ∧ ∃ ds, H' D = some (.lst ds) ∧ LV H' D ds ((List.range i).map fun (k : Nat) => [((k : Int) - 4), 1])) ⟨same_new nD, [], upd_same, LV.nil⟩ (fun i H' hi q => ?_) (fun H' q => ?_)⟩
    · obtain ⟨s, ds, hD, v⟩ := q
      refine ⟨by show 2 ≤ sizeLine; decide, fun q nq => ⟨ds, (same_new nq) _ _ hD, ?_, same_updD nD (s.trans (same_new nq)), _, upd_same, ?_⟩⟩
      · have := v.len
        rw [List.length_map, List.length_range] at this
        rw [this]; exact lt_size (by omega)
      · rw [List.range_succ, List.map_append]
        refine LV.upd (LV.snoc (v.at (same_new nq)) (ne_of_none hD nq).symm ?_)
        rw [upd_same, show (-4 : Int) + (i : Int) = (i : Int) - 4 by omega]; rfl
    obtain ⟨s, ds, hD, vD⟩ := q
    have dl : ds.length = 9 := by rw [vD.len]; rfl
    have v2 := v2.at s
    have s04 : Same H H' := s02.trans s
    refine ⟨_, s _ _ a2, _, hD, by rw [dl]; show 11 ≤ sizeLine; decide, fun p3 n3 => ?_⟩
    generalize e3 : upd H' p3 (HO.lst ([V.ref p0, V.ref p1] ++ ds)) = G5
    have s3 : Same H' G5 := by rw [← e3]; exact same_new n3
    have a3 : G5 p3 = some (HO.lst ([V.ref p0, V.ref p1] ++ ds)) := by rw [← e3, upd_same]
    clear e3
    have v3 := ((v2.any n3).append (vD.any n3)).at s3
    refine ⟨by show 2 ≤ sizeLine; decide, fun p4 n4 => ?_⟩
    generalize e4 : upd G5 p4 (HO.lst [V.int 1, V.int 2]) = G6
    have s4 : Same G5 G6 := by rw [← e4]; exact same_new n4
    have a4 : G6 p4 = some (HO.lst [V.int 1, V.int 2]) := by rw [← e4, upd_same]
    clear e4
    refine ⟨by show 2 ≤ sizeLine; decide, fun p5 n5 => ?_⟩
    generalize e5 : upd G6 p5 (HO.lst [V.int (-1), V.int 2]) = G7
    have s5 : Same G6 G7 := by rw [← e5]; exact same_new n5
    have a5 : G7 p5 = some (HO.lst [V.int (-1), V.int 2]) := by rw [← e5, upd_same]
    clear e5
    refine ⟨by show 2 ≤ sizeLine; decide, fun p6 n6 => ?_⟩
    generalize e6 : upd G7 p6 (HO.lst [V.int 3, V.int 2]) = G8
    have s6 : Same G7 G8 := by rw [← e6]; exact same_new n6
    have a6 : G8 p6 = some (HO.lst [V.int 3, V.int 2]) := by rw [← e6, upd_same]
    clear e6
    refine ⟨by show 2 ≤ sizeLine; decide, fun p7 n7 => ?_⟩
    generalize e7 : upd G8 p7 (HO.lst [V.int (-3), V.int 2]) = G9
    have s7 : Same G8 G9 := by rw [← e7]; exact same_new n7
    have a7 : G9 p7 = some (HO.lst [V.int (-3), V.int 2]) := by rw [← e7, upd_same]
    clear e7
    refine ⟨by show 2 ≤ sizeLine; decide, fun p8 n8 => ?_⟩
    generalize e8 : upd G9 p8 (HO.lst [V.int 1, V.int 3]) = G10
    have s8 : Same G9 G10 := by rw [← e8]; exact same_new n8
    have a8 : G10 p8 = some (HO.lst [V.int 1, V.int 3]) := by rw [← e8, upd_same]
    clear e8
    refine ⟨by show 2 ≤ sizeLine; decide, fun p9 n9 => ?_⟩
    generalize e9 : upd G10 p9 (HO.lst [V.int (-2), V.int 3]) = G11
    have s9 : Same G10 G11 := by rw [← e9]; exact same_new n9
    have a9 : G11 p9 = some (HO.lst [V.int (-2), V.int 3]) := by rw [← e9, upd_same]
    clear e9
    refine ⟨by show 6 ≤ sizeLine; decide, fun p10 n10 => ?_⟩
    generalize e10 : upd G11 p10 (HO.lst [V.ref p4, V.ref p5, V.ref p6, V.ref p7, V.ref p8, V.ref p9]) = G12
    have s10 : Same G11 G12 := by rw [← e10]; exact same_new n10
    have a10 : G12 p10 = some (HO.lst [V.ref p4, V.ref p5, V.ref p6, V.ref p7, V.ref p8, V.ref p9]) := by rw [← e10, upd_same]
    clear e10
    have v10 : LV G12 p10 _ _ := ((((((LV.nil.snoc (a := [1, 2]) (ne_of_none (s9 _ _ (s8 _ _ (s7 _ _ (s6 _ _ (s5 _ _ a4))))) n10) (s10 _ _ (s9 _ _ (s8 _ _ (s7 _ _ (s6 _ _ (s5 _ _ a4))))))).snoc (a := [-1, 2]) (ne_of_none (s9 _ _ (s8 _ _ (s7 _ _ (s6 _ _ a5)))) n10) (s10 _ _ (s9 _ _ (s8 _ _ (s7 _ _ (s6 _ _ a5)))))).snoc (a := [3, 2]) (ne_of_none (s9 _ _ (s8 _ _ (s7 _ _ a6))) n10) (s10 _ _ (s9 _ _ (s8 _ _ (s7 _ _ a6))))).snoc (a := [-3, 2]) (ne_of_none (s9 _ _ (s8 _ _ a7)) n10) (s10 _ _ (s9 _ _ (s8 _ _ a7)))).snoc (a := [1, 3]) (ne_of_none (s9 _ _ a8) n10) (s10 _ _ (s9 _ _ a8))).snoc (a := [-2, 3]) (ne_of_none a9 n10) (s10 _ _ a9))
    have v3 := (((((((v3.at s4).at s5).at s6).at s7).at s8).at s9).at s10)
    refine ⟨_, (s10 _ _ (s9 _ _ (s8 _ _ (s7 _ _ (s6 _ _ (s5 _ _ (s4 _ _ a3))))))), _, a10, by rw [List.length_append, dl]; show 17 ≤ sizeLine; decide, fun p11 n11 => ?_⟩
    generalize e11 : upd G12 p11 (HO.lst ([V.ref p0, V.ref p1] ++ ds ++ [V.ref p4, V.ref p5, V.ref p6, V.ref p7, V.ref p8, V.ref p9])) = G13
    have s11 : Same G12 G13 := by rw [← e11]; exact same_new n11
    have a11 : G13 p11 = some (HO.lst ([V.ref p0, V.ref p1] ++ ds ++ [V.ref p4, V.ref p5, V.ref p6, V.ref p7, V.ref p8, V.ref p9])) := by rw [← e11, upd_same]
    clear e11
    have v11 := ((v3.any n11).append (v10.any n11)).at s11
    refine ⟨by show 3 ≤ sizeLine; decide, fun p12 n12 => ?_⟩
    generalize e12 : upd G13 p12 (HO.lst [V.int (-2), V.int 0, V.int 1]) = G14
    have s12 : Same G13 G14 := by rw [← e12]; exact same_new n12
    have a12 : G14 p12 = some (HO.lst [V.int (-2), V.int 0, V.int 1]) := by rw [← e12, upd_same]
    clear e12
    refine ⟨by show 3 ≤ sizeLine; decide, fun p13 n13 => ?_⟩
    generalize e13 : upd G14 p13 (HO.lst [V.int (-3), V.int 0, V.int 1]) = G15
    have s13 : Same G14 G15 := by rw [← e13]; exact same_new n13
    have a13 : G15 p13 = some (HO.lst [V.int (-3), V.int 0, V.int 1]) := by rw [← e13, upd_same]
    clear e13
    refine ⟨by show 3 ≤ sizeLine; decide, fun p14 n14 => ?_⟩
    generalize e14 : upd G15 p14 (HO.lst [V.int (-7), V.int 0, V.int 1]) = G16
    have s14 : Same G15 G16 := by rw [← e14]; exact same_new n14
    have a14 : G16 p14 = some (HO.lst [V.int (-7), V.int 0, V.int 1]) := by rw [← e14, upd_same]
    clear e14
    refine ⟨by show 3 ≤ sizeLine; decide, fun p15 n15 => ?_⟩
    generalize e15 : upd G16 p15 (HO.lst [V.int 1, V.int 0, V.int 1]) = G17
    have s15 : Same G16 G17 := by rw [← e15]; exact same_new n15
    have a15 : G17 p15 = some (HO.lst [V.int 1, V.int 0, V.int 1]) := by rw [← e15, upd_same]
    clear e15
    refine ⟨by show 3 ≤ sizeLine; decide, fun p16 n16 => ?_⟩
    generalize e16 : upd G17 p16 (HO.lst [V.int 1, V.int 1, V.int 1]) = G18
    have s16 : Same G17 G18 := by rw [← e16]; exact same_new n16
    have a16 : G18 p16 = some (HO.lst [V.int 1, V.int 1, V.int 1]) := by rw [← e16, upd_same]
    clear e16
    refine ⟨by show 3 ≤ sizeLine; decide, fun p17 n17 => ?_⟩
    generalize e17 : upd G18 p17 (HO.lst [V.int (-5), V.int 0, V.int 2]) = G19
    have s17 : Same G18 G19 := by rw [← e17]; exact same_new n17
    have a17 : G19 p17 = some (HO.lst [V.int (-5), V.int 0, V.int 2]) := by rw [← e17, upd_same]
    clear e17
    refine ⟨by show 4 ≤ sizeLine; decide, fun p18 n18 => ?_⟩
    generalize e18 : upd G19 p18 (HO.lst [V.int (-2), V.int 0, V.int 0, V.int 1]) = G20
    have s18 : Same G19 G20 := by rw [← e18]; exact same_new n18
    have a18 : G20 p18 = some (HO.lst [V.int (-2), V.int 0, V.int 0, V.int 1]) := by rw [← e18, upd_same]
    clear e18
    refine ⟨by show 7 ≤ sizeLine; decide, fun p19 n19 => ?_⟩
    generalize e19 : upd G20 p19 (HO.lst [V.ref p12, V.ref p13, V.ref p14, V.ref p15, V.ref p16, V.ref p17, V.ref p18]) = G21
    have s19 : Same G20 G21 := by rw [← e19]; exact same_new n19
    have a19 : G21 p19 = some (HO.lst [V.ref p12, V.ref p13, V.ref p14, V.ref p15, V.ref p16, V.ref p17, V.ref p18]) := by rw [← e19, upd_same]
    clear e19
    have v19 : LV G21 p19 _ _ := (((((((LV.nil.snoc (a := [-2, 0, 1]) (ne_of_none (s18 _ _ (s17 _ _ (s16 _ _ (s15 _ _ (s14 _ _ (s13 _ _ a12)))))) n19) (s19 _ _ (s18 _ _ (s17 _ _ (s16 _ _ (s15 _ _ (s14 _ _ (s13 _ _ a12)))))))).snoc (a := [-3, 0, 1]) (ne_of_none (s18 _ _ (s17 _ _ (s16 _ _ (s15 _ _ (s14 _ _ a13))))) n19) (s19 _ _ (s18 _ _ (s17 _ _ (s16 _ _ (s15 _ _ (s14 _ _ a13))))))).snoc (a := [-7, 0, 1]) (ne_of_none (s18 _ _ (s17 _ _ (s16 _ _ (s15 _ _ a14)))) n19) (s19 _ _ (s18 _ _ (s17 _ _ (s16 _ _ (s15 _ _ a14)))))).snoc (a := [1, 0, 1]) (ne_of_none (s18 _ _ (s17 _ _ (s16 _ _ a15))) n19) (s19 _ _ (s18 _ _ (s17 _ _ (s16 _ _ a15))))).snoc (a := [1, 1, 1]) (ne_of_none (s18 _ _ (s17 _ _ a16)) n19) (s19 _ _ (s18 _ _ (s17 _ _ a16)))).snoc (a := [-5, 0, 2]) (ne_of_none (s18 _ _ a17) n19) (s19 _ _ (s18 _ _ a17))).snoc (a := [-2, 0, 0, 1]) (ne_of_none a18 n19) (s19 _ _ a18))
    have v11 := ((((((((v11.at s12).at s13).at s14).at s15).at s16).at s17).at s18).at s19)
    refine ⟨_, (s19 _ _ (s18 _ _ (s17 _ _ (s16 _ _ (s15 _ _ (s14 _ _ (s13 _ _ (s12 _ _ a11)))))))), _, a19, by rw [List.length_append, List.length_append, dl]; show 24 ≤ sizeLine; decide, fun p20 n20 => ?_⟩
    have vF : LV G21 p20 _ menu := (v11.any n20).append (v19.any n20)
    exact hq _ p20 _ ((s04.trans (s3.trans (s4.trans (s5.trans (s6.trans (s7.trans (s8.trans (s9.trans (s10.trans (s11.trans (s12.trans (s13.trans (s14.trans (s15.trans (s16.trans (s17.trans (s18.trans (s19)))))))))))))))))).trans (same_new n20)) upd_same (vF.at (same_new n20))
theorem un65 {k : Nat} {A : Around} (r : Room k A) : A.units + 65 < cLine := by have := r.un; omega
theorem shaped_l (f : List Int) : SeqAt.shaped (.list (f.map PyData.int)) = true := by
  have a : ∀ f : List Int, PyData.canLayAll0 (f.map PyData.int) = true := fun f => by
    induction f with
    | nil => rfl
    | cons c t ih => show (PyData.canLay0 (.int c) && PyData.canLayAll0 (t.map PyData.int)) = true; rw [ih]; rfl
  have b : ∀ f : List Int, PyData.depthAll (f.map PyData.int) = 0 := fun f => by
    induction f with
    | nil => rfl
    | cons c t ih => show max (PyData.depth (.int c)) (PyData.depthAll (t.map PyData.int)) = 0; rw [ih]; rfl
  unfold SeqAt.shaped
  show (PyData.canLayAll0 (f.map PyData.int) && decide (PyData.depthAll (f.map PyData.int) + 1 ≤ 64)) = true
  rw [a, b]; rfl
def pdL (F : List (List Int)) : List PyData := F.map fun f => .list (f.map PyData.int)
theorem shaped_ll (F : List (List Int)) : SeqAt.shaped (.list (pdL F)) = true := by
  have a : ∀ F : List (List Int), PyData.canLayAll0 (pdL F) = true ∧ PyData.depthAll (pdL F) ≤ 1 := fun F => by
    induction F with
    | nil => exact ⟨rfl, by decide⟩
    | cons f F ih =>
      have s := shaped_l f
      unfold SeqAt.shaped at s
      have b : ∀ f : List Int, PyData.depthAll (f.map PyData.int) = 0 := fun f => by
        induction f with
        | nil => rfl
        | cons c t ih => show max (PyData.depth (.int c)) (PyData.depthAll (t.map PyData.int)) = 0; rw [ih]; rfl
      refine ⟨?_, ?_⟩
      · show (PyData.canLay0 (.list (f.map PyData.int)) && PyData.canLayAll0 (pdL F)) = true
        rw [ih.1, (Bool.and_eq_true_iff.mp s).1]; rfl
      · show max (PyData.depthAll (f.map PyData.int) + 1) (PyData.depthAll (pdL F)) ≤ 1
        rw [b]; exact Nat.max_le.mpr ⟨Nat.le_refl _, ih.2⟩
  unfold SeqAt.shaped
  show (PyData.canLayAll0 (pdL F) && decide (PyData.depthAll (pdL F) + 1 ≤ 64)) = true
  rw [(a F).1, decide_eq_true (by have := (a F).2; omega)]; rfl
theorem eqv_l : ∀ (f g : List Int), PyData.eqv (.list (f.map PyData.int)) (.list (g.map PyData.int)) = decide (f = g) := fun f g => by
  show PyData.eqvAll (f.map PyData.int) (g.map PyData.int) = _
  induction f generalizing g with
  | nil => cases g <;> rfl
  | cons c t ih =>
    cases g with
    | nil => rfl
    | cons d u =>
      show (PyData.eqv (.int c) (.int d) && PyData.eqvAll (t.map PyData.int) (u.map PyData.int)) = _
      rw [ih]
      show ((c == d) && decide (t = u)) = decide (c :: t = d :: u)
      rw [Bool.eq_iff_iff]
      simp
theorem any_ll (F : List (List Int)) (f : List Int) : (pdL F).any (fun z => PyData.eqv z (.list (f.map PyData.int))) = decide (f ∈ F) := by
  unfold pdL
  rw [List.any_map, Bool.eq_iff_iff, List.any_eq_true, decide_eq_true_eq]
  constructor
  · rintro ⟨g, hg, e⟩
    have e : PyData.eqv (.list (g.map PyData.int)) (.list (f.map PyData.int)) = true := e
    rw [eqv_l, decide_eq_true_eq] at e
    rw [← e]; exact hg
  · intro h
    refine ⟨f, h, ?_⟩
    show PyData.eqv (.list (f.map PyData.int)) (.list (f.map PyData.int)) = true
    rw [eqv_l]; exact decide_eq_true rfl
theorem dp_ints {K : PySem.W.Frag} {H : Hp} : ∀ f : List Int, DpAll K H (f.map V.int) (f.map PyData.int)
  | [] => .nil
  | c :: t => .cons (.int c) (dp_ints t)
theorem dp_list {K : PySem.W.Frag} {H : Hp} {p : Addr} {f : List Int} (h : IsL K H p f) : Dp K H (.ref p) (.list (f.map PyData.int)) := .lst h (dp_ints f)
theorem dp_lists {K : PySem.W.Frag} {H : Hp} {C : Addr} : ∀ {F : List (List Int)} {vs : List V}, CL K H C vs F → DpAll K H vs (pdL F)
  | [], vs, h => by
    have := h.len
    cases vs with
    | nil => exact .nil
    | cons v t => simp at this
  | f :: F, vs, h => by
    have l := h.len
    cases vs with
    | nil => simp at l
    | cons v t =>
      obtain ⟨p, e1, _, e2⟩ := h.at_ 0 f rfl
      have e1 : v = V.ref p := by simpa using e1
      subst e1
      exact .cons (dp_list e2) (dp_lists ⟨by simpa using l, fun j a e => by
        obtain ⟨q, q1, q2⟩ := h.at_ (j + 1) a (by simpa using e)
        exact ⟨q, by simpa using q1, q2⟩⟩)
def spDrawn (K : PySem.W.Frag) : Sp := fun vs H Q _ => ∃ (a : Addr) (ds : List Int), vs = [.ref a, .int 4] ∧ IsL K H a ds ∧ 5 ≤ ds.length ∧ (∀ d ∈ ds, 0 ≤ d ∧ d < 1000) ∧ ∀ H' p vs F, Same H H' → H' p = some (.lst vs) → LV H' p vs F → (∀ f ∈ F, f ∈ menu) → F.Nodup → F ≠ [] → F.length ≤ 4 → Q (.ref p) H'
theorem ok__law_drawn (T : Tx P K mg base A D) : FnOk P w K mg base CX0 41 (A 61) (D 61) ["_law_draws_here", "_law_most"] (spDrawn K) := by
  refine T.f__law_drawn.ok sc__law_drawn (fun vs H Q E h => ?_) (fun cdv Ar outer s H vs Q E hr h => ?_)
  · obtain ⟨a, ds, rfl, _⟩ := h
    rfl
  · obtain ⟨a, ds, rfl, ha, hl, hd, hq⟩ := h
    refine ⟨_, PSs.nox (pss_cons (ps_set (i := 2) sc__law_drawn.nd rfl (.inl rfl) (pe_call0 (ok__law_factors T) (hr.mono (by decide)) (by rfl) T.g__law_factors T.f__law_factors.kp (b__law_factors T) .nil pass0)) (pss_cons (ps_set (i := 3) sc__law_drawn.nd rfl (.inl rfl) (pe_lst pa_nil)) (pss_cons (ps_for PassesOwn.never rfl (pi_range1 rfl T.z_range (pa_cons (pe_op op_add pe_int (pe_op op_modN (pe_callTy call_int1 (by rfl) T.z_int (by decide +kernel) (pa_cons (pe_ix ix_list (pv 0) pe_int (fun _ _ => rfl)) pa_nil)) (pv 1))) pa_nil)) (pg_name (i := 4) sc__law_drawn.nd rfl (.inl rfl)) (pss_cons (ps_set (i := 5) sc__law_drawn.nd rfl (.inl rfl) (pe_ix ix_list (pv 2) (pe_op op_modN (pe_callTy call_int1 (by rfl) T.z_int (by decide +kernel) (pa_cons (pe_ix ix_list (pv 0) (pe_op op_add pe_int (pv 4)) (fun _ _ => rfl)) pa_nil)) (pe_callB call_len_seq (by rfl) T.z_len (by decide +kernel) (pa_cons (pv 2) pa_nil))) (fun _ _ => rfl))) (pss_one (ps_if (pt_cmpR (op_notInD (un65 hr)) (pv 5) (pv 3) (nomarkIn _)) (pss_one (ps_expr (pe_bm PySem.F.plainAttrs_list PySem.F.slot_list_append PySem.F.type_list_append mt_append (pv 3) (pa_cons (pv 5) pa_nil)))) pss_nil)))) (pss_one (ps_ret (pv 3)))))), ?_⟩
    rw [show start ["_law_draws_here", "_law_most", "_law_menu", "_law_found", "_law_k", "_law_factor"] [V.ref a, V.int 4] = [some (V.ref a), some (V.int 4), none, none, none, none] from rfl]
    simp (maxSteps := 2000000) only [NewO, tLc, wipe, List.map_cons, List.map_nil, tSeq, tIfS, tTest, tOp, tVar, tC, rI0, tPar, tUn, rU, tCons, tNil, tAsg, gName, tCB, tRet, tTup, tLst, rI, rGcd, tNext, tCall, tCallN, tIf, tSl, tPart, tNoPart, rSlL, tDrop, tBM, tBM0, rAppend, rPop, tAndV, tOrV, tNotV, tAnd, tOr, tNot, tB, rEq, rNe, scal_int, gTup, gCons, gNil, gUnl, gSub, rSetL, tRevL, tAug, ipI, rIxL, rIxT, rCat, rRep, TruV, iList, iRng1, iRng2, iRng3, iEnum, tFor, tYes, List.append_nil, List.cons_append, List.nil_append, List.getElem?_cons_zero, List.getElem?_cons_succ, List.set_cons_zero, List.set_cons_succ, Option.some.injEq, exists_eq_left', exists_eq_left, exists_and_left, V.int.injEq, V.bl.injEq, V.ref.injEq, List.cons.injEq, and_true, true_and, and_assoc, decide_eq_true_eq, Bool.not_eq_true', if_true, if_false, Bool.false_eq_true, ite_true, ite_false, Bool.true_eq_false, reduceCtorEq, false_and, and_false, exists_false, false_or, or_false, gUnl, tCallN, rMax, tBreak, cxK, spFacs, rNotInD]
    intro H1 M ms s1 hM vM
    have d0 := hd (cI ds 0) (by rw [cI_get (show 0 < ds.length by omega)]; exact List.getElem_mem _)
    have m4 : (1 : Int) + (cI ds 0).fmod 4 = (((cI ds 0).toNat % 4 + 1 : Nat) : Int) := by
      rw [Int.fmod_eq_emod_of_nonneg _ (by decide)]; omega
    refine ⟨Nat.zero_le _, fun L hL => ⟨_, ha.at (s1.trans (same_new hL)), _, ix_int (i := 0) rfl (by omega), .inl ⟨_, rfl, by decide, by omega, by omega, ?_⟩⟩⟩
    rw [m4, Int.toNat_natCast]
    refine frr (fun i σ H' => ∃ (vs : List V) (F : List (List Int)) (y4 y5 : Option V), σ = [some (.ref a), some (.int 4), some (.ref M), some (.ref L), y4, y5] ∧ Same H H' ∧ H' M = some (.lst ms) ∧ LV H' L ms menu ∧ H' L = some (.lst vs) ∧ LV H' L vs F ∧ (∀ f ∈ F, f ∈ menu) ∧ F.Nodup ∧ F.length ≤ i ∧ (0 < i → F ≠ [])) ⟨[], [], none, none, rfl, s1.trans (same_new hL), (same_new hL) _ _ hM, (vM.any hL).at (same_new hL), upd_same, LV.nil, (fun f hf => by cases hf), List.nodup_nil, Nat.le_refl _, fun h => absurd h (by decide)⟩ (fun i σ H' hi q => ?_) (fun σ H' q => ?_)
    · obtain ⟨vs, F, y4, y5, rfl, s, hM, vM, hL', vF, fm, fn, fl, f0⟩ := q
      have nML : M ≠ L := ne_of_none (by assumption) hL
      simp (maxSteps := 2000000) only [NewO, tLc, wipe, List.map_cons, List.map_nil, tSeq, tIfS, tTest, tOp, tVar, tC, rI0, tPar, tUn, rU, tCons, tNil, tAsg, gName, tCB, tRet, tTup, tLst, rI, rGcd, tNext, tCall, tCallN, tIf, tSl, tPart, tNoPart, rSlL, tDrop, tBM, tBM0, rAppend, rPop, tAndV, tOrV, tNotV, tAnd, tOr, tNot, tB, rEq, rNe, scal_int, gTup, gCons, gNil, gUnl, gSub, rSetL, tRevL, tAug, ipI, rIxL, rIxT, rCat, rRep, TruV, iList, iRng1, iRng2, iRng3, iEnum, tFor, tYes, List.append_nil, List.cons_append, List.nil_append, List.getElem?_cons_zero, List.getElem?_cons_succ, List.set_cons_zero, List.set_cons_succ, Option.some.injEq, exists_eq_left', exists_eq_left, exists_and_left, V.int.injEq, V.bl.injEq, V.ref.injEq, List.cons.injEq, and_true, true_and, and_assoc, decide_eq_true_eq, Bool.not_eq_true', if_true, if_false, Bool.false_eq_true, ite_true, ite_false, Bool.true_eq_false, reduceCtorEq, false_and, and_false, exists_false, false_or, or_false, gUnl, tCallN, rMax, tBreak]
      have di := hd (cI ds (1 + i)) (by rw [cI_get (show 1 + i < ds.length by omega)]; exact List.getElem_mem _)
      have ml : ms.length = 24 := vM.len
      have ix : (cI ds (1 + i)).fmod (ms.length : Nat) = (((cI ds (1 + i)).toNat % 24 : Nat) : Int) := by
        rw [ml, Int.fmod_eq_emod_of_nonneg _ (by decide)]; omega
      have lt : (cI ds (1 + i)).toNat % 24 < 24 := Nat.mod_lt _ (by decide)
      have lt' : (cI ds (1 + i)).toNat % 24 < menu.length := lt
      obtain ⟨u, e1, e2, e3⟩ := vM.at_ _ _ (List.getElem?_eq_getElem lt')
      have fM : menu[(cI ds (1 + i)).toNat % 24] ∈ menu := List.getElem_mem lt'
      generalize menu[(cI ds (1 + i)).toNat % 24] = f at e3 fM
      refine ⟨_, ha.at s, _, ix_int (i := 1 + i) (by omega) (by omega), .inl ⟨_, rfl, _, .inl (SqL.of hM), by omega, _, SqL.of hM, _, at_of ix e1, _, dp_list (IsL.new e3), _, .lst (SqL.of hL') (dp_lists (vF.cl (K := K))), shaped_l f, shaped_ll F, ?_⟩⟩
      rw [any_ll]
      refine ite2 (fun c => ?_) (fun c => ?_)
      · have nf : f ∉ F := of_decide_eq_false c
        refine ⟨.inl ⟨rfl, _, SqL.of hL'⟩, _, hL', lt_size (by have := vF.len; omega), same_updD (s1.free hL) s, by rw [upd_ne nML]; exact hM, vM.upd, _, upd_same, F ++ [f], (vF.snoc e2 e3).upd, fun g hg => ?_, ?_, by rw [List.length_append]; show F.length + 1 ≤ _; omega, fun _ => by simp⟩
        · rcases List.mem_append.mp hg with h | h
          · exact fm g h
          · rcases List.mem_cons.mp h with rfl | h
            · exact fM
            · cases h
        · exact List.nodup_append.mpr ⟨fn, List.nodup_cons.mpr ⟨(fun h => by cases h), List.nodup_nil⟩, fun x hx y hy e => by
            rcases List.mem_cons.mp hy with rfl | h
            · rw [e] at hx; exact nf hx
            · cases h⟩
      · have c : f ∈ F := by simpa using c
        exact ⟨s, hM, vM, vs, hL', F, vF, fm, fn, by omega, fun _ z => by rw [z] at c; cases c⟩
    · obtain ⟨vs, F, y4, y5, rfl, s, hM, vM, hL', vF, fm, fn, fl, f0⟩ := q
      simp (maxSteps := 2000000) only [NewO, tLc, wipe, List.map_cons, List.map_nil, tSeq, tIfS, tTest, tOp, tVar, tC, rI0, tPar, tUn, rU, tCons, tNil, tAsg, gName, tCB, tRet, tTup, tLst, rI, rGcd, tNext, tCall, tCallN, tIf, tSl, tPart, tNoPart, rSlL, tDrop, tBM, tBM0, rAppend, rPop, tAndV, tOrV, tNotV, tAnd, tOr, tNot, tB, rEq, rNe, scal_int, gTup, gCons, gNil, gUnl, gSub, rSetL, tRevL, tAug, ipI, rIxL, rIxT, rCat, rRep, TruV, iList, iRng1, iRng2, iRng3, iEnum, tFor, tYes, List.append_nil, List.cons_append, List.nil_append, List.getElem?_cons_zero, List.getElem?_cons_succ, List.set_cons_zero, List.set_cons_succ, Option.some.injEq, exists_eq_left', exists_eq_left, exists_and_left, V.int.injEq, V.bl.injEq, V.ref.injEq, List.cons.injEq, and_true, true_and, and_assoc, decide_eq_true_eq, Bool.not_eq_true', if_true, if_false, Bool.false_eq_true, ite_true, ite_false, Bool.true_eq_false, reduceCtorEq, false_and, and_false, exists_false, false_or, or_false, gUnl, tCallN, rMax, tBreak]
      exact hq H' L vs F s hL' vF fm fn (f0 (by omega)) (by omega)
theorem IsC.of {K : PySem.W.Frag} {H : Hp} {L : Addr} {vs : List V} {F : List (List Int)} (h : H L = some (.lst vs)) (v : LV H L vs F) : IsC K H L F := ⟨L, vs, SqL.of h, v.cl⟩
def spPoly (K : PySem.W.Frag) : Sp := fun vs H Q _ => ∃ (a : Addr) (ds : List Int), vs = [.ref a, .int 4] ∧ IsL K H a ds ∧ 10 ≤ ds.length ∧ (∀ d ∈ ds, 0 ≤ d ∧ d < 1000) ∧ ∀ (H' : Hp) (p q L : Addr) (vs : List V) (F : List (List Int)) (s : List Int) (c : Int), Same H H' → H' p = some (.tup [.ref q, .ref L]) → H' q = some (iL (s.map (c * ·))) → H' L = some (.lst vs) → LV H' L vs F → (∀ f ∈ F, f ∈ menu) → F.Nodup → F ≠ [] → F.length ≤ 4 → Prd s F → c ≠ 0 → c.natAbs ≤ 3 → Q (.ref p) H'
theorem ok__law_polynomial (T : Tx P K mg base A D) : FnOk P w K mg base CX0 43 (A 63) (D 63) ["_law_draws_here", "_law_most"] (spPoly K) := by
  refine T.f__law_polynomial.ok sc__law_polynomial (fun vs H Q E h => ?_) (fun cdv Ar outer s H vs Q E hr h => ?_)
  · obtain ⟨a, ds, rfl, _⟩ := h
    rfl
  · obtain ⟨a, ds, rfl, ha, hl, hd, hq⟩ := h
    refine ⟨_, PSs.nox (pss_cons (ps_set (i := 2) sc__law_polynomial.nd rfl (.inl rfl) (pe_call (ok__law_drawn T) (hr.mono (by decide)) (by rfl) T.g__law_drawn T.f__law_drawn.kp (b__law_drawn T) .nil pass0 (pa_cons (pv 0) (pa_cons (pv 1) pa_nil)))) (pss_cons (ps_set (i := 3) sc__law_polynomial.nd rfl (.inr rfl) (pe_ix ix_list (pe_lst (pa_cons pe_int (pa_cons pe_int (pa_cons (pe_un un_neg pe_int) (pa_cons pe_int (pa_cons (pe_un un_neg pe_int) pa_nil)))))) (pe_op op_modN (pe_callTy call_int1 (by rfl) T.z_int (by decide +kernel) (pa_cons (pe_ix ix_list (pv 0) pe_int (fun _ _ => rfl)) pa_nil)) pe_int) (fun _ _ => rfl))) (pss_one (ps_ret (pe_tup (pa_cons (pe_lc (own := [("_law_one", 4)]) (g := gName 4) rfl sc__law_polynomial.nd (pi_list (pe_call (ok__law_product T) (hr.mono (by decide)) (by rfl) T.g__law_product T.f__law_product.kp (b__law_product T) .nil pass0 (pa_cons (pv 2) pa_nil))) (blkOk_by (own := [("_law_one", 4)]) (N := ["_law_draws_here", "_law_most", "_law_factors_here", "_law_by", "_law_one"]) (sc := defScope (stm 74)) (by decide +kernel)) (fun _ _ _ _ _ => (pg_name (i := 4) sc__law_polynomial.nd rfl (.inl rfl))) (fun _ _ _ _ _ => pts_nil) (fun _ _ _ _ _ => (pe_op op_mulX (pv 3) (pv 4)))) (pa_cons (pv 2) pa_nil))))))), ?_⟩
    rw [show start ["_law_draws_here", "_law_most", "_law_factors_here", "_law_by", "_law_one"] [V.ref a, V.int 4] = [some (V.ref a), some (V.int 4), none, none, none] from rfl]
    simp (maxSteps := 2000000) only [NewO, tLc, wipe, List.map_cons, List.map_nil, tSeq, tIfS, tTest, tOp, tVar, tC, rI0, tPar, tUn, rU, tCons, tNil, tAsg, gName, tCB, tRet, tTup, tLst, rI, rGcd, tNext, tCall, tCallN, tIf, tSl, tPart, tNoPart, rSlL, tDrop, tBM, tBM0, rAppend, rPop, tAndV, tOrV, tNotV, tAnd, tOr, tNot, tB, rEq, rNe, scal_int, gTup, gCons, gNil, gUnl, gSub, rSetL, tRevL, tAug, ipI, rIxL, rIxT, rCat, rRep, TruV, iList, iRng1, iRng2, iRng3, iEnum, tFor, tYes, List.append_nil, List.cons_append, List.nil_append, List.getElem?_cons_zero, List.getElem?_cons_succ, List.set_cons_zero, List.set_cons_succ, Option.some.injEq, exists_eq_left', exists_eq_left, exists_and_left, V.int.injEq, V.bl.injEq, V.ref.injEq, List.cons.injEq, and_true, true_and, and_assoc, decide_eq_true_eq, Bool.not_eq_true', if_true, if_false, Bool.false_eq_true, ite_true, ite_false, Bool.true_eq_false, reduceCtorEq, false_and, and_false, exists_false, false_or, or_false, gUnl, tCallN, rMax, tBreak, cxK, spDrawn]
    have d9 := hd (cI ds 9) (by rw [cI_get (show 9 < ds.length by omega)]; exact List.getElem_mem _)
    refine ⟨ds, ha, by omega, hd, fun H1 L vs F s1 hL vF fm fn f0 fl => ⟨by show 5 ≤ sizeLine; decide, fun u nu => ⟨_, ha.at (s1.trans (same_new nu)), _, ix_int (i := 9) rfl (by omega), .inl ⟨_, rfl, by decide, _, SqL.of upd_same, ?_⟩⟩⟩⟩
    obtain ⟨c, hc, c0, c3⟩ : ∃ c : Int, atI [V.int 1, V.int 1, V.int (-1), V.int 2, V.int (-3)] ((cI ds 9).fmod 5) = some (.int c) ∧ c ≠ 0 ∧ c.natAbs ≤ 3 := by
      rw [Int.fmod_eq_emod_of_nonneg _ (by decide)]
      have : cI ds 9 % 5 = 0 ∨ cI ds 9 % 5 = 1 ∨ cI ds 9 % 5 = 2 ∨ cI ds 9 % 5 = 3 ∨ cI ds 9 % 5 = 4 := by omega
      rcases this with e | e | e | e | e <;> rw [e]
      · exact ⟨1, rfl, by decide, by decide⟩
      · exact ⟨1, rfl, by decide, by decide⟩
      · exact ⟨-1, rfl, by decide, by decide⟩
      · exact ⟨2, rfl, by decide, by decide⟩
      · exact ⟨-3, rfl, by decide, by decide⟩
    have su := same_new (o := .lst [V.int 1, V.int 1, V.int (-1), V.int 2, V.int (-3)]) nu
    refine ⟨_, hc, F, (IsC.of hL vF).at su, fm, by omega, fun H2 p s s2 n2 e2 P => ?_⟩
    have sl : s.length ≤ 100 := by
      rw [P.len]
      have := dg_le fm fn
      omega
    have sb : ∀ k, (cI s k).natAbs < 2 ^ 40 := fun k => Nat.lt_of_le_of_lt (Nat.le_trans (l1_coef s k) P.sz) (Nat.lt_of_le_of_lt (Nat.pow_le_pow_right (by decide) (show F.length ≤ 4 from fl)) (by decide))
    refine ⟨⟨_, SqL.of e2⟩, fun D hD => lcl (xs := s.map V.int) (fun i H' => PvM H2 D (fun i => V.int (c * cI s i)) i H') (PvM.start hD) (fun i H' hi p => SqL.of (p.same _ _ e2)) (fun i x H' hx p => ?_) (fun H' p => ?_)⟩
    · obtain ⟨hi, rfl⟩ := get_int hx
      exact ⟨_, rfl, _, rfl, mul_bits (a := 2) (by omega) (sb i) (by decide), p.next hD (Same.refl _) rfl (lt_size (by omega))⟩
    · rw [List.length_map] at p
      have hd' := p.d
      have e : (List.range s.length).map (fun i => V.int (c * cI s i)) = (s.map (c * ·)).map V.int := by rw [← map_idx s (c * ·), map_rangeV]
      rw [e] at hd'
      have st := su.trans (s2.trans p.same)
      exact ⟨le2, fun r nr => hq _ r D L vs F s c (s1.trans (st.trans (same_new nr))) upd_same ((same_new nr) _ _ hd') ((same_new nr) _ _ (st _ _ hL)) ((vF.at st).at (same_new nr)) fm fn f0 fl P c0 c3⟩
theorem ok__law_is_whole (T : Tx P K mg base A D) : FnOk P w K mg base CX0 40 (A 64) (D 64) ["_law_value"] (fun vs H Q _ => ∃ z : Int, vs = [.int z] ∧ Q (.bl true) H) := by
  refine T.f__law_is_whole.ok sc__law_is_whole (fun vs H Q E h => ?_) (fun cdv Ar outer s H vs Q E hr h => ?_)
  · obtain ⟨z, rfl, _⟩ := h
    rfl
  · obtain ⟨z, rfl, hq⟩ := h
    refine ⟨_, PSs.nox (pss_one (ps_ret (pe_and (pe_callB call_isi (by rfl) T.z_isinstance (by decide +kernel) (pa_cons (pv 0) (pa_cons (pe_bltn (v := .ty "int") (u := .type "int") (by rfl) T.z_int (by decide +kernel) rfl) pa_nil))) (pe_one (pe_not (pe_callB call_isi (by rfl) T.z_isinstance (by decide +kernel) (pa_cons (pv 0) (pa_cons (pe_bltn (v := .ty "bool") (u := .type "bool") (by rfl) T.z_bool (by decide +kernel) rfl) pa_nil)))))))), ?_⟩
    rw [show start ["_law_value"] [V.int z] = [some (V.int z)] from rfl]
    simp (maxSteps := 2000000) only [NewO, tLc, wipe, List.map_cons, List.map_nil, tSeq, tIfS, tTest, tOp, tVar, tC, rI0, tPar, tUn, rU, tCons, tNil, tAsg, gName, tCB, tRet, tTup, tLst, rI, rGcd, tNext, tCall, tCallN, tIf, tSl, tPart, tNoPart, rSlL, tDrop, tBM, tBM0, rAppend, rPop, tAndV, tOrV, tNotV, tAnd, tOr, tNot, tB, rEq, rNe, scal_int, gTup, gCons, gNil, gUnl, gSub, rSetL, tRevL, tAug, ipI, rIxL, rIxT, rCat, rRep, TruV, iList, iRng1, iRng2, iRng3, iEnum, tFor, tYes, List.append_nil, List.cons_append, List.nil_append, List.getElem?_cons_zero, List.getElem?_cons_succ, List.set_cons_zero, List.set_cons_succ, Option.some.injEq, exists_eq_left', exists_eq_left, exists_and_left, V.int.injEq, V.bl.injEq, V.ref.injEq, List.cons.injEq, and_true, true_and, and_assoc, decide_eq_true_eq, Bool.not_eq_true', if_true, if_false, Bool.false_eq_true, ite_true, ite_false, Bool.true_eq_false, reduceCtorEq, false_and, and_false, exists_false, false_or, or_false, gUnl, tCallN, rMax, tBreak, cxK, rIsi]
    exact ⟨_, _, .ty "int", .base (.int z), true, rfl, _, _, .ty "bool", .base (.int z), false, rfl, hq⟩
end
end W23
namespace W23
open PySem PySem.Spec PyProof.Rows L2 K23
/-- the factors and one more -/
def allF (F : List (List Int)) (g : List Int) : List (List Int) := F ++ ([g].filter fun g => !decide (g ∈ F))
theorem allF_mem {F : List (List Int)} {g f : List Int} : f ∈ allF F g ↔ f ∈ F ∨ f = g := by
  unfold allF
  rw [List.mem_append, List.mem_filter]
  constructor
  · rintro (h | ⟨h, _⟩)
    · exact .inl h
    · exact .inr (by simpa using h)
  · rintro (h | rfl)
    · exact .inl h
    · by_cases c : f ∈ F
      · exact .inl c
      · exact .inr ⟨by simp, by simp [c]⟩
theorem allF_nd {F : List (List Int)} {g : List Int} (h : F.Nodup) : (allF F g).Nodup := by
  unfold allF
  refine List.nodup_append.mpr ⟨h, ?_, fun a ha b hb e => ?_⟩
  · exact (List.nodup_cons.mpr ⟨(fun h => by cases h), List.nodup_nil⟩ : [g].Nodup).sublist List.filter_sublist
  · obtain ⟨h1, h2⟩ := List.mem_filter.mp hb
    rw [← e] at h2
    simp [ha] at h2
theorem allF_len {F : List (List Int)} {g : List Int} : (allF F g).length ≤ F.length + 1 := by
  unfold allF
  rw [List.length_append]
  have := List.length_filter_le (fun g => !decide (g ∈ F)) [g]
  simp only [List.length_cons, List.length_nil] at this
  omega
section
variable {P : Program} {w : World} {K : PySem.W.Frag} {mg : Str → Option Value} {base : Heap} {A : Nat → Addr} {D : Nat → FuncData}
def spBrk (K : PySem.W.Frag) : Sp := fun vs H Q _ => ∃ (c o q : Addr) (ws : List V) (F : List (List Int)) (g : List Int) (k ρ : Nat), vs = [.ref c, .int k, .ref o] ∧ H c = some (.lst ws) ∧ LV H c ws F ∧ H o = some (.lst [.ref q]) ∧ H q = some (iL g) ∧ (∀ f ∈ F, f ∈ menu) ∧ F.Nodup ∧ F.length ≤ 4 ∧ g ∈ menu ∧ IsR F k ρ ∧ ∀ H' p lo hi, Same H H' → IsI K H' p lo hi → Aro (allF F g) ρ lo hi → R2b lo 2420 2400 → R2b hi 2420 2400 → Q (.ref p) H'
theorem ok__law_bracket (T : Tx P K mg base A D) : FnOk P w K mg base CX0 44 (A 65) (D 65) ["_law_factors_here", "_law_place", "_law_others"] (spBrk K) := by
  refine T.f__law_bracket.ok sc__law_bracket (fun vs H Q E h => ?_) (fun cdv Ar outer s H vs Q E hr h => ?_)
  · obtain ⟨c, o, q, ws, F, g, k, ρ, rfl, _⟩ := h
    rfl
  · obtain ⟨c, o, q, ws, F, g, k, ρ, rfl, hc, hF, ho, hg, fm, fn, fl, gm, hR, hq⟩ := h
    refine ⟨_, PSs.nox (pss_cons (ps_asg (pe_tup (pa_cons (pe_tup (pa_cons (pe_un un_neg pe_int) (pa_cons pe_int pa_nil))) (pa_cons (pe_tup (pa_cons pe_int (pa_cons pe_int pa_nil))) pa_nil))) (pg_tup (n := 2) (by rfl) (pgs_cons (pg_name (i := 3) sc__law_bracket.nd rfl (.inl rfl)) (pgs_cons (pg_name (i := 4) sc__law_bracket.nd rfl (.inl rfl)) pgs_nil)))) (pss_cons (ps_set (i := 5) sc__law_bracket.nd rfl (.inl rfl) (pe_op op_cat (pv 0) (pe_lc (own := [("_law_one", 12)]) (g := gName 12) rfl sc__law_bracket.nd (pi_list (pv 2)) (blkOk_by (own := [("_law_one", 12)]) (N := ["_law_factors_here", "_law_place", "_law_others", "_law_low", "_law_high", "_law_all_factors", "_law_turn", "_law_count_here", "_law_middle", "_law_below_here", "_law_is_root", "_law_by", "_law_one"]) (sc := defScope (stm 77)) (by decide +kernel)) (fun _ _ _ _ _ => (pg_name (i := 12) sc__law_bracket.nd rfl (.inl rfl))) (fun _ _ _ _ _ => (pts_one (pt_cmpR (opNotInD K (un65 hr)) (pv 12) (pv 0) (nomarkIn _)))) (fun _ _ _ _ _ => (pv 12))))) (pss_cons (ps_for PassesOwn.never rfl (pi_range1 rfl T.z_range (pa_cons pe_int pa_nil)) (pg_name (i := 6) sc__law_bracket.nd rfl (.inl rfl)) (pss_cons (ps_set (i := 7) sc__law_bracket.nd rfl (.inl rfl) (pe_op op_sub (pe_ix ix_tup (pe_call (ok__law_below T) (hr.mono (by decide)) (by rfl) T.g__law_below T.f__law_below.kp (b__law_below T) .nil pass0 (pa_cons (pv 5) (pa_cons (pv 4) pa_nil))) pe_int (fun _ _ => rfl)) (pe_ix ix_tup (pe_call (ok__law_below T) (hr.mono (by decide)) (by rfl) T.g__law_below T.f__law_below.kp (b__law_below T) .nil pass0 (pa_cons (pv 5) (pa_cons (pv 3) pa_nil))) pe_int (fun _ _ => rfl)))) (pss_cons (ps_if (PW.pt (pw_and (pt_cmpR op_eq (pv 7) pe_int (nomark _)) (pw_and1 (pt_not (pt_val (pe_ix ix_tup (pe_call (ok__law_below T) (hr.mono (by decide)) (by rfl) T.g__law_below T.f__law_below.kp (b__law_below T) .nil pass0 (pa_cons (pv 5) (pa_cons (pv 3) pa_nil))) pe_int (fun _ _ => rfl))))))) (pss_one ps_break) pss_nil) (pss_cons (ps_set (i := 8) sc__law_bracket.nd rfl (.inl rfl) (pe_call (ok__law_times T) (hr.mono (by decide)) (by rfl) T.g__law_times T.f__law_times.kp (b__law_times T) .nil pass0 (pa_cons (pe_call (ok__law_plus T) (hr.mono (by decide)) (by rfl) T.g__law_plus T.f__law_plus.kp (b__law_plus T) .nil pass0 (pa_cons (pv 3) (pa_cons (pv 4) pa_nil))) (pa_cons (pe_tup (pa_cons pe_int (pa_cons pe_int pa_nil))) pa_nil)))) (pss_cons (ps_asg (pe_call (ok__law_below T) (hr.mono (by decide)) (by rfl) T.g__law_below T.f__law_below.kp (b__law_below T) .nil pass0 (pa_cons (pv 0) (pa_cons (pv 8) pa_nil))) (pg_tup (n := 2) (by rfl) (pgs_cons (pg_name (i := 9) sc__law_bracket.nd rfl (.inl rfl)) (pgs_cons (pg_name (i := 10) sc__law_bracket.nd rfl (.inl rfl)) pgs_nil)))) (pss_cons (ps_if (PW.pt (pw_and (pt_val (pv 10)) (pw_and1 (pt_cmpR op_eq (pv 9) (pv 1) (nomark _))))) (pss_one (ps_ret (pe_tup (pa_cons (pv 8) (pa_cons (pv 8) pa_nil))))) pss_nil) (pss_cons (ps_for PassesOwn.never rfl (pi_range2 rfl T.z_range (pa_cons pe_int (pa_cons pe_int pa_nil))) (pg_name (i := 11) sc__law_bracket.nd rfl (.inl rfl)) (pss_one (ps_if (pt_val (pe_ix ix_tup (pe_call (ok__law_below T) (hr.mono (by decide)) (by rfl) T.g__law_below T.f__law_below.kp (b__law_below T) .nil pass0 (pa_cons (pv 5) (pa_cons (pv 8) pa_nil))) pe_int (fun _ _ => rfl))) (pss_one (ps_set (i := 8) sc__law_bracket.nd rfl (.inl rfl) (pe_call (ok__law_plus T) (hr.mono (by decide)) (by rfl) T.g__law_plus T.f__law_plus.kp (b__law_plus T) .nil pass0 (pa_cons (pv 8) (pa_cons (pe_call (ok__law_times T) (hr.mono (by decide)) (by rfl) T.g__law_times T.f__law_times.kp (b__law_times T) .nil pass0 (pa_cons (pe_call (ok__law_minus T) (hr.mono (by decide)) (by rfl) T.g__law_minus T.f__law_minus.kp (b__law_minus T) .nil pass0 (pa_cons (pv 4) (pa_cons (pv 8) pa_nil))) (pa_cons (pe_tup (pa_cons pe_int (pa_cons (pv 11) pa_nil))) pa_nil))) pa_nil))))) pss_nil))) (pss_cons (ps_set (i := 9) sc__law_bracket.nd rfl (.inl rfl) (pe_ix ix_tup (pe_call (ok__law_below T) (hr.mono (by decide)) (by rfl) T.g__law_below T.f__law_below.kp (b__law_below T) .nil pass0 (pa_cons (pv 0) (pa_cons (pv 8) pa_nil))) pe_int (fun _ _ => rfl))) (pss_one (ps_if (pt_cmpR op_gt (pv 9) (pv 1) (nomark _)) (pss_one (ps_set (i := 4) sc__law_bracket.nd rfl (.inl rfl) (pv 8))) (pss_one (ps_set (i := 3) sc__law_bracket.nd rfl (.inl rfl) (pv 8))))))))))))) (pss_one (ps_ret (pe_tup (pa_cons (pv 3) (pa_cons (pv 4) pa_nil)))))))), ?_⟩
    rw [show start ["_law_factors_here", "_law_place", "_law_others", "_law_low", "_law_high", "_law_all_factors", "_law_turn", "_law_count_here", "_law_middle", "_law_below_here", "_law_is_root", "_law_by", "_law_one"] [V.ref c, V.int k, V.ref o] = [some (V.ref c), some (V.int k), some (V.ref o), none, none, none, none, none, none, none, none, none, none] from rfl]
    simp (maxSteps := 2000000) only [NewO, tLc, wipe, List.map_cons, List.map_nil, tSeq, tIfS, tTest, tOp, tVar, tC, rI0, tPar, tUn, rU, tCons, tNil, tAsg, gName, tCB, tRet, tTup, tLst, rI, rGcd, tNext, tCall, tCallN, tIf, tSl, tPart, tNoPart, rSlL, tDrop, tBM, tBM0, rAppend, rPop, tAndV, tOrV, tNotV, tAnd, tOr, tNot, tB, rEq, rNe, scal_int, gTup, gCons, gNil, gUnl, gSub, rSetL, tRevL, tAug, ipI, rIxL, rIxT, rCat, rRep, TruV, iList, iRng1, iRng2, iRng3, iEnum, tFor, tYes, List.append_nil, List.cons_append, List.nil_append, List.getElem?_cons_zero, List.getElem?_cons_succ, List.set_cons_zero, List.set_cons_succ, Option.some.injEq, exists_eq_left', exists_eq_left, exists_and_left, V.int.injEq, V.bl.injEq, V.ref.injEq, List.cons.injEq, and_true, true_and, and_assoc, decide_eq_true_eq, Bool.not_eq_true', if_true, if_false, Bool.false_eq_true, ite_true, ite_false, Bool.true_eq_false, reduceCtorEq, false_and, and_false, exists_false, false_or, or_false, gUnl, tCallN, rMax, tBreak, cxK, spBelow, spBinL, rNotInD]
    have L0 := @Brk.start F (allF F g) ρ hR.lt
    have am : ∀ f ∈ allF F g, f ∈ menu := fun f hf => by
      rcases allF_mem.mp hf with h | h
      · exact fm f h
      · rw [h]; exact gm
    have an := allF_nd (g := g) fn
    have al : (allF F g).length ≤ 5 := by have := allF_len (F := F) (g := g); omega
    have rA : ρ ∈ flat (allF F g) := by
      have := mem_flat.mp hR.mem
      exact mem_flat.mpr ⟨this.1, allF_mem.mpr (.inl this.2)⟩
    refine ⟨by show 2 ≤ sizeLine; decide, fun p0 n0 => ⟨by show 2 ≤ sizeLine; decide, fun p1 n1 => ⟨by show 2 ≤ sizeLine; decide, fun p2 n2 => ?_⟩⟩⟩
    have s0 := same_new (o := .tup [V.int (-100), V.int 1]) n0
    have s1 := same_new (o := .tup [V.int 100, V.int 1]) n1
    have s2 := same_new (o := .tup [V.ref p0, V.ref p1]) n2
    have i0 : IsN K _ p0 (-100) := (IsN.new (r := -100) (H := upd H p0 (.tup [V.int (-100), V.int 1])) upd_same).at (s1.trans s2)
    have i1 : IsN K _ p1 100 := (IsN.new (r := 100) (H := upd (upd H p0 (.tup [V.int (-100), V.int 1])) p1 (.tup [V.int 100, V.int 1])) upd_same).at s2
    have t2 : SqT K (upd (upd (upd H p0 (.tup [V.int (-100), V.int 1])) p1 (.tup [V.int 100, V.int 1])) p2 (.tup [V.ref p0, V.ref p1])) p2 [V.ref p0, V.ref p1] := SqT.of upd_same
    have sG := s0.trans (s1.trans s2)
    generalize upd (upd (upd H p0 (.tup [V.int (-100), V.int 1])) p1 (.tup [V.int 100, V.int 1])) p2 (.tup [V.ref p0, V.ref p1]) = G at i0 i1 t2 sG ⊢
    have ho := sG _ _ ho
    have hg := sG _ _ hg
    have hc := sG _ _ hc
    have hF := hF.at sG
    refine ⟨_, t2, rfl, _, _, rfl, _, _, rfl, rfl, ⟨_, SqL.of ho⟩, fun D nD => lcl (xs := [V.ref q]) (fun i H' => Same G H' ∧ ∃ ds, H' D = some (.lst ds) ∧ LV H' D ds (([g].take i).filter fun g => !decide (g ∈ F))) ⟨same_new nD, [], upd_same, LV.nil⟩ (fun i H' hi q => SqL.of (q.1 _ _ ho)) (fun i x H' hx q => ?_) (fun H' q => ?_)⟩
    · obtain ⟨s, ds, hD, vD⟩ := q
      obtain ⟨rfl, rfl⟩ : i = 0 ∧ x = V.ref q := by
        cases i with
        | zero => exact ⟨rfl, (Option.some.inj hx).symm⟩
        | succ i => simp at hx
      simp (maxSteps := 2000000) only [NewO, tLc, wipe, List.map_cons, List.map_nil, tSeq, tIfS, tTest, tOp, tVar, tC, rI0, tPar, tUn, rU, tCons, tNil, tAsg, gName, tCB, tRet, tTup, tLst, rI, rGcd, tNext, tCall, tCallN, tIf, tSl, tPart, tNoPart, rSlL, tDrop, tBM, tBM0, rAppend, rPop, tAndV, tOrV, tNotV, tAnd, tOr, tNot, tB, rEq, rNe, scal_int, gTup, gCons, gNil, gUnl, gSub, rSetL, tRevL, tAug, ipI, rIxL, rIxT, rCat, rRep, TruV, iList, iRng1, iRng2, iRng3, iEnum, tFor, tYes, List.append_nil, List.cons_append, List.nil_append, List.getElem?_cons_zero, List.getElem?_cons_succ, List.set_cons_zero, List.set_cons_succ, Option.some.injEq, exists_eq_left', exists_eq_left, exists_and_left, V.int.injEq, V.bl.injEq, V.ref.injEq, List.cons.injEq, and_true, true_and, and_assoc, decide_eq_true_eq, Bool.not_eq_true', if_true, if_false, Bool.false_eq_true, ite_true, ite_false, Bool.true_eq_false, reduceCtorEq, false_and, and_false, exists_false, false_or, or_false, gUnl, tCallN, rMax, tBreak]
      have hg' := s _ _ hg
      have hc' := s _ _ hc
      have qD : q ≠ D := ne_of_none hg nD
      have dsn : ds = [] := List.length_eq_zero_iff.mp vD.len
      subst dsn
      refine ⟨_, dp_list (IsL.new hg'), _, .lst (SqL.of hc') (dp_lists ((hF.at s).cl (K := K))), shaped_l g, shaped_ll F, ?_⟩
      rw [any_ll]
      refine ite2 (fun cc => ?_) (fun cc => ?_)
      · have e : ([g].take (0 + 1)).filter (fun g => !decide (g ∈ F)) = [g] := by
          show [g].filter _ = _
          rw [List.filter_cons_of_pos (by rw [cc]; rfl)]; rfl
        refine ⟨[], hD, lt_size (by decide), same_updD nD s, _, upd_same, ?_⟩
        rw [e]
        exact LV.upd (LV.snoc (S := []) LV.nil qD hg')
      · have e : ([g].take (0 + 1)).filter (fun g => !decide (g ∈ F)) = [] := by
          show [g].filter _ = _
          rw [List.filter_cons_of_neg (by simpa using cc)]; rfl
        refine ⟨s, [], hD, ?_⟩
        rw [e]
        exact LV.nil
    · obtain ⟨s, ds, hD, vD⟩ := q
      have hc' := s _ _ hc
      have hF' := hF.at s
      have dl : ds.length ≤ 1 := by
        rw [vD.len]
        exact Nat.le_trans (List.length_filter_le _ _) (Nat.le_refl 1)
      have wl := hF.len
      refine ⟨_, hc', _, hD, le_size (by omega), fun M nM => ⟨by decide, by decide, ?_⟩⟩
      have vM : LV (upd H' M (.lst (ws ++ ds))) M (ws ++ ds) (allF F g) := ((hF'.any nM).append (vD.any nM)).at (same_new nM)
      have sM := s.trans (same_new (o := .lst (ws ++ ds)) nM)
      have hM : upd H' M (.lst (ws ++ ds)) M = some (.lst (ws ++ ds)) := upd_same
      generalize upd H' M (.lst (ws ++ ds)) = G3 at vM sM hM ⊢
      have cA := IsC.of (K := K) hM vM
      have cF : IsC K G3 c F := IsC.of (sM _ _ hc) (hF.at sM)
      refine frr (fun i σ H' => ∃ (pl ph : Addr) (lo hi : Rat) (y6 y7 y8 y9 y10 y11 y12 : Option V), σ = [some (.ref c), some (.int k), some (.ref o), some (.ref pl), some (.ref ph), some (.ref M), y6, y7, y8, y9, y10, y11, y12] ∧ Same G3 H' ∧ IsN K H' pl lo ∧ IsN K H' ph hi ∧ Brk F (allF F g) ρ (61 * i) lo hi ∧ hi - lo ≤ wd i ∧ i ≤ 39) ⟨p0, p1, -100, 100, none, none, none, none, none, none, none, rfl, Same.refl _, i0.at sM, i1.at sM, L0 am, by decide +kernel, by decide⟩ (fun i σ H2 hi q => ?_) (fun σ H2 q => ?_)
      · obtain ⟨pl, ph, lo, hi, y6, y7, y8, y9, y10, y11, y12, rfl, s3, hlo, hhi, B, hw, i39⟩ := q
        have bl := B.lo.bits
        have bh := B.hi.bits
        have xl : XL lo := bl.mono (by omega) (by omega)
        have xh : XL hi := bh.mono (by omega) (by omega)
        have yl : R2b lo 2420 2400 := bl.mono (by omega) (by omega)
        have yh : R2b hi 2420 2400 := bh.mono (by omega) (by omega)
        have zl := (bf_nf am an lo).1 B.z1
        have zh := (bf_nf am an hi).1 B.z2
        simp (maxSteps := 2000000) only [NewO, tLc, wipe, List.map_cons, List.map_nil, tSeq, tIfS, tTest, tOp, tVar, tC, rI0, tPar, tUn, rU, tCons, tNil, tAsg, gName, tCB, tRet, tTup, tLst, rI, rGcd, tNext, tCall, tCallN, tIf, tSl, tPart, tNoPart, rSlL, tDrop, tBM, tBM0, rAppend, rPop, tAndV, tOrV, tNotV, tAnd, tOr, tNot, tB, rEq, rNe, scal_int, gTup, gCons, gNil, gUnl, gSub, rSetL, tRevL, tAug, ipI, rIxL, rIxT, rCat, rRep, TruV, iList, iRng1, iRng2, iRng3, iEnum, tFor, tYes, List.append_nil, List.cons_append, List.nil_append, List.getElem?_cons_zero, List.getElem?_cons_succ, List.set_cons_zero, List.set_cons_succ, Option.some.injEq, exists_eq_left', exists_eq_left, exists_and_left, V.int.injEq, V.bl.injEq, V.ref.injEq, List.cons.injEq, and_true, true_and, and_assoc, decide_eq_true_eq, Bool.not_eq_true', if_true, if_false, Bool.false_eq_true, ite_true, ite_false, Bool.true_eq_false, reduceCtorEq, false_and, and_false, exists_false, false_or, or_false, gUnl, tCallN, rMax, tBreak]
        refine ⟨_, cA.at s3, am, by omega, hi, hhi, xh, fun H3 u1 s4 n4 e4 => ⟨_, SqT.of e4, _, rfl, _, cA.at (s3.trans s4), am, by omega, lo, hlo.at s4, xl, fun H4 u2 s5 n5 e5 => ⟨_, SqT.of e5, _, rfl, _, rfl, _, rfl, ?_⟩⟩⟩
        have s35 := s3.trans (s4.trans s5)
        have hlo := hlo.at (s4.trans s5)
        have hhi := hhi.at (s4.trans s5)
        refine ite2 (fun c1 => ?_) (fun c1 => ?_)
        · refine ⟨_, cA.at s35, am, by omega, lo, hlo, xl, fun H5 u3 s6 n6 e6 => ⟨_, SqT.of e6, _, rfl, _, rfl, ite2 (fun c2 => ?_) (fun c2 => ?_)⟩⟩
          · refine ⟨by show 2 ≤ sizeLine; decide, fun r nr => hq _ r lo hi (sG.trans (sM.trans (s35.trans (s6.trans (same_new nr))))) (IsI.new (hlo.at s6) (hhi.at s6) nr) (B.one am an rA (by omega)) yl yh⟩
          · exact absurd (decide_eq_false B.z1) c2
        · have i38 : i ≤ 38 := by
            apply Decidable.byContradiction
            intro z
            have e : i = 39 := by omega
            have lt := B.lt
            rw [e] at hw
            have h1 := short_one am an (show lo ≤ hi by grind) (by have := wd_end; grind)
            have h2 := B.grow am rA
            exact c1 (by omega)
          obtain ⟨qh, q1, q2, q3⟩ := inv_nd 2 (by decide)
          have q3 : qh * 2 = 1 := q3
          have bs := bl.add bh (m := 7 + 61 * i + 61 * i) (by omega) (by omega)
          refine ⟨lo, hlo, hi, hhi, fitL bl bh (by omega) (by omega), fun H5 u3 s6 n6 e6 => ⟨by show 2 ≤ sizeLine; decide, fun u4 n7 => ⟨lo + hi, (IsN.new e6).at (same_new n7), qh, IsN.new (by rw [upd_same]; unfold nT; rw [q1, q2]; rfl), ?_, fun H6 pm s8 n8 e8 => ?_⟩⟩⟩
          · exact fitL bs (show R2b qh 0 1 from ⟨by rw [q1]; decide, by rw [q2]; decide⟩) (by omega) (by omega)
          have em : (lo + hi) * qh = (lo + hi) / 2 := by grind
          rw [em] at e8
          have s78 := s6.trans ((same_new n7).trans s8)
          have s38 := s35.trans s78
          have hm0 : IsN K H6 pm ((lo + hi) / 2) := .new e8
          have M0 := Mid.start am B
          have bm0 := M0.bits am al B
          refine ⟨F, cF.at s38, fm, by omega, (lo + hi) / 2, hm0, bm0.mono (by omega) (by omega), fun H7 u5 s9 n9 e9 => ⟨_, SqT.of e9, rfl, _, _, rfl, _, _, rfl, rfl, _, rfl, ite2 (fun c2 => ⟨rfl, ite2 (fun c3 => ?_) (fun c3 => ?_)⟩) (fun c2 => ?_)⟩⟩
          · have c2 := of_decide_eq_true c2
            have c3 := V.int.inj c3
            have nb := (bf_nf fm fn ((lo + hi) / 2)).2 c2
            have r0 : rt ρ ((lo + hi) / 2) = 0 := by
              have a := (hR.lo _).mp (show BF F ((lo + hi) / 2) ≤ k by omega)
              have b : rt ρ ((lo + hi) / 2) ≠ 1 := fun z => by have := (hR.le _).mpr z; omega
              have := rt_vals hR.lt ((lo + hi) / 2)
              omega
            have ym : R2b ((lo + hi) / 2) 2420 2400 := bm0.mono (by omega) (by omega)
            exact ⟨by show 2 ≤ sizeLine; decide, fun r nr => hq _ r _ _ (sG.trans (sM.trans (s38.trans (s9.trans (same_new nr))))) (IsI.new (hm0.at s9) (hm0.at s9) nr) ⟨am, rA, .inl ⟨rfl, r0⟩⟩ ym ym⟩
          · refine ⟨by decide, by decide, by decide, by decide, ?_⟩
            refine frr (lo := 37) (n := (57 - 37 : Int).toNat) (fun j σ H' => ∃ (pm : Addr) (x : Rat) (y9 y10 y11 y12 : Option V), σ = [some (.ref c), some (.int k), some (.ref o), some (.ref pl), some (.ref ph), some (.ref M), some (V.int (0 + ↑i)), some (V.int (BF (allF F g) hi - BF (allF F g) lo)), some (.ref pm), y9, y10, y11, y12] ∧ Same H7 H' ∧ IsN K H' pm x ∧ Mid (allF F g) (61 * i) lo hi j x) ⟨pm, _, _, _, _, _, rfl, Same.refl _, hm0.at s9, M0⟩ (fun j σ H8 hj q => ?_) (fun σ H8 q => ?_)
            · obtain ⟨pm, x, y9, y10, y11, y12, rfl, s10, hx, Mj⟩ := q
              have s37 := s38.trans (s9.trans s10)
              have hhi8 := hhi.at (s78.trans (s9.trans s10))
              have bx := Mj.bits am al B
              have j20 : j < 20 := hj
              simp (maxSteps := 2000000) only [NewO, tLc, wipe, List.map_cons, List.map_nil, tSeq, tIfS, tTest, tOp, tVar, tC, rI0, tPar, tUn, rU, tCons, tNil, tAsg, gName, tCB, tRet, tTup, tLst, rI, rGcd, tNext, tCall, tCallN, tIf, tSl, tPart, tNoPart, rSlL, tDrop, tBM, tBM0, rAppend, rPop, tAndV, tOrV, tNotV, tAnd, tOr, tNot, tB, rEq, rNe, scal_int, gTup, gCons, gNil, gUnl, gSub, rSetL, tRevL, tAug, ipI, rIxL, rIxT, rCat, rRep, TruV, iList, iRng1, iRng2, iRng3, iEnum, tFor, tYes, List.append_nil, List.cons_append, List.nil_append, List.getElem?_cons_zero, List.getElem?_cons_succ, List.set_cons_zero, List.set_cons_succ, Option.some.injEq, exists_eq_left', exists_eq_left, exists_and_left, V.int.injEq, V.bl.injEq, V.ref.injEq, List.cons.injEq, and_true, true_and, and_assoc, decide_eq_true_eq, Bool.not_eq_true', if_true, if_false, Bool.false_eq_true, ite_true, ite_false, Bool.true_eq_false, reduceCtorEq, false_and, and_false, exists_false, false_or, or_false, gUnl, tCallN, rMax, tBreak]
              refine ⟨_, cA.at s37, am, by omega, x, hx, bx.mono (by omega) (by omega), fun H9 u6 s11 n11 e11 => ⟨_, SqT.of e11, _, rfl, _, rfl, ite2 (fun c4 => ?_) (fun c4 => ?_)⟩⟩
              · have zx := of_decide_eq_true c4
                obtain ⟨qj, g1, g2, g3⟩ := inv_nd (37 + j) (by omega)
                have g3 : qj * (37 + (j : Rat)) = 1 := by push_cast at g3; exact g3
                have bd : R2b (hi - x) (7 + 61 * i + 61 * i + 61 + 61 * i + 200) (61 * i + (61 * i + 61)) := by
                  have := bh.add bx.neg (m := 7 + 61 * i + 61 * i + 61 + 61 * i + 100) (by omega) (by omega)
                  rw [← Rat.sub_eq_add_neg] at this
                  exact this.mono (by omega) (Nat.le_refl _)
                have bq : R2b qj 0 6 := ⟨by rw [g1]; decide, by rw [g2]; show 37 + j ≤ 64; omega⟩
                refine ⟨hi, hhi8.at s11, x, hx.at s11, fitL bh bx (by omega) (by omega), fun H10 v1 s12 n12 e12 => ⟨by show 2 ≤ sizeLine; decide, fun v2 n13 => ⟨hi - x, (IsN.new e12).at (same_new n13), qj, IsN.new (by rw [upd_same]; unfold nT; rw [g1, g2]; push_cast; rfl), fitL bd bq (by omega) (by omega), fun H11 v3 s14 n14 e14 => ⟨x, ((hx.at s11).at s12).at ((same_new n13).trans s14), _, .new e14, fitL bx (bd.mul bq) (by omega) (by omega), fun H12 v4 s15 n15 e15 => ⟨s10.trans (s11.trans (s12.trans ((same_new n13).trans (s14.trans s15)))), _, .new e15, Mj.move am an B.lt j20 zx g3⟩⟩⟩⟩⟩
              · have zx : prodE (allF F g) x ≠ 0 := fun z => c4 (decide_eq_true z)
                exact ⟨s10.trans s11, x, hx.at s11, Mj.rest B.lt zx⟩
            · obtain ⟨pm, x, y9, y10, y11, y12, rfl, s10, hx, Mj⟩ := q
              obtain ⟨zx, x1, x2, w1, w2, M1, M2, M3, M4, M5, M6⟩ := Mid.done am al B Mj
              have s37 := s38.trans (s9.trans s10)
              have bx := Mj.bits am al B
              have hlo8 := hlo.at (s78.trans (s9.trans s10))
              have hhi8 := hhi.at (s78.trans (s9.trans s10))
              have ew : wd (i + 1) = (19 / 28) * wd i := rfl
              have zr : rt ρ x ≠ 0 := fun z => zx ((prodE_zero am).mpr ⟨ρ, rA, z⟩)
              have vr := rt_vals hR.lt x
              simp (maxSteps := 2000000) only [NewO, tLc, wipe, List.map_cons, List.map_nil, tSeq, tIfS, tTest, tOp, tVar, tC, rI0, tPar, tUn, rU, tCons, tNil, tAsg, gName, tCB, tRet, tTup, tLst, rI, rGcd, tNext, tCall, tCallN, tIf, tSl, tPart, tNoPart, rSlL, tDrop, tBM, tBM0, rAppend, rPop, tAndV, tOrV, tNotV, tAnd, tOr, tNot, tB, rEq, rNe, scal_int, gTup, gCons, gNil, gUnl, gSub, rSetL, tRevL, tAug, ipI, rIxL, rIxT, rCat, rRep, TruV, iList, iRng1, iRng2, iRng3, iEnum, tFor, tYes, List.append_nil, List.cons_append, List.nil_append, List.getElem?_cons_zero, List.getElem?_cons_succ, List.set_cons_zero, List.set_cons_succ, Option.some.injEq, exists_eq_left', exists_eq_left, exists_and_left, V.int.injEq, V.bl.injEq, V.ref.injEq, List.cons.injEq, and_true, true_and, and_assoc, decide_eq_true_eq, Bool.not_eq_true', if_true, if_false, Bool.false_eq_true, ite_true, ite_false, Bool.true_eq_false, reduceCtorEq, false_and, and_false, exists_false, false_or, or_false, gUnl, tCallN, rMax, tBreak]
              refine ⟨F, cF.at s37, fm, by omega, x, hx, bx.mono (by omega) (by omega), fun H9 u6 s11 n11 e11 => ⟨_, SqT.of e11, _, rfl, _, rfl, ite2 (fun c4 => ?_) (fun c4 => ?_)⟩⟩
              · have r1 : ¬ 0 ≤ rt ρ x := fun z => by have := (hR.lo x).mpr z; omega
                exact ⟨s37.trans s11, lo, hlo8.at s11, x, hx.at s11, ⟨⟨M1, M2, by rw [show 61 * (i + 1) = 61 * i + 61 by omega]; exact M3, M6, M4⟩, B.l1, (by have := B.l2; grind), x1, B.a, by omega, B.z1, zx⟩, by rw [ew]; grind, by omega⟩
              · have r1 : 0 ≤ rt ρ x := (hR.lo x).mp (by omega)
                exact ⟨s37.trans s11, x, hx.at s11, hi, hhi8.at s11, ⟨⟨M1, M2, by rw [show 61 * (i + 1) = 61 * i + 61 by omega]; exact M3, M4, M5⟩, (by have := B.l1; grind), B.l2, x2, by omega, B.b, zx, B.z2⟩, by rw [ew]; grind, by omega⟩
          · refine ⟨by decide, by decide, by decide, by decide, ?_⟩
            refine frr (lo := 37) (n := (57 - 37 : Int).toNat) (fun j σ H' => ∃ (pm : Addr) (x : Rat) (y9 y10 y11 y12 : Option V), σ = [some (.ref c), some (.int k), some (.ref o), some (.ref pl), some (.ref ph), some (.ref M), some (V.int (0 + ↑i)), some (V.int (BF (allF F g) hi - BF (allF F g) lo)), some (.ref pm), y9, y10, y11, y12] ∧ Same H7 H' ∧ IsN K H' pm x ∧ Mid (allF F g) (61 * i) lo hi j x) ⟨pm, _, _, _, _, _, rfl, Same.refl _, hm0.at s9, M0⟩ (fun j σ H8 hj q => ?_) (fun σ H8 q => ?_)
            · obtain ⟨pm, x, y9, y10, y11, y12, rfl, s10, hx, Mj⟩ := q
              have s37 := s38.trans (s9.trans s10)
              have hhi8 := hhi.at (s78.trans (s9.trans s10))
              have bx := Mj.bits am al B
              have j20 : j < 20 := hj
              simp (maxSteps := 2000000) only [NewO, tLc, wipe, List.map_cons, List.map_nil, tSeq, tIfS, tTest, tOp, tVar, tC, rI0, tPar, tUn, rU, tCons, tNil, tAsg, gName, tCB, tRet, tTup, tLst, rI, rGcd, tNext, tCall, tCallN, tIf, tSl, tPart, tNoPart, rSlL, tDrop, tBM, tBM0, rAppend, rPop, tAndV, tOrV, tNotV, tAnd, tOr, tNot, tB, rEq, rNe, scal_int, gTup, gCons, gNil, gUnl, gSub, rSetL, tRevL, tAug, ipI, rIxL, rIxT, rCat, rRep, TruV, iList, iRng1, iRng2, iRng3, iEnum, tFor, tYes, List.append_nil, List.cons_append, List.nil_append, List.getElem?_cons_zero, List.getElem?_cons_succ, List.set_cons_zero, List.set_cons_succ, Option.some.injEq, exists_eq_left', exists_eq_left, exists_and_left, V.int.injEq, V.bl.injEq, V.ref.injEq, List.cons.injEq, and_true, true_and, and_assoc, decide_eq_true_eq, Bool.not_eq_true', if_true, if_false, Bool.false_eq_true, ite_true, ite_false, Bool.true_eq_false, reduceCtorEq, false_and, and_false, exists_false, false_or, or_false, gUnl, tCallN, rMax, tBreak]
              refine ⟨_, cA.at s37, am, by omega, x, hx, bx.mono (by omega) (by omega), fun H9 u6 s11 n11 e11 => ⟨_, SqT.of e11, _, rfl, _, rfl, ite2 (fun c4 => ?_) (fun c4 => ?_)⟩⟩
              · have zx := of_decide_eq_true c4
                obtain ⟨qj, g1, g2, g3⟩ := inv_nd (37 + j) (by omega)
                have g3 : qj * (37 + (j : Rat)) = 1 := by push_cast at g3; exact g3
                have bd : R2b (hi - x) (7 + 61 * i + 61 * i + 61 + 61 * i + 200) (61 * i + (61 * i + 61)) := by
                  have := bh.add bx.neg (m := 7 + 61 * i + 61 * i + 61 + 61 * i + 100) (by omega) (by omega)
                  rw [← Rat.sub_eq_add_neg] at this
                  exact this.mono (by omega) (Nat.le_refl _)
                have bq : R2b qj 0 6 := ⟨by rw [g1]; decide, by rw [g2]; show 37 + j ≤ 64; omega⟩
                refine ⟨hi, hhi8.at s11, x, hx.at s11, fitL bh bx (by omega) (by omega), fun H10 v1 s12 n12 e12 => ⟨by show 2 ≤ sizeLine; decide, fun v2 n13 => ⟨hi - x, (IsN.new e12).at (same_new n13), qj, IsN.new (by rw [upd_same]; unfold nT; rw [g1, g2]; push_cast; rfl), fitL bd bq (by omega) (by omega), fun H11 v3 s14 n14 e14 => ⟨x, ((hx.at s11).at s12).at ((same_new n13).trans s14), _, .new e14, fitL bx (bd.mul bq) (by omega) (by omega), fun H12 v4 s15 n15 e15 => ⟨s10.trans (s11.trans (s12.trans ((same_new n13).trans (s14.trans s15)))), _, .new e15, Mj.move am an B.lt j20 zx g3⟩⟩⟩⟩⟩
              · have zx : prodE (allF F g) x ≠ 0 := fun z => c4 (decide_eq_true z)
                exact ⟨s10.trans s11, x, hx.at s11, Mj.rest B.lt zx⟩
            · obtain ⟨pm, x, y9, y10, y11, y12, rfl, s10, hx, Mj⟩ := q
              obtain ⟨zx, x1, x2, w1, w2, M1, M2, M3, M4, M5, M6⟩ := Mid.done am al B Mj
              have s37 := s38.trans (s9.trans s10)
              have bx := Mj.bits am al B
              have hlo8 := hlo.at (s78.trans (s9.trans s10))
              have hhi8 := hhi.at (s78.trans (s9.trans s10))
              have ew : wd (i + 1) = (19 / 28) * wd i := rfl
              have zr : rt ρ x ≠ 0 := fun z => zx ((prodE_zero am).mpr ⟨ρ, rA, z⟩)
              have vr := rt_vals hR.lt x
              simp (maxSteps := 2000000) only [NewO, tLc, wipe, List.map_cons, List.map_nil, tSeq, tIfS, tTest, tOp, tVar, tC, rI0, tPar, tUn, rU, tCons, tNil, tAsg, gName, tCB, tRet, tTup, tLst, rI, rGcd, tNext, tCall, tCallN, tIf, tSl, tPart, tNoPart, rSlL, tDrop, tBM, tBM0, rAppend, rPop, tAndV, tOrV, tNotV, tAnd, tOr, tNot, tB, rEq, rNe, scal_int, gTup, gCons, gNil, gUnl, gSub, rSetL, tRevL, tAug, ipI, rIxL, rIxT, rCat, rRep, TruV, iList, iRng1, iRng2, iRng3, iEnum, tFor, tYes, List.append_nil, List.cons_append, List.nil_append, List.getElem?_cons_zero, List.getElem?_cons_succ, List.set_cons_zero, List.set_cons_succ, Option.some.injEq, exists_eq_left', exists_eq_left, exists_and_left, V.int.injEq, V.bl.injEq, V.ref.injEq, List.cons.injEq, and_true, true_and, and_assoc, decide_eq_true_eq, Bool.not_eq_true', if_true, if_false, Bool.false_eq_true, ite_true, ite_false, Bool.true_eq_false, reduceCtorEq, false_and, and_false, exists_false, false_or, or_false, gUnl, tCallN, rMax, tBreak]
              refine ⟨F, cF.at s37, fm, by omega, x, hx, bx.mono (by omega) (by omega), fun H9 u6 s11 n11 e11 => ⟨_, SqT.of e11, _, rfl, _, rfl, ite2 (fun c4 => ?_) (fun c4 => ?_)⟩⟩
              · have r1 : ¬ 0 ≤ rt ρ x := fun z => by have := (hR.lo x).mpr z; omega
                exact ⟨s37.trans s11, lo, hlo8.at s11, x, hx.at s11, ⟨⟨M1, M2, by rw [show 61 * (i + 1) = 61 * i + 61 by omega]; exact M3, M6, M4⟩, B.l1, (by have := B.l2; grind), x1, B.a, by omega, B.z1, zx⟩, by rw [ew]; grind, by omega⟩
              · have r1 : 0 ≤ rt ρ x := (hR.lo x).mp (by omega)
                exact ⟨s37.trans s11, x, hx.at s11, hi, hhi8.at s11, ⟨⟨M1, M2, by rw [show 61 * (i + 1) = 61 * i + 61 by omega]; exact M3, M4, M5⟩, (by have := B.l1; grind), B.l2, x2, by omega, B.b, zx, B.z2⟩, by rw [ew]; grind, by omega⟩
      · obtain ⟨pl, ph, lo, hi, y6, y7, y8, y9, y10, y11, y12, rfl, s3, hlo, hhi, B, hw, i39⟩ := q
        exact absurd i39 (by decide)
end
end W23
namespace W23
open PySem PySem.Spec PyProof.Rows L2 K23
theorem prodS_small : ∀ {l : List Int}, (∀ r ∈ l, r.natAbs ≤ 1) → (prodS l).natAbs ≤ 1
  | [], _ => by decide
  | r :: t, h => by
    have a := h r List.mem_cons_self
    have b := prodS_small fun s hs => h s (List.mem_cons_of_mem _ hs)
    show (-r * prodS t).natAbs ≤ 1
    rw [Int.natAbs_mul, Int.natAbs_neg]
    exact Nat.mul_le_mul a b
theorem sgA_small (ρ : Nat) (g : List Int) : (sgA ρ g).natAbs ≤ 1 := by
  unfold sgA
  refine prodS_small fun r hr => ?_
  obtain ⟨j, _, rfl⟩ := List.mem_map.mp hr
  split
  · decide
  · split <;> decide
section
variable {P : Program} {w : World} {K : PySem.W.Frag} {mg : Str → Option Value} {base : Heap} {A : Nat → Addr} {D : Nat → FuncData}
theorem ok__law_sign_at_root (T : Tx P K mg base A D) : FnOk P w K mg base CX0 45 (A 66) (D 66) ["_law_factors_here", "_law_place", "_law_others"] (fun vs H Q _ => ∃ (c o q : Addr) (ws : List V) (F : List (List Int)) (g : List Int) (k ρ : Nat), vs = [.ref c, .int k, .ref o] ∧ H c = some (.lst ws) ∧ LV H c ws F ∧ H o = some (.lst [.ref q]) ∧ H q = some (iL g) ∧ (∀ f ∈ F, f ∈ menu) ∧ F.Nodup ∧ F.length ≤ 4 ∧ g ∈ menu ∧ IsR F k ρ ∧ ∀ H', Same H H' → Q (.int (sgA ρ g)) H') := by
  refine T.f__law_sign_at_root.ok sc__law_sign_at_root (fun vs H Q E h => ?_) (fun cdv Ar outer s H vs Q E hr h => ?_)
  · obtain ⟨c, o, q, ws, F, g, k, ρ, rfl, _⟩ := h
    rfl
  · obtain ⟨c, o, q, ws, F, g, k, ρ, rfl, hc, hF, ho, hg, fm, fn, fl, gm, hR, hq⟩ := h
    refine ⟨_, PSs.nox (pss_cons (ps_asg (pe_call (ok__law_bracket T) (hr.mono (by decide)) (by rfl) T.g__law_bracket T.f__law_bracket.kp (b__law_bracket T) .nil pass0 (pa_cons (pv 0) (pa_cons (pv 1) (pa_cons (pv 2) pa_nil)))) (pg_tup (n := 2) (by rfl) (pgs_cons (pg_name (i := 3) sc__law_sign_at_root.nd rfl (.inl rfl)) (pgs_cons (pg_name (i := 4) sc__law_sign_at_root.nd rfl (.inl rfl)) pgs_nil)))) (pss_cons (ps_set (i := 5) sc__law_sign_at_root.nd rfl (.inl rfl) (pe_lst pa_nil)) (pss_cons (ps_for PassesOwn.never rfl (pi_list (pv 2)) (pg_name (i := 6) sc__law_sign_at_root.nd rfl (.inl rfl)) (pss_one (ps_if (pt_cmpR (op_eqD hr.units) (pv 3) (pv 4) (nomark _)) (pss_one (ps_expr (pe_bm PySem.F.plainAttrs_list PySem.F.slot_list_append PySem.F.type_list_append mt_append (pv 5) (pa_cons (pe_call (ok__law_sign_at T) (hr.mono (by decide)) (by rfl) T.g__law_sign_at T.f__law_sign_at.kp (b__law_sign_at T) .nil pass0 (pa_cons (pv 6) (pa_cons (pv 3) pa_nil))) pa_nil)))) (pss_one (ps_if (PW.pt (pw_and (pt_cmpR (op_inD (un65 hr)) (pv 6) (pv 0) (nomarkIn _)) (pw_and1 (pt_cmpR op_gt (pe_ix ix_tup (pe_call (ok__law_below T) (hr.mono (by decide)) (by rfl) T.g__law_below T.f__law_below.kp (b__law_below T) .nil pass0 (pa_cons (pe_lst (pa_cons (pv 6) pa_nil)) (pa_cons (pv 4) pa_nil))) pe_int (fun _ _ => rfl)) (pe_ix ix_tup (pe_call (ok__law_below T) (hr.mono (by decide)) (by rfl) T.g__law_below T.f__law_below.kp (b__law_below T) .nil pass0 (pa_cons (pe_lst (pa_cons (pv 6) pa_nil)) (pa_cons (pv 3) pa_nil))) pe_int (fun _ _ => rfl)) (nomark _))))) (pss_one (ps_expr (pe_bm PySem.F.plainAttrs_list PySem.F.slot_list_append PySem.F.type_list_append mt_append (pv 5) (pa_cons pe_int pa_nil)))) (pss_one (ps_expr (pe_bm PySem.F.plainAttrs_list PySem.F.slot_list_append PySem.F.type_list_append mt_append (pv 5) (pa_cons (pe_call (ok__law_sign_at T) (hr.mono (by decide)) (by rfl) T.g__law_sign_at T.f__law_sign_at.kp (b__law_sign_at T) .nil pass0 (pa_cons (pv 6) (pa_cons (pv 4) pa_nil))) pa_nil))))))))) (pss_cons (ps_set (i := 7) sc__law_sign_at_root.nd rfl (.inl rfl) pe_int) (pss_cons (ps_for PassesOwn.never rfl (pi_list (pv 5)) (pg_name (i := 8) sc__law_sign_at_root.nd rfl (.inl rfl)) (pss_one (ps_set (i := 7) sc__law_sign_at_root.nd rfl (.inl rfl) (pe_op op_mulX (pv 7) (pv 8))))) (pss_one (ps_ret (pv 7)))))))), ?_⟩
    rw [show start ["_law_factors_here", "_law_place", "_law_others", "_law_low", "_law_high", "_law_signs", "_law_one", "_law_found", "_law_sign_here"] [V.ref c, V.int k, V.ref o] = [some (V.ref c), some (V.int k), some (V.ref o), none, none, none, none, none, none] from rfl]
    simp (maxSteps := 2000000) only [NewO, tLc, wipe, List.map_cons, List.map_nil, tSeq, tIfS, tTest, tOp, tVar, tC, rI0, tPar, tUn, rU, tCons, tNil, tAsg, gName, tCB, tRet, tTup, tLst, rI, rGcd, tNext, tCall, tCallN, tIf, tSl, tPart, tNoPart, rSlL, tDrop, tBM, tBM0, rAppend, rPop, tAndV, tOrV, tNotV, tAnd, tOr, tNot, tB, rEq, rNe, scal_int, gTup, gCons, gNil, gUnl, gSub, rSetL, tRevL, tAug, ipI, rIxL, rIxT, rCat, rRep, TruV, iList, iRng1, iRng2, iRng3, iEnum, tFor, tYes, List.append_nil, List.cons_append, List.nil_append, List.getElem?_cons_zero, List.getElem?_cons_succ, List.set_cons_zero, List.set_cons_succ, Option.some.injEq, exists_eq_left', exists_eq_left, exists_and_left, V.int.injEq, V.bl.injEq, V.ref.injEq, List.cons.injEq, and_true, true_and, and_assoc, decide_eq_true_eq, Bool.not_eq_true', if_true, if_false, Bool.false_eq_true, ite_true, ite_false, Bool.true_eq_false, reduceCtorEq, false_and, and_false, exists_false, false_or, or_false, gUnl, tCallN, rMax, tBreak, cxK, spBrk, spBelow, spSgnL, rEqD, rInD]
    refine ⟨o, q, ws, F, g, k, rfl, rfl, hc, hF, ho, hg, fm, fn, fl, gm, ρ, hR, fun H1 p lo hi s1 hI hA bl bh => ?_⟩
    obtain ⟨u, v, i1, hlo, hhi⟩ := hI
    have ρ26 := hR.lt
    refine ⟨_, i1, rfl, _, _, rfl, _, _, rfl, rfl, Nat.zero_le _, fun S0 nS => ⟨⟨_, SqL.of ((same_new nS) _ _ (s1 _ _ ho))⟩, frl (xs := [V.ref q]) (fun i σ H' => ∃ (S : Addr) (y6 y7 y8 : Option V), σ = [some (.ref c), some (.int k), some (.ref o), some (.ref u), some (.ref v), some (.ref S), y6, y7, y8] ∧ Same H1 H' ∧ H1 S = none ∧ H' S = some (iL ([sgA ρ g].take i))) ⟨S0, none, none, none, rfl, same_new nS, nS, upd_same⟩ (fun i σ H' hi q => ?_) (fun i x σ H' hx q => ?_) (fun σ H' q => ?_)⟩⟩
    · obtain ⟨S, y6, y7, y8, rfl, s, _⟩ := q
      exact SqL.of (s _ _ (s1 _ _ ho))
    · obtain ⟨S, y6, y7, y8, rfl, s, nS, hS⟩ := q
      obtain ⟨rfl, rfl⟩ : i = 0 ∧ x = V.ref q := by
        cases i with
        | zero => exact ⟨rfl, (Option.some.inj hx).symm⟩
        | succ i => simp at hx
      simp (maxSteps := 2000000) only [NewO, tLc, wipe, List.map_cons, List.map_nil, tSeq, tIfS, tTest, tOp, tVar, tC, rI0, tPar, tUn, rU, tCons, tNil, tAsg, gName, tCB, tRet, tTup, tLst, rI, rGcd, tNext, tCall, tCallN, tIf, tSl, tPart, tNoPart, rSlL, tDrop, tBM, tBM0, rAppend, rPop, tAndV, tOrV, tNotV, tAnd, tOr, tNot, tB, rEq, rNe, scal_int, gTup, gCons, gNil, gUnl, gSub, rSetL, tRevL, tAug, ipI, rIxL, rIxT, rCat, rRep, TruV, iList, iRng1, iRng2, iRng3, iEnum, tFor, tYes, List.append_nil, List.cons_append, List.nil_append, List.getElem?_cons_zero, List.getElem?_cons_succ, List.set_cons_zero, List.set_cons_succ, Option.some.injEq, exists_eq_left', exists_eq_left, exists_and_left, V.int.injEq, V.bl.injEq, V.ref.injEq, List.cons.injEq, and_true, true_and, and_assoc, decide_eq_true_eq, Bool.not_eq_true', if_true, if_false, Bool.false_eq_true, ite_true, ite_false, Bool.true_eq_false, reduceCtorEq, false_and, and_false, exists_false, false_or, or_false, gUnl, tCallN, rMax, tBreak]
      have hgq : IsL K H' q g := .new (s _ _ (s1 _ _ hg))
      have gl4 := (of_decide_eq_true (List.all_eq_true.mp menu_len _ gm)).2
      have gb : PB g 10 := fun i => Nat.lt_of_le_of_lt (Nat.le_trans (l1_coef g i) (l1_menu gm)) (by decide)
      have hlo := hlo.at s
      have hhi := hhi.at s
      have hcv := s _ _ (s1 _ _ hc)
      have hFv := (hF.at s1).at s
      have fin : ∀ (H3 : Hp) (z : Int), z = sgA ρ g → Same H' H3 → tyV K "list" (V.ref S) H3 ∧ ∃ x, H3 S = some (.lst x) ∧ x.length < sizeLine ∧ Same H1 (upd H3 S (.lst (x ++ [V.int z]))) ∧ H1 S = none ∧ upd H3 S (.lst (x ++ [V.int z])) S = some (iL (([sgA ρ g]).take (0 + 1))) := fun H3 z hz s3 => by
        have h3 := s3 _ _ hS
        refine ⟨.inl ⟨rfl, _, SqL.of h3⟩, _, h3, lt_size (by show 0 ≤ _; omega), same_updD nS (s.trans s3), nS, ?_⟩
        rw [upd_same, hz]; rfl
      have gA : g ∈ allF F g := allF_mem.mpr (.inr rfl)
      refine ⟨_, dp_num hlo, _, dp_num hhi, rfl, rfl, ?_⟩
      rw [num_ne]
      refine ite2 (fun c1 => ?_) (fun c1 => ?_)
      · have c1 := of_decide_eq_true c1
        have r0 : rt ρ lo = 0 := by
          rcases hA.at_ with ⟨_, a⟩ | ⟨a, _⟩
          · exact a
          · grind
        refine ⟨(fin H' _ rfl (Same.refl _)).1, g, hgq, lo, hlo, gl4, gb, bl, fun H3 s3 => ?_⟩
        exact (fin H3 _ (sgA_at ρ26 gm r0) s3).2
      · have c1 : lo ≠ hi := fun z => c1 (decide_eq_true z)
        obtain ⟨hlt, r1, r2, off⟩ := hA.at_.resolve_left fun z => c1 z.1
        have inn := hA.inn
        have last : ρ ∉ rk g → ∀ H3, Same H' H3 → tyV K "list" (V.ref S) H3 ∧ ∃ x, IsL K H3 q x ∧ ∃ x5, IsN K H3 v x5 ∧ x.length ≤ 4 ∧ PB x 10 ∧ R2b x5 2420 2400 ∧ ∀ H4, Same H3 H4 → ∃ y, H4 S = some (.lst y) ∧ y.length < sizeLine ∧ Same H1 (upd H4 S (.lst (y ++ [V.int (sg (evI x x5))]))) ∧ H1 S = none ∧ upd H4 S (.lst (y ++ [V.int (sg (evI x x5))])) S = some (iL (([sgA ρ g]).take (0 + 1))) := fun nr H3 s3 => by
          have e := (sgA_off ρ26 gm inn fun j hj => by
            have jg := mem_rk.mp hj
            refine off j (mem_flat.mpr ⟨jg.1, by rw [jg.2]; exact gA⟩) fun z => nr (by rw [← z]; exact hj)).2
          exact ⟨(fin H3 _ rfl s3).1, g, hgq.at s3, hi, hhi.at s3, gl4, gb, bh, fun H4 s4 => (fin H4 _ e (s3.trans s4)).2⟩
        refine ⟨_, dp_list hgq, _, .lst (SqL.of hcv) (dp_lists (hFv.cl (K := K))), shaped_l g, shaped_ll F, ?_⟩
        rw [any_ll]
        refine ite2 (fun c2 => ?_) (fun c2 => ?_)
        · have one : ∀ (H3 : Hp) (p : Addr), Same H' H3 → H3 p = none → IsC K (upd H3 p (.lst [V.ref q])) p [g] := fun H3 p s3 n3 => by
            have hg3 := s3 _ _ (s _ _ (s1 _ _ hg))
            exact IsC.of upd_same (LV.upd (LV.snoc (S := []) LV.nil (ne_of_none hg3 n3) hg3))
          have gm1 : ∀ f ∈ [g], f ∈ menu := fun f hf => by
            rcases List.mem_cons.mp hf with rfl | hf
            · exact gm
            · cases hf
          refine ⟨by show 1 ≤ sizeLine; decide, fun p3 n3 => ⟨[g], one H' p3 (Same.refl _) n3, gm1, by show 1 ≤ 100; decide, hi, hhi.at (same_new n3), bh.mono (by decide) (by decide), fun H3 p4 s4 n4 e4 => ⟨_, SqT.of e4, _, rfl, by show 1 ≤ sizeLine; decide, fun p5 n5 => ?_⟩⟩⟩
          have s34 := (same_new n3).trans s4
          refine ⟨[g], one H3 p5 s34 n5, gm1, by show 1 ≤ 100; decide, lo, (hlo.at s34).at (same_new n5), bl.mono (by decide) (by decide), fun H4 p6 s6 n6 e6 => ⟨_, SqT.of e6, _, rfl, _, rfl, _, rfl, ?_⟩⟩
          have s36 := s34.trans ((same_new n5).trans s6)
          have b1 := BF_flat gm1 lo
          have b2 := BF_flat gm1 hi
          have fl1 : flat [g] = rk g := by simp [flat]
          rw [fl1] at b1 b2
          have mono : ∀ j ∈ rk g, decide (rt j lo < 0) = true → decide (rt j hi < 0) = true := fun j hj z => decide_eq_true (by
            have z := of_decide_eq_true z
            have j26 := (mem_rk.mp hj).1
            have m := (mono_le j26 (show lo ≤ hi by grind)).1
            have v1 := rt_vals j26 lo
            have := m (by omega)
            omega)
          refine ite2 (fun c3 => ?_) (fun c3 => ?_)
          · have hρ : ρ ∈ rk g := by
              apply Decidable.byContradiction
              intro nr
              have : (rk g).countP (fun j => decide (rt j hi < 0)) ≤ (rk g).countP (fun j => decide (rt j lo < 0)) := cnt_le fun j hj z => decide_eq_true (by
                have z := of_decide_eq_true z
                have jg := mem_rk.mp hj
                apply Decidable.byContradiction
                intro w
                have := hA.only (mem_flat.mpr ⟨jg.1, by rw [jg.2]; exact gA⟩) (by omega) (by omega)
                rw [this] at hj; exact nr hj)
              omega
            exact fin H4 0 (sgA_zero hρ).symm s36
          · refine last (fun hρ => c3 ?_) H4 s36
            apply Decidable.byContradiction
            intro w
            have := cnt_eq mono (by omega) ρ hρ (decide_eq_true (by omega))
            have := of_decide_eq_true this
            omega
        · refine last (fun hρ => c2 ?_) H' (Same.refl _)
          have a := mem_rk.mp hρ
          have b := mem_flat.mp hR.mem
          rw [a.2] at b
          exact decide_eq_true b.2
    · obtain ⟨S, y6, y7, y8, rfl, s, nS, hS⟩ := q
      simp (maxSteps := 2000000) only [NewO, tLc, wipe, List.map_cons, List.map_nil, tSeq, tIfS, tTest, tOp, tVar, tC, rI0, tPar, tUn, rU, tCons, tNil, tAsg, gName, tCB, tRet, tTup, tLst, rI, rGcd, tNext, tCall, tCallN, tIf, tSl, tPart, tNoPart, rSlL, tDrop, tBM, tBM0, rAppend, rPop, tAndV, tOrV, tNotV, tAnd, tOr, tNot, tB, rEq, rNe, scal_int, gTup, gCons, gNil, gUnl, gSub, rSetL, tRevL, tAug, ipI, rIxL, rIxT, rCat, rRep, TruV, iList, iRng1, iRng2, iRng3, iEnum, tFor, tYes, List.append_nil, List.cons_append, List.nil_append, List.getElem?_cons_zero, List.getElem?_cons_succ, List.set_cons_zero, List.set_cons_succ, Option.some.injEq, exists_eq_left', exists_eq_left, exists_and_left, V.int.injEq, V.bl.injEq, V.ref.injEq, List.cons.injEq, and_true, true_and, and_assoc, decide_eq_true_eq, Bool.not_eq_true', if_true, if_false, Bool.false_eq_true, ite_true, ite_false, Bool.true_eq_false, reduceCtorEq, false_and, and_false, exists_false, false_or, or_false, gUnl, tCallN, rMax, tBreak]
      refine ⟨⟨_, SqL.of hS⟩, frl (xs := [V.int (sgA ρ g)]) (fun i σ H2 => ∃ (y6 y8 : Option V), σ = [some (.ref c), some (.int k), some (.ref o), some (.ref u), some (.ref v), some (.ref S), y6, some (.int (if i = 0 then 1 else sgA ρ g)), y8] ∧ H2 = H') ⟨y6, y8, rfl, rfl⟩ (fun i σ H2 hi q => ?_) (fun i x σ H2 hx q => ?_) (fun σ H2 q => ?_)⟩
      · obtain ⟨y6, y8, rfl, rfl⟩ := q
        exact SqL.of hS
      · obtain ⟨y6, y8, rfl, rfl⟩ := q
        obtain ⟨rfl, rfl⟩ : i = 0 ∧ x = V.int (sgA ρ g) := by
          cases i with
          | zero => exact ⟨rfl, (Option.some.inj hx).symm⟩
          | succ i => simp at hx
        simp (maxSteps := 2000000) only [NewO, tLc, wipe, List.map_cons, List.map_nil, tSeq, tIfS, tTest, tOp, tVar, tC, rI0, tPar, tUn, rU, tCons, tNil, tAsg, gName, tCB, tRet, tTup, tLst, rI, rGcd, tNext, tCall, tCallN, tIf, tSl, tPart, tNoPart, rSlL, tDrop, tBM, tBM0, rAppend, rPop, tAndV, tOrV, tNotV, tAnd, tOr, tNot, tB, rEq, rNe, scal_int, gTup, gCons, gNil, gUnl, gSub, rSetL, tRevL, tAug, ipI, rIxL, rIxT, rCat, rRep, TruV, iList, iRng1, iRng2, iRng3, iEnum, tFor, tYes, List.append_nil, List.cons_append, List.nil_append, List.getElem?_cons_zero, List.getElem?_cons_succ, List.set_cons_zero, List.set_cons_succ, Option.some.injEq, exists_eq_left', exists_eq_left, exists_and_left, V.int.injEq, V.bl.injEq, V.ref.injEq, List.cons.injEq, and_true, true_and, and_assoc, decide_eq_true_eq, Bool.not_eq_true', if_true, if_false, Bool.false_eq_true, ite_true, ite_false, Bool.true_eq_false, reduceCtorEq, false_and, and_false, exists_false, false_or, or_false, gUnl, tCallN, rMax, tBreak]
        have sm := sgA_small ρ g
        refine ⟨mul_bits (a := 1) (b := 1) (by decide) (by show (sgA ρ g).natAbs < 2; omega) (by decide), ?_⟩
        exact ⟨by omega, _, rfl⟩
      · obtain ⟨y6, y8, rfl, rfl⟩ := q
        simp (maxSteps := 2000000) only [NewO, tLc, wipe, List.map_cons, List.map_nil, tSeq, tIfS, tTest, tOp, tVar, tC, rI0, tPar, tUn, rU, tCons, tNil, tAsg, gName, tCB, tRet, tTup, tLst, rI, rGcd, tNext, tCall, tCallN, tIf, tSl, tPart, tNoPart, rSlL, tDrop, tBM, tBM0, rAppend, rPop, tAndV, tOrV, tNotV, tAnd, tOr, tNot, tB, rEq, rNe, scal_int, gTup, gCons, gNil, gUnl, gSub, rSetL, tRevL, tAug, ipI, rIxL, rIxT, rCat, rRep, TruV, iList, iRng1, iRng2, iRng3, iEnum, tFor, tYes, List.append_nil, List.cons_append, List.nil_append, List.getElem?_cons_zero, List.getElem?_cons_succ, List.set_cons_zero, List.set_cons_succ, Option.some.injEq, exists_eq_left', exists_eq_left, exists_and_left, V.int.injEq, V.bl.injEq, V.ref.injEq, List.cons.injEq, and_true, true_and, and_assoc, decide_eq_true_eq, Bool.not_eq_true', if_true, if_false, Bool.false_eq_true, ite_true, ite_false, Bool.true_eq_false, reduceCtorEq, false_and, and_false, exists_false, false_or, or_false, gUnl, tCallN, rMax, tBreak]
        exact hq H2 (s1.trans s)
end
end W23
namespace W23
open PySem PySem.Spec PyProof.Rows L2 K23
/-! ### repr of plain data, no repr being under way -/
def rReprD (K : PySem.W.Frag) : List V → Hp → VK → Prop := fun xs H Q => ∃ (p : Addr) (d : PyData), xs = [.ref p] ∧ Dp K H (.ref p) d ∧ d.showable = true ∧ d.hasDict = false ∧ d.depth ≤ 60 ∧ d.shown.length ≤ sizeLine ∧ Q (.str d.shown) H
theorem call_reprD {X : Cx} (hg : X.A.guards = some []) (hu : X.A.units + 65 < cLine) : CallR X (.builtin "repr") (rReprD X.K) := by
  intro pins s σ H xs us Q I r h
  obtain ⟨p, d, rfl, hd, h1, h2, h3, h4, q⟩ := h
  obtain ⟨u, rfl, rx⟩ := vals1 r
  obtain ⟨as, rd⟩ := Dp.reads I d _ u hd rx
  cases (show u = Value.ref p from rx)
  exact repr_of_reads' rd h1 (fun z => by rw [h2] at z; cases z) hg (by omega) (fun b o e => e) (fun h' u tk hk => ⟨.str d.shown, H, I.kept hk, ⟨_, rfl⟩, q⟩) h4
theorem ints_data : ∀ {l : List Int}, (∀ c ∈ l, c.natAbs < 2 ^ 48) → PyData.weightAll (l.map .int) ≤ 49 * l.length ∧ PyData.leavesShortAll 16 (l.map .int) = true ∧ PyData.showableAll (l.map .int) = true ∧ PyData.hasDictAll (l.map .int) = false ∧ PyData.depthAll (l.map .int) = 0
  | [], _ => ⟨Nat.le_refl _, rfl, rfl, rfl, rfl⟩
  | c :: t, h => by
    obtain ⟨h1, h2, h3, h4, h5⟩ := ints_data (l := t) fun d hd => h d (List.mem_cons_of_mem _ hd)
    have hc := h c List.mem_cons_self
    have lg : c.natAbs.log2 < 48 := by
      by_cases z : c.natAbs = 0
      · rw [z]; decide
      · exact (Nat.log2_lt z).mpr hc
    have w : PyData.weight (.int c) ≤ 48 := by
      simp only [PyData.weight]
      split
      · exact Nat.zero_le _
      · omega
    have s : (PyData.shown (.int c)).length ≤ 16 := by
      have e := int_text_length_le10 (a := c) (k := 15) (by decide) (Nat.lt_trans hc (by decide))
      show (Str.ofString (toString c)).length ≤ 16
      rw [PySem.ofString_length]; exact e
    simp only [List.map_cons, PyData.weightAll, PyData.leavesShortAll, PyData.leavesShort, PyData.showableAll, PyData.showable, PyData.hasDictAll, PyData.hasDict, PyData.depthAll, PyData.depth, h2, h3, h4, h5, List.length_cons, Bool.and_true, Bool.or_false, decide_eq_true_eq, Nat.max_self, and_true]
    exact ⟨by omega, s, by omega⟩
def prT (p o : List Int) : PyData := .tuple [.list (p.map .int), .list (o.map .int)]
theorem prT_ok {p o : List Int} (hp : ∀ c ∈ p, c.natAbs < 2 ^ 48) (ho : ∀ c ∈ o, c.natAbs < 2 ^ 48) (lp : p.length ≤ 15) (lo : o.length ≤ 15) : (prT p o).showable = true ∧ (prT p o).hasDict = false ∧ (prT p o).depth ≤ 60 ∧ (prT p o).shown.length ≤ sizeLine := by
  obtain ⟨p1, p2, p3, p4, p5⟩ := ints_data hp
  obtain ⟨o1, o2, o3, o4, o5⟩ := ints_data ho
  have w : (prT p o).weight ≤ 2000 := by
    simp only [prT, PyData.weight, PyData.weightAll]
    omega
  have ls : (prT p o).leavesShort 16 = true := by
    simp only [prT, PyData.leavesShort, PyData.leavesShortAll, p2, o2, Bool.and_true]
  refine ⟨?_, ?_, ?_, ?_⟩
  · simp only [prT, PyData.showable, PyData.showableAll, p3, o3, Bool.and_true]
  · simp only [prT, PyData.hasDict, PyData.hasDictAll, p4, o4, Bool.or_false]
  · simp only [prT, PyData.depth, PyData.depthAll, p5, o5]
    decide
  · have h := PyData.shown_le 16 (by decide) _ ls
    rw [sizeLine_eq]
    omega
theorem prT_dp {K : PySem.W.Frag} {H : Hp} {t a b : Addr} {p o : List Int} (ht : H t = some (.tup [.ref a, .ref b])) (ha : IsL K H a p) (hb : IsL K H b o) : Dp K H (.ref t) (prT p o) := .tup (SqT.of ht) (.cons (dp_list ha) (.cons (dp_list hb) .nil))
/-- a promise of a function when no repr is under way -/
structure FnG (P : Program) (w : World) (K : PySem.W.Frag) (mg : Str → Option Value) (base : Heap) (CX : CXT) (k : Nat) (f : Addr) (fd : FuncData) (ps : List Str) (sp : Sp) : Prop where
  run : ∀ (A : Around) (outer : List Env) (s : Shared) (H : Hp) (args : Args) (us : List Value) (vs : List V) (Q : VK) (E : XK), A.guards = some [] → Room k A → Env0 P w K mg base A outer s H → BindsTo s fd args (ps.zip us) → Vals vs us → sp vs H Q E →
    codeAny (model P w) A (.call (.ref f) args) (CR CX outer P w H s Q E) s
theorem okG {P : Program} {w : World} {K : PySem.W.Frag} {mg : Str → Option Value} {base : Heap} {CX : CXT} {x qual : Str} {params : Arguments} {body : List Stmt} {scope : Scope} {dvs : List V} {kws : List (Str × V)} {f : Addr} {fd : FuncData} {N ps : List Str} {k : Nat} {sp : Sp}
    (F : FunD K x qual params body scope dvs kws f fd) (S : FnScope N ps scope) (len : ∀ vs H Q E, sp vs H Q E → vs.length = ps.length)
    (hbody : ∀ (cdv : Value) (A : Around) (outer : List Env) (s : Shared) (H : Hp) (vs : List V) (Q : VK) (E : XK), A.guards = some [] → Room k (A.deeper (envOfC qual scope s.heap.objs.size f cdv)) → sp vs H Q E →
      ∃ t, PSs (cxOf CX P w K mg base N qual scope f cdv A outer s H E) body t ∧ t { nx := fun _ H' => Q .non H', rt := Q } (start N vs) H) : FnG P w K mg base CX (k + 1) f fd ps sp := by
  obtain ⟨oc, od, dV, kV, doc, pm, an, cdv, ct, osl, rfl, lk, hcd, _, _⟩ := F.ex
  refine ⟨fun A outer s H args us vs Q E hG hr e0 hb r hsp => ?_⟩
  have hl := len _ _ _ _ hsp
  have keep : ∀ b o, base.get? b = some o → s.heap.get? b = some o := fun b o e => (e0.bs b o e).1
  have KX : K.In s.heap := e0.mod.kin.keeps keep
  have lim : s.heap.NoLimit := e0.mod.nolimit.keeps keep
  have kinds : ∀ y ∈ ps.zip us, scope.names.lookup y.1 = some .local ∨ (scope.names.lookup y.1 = some .cell ∧ ((cellsFrom (s.heap.objs.size + 1) scope.names []).lookup y.1).isSome = true) := fun y hy =>
    (S.par y.1 (List.of_mem_zip hy).1).elim .inl fun q => .inr ⟨q, PySem.W.cellsFrom_some _ _ _ (.inl q)⟩
  refine codeAny_call_function hr.depth (KX _ _ lk) rfl S.co S.gen rfl (PySem.W.codeRec_of KX hcd) (hb _ _ _ _ ?_)
  refine wpAny_newFunctionEnv_cells S.kind kinds fun env he s1 lay => ?_
  subst he
  obtain ⟨t, ht, hq⟩ := hbody cdv A outer s H vs Q E hG (hr.deeper _) hsp
  have I : Inv (cxOf CX P w K mg base N qual scope f cdv A outer s H E) [] (start N vs) H s1 := inv_start S hr.hd e0 hl r lay
  refine ⟨lim.keeps lay.toInCall.keep, codeAny_func (wpAny_mono (ht.run [] s1 (start N vs) H _ I hq) (fun fl s' hs => ?_) fun e s' hs => hs)⟩
  have out : ∀ {σ' : L2.St} {H' : Hp} {v : V} {u : Value}, Inv (cxOf CX P w K mg base N qual scope f cdv A outer s H E) [] σ' H' s' → RelV v u → Q v H' → CE outer P w H s Q u s' :=
    fun J rv q => ⟨_, _, J.os, J.bare, J.base, J.hok, rv, q⟩
  match fl, hs with
  | .ret u, ⟨v, σ', H', J, rv, q⟩ => exact out J rv q
  | .next, ⟨σ', H', J, q⟩ => exact out (v := V.non) (u := Value.none) J rfl q
  | .brk, ⟨_, _, _, q⟩ => exact q.elim
  | .cont, ⟨_, _, _, q⟩ => exact q.elim
end W23
namespace W23
open PySem PySem.Spec PyProof.Rows L2 K23
theorem seq_cut {t u : TS} {D : Ends} {σ : L2.St} {H : Hp} (h : ∀ J : L2.St → Hp → Prop, (∀ σ H, u D σ H → J σ H) → t { D with nx := J } σ H) : tSeq t u D σ H := h _ fun _ _ z => z
theorem LV.take {H : Hp} {C : Addr} {vs : List V} {S : List (List Int)} (h : LV H C vs S) (n : Nat) : LV H C (vs.take n) (S.take n) := by
  refine ⟨by rw [List.length_take, List.length_take, h.len], fun j a e => ?_⟩
  rw [List.getElem?_take] at e
  split at e
  · rename_i c
    obtain ⟨p, e1, e2⟩ := h.at_ j a e
    exact ⟨p, by rw [List.getElem?_take, if_pos c]; exact e1, e2⟩
  · cases e
theorem cut_mid {xs : List V} (h : 20 ≤ xs.length) : cutV xs (some 12) (some 20) = (xs.drop 12).take 8 := by
  show cutV xs (some ((12 : Nat) : Int)) (some ((20 : Nat) : Int)) = _
  unfold cutV
  rw [HT.sIx_nat, HT.sIx_nat, show min 12 xs.length = 12 by omega, show min 20 xs.length = 20 by omega]
theorem for_cut {wi : TI} {g : TG} {tb : TS} {D : Ends} {σ : L2.St} {H : Hp} (h : ∀ B : TS, (∀ D σ H, tb D σ H → B D σ H) → tFor wi g B D σ H) : tFor wi g tb D σ H := h tb fun _ _ _ z => z
theorem pb_mem {l : List Int} {k : Nat} (h : PBd l k) : ∀ c ∈ l, c.natAbs < 2 ^ k := fun c hc => by
  obtain ⟨i, hi, rfl⟩ := List.getElem_of_mem hc
  rw [← cI_get hi]
  exact h i
theorem sgP_small (ρ : Nat) : ∀ O : List (List Int), (sgP ρ O).natAbs ≤ 1
  | [] => Nat.le_refl _
  | g :: O => by
    show (sgA ρ g * sgP ρ O).natAbs ≤ 1
    rw [Int.natAbs_mul]
    exact Nat.mul_le_mul (sgA_small ρ g) (sgP_small ρ O)
theorem sI_small (n : Int) : (sI n).natAbs ≤ 1 := by
  unfold sI
  split <;> split <;> omega
section
variable {P : Program} {w : World} {K : PySem.W.Frag} {mg : Str → Option Value} {base : Heap} {A : Nat → Addr} {D : Nat → FuncData}
def spLaw (K : PySem.W.Frag) : Sp := fun vs H Q _ => ∃ (a : Addr) (ns : List Int), vs = [.ref a] ∧ IsL K H a ns ∧ ns.length ≤ 1000 ∧ ∀ H', Same H H' → Q (.bl true) H'
theorem okg_law (T : Tx P K mg base A D) : FnG P w K mg base CX0 51 (A 67) (D 67) ["_law_script"] (spLaw K) := by
  refine okG T.f_law sc_law (fun vs H Q E h => ?_) (fun cdv Ar outer s H vs Q E hG hr h => ?_)
  · obtain ⟨a, ns, rfl, _⟩ := h
    rfl
  · obtain ⟨a, ns, rfl, ha, hl, hq⟩ := h
    refine ⟨_, PSs.nox (pss_cons (ps_set (i := 1) sc_law.nd rfl (.inl rfl) (pe_call (ok__law_draws T) (hr.mono (by decide)) (by rfl) T.g__law_draws T.f__law_draws.kp (b__law_draws T) .nil pass0 (pa_cons (pv 0) (pa_cons pe_int pa_nil)))) (pss_cons (ps_asg (pe_call (ok__law_polynomial T) (hr.mono (by decide)) (by rfl) T.g__law_polynomial T.f__law_polynomial.kp (b__law_polynomial T) .nil pass0 (pa_cons (pv 1) (pa_cons pe_int pa_nil))) (pg_tup (n := 2) (by rfl) (pgs_cons (pg_name (i := 2) sc_law.nd rfl (.inl rfl)) (pgs_cons (pg_name (i := 3) sc_law.nd rfl (.inl rfl)) pgs_nil)))) (pss_cons (ps_set (i := 4) sc_law.nd rfl (.inl rfl) (pe_call (ok__law_drawn T) (hr.mono (by decide)) (by rfl) T.g__law_drawn T.f__law_drawn.kp (b__law_drawn T) .nil pass0 (pa_cons (pe_slice sl_list (pv 1) (po_some pe_int) (po_some pe_int)) (pa_cons pe_int pa_nil)))) (pss_cons (ps_if (pt_cmpR op_eq (pe_op op_modN (pe_callTy call_int1 (by rfl) T.z_int (by decide +kernel) (pa_cons (pe_ix ix_list (pv 1) pe_int (fun _ _ => rfl)) pa_nil)) pe_int) pe_int (nomark _)) (pss_one (ps_set (i := 4) sc_law.nd rfl (.inl rfl) (pe_op op_cat (pv 4) (pe_slice sl_list (pv 3) po_none (po_some (pe_op op_add pe_int (pe_op op_modN (pe_callTy call_int1 (by rfl) T.z_int (by decide +kernel) (pa_cons (pe_ix ix_list (pv 1) pe_int (fun _ _ => rfl)) pa_nil)) pe_int))))))) pss_nil) (pss_cons (ps_set (i := 5) sc_law.nd rfl (.inr rfl) (pe_ix ix_list (pe_lst (pa_cons pe_int (pa_cons (pe_un un_neg pe_int) (pa_cons pe_int (pa_cons (pe_un un_neg pe_int) pa_nil))))) (pe_op op_modN (pe_callTy call_int1 (by rfl) T.z_int (by decide +kernel) (pa_cons (pe_ix ix_list (pv 1) pe_int (fun _ _ => rfl)) pa_nil)) pe_int) (fun _ _ => rfl))) (pss_cons (ps_setLc (i := 7) (own := [("_law_one", 6)]) (g := gName 6) rfl sc_law.nd rfl rfl (sw_true rfl rfl rfl (by decide +kernel)) (pi_list (pe_call (ok__law_product T) (hr.mono (by decide)) (by rfl) T.g__law_product T.f__law_product.kp (b__law_product T) .nil pass0 (pa_cons (pv 4) pa_nil))) (blkOk_by (own := [("_law_one", 6)]) (N := ["_law_script", "_law_draws_here", "_law_p", "_law_factors_here", "_law_others", "_law_by", "_law_one", "_law_other", "_law_kept", "_law_place", "_law_due", "_law_actual", "_law_x_here"]) (sc := defScope (stm 79)) (by decide +kernel)) (fun _ _ _ _ _ => (pg_name (i := 6) sc_law.nd rfl (.inl rfl))) (fun _ _ _ _ _ => pts_nil) (fun _ _ _ _ _ => (pe_op op_mulX (pv 5) (pv 6)))) (pss_cons (ps_set (i := 8) sc_law.nd rfl (.inl rfl) (pe_callB (call_reprD hG (un65 hr)) (by rfl) T.z_repr (by decide +kernel) (pa_cons (pe_tup (pa_cons (pv 2) (pa_cons (pv 7) pa_nil))) pa_nil))) (pss_cons (ps_for PassesOwn.never rfl (pi_range1 rfl T.z_range (pa_cons (pe_call (ok__law_count T) (hr.mono (by decide)) (by rfl) T.g__law_count T.f__law_count.kp (b__law_count T) .nil pass0 (pa_cons (pv 3) pa_nil)) pa_nil)) (pg_name (i := 9) sc_law.nd rfl (.inl rfl)) (pss_cons (ps_set (i := 10) sc_law.nd rfl (.inl rfl) (pe_call (ok__law_sign T) (hr.mono (by decide)) (by rfl) T.g__law_sign T.f__law_sign.kp (b__law_sign T) .nil pass0 (pa_cons (pv 5) pa_nil))) (pss_cons (ps_for PassesOwn.never rfl (pi_list (pv 4)) (pg_name (i := 6) sc_law.nd rfl (.inl rfl)) (pss_one (ps_set (i := 10) sc_law.nd rfl (.inl rfl) (pe_op op_mulX (pv 10) (pe_call (ok__law_sign_at_root T) (hr.mono (by decide)) (by rfl) T.g__law_sign_at_root T.f__law_sign_at_root.kp (b__law_sign_at_root T) .nil pass0 (pa_cons (pv 3) (pa_cons (pv 9) (pa_cons (pe_lst (pa_cons (pv 6) pa_nil)) pa_nil)))))))) (pss_cons (ps_set (i := 11) sc_law.nd rfl (.inl rfl) (pe_call (ok_sign_at_root T) (hr.mono (by decide)) (by rfl) T.g_sign_at_root T.f_sign_at_root.kp (b_sign_at_root T) .nil pass0 (pa_cons (pv 2) (pa_cons (pv 9) (pa_cons (pv 7) pa_nil))))) (pss_cons (ps_if (PW.pt (pw_or (pt_not (pt_val (pe_call (ok__law_is_whole T) (hr.mono (by decide)) (by rfl) T.g__law_is_whole T.f__law_is_whole.kp (b__law_is_whole T) .nil pass0 (pa_cons (pv 11) pa_nil)))) (pw_or1 (pt_cmpR op_ne (pv 11) (pv 10) (nomark _))))) (pss_one (ps_ret pe_bl)) pss_nil) (pss_cons (ps_if (PW.pt (pw_or (pt_cmpR op_ne (pe_call (ok_sign_at_root T) (hr.mono (by decide)) (by rfl) T.g_sign_at_root T.f_sign_at_root.kp (b_sign_at_root T) .nil pass0 (pa_cons (pv 2) (pa_cons (pv 9) (pa_cons (pe_lst pa_nil) pa_nil)))) pe_int (nomark _)) (pw_or (pt_cmpR op_ne (pe_call (ok_sign_at_root T) (hr.mono (by decide)) (by rfl) T.g_sign_at_root T.f_sign_at_root.kp (b_sign_at_root T) .nil pass0 (pa_cons (pv 2) (pa_cons (pv 9) (pa_cons (pe_lst (pa_cons (pe_un un_neg pe_int) pa_nil)) pa_nil)))) (pe_un un_neg pe_int) (nomark _)) (pw_or1 (pt_cmpR op_ne (pe_call (ok_sign_at_root T) (hr.mono (by decide)) (by rfl) T.g_sign_at_root T.f_sign_at_root.kp (b_sign_at_root T) .nil pass0 (pa_cons (pv 2) (pa_cons (pv 9) (pa_cons (pv 2) pa_nil)))) pe_int (nomark _)))))) (pss_one (ps_ret pe_bl)) pss_nil) (pss_one (ps_for PassesOwn.never rfl (pi_list (pe_call (ok_rational_roots T) (hr.mono (by decide)) (by rfl) T.g_rational_roots T.f_rational_roots.kp (b_rational_roots T) .nil pass0 (pa_cons (pv 2) pa_nil))) (pg_name (i := 12) sc_law.nd rfl (.inl rfl)) (pss_one (ps_if (PW.pt (pw_and (pt_cmpR op_eq (pe_call (ok_compare_root T) (hr.mono (by decide)) (by rfl) T.g_compare_root T.f_compare_root.kp (b_compare_root T) .nil pass0 (pa_cons (pv 2) (pa_cons (pv 9) (pa_cons (pv 12) pa_nil)))) pe_int (nomark _)) (pw_and1 (pt_cmpR op_ne (pe_call (ok_sign_at T) (hr.mono (by decide)) (by rfl) T.g_sign_at T.f_sign_at.kp (b_sign_at T) .nil pass0 (pa_cons (pv 7) (pa_cons (pv 12) pa_nil))) (pv 11) (nomark _))))) (pss_one (ps_ret pe_bl)) pss_nil)))))))))) (pss_one (ps_ret (pe_cmpR op_eq (pe_callB (call_reprD hG (un65 hr)) (by rfl) T.z_repr (by decide +kernel) (pa_cons (pe_tup (pa_cons (pv 2) (pa_cons (pv 7) pa_nil))) pa_nil)) (pv 8) (nomark _)))))))))))), ?_⟩
    rw [show start ["_law_script", "_law_draws_here", "_law_p", "_law_factors_here", "_law_others", "_law_by", "_law_one", "_law_other", "_law_kept", "_law_place", "_law_due", "_law_actual", "_law_x_here"] [V.ref a] = [some (V.ref a), none, none, none, none, none, none, none, none, none, none, none, none] from rfl]
    refine seq_cut fun J1 hJ1 => ?_
    simp (maxSteps := 2000000) only [NewO, tLc, wipe, List.map_cons, List.map_nil, tSeq, tIfS, tTest, tOp, tVar, tC, rI0, tPar, tUn, rU, tCons, tNil, tAsg, gName, tCB, tRet, tTup, tLst, rI, rGcd, tNext, tCall, tCallN, tIf, tSl, tPart, tNoPart, rSlL, tDrop, tBM, tBM0, rAppend, rPop, tAndV, tOrV, tNotV, tAnd, tOr, tNot, tB, rEq, rNe, scal_int, gTup, gCons, gNil, gUnl, gSub, rSetL, tRevL, tAug, ipI, rIxL, rIxT, rCat, rRep, TruV, iList, iRng1, iRng2, iRng3, iEnum, tFor, tYes, List.append_nil, List.cons_append, List.nil_append, List.getElem?_cons_zero, List.getElem?_cons_succ, List.set_cons_zero, List.set_cons_succ, Option.some.injEq, exists_eq_left', exists_eq_left, exists_and_left, V.int.injEq, V.bl.injEq, V.ref.injEq, List.cons.injEq, and_true, true_and, and_assoc, decide_eq_true_eq, Bool.not_eq_true', if_true, if_false, Bool.false_eq_true, ite_true, ite_false, Bool.true_eq_false, reduceCtorEq, false_and, and_false, exists_false, false_or, or_false, gUnl, tCallN, rMax, tBreak, cxK]
    refine ⟨ns, ha, hl, fun H1 p ds s1 h1 dl db => hJ1 _ _ (seq_cut fun J2 hJ2 => ?_)⟩
    simp (maxSteps := 2000000) only [NewO, tLc, wipe, List.map_cons, List.map_nil, tSeq, tIfS, tTest, tOp, tVar, tC, rI0, tPar, tUn, rU, tCons, tNil, tAsg, gName, tCB, tRet, tTup, tLst, rI, rGcd, tNext, tCall, tCallN, tIf, tSl, tPart, tNoPart, rSlL, tDrop, tBM, tBM0, rAppend, rPop, tAndV, tOrV, tNotV, tAnd, tOr, tNot, tB, rEq, rNe, scal_int, gTup, gCons, gNil, gUnl, gSub, rSetL, tRevL, tAug, ipI, rIxL, rIxT, rCat, rRep, TruV, iList, iRng1, iRng2, iRng3, iEnum, tFor, tYes, List.append_nil, List.cons_append, List.nil_append, List.getElem?_cons_zero, List.getElem?_cons_succ, List.set_cons_zero, List.set_cons_succ, Option.some.injEq, exists_eq_left', exists_eq_left, exists_and_left, V.int.injEq, V.bl.injEq, V.ref.injEq, List.cons.injEq, and_true, true_and, and_assoc, decide_eq_true_eq, Bool.not_eq_true', if_true, if_false, Bool.false_eq_true, ite_true, ite_false, Bool.true_eq_false, reduceCtorEq, false_and, and_false, exists_false, false_or, or_false, gUnl, tCallN, rMax, tBreak, cxK, spPoly]
    refine ⟨ds, .new h1, by omega, db, fun H2 t q L vs F sp c s2 h2 h3 h4 vF fm fn f0 fl hP c0 c3 => ⟨_, SqT.of h2, rfl, _, _, rfl, _, _, rfl, rfl, hJ2 _ _ (seq_cut fun J3 hJ3 => ?_)⟩⟩
    simp (maxSteps := 2000000) only [NewO, tLc, wipe, List.map_cons, List.map_nil, tSeq, tIfS, tTest, tOp, tVar, tC, rI0, tPar, tUn, rU, tCons, tNil, tAsg, gName, tCB, tRet, tTup, tLst, rI, rGcd, tNext, tCall, tCallN, tIf, tSl, tPart, tNoPart, rSlL, tDrop, tBM, tBM0, rAppend, rPop, tAndV, tOrV, tNotV, tAnd, tOr, tNot, tB, rEq, rNe, scal_int, gTup, gCons, gNil, gUnl, gSub, rSetL, tRevL, tAug, ipI, rIxL, rIxT, rCat, rRep, TruV, iList, iRng1, iRng2, iRng3, iEnum, tFor, tYes, List.append_nil, List.cons_append, List.nil_append, List.getElem?_cons_zero, List.getElem?_cons_succ, List.set_cons_zero, List.set_cons_succ, Option.some.injEq, exists_eq_left', exists_eq_left, exists_and_left, V.int.injEq, V.bl.injEq, V.ref.injEq, List.cons.injEq, and_true, true_and, and_assoc, decide_eq_true_eq, Bool.not_eq_true', if_true, if_false, Bool.false_eq_true, ite_true, ite_false, Bool.true_eq_false, reduceCtorEq, false_and, and_false, exists_false, false_or, or_false, gUnl, tCallN, rMax, tBreak, cxK, spDrawn]
    have cm : cutV (ds.map V.int) (some 12) (some 20) = ((ds.drop 12).take 8).map V.int := by
      rw [cut_mid (by rw [List.length_map]; omega), List.map_take, List.map_drop]
    refine ⟨_, (IsL.new h1).at s2, fun u nu => ?_⟩
    rw [cm]
    refine ⟨_, IsL.new upd_same, by rw [List.length_take, List.length_drop]; omega, fun d hd => db d (List.mem_of_mem_drop (List.mem_of_mem_take hd)), fun H3 M ms G s3 h5 mG gm gn g0 gl => hJ3 _ _ (seq_cut fun J4 hJ4 => ?_)⟩
    simp (maxSteps := 2000000) only [NewO, tLc, wipe, List.map_cons, List.map_nil, tSeq, tIfS, tTest, tOp, tVar, tC, rI0, tPar, tUn, rU, tCons, tNil, tAsg, gName, tCB, tRet, tTup, tLst, rI, rGcd, tNext, tCall, tCallN, tIf, tSl, tPart, tNoPart, rSlL, tDrop, tBM, tBM0, rAppend, rPop, tAndV, tOrV, tNotV, tAnd, tOr, tNot, tB, rEq, rNe, scal_int, gTup, gCons, gNil, gUnl, gSub, rSetL, tRevL, tAug, ipI, rIxL, rIxT, rCat, rRep, TruV, iList, iRng1, iRng2, iRng3, iEnum, tFor, tYes, List.append_nil, List.cons_append, List.nil_append, List.getElem?_cons_zero, List.getElem?_cons_succ, List.set_cons_zero, List.set_cons_succ, Option.some.injEq, exists_eq_left', exists_eq_left, exists_and_left, V.int.injEq, V.bl.injEq, V.ref.injEq, List.cons.injEq, and_true, true_and, and_assoc, decide_eq_true_eq, Bool.not_eq_true', if_true, if_false, Bool.false_eq_true, ite_true, ite_false, Bool.true_eq_false, reduceCtorEq, false_and, and_false, exists_false, false_or, or_false, gUnl, tCallN, rMax, tBreak, cxK]
    have s23 := (same_new nu).trans s3
    have hp3 : IsL K H3 p ds := ((IsL.new h1).at s2).at s23
    have key : ∀ (O : Addr) (os : List V) (T : List (List Int)) (H4 : Hp), Same H3 H4 → H4 O = some (.lst os) → LV H4 O os (G ++ T) → (∀ f ∈ T, f ∈ menu) → T.Nodup → T.length ≤ 2 → J4 [some (V.ref a), some (V.ref p), some (V.ref q), some (V.ref L), some (V.ref O), none, none, none, none, none, none, none, none] H4 := by
      intro O os T H4 s4 hO lO tm tn tl
      refine hJ4 _ _ (seq_cut fun J5 hJ5 => ?_)
      simp (maxSteps := 2000000) only [NewO, tLc, wipe, List.map_cons, List.map_nil, tSeq, tIfS, tTest, tOp, tVar, tC, rI0, tPar, tUn, rU, tCons, tNil, tAsg, gName, tCB, tRet, tTup, tLst, rI, rGcd, tNext, tCall, tCallN, tIf, tSl, tPart, tNoPart, rSlL, tDrop, tBM, tBM0, rAppend, rPop, tAndV, tOrV, tNotV, tAnd, tOr, tNot, tB, rEq, rNe, scal_int, gTup, gCons, gNil, gUnl, gSub, rSetL, tRevL, tAug, ipI, rIxL, rIxT, rCat, rRep, TruV, iList, iRng1, iRng2, iRng3, iEnum, tFor, tYes, List.append_nil, List.cons_append, List.nil_append, List.getElem?_cons_zero, List.getElem?_cons_succ, List.set_cons_zero, List.set_cons_succ, Option.some.injEq, exists_eq_left', exists_eq_left, exists_and_left, V.int.injEq, V.bl.injEq, V.ref.injEq, List.cons.injEq, and_true, true_and, and_assoc, decide_eq_true_eq, Bool.not_eq_true', if_true, if_false, Bool.false_eq_true, ite_true, ite_false, Bool.true_eq_false, reduceCtorEq, false_and, and_false, exists_false, false_or, or_false, gUnl, tCallN, rMax, tBreak, cxK]
      obtain ⟨b, hb, b0, b3⟩ : ∃ b : Int, atI [V.int 1, V.int (-1), V.int 3, V.int (-2)] ((cI ds 22).fmod 4) = some (.int b) ∧ b ≠ 0 ∧ b.natAbs ≤ 3 := by
        rw [Int.fmod_eq_emod_of_nonneg _ (by decide)]
        have : cI ds 22 % 4 = 0 ∨ cI ds 22 % 4 = 1 ∨ cI ds 22 % 4 = 2 ∨ cI ds 22 % 4 = 3 := by omega
        rcases this with e | e | e | e <;> rw [e]
        · exact ⟨1, rfl, by decide, by decide⟩
        · exact ⟨-1, rfl, by decide, by decide⟩
        · exact ⟨3, rfl, by decide, by decide⟩
        · exact ⟨-2, rfl, by decide, by decide⟩
      refine ⟨by show 4 ≤ sizeLine; decide, fun r nr => ⟨_, (hp3.at s4).at (same_new nr), _, ix_int (i := 22) rfl (by omega), .inl ⟨_, rfl, by decide, _, SqL.of upd_same, _, hb, hJ5 _ _ (seq_cut fun J6 hJ6 => ?_)⟩⟩⟩
      simp (maxSteps := 2000000) only [NewO, tLc, wipe, List.map_cons, List.map_nil, tSeq, tIfS, tTest, tOp, tVar, tC, rI0, tPar, tUn, rU, tCons, tNil, tAsg, gName, tCB, tRet, tTup, tLst, rI, rGcd, tNext, tCall, tCallN, tIf, tSl, tPart, tNoPart, rSlL, tDrop, tBM, tBM0, rAppend, rPop, tAndV, tOrV, tNotV, tAnd, tOr, tNot, tB, rEq, rNe, scal_int, gTup, gCons, gNil, gUnl, gSub, rSetL, tRevL, tAug, ipI, rIxL, rIxT, rCat, rRep, TruV, iList, iRng1, iRng2, iRng3, iEnum, tFor, tYes, List.append_nil, List.cons_append, List.nil_append, List.getElem?_cons_zero, List.getElem?_cons_succ, List.set_cons_zero, List.set_cons_succ, Option.some.injEq, exists_eq_left', exists_eq_left, exists_and_left, V.int.injEq, V.bl.injEq, V.ref.injEq, List.cons.injEq, and_true, true_and, and_assoc, decide_eq_true_eq, Bool.not_eq_true', if_true, if_false, Bool.false_eq_true, ite_true, ite_false, Bool.true_eq_false, reduceCtorEq, false_and, and_false, exists_false, false_or, or_false, gUnl, tCallN, rMax, tBreak, cxK]
      have sr := same_new (o := HO.lst [V.int 1, V.int (-1), V.int 3, V.int (-2)]) nr
      have om : ∀ f ∈ G ++ T, f ∈ menu := fun f hf => by
        rcases List.mem_append.mp hf with h | h
        · exact gm f h
        · exact tm f h
      have ol : (G ++ T).length ≤ 6 := by rw [List.length_append]; omega
      refine ⟨G ++ T, (IsC.of hO lO).at sr, om, ol, fun H5 p5 sq s5 n5 e5 hPo => ?_⟩
      have sl : sq.length ≤ 15 := by
        rw [hPo.len, dg_append]
        have := dg_le gm gn
        have := dg_le tm tn
        omega
      have sb : ∀ k, (cI sq k).natAbs < 2 ^ 48 := fun k => Nat.lt_of_le_of_lt (Nat.le_trans (l1_coef sq k) hPo.sz) (Nat.lt_of_le_of_lt (Nat.pow_le_pow_right (by decide) ol) (by decide))
      refine ⟨⟨_, SqL.of e5⟩, fun W nW => lcl (xs := sq.map V.int) (fun i H' => PvM H5 W (fun i => V.int (b * cI sq i)) i H') (PvM.start nW) (fun i H' hi p => SqL.of (p.same _ _ e5)) (fun i x H' hx p => ?_) (fun H6 p6 => ?_)⟩
      · obtain ⟨hi, rfl⟩ := get_int hx
        exact ⟨_, rfl, mul_bits (a := 2) (by omega) (sb i) (by decide), p.next nW (Same.refl _) rfl (lt_size (by omega))⟩
      · rw [List.length_map] at p6
        have hW := p6.d
        have e : (List.range sq.length).map (fun i => V.int (b * cI sq i)) = (sq.map (b * ·)).map V.int := by rw [← map_idx sq (b * ·), map_rangeV]
        rw [e] at hW
        have s6 := sr.trans (s5.trans p6.same)
        refine hJ6 _ _ (seq_cut fun J7 hJ7 => ?_)
        simp (maxSteps := 2000000) only [NewO, tLc, wipe, List.map_cons, List.map_nil, tSeq, tIfS, tTest, tOp, tVar, tC, rI0, tPar, tUn, rU, tCons, tNil, tAsg, gName, tCB, tRet, tTup, tLst, rI, rGcd, tNext, tCall, tCallN, tIf, tSl, tPart, tNoPart, rSlL, tDrop, tBM, tBM0, rAppend, rPop, tAndV, tOrV, tNotV, tAnd, tOr, tNot, tB, rEq, rNe, scal_int, gTup, gCons, gNil, gUnl, gSub, rSetL, tRevL, tAug, ipI, rIxL, rIxT, rCat, rRep, TruV, iList, iRng1, iRng2, iRng3, iEnum, tFor, tYes, List.append_nil, List.cons_append, List.nil_append, List.getElem?_cons_zero, List.getElem?_cons_succ, List.set_cons_zero, List.set_cons_succ, Option.some.injEq, exists_eq_left', exists_eq_left, exists_and_left, V.int.injEq, V.bl.injEq, V.ref.injEq, List.cons.injEq, and_true, true_and, and_assoc, decide_eq_true_eq, Bool.not_eq_true', if_true, if_false, Bool.false_eq_true, ite_true, ite_false, Bool.true_eq_false, reduceCtorEq, false_and, and_false, exists_false, false_or, or_false, gUnl, tCallN, rMax, tBreak, cxK, rReprD]
        have hA := cha_of hP fm fn f0 fl c0 c3
        obtain ⟨Ro, hAs, hmem⟩ := asked_of hPo gm tm gn tn gl tl b0 b3
        have hv := evI_map b sq
        have hvp := evI_map c sp
        generalize sp.map (c * ·) = po at h3 hA hvp
        generalize sq.map (b * ·) = oo at hW hAs hv
        have s26 := s23.trans (s4.trans s6)
        obtain ⟨k1, k2, k3, k4⟩ := prT_ok (pb_mem hA.pb) (pb_mem hAs.pb) hA.len hAs.len
        refine ⟨le2, fun t7 n7 => ⟨_, prT_dp upd_same (IsL.new ((same_new n7) _ _ (s26 _ _ h3))) (IsL.new ((same_new n7) _ _ hW)), k1, k2, k3, k4, hJ7 _ _ (seq_cut fun J8 hJ8 => for_cut fun B hB => ?_)⟩⟩
        have s27 := s26.trans (same_new (o := HO.tup [V.ref q, V.ref W]) n7)
        have s47 := s6.trans (same_new (o := HO.tup [V.ref q, V.ref W]) n7)
        have w7 := (same_new (o := HO.tup [V.ref q, V.ref W]) n7) _ _ hW
        generalize upd H6 t7 (HO.tup [V.ref q, V.ref W]) = H7 at s27 s47 w7
        simp (maxSteps := 2000000) only [NewO, tLc, wipe, List.map_cons, List.map_nil, tSeq, tIfS, tTest, tOp, tVar, tC, rI0, tPar, tUn, rU, tCons, tNil, tAsg, gName, tCB, tRet, tTup, tLst, rI, rGcd, tNext, tCall, tCallN, tIf, tSl, tPart, tNoPart, rSlL, tDrop, tBM, tBM0, rAppend, rPop, tAndV, tOrV, tNotV, tAnd, tOr, tNot, tB, rEq, rNe, scal_int, gTup, gCons, gNil, gUnl, gSub, rSetL, tRevL, tAug, ipI, rIxL, rIxT, rCat, rRep, TruV, iList, iRng1, iRng2, iRng3, iEnum, tFor, tYes, List.append_nil, List.cons_append, List.nil_append, List.getElem?_cons_zero, List.getElem?_cons_succ, List.set_cons_zero, List.set_cons_succ, Option.some.injEq, exists_eq_left', exists_eq_left, exists_and_left, V.int.injEq, V.bl.injEq, V.ref.injEq, List.cons.injEq, and_true, true_and, and_assoc, decide_eq_true_eq, Bool.not_eq_true', if_true, if_false, Bool.false_eq_true, ite_true, ite_false, Bool.true_eq_false, reduceCtorEq, false_and, and_false, exists_false, false_or, or_false, gUnl, tCallN, rMax, tBreak, cxK]
        have tf := few_roots F fm fn
        have tl0 := RF_len fm
        refine ⟨F, IsC.of (s27 _ _ h4) (vF.at s27), fm, by omega, fun H8 s8 => ⟨by omega, by omega, frr (fun i σ H' => ∃ (y6 y9 y10 y11 y12 : Option V), σ = [some (V.ref a), some (V.ref p), some (V.ref q), some (V.ref L), some (V.ref O), some (V.int b), y6, some (V.ref W), some (V.str (prT po oo).shown), y9, y10, y11, y12] ∧ Same H7 H') ⟨none, none, none, none, none, rfl, s8⟩ (fun i σ H' hi z => ?_) (fun σ H' z => ?_)⟩⟩
        · obtain ⟨y6, y9, y10, y11, y12, rfl, s9⟩ := z
          refine hB _ _ _ (seq_cut fun K1 hK1 => ?_)
          simp (maxSteps := 2000000) only [NewO, tLc, wipe, List.map_cons, List.map_nil, tSeq, tIfS, tTest, tOp, tVar, tC, rI0, tPar, tUn, rU, tCons, tNil, tAsg, gName, tCB, tRet, tTup, tLst, rI, rGcd, tNext, tCall, tCallN, tIf, tSl, tPart, tNoPart, rSlL, tDrop, tBM, tBM0, rAppend, rPop, tAndV, tOrV, tNotV, tAnd, tOr, tNot, tB, rEq, rNe, scal_int, gTup, gCons, gNil, gUnl, gSub, rSetL, tRevL, tAug, ipI, rIxL, rIxT, rCat, rRep, TruV, iList, iRng1, iRng2, iRng3, iEnum, tFor, tYes, List.append_nil, List.cons_append, List.nil_append, List.getElem?_cons_zero, List.getElem?_cons_succ, List.set_cons_zero, List.set_cons_succ, Option.some.injEq, exists_eq_left', exists_eq_left, exists_and_left, V.int.injEq, V.bl.injEq, V.ref.injEq, List.cons.injEq, and_true, true_and, and_assoc, decide_eq_true_eq, Bool.not_eq_true', if_true, if_false, Bool.false_eq_true, ite_true, ite_false, Bool.true_eq_false, reduceCtorEq, false_and, and_false, exists_false, false_or, or_false, gUnl, tCallN, rMax, tBreak, cxK]
          rw [Int.zero_add]
          obtain ⟨ρ, hR⟩ := isR_ex fm fn (k := i) (by omega)
          refine hK1 _ _ (seq_cut fun K2 hK2 => for_cut fun B2 hB2 => ?_)
          simp (maxSteps := 2000000) only [NewO, tLc, wipe, List.map_cons, List.map_nil, tSeq, tIfS, tTest, tOp, tVar, tC, rI0, tPar, tUn, rU, tCons, tNil, tAsg, gName, tCB, tRet, tTup, tLst, rI, rGcd, tNext, tCall, tCallN, tIf, tSl, tPart, tNoPart, rSlL, tDrop, tBM, tBM0, rAppend, rPop, tAndV, tOrV, tNotV, tAnd, tOr, tNot, tB, rEq, rNe, scal_int, gTup, gCons, gNil, gUnl, gSub, rSetL, tRevL, tAug, ipI, rIxL, rIxT, rCat, rRep, TruV, iList, iRng1, iRng2, iRng3, iEnum, tFor, tYes, List.append_nil, List.cons_append, List.nil_append, List.getElem?_cons_zero, List.getElem?_cons_succ, List.set_cons_zero, List.set_cons_succ, Option.some.injEq, exists_eq_left', exists_eq_left, exists_and_left, V.int.injEq, V.bl.injEq, V.ref.injEq, List.cons.injEq, and_true, true_and, and_assoc, decide_eq_true_eq, Bool.not_eq_true', if_true, if_false, Bool.false_eq_true, ite_true, ite_false, Bool.true_eq_false, reduceCtorEq, false_and, and_false, exists_false, false_or, or_false, gUnl, tCallN, rMax, tBreak, cxK]
          have hO9 := s9 _ _ (s47 _ _ hO)
          have lO9 := (lO.at s47).at s9
          refine ⟨⟨_, SqL.of hO9⟩, frl (xs := os) (fun j σ H2 => ∃ (y6 : Option V), σ = [some (V.ref a), some (V.ref p), some (V.ref q), some (V.ref L), some (V.ref O), some (V.int b), y6, some (V.ref W), some (V.str (prT po oo).shown), some (V.int (i : Int)), some (V.int (sI b * sgP ρ ((G ++ T).take j))), y11, y12] ∧ Same H' H2) ⟨y6, by rw [List.take_zero]; show _ = [_, _, _, _, _, _, _, _, _, _, some (V.int (sI b * 1)), _, _]; rw [Int.mul_one], Same.refl _⟩ (fun j σ H2 hj z => ?_) (fun j x σ H2 hx z => ?_) (fun σ H2 z => ?_)⟩
          · obtain ⟨y6, rfl, s10⟩ := z
            exact SqL.of (s10 _ _ hO9)
          · obtain ⟨y6, rfl, s10⟩ := z
            refine hB2 _ _ _ ?_
            simp (maxSteps := 2000000) only [NewO, tLc, wipe, List.map_cons, List.map_nil, tSeq, tIfS, tTest, tOp, tVar, tC, rI0, tPar, tUn, rU, tCons, tNil, tAsg, gName, tCB, tRet, tTup, tLst, rI, rGcd, tNext, tCall, tCallN, tIf, tSl, tPart, tNoPart, rSlL, tDrop, tBM, tBM0, rAppend, rPop, tAndV, tOrV, tNotV, tAnd, tOr, tNot, tB, rEq, rNe, scal_int, gTup, gCons, gNil, gUnl, gSub, rSetL, tRevL, tAug, ipI, rIxL, rIxT, rCat, rRep, TruV, iList, iRng1, iRng2, iRng3, iEnum, tFor, tYes, List.append_nil, List.cons_append, List.nil_append, List.getElem?_cons_zero, List.getElem?_cons_succ, List.set_cons_zero, List.set_cons_succ, Option.some.injEq, exists_eq_left', exists_eq_left, exists_and_left, V.int.injEq, V.bl.injEq, V.ref.injEq, List.cons.injEq, and_true, true_and, and_assoc, decide_eq_true_eq, Bool.not_eq_true', if_true, if_false, Bool.false_eq_true, ite_true, ite_false, Bool.true_eq_false, reduceCtorEq, false_and, and_false, exists_false, false_or, or_false, gUnl, tCallN, rMax, tBreak, cxK]
            have hj : j < (G ++ T).length := by rw [← lO.len]; exact (List.getElem?_eq_some_iff.mp hx).1
            obtain ⟨g1, e1, _, e2⟩ := lO9.at_ j _ (List.getElem?_eq_getElem hj)
            rw [hx] at e1
            cases e1
            have sm : (sI b * sgP ρ ((G ++ T).take j)).natAbs ≤ 1 := by
              rw [Int.natAbs_mul]
              exact Nat.mul_le_mul (sI_small b) (sgP_small ρ _)
            have sa := sgA_small ρ (G ++ T)[j]
            refine ⟨by show 1 ≤ sizeLine; decide, fun p9 n9 => ⟨p9, g1, vs, F, (G ++ T)[j], i, rfl, rfl, (same_new n9) _ _ (s10 _ _ (s9 _ _ (s27 _ _ h4))), (((vF.at s27).at s9).at s10).at (same_new n9), upd_same, (same_new n9) _ _ (s10 _ _ e2), fm, fn, fl, om _ (List.getElem_mem hj), ρ, hR, fun H10 s11 => ⟨?_, ?_, s10.trans ((same_new n9).trans s11)⟩⟩⟩
            · exact mul_bits (a := 1) (b := 1) (Nat.lt_succ_of_le sm) (Nat.lt_succ_of_le sa) (by decide)
            · rw [List.take_succ, List.getElem?_eq_getElem hj, sgP_append, Int.mul_assoc]
              show _ = sI b * (_ * (sgA ρ (G ++ T)[j] * 1))
              rw [Int.mul_one]
          · obtain ⟨y6, rfl, s10⟩ := z
            rw [lO.len, List.take_length]
            refine hK2 _ _ (seq_cut fun K3 hK3 => ?_)
            simp (maxSteps := 2000000) only [NewO, tLc, wipe, List.map_cons, List.map_nil, tSeq, tIfS, tTest, tOp, tVar, tC, rI0, tPar, tUn, rU, tCons, tNil, tAsg, gName, tCB, tRet, tTup, tLst, rI, rGcd, tNext, tCall, tCallN, tIf, tSl, tPart, tNoPart, rSlL, tDrop, tBM, tBM0, rAppend, rPop, tAndV, tOrV, tNotV, tAnd, tOr, tNot, tB, rEq, rNe, scal_int, gTup, gCons, gNil, gUnl, gSub, rSetL, tRevL, tAug, ipI, rIxL, rIxT, rCat, rRep, TruV, iList, iRng1, iRng2, iRng3, iEnum, tFor, tYes, List.append_nil, List.cons_append, List.nil_append, List.getElem?_cons_zero, List.getElem?_cons_succ, List.set_cons_zero, List.set_cons_succ, Option.some.injEq, exists_eq_left', exists_eq_left, exists_and_left, V.int.injEq, V.bl.injEq, V.ref.injEq, List.cons.injEq, and_true, true_and, and_assoc, decide_eq_true_eq, Bool.not_eq_true', if_true, if_false, Bool.false_eq_true, ite_true, ite_false, Bool.true_eq_false, reduceCtorEq, false_and, and_false, exists_false, false_or, or_false, gUnl, tCallN, rMax, tBreak, cxK, spRoot]
            have s7 := s9.trans s10
            have hq7 : IsL K H2 q po := .new (s7 _ _ (s27 _ _ h3))
            have hw7 : IsL K H2 W oo := .new (s7 _ _ w7)
            have ph : ∀ x : Rat, evI oo x = (b : Rat) * prodE (G ++ T) x := fun x => by rw [hv, hPo.ev]
            refine ⟨W, i, rfl, rfl, po, hq7, oo, F, hA, by omega, ρ, hR, hw7, sI b * sgP ρ (G ++ T), .inr ⟨hAs.ne, Ro, hAs, G ++ T, b, q_ne b0, ph, hmem, by rw [sI_sg]⟩, by omega, fun H11 s11 => hK3 _ _ (seq_cut fun K4 hK4 => ?_)⟩
            simp (maxSteps := 2000000) only [NewO, tLc, wipe, List.map_cons, List.map_nil, tSeq, tIfS, tTest, tOp, tVar, tC, rI0, tPar, tUn, rU, tCons, tNil, tAsg, gName, tCB, tRet, tTup, tLst, rI, rGcd, tNext, tCall, tCallN, tIf, tSl, tPart, tNoPart, rSlL, tDrop, tBM, tBM0, rAppend, rPop, tAndV, tOrV, tNotV, tAnd, tOr, tNot, tB, rEq, rNe, scal_int, gTup, gCons, gNil, gUnl, gSub, rSetL, tRevL, tAug, ipI, rIxL, rIxT, rCat, rRep, TruV, iList, iRng1, iRng2, iRng3, iEnum, tFor, tYes, List.append_nil, List.cons_append, List.nil_append, List.getElem?_cons_zero, List.getElem?_cons_succ, List.set_cons_zero, List.set_cons_succ, Option.some.injEq, exists_eq_left', exists_eq_left, exists_and_left, V.int.injEq, V.bl.injEq, V.ref.injEq, List.cons.injEq, and_true, true_and, and_assoc, decide_eq_true_eq, Bool.not_eq_true', if_true, if_false, Bool.false_eq_true, ite_true, ite_false, Bool.true_eq_false, reduceCtorEq, false_and, and_false, exists_false, false_or, or_false, gUnl, tCallN, rMax, tBreak, cxK]
            rw [if_neg (by simp)]
            refine hK4 _ _ (seq_cut fun K5 hK5 => ?_)
            simp (maxSteps := 2000000) only [NewO, tLc, wipe, List.map_cons, List.map_nil, tSeq, tIfS, tTest, tOp, tVar, tC, rI0, tPar, tUn, rU, tCons, tNil, tAsg, gName, tCB, tRet, tTup, tLst, rI, rGcd, tNext, tCall, tCallN, tIf, tSl, tPart, tNoPart, rSlL, tDrop, tBM, tBM0, rAppend, rPop, tAndV, tOrV, tNotV, tAnd, tOr, tNot, tB, rEq, rNe, scal_int, gTup, gCons, gNil, gUnl, gSub, rSetL, tRevL, tAug, ipI, rIxL, rIxT, rCat, rRep, TruV, iList, iRng1, iRng2, iRng3, iEnum, tFor, tYes, List.append_nil, List.cons_append, List.nil_append, List.getElem?_cons_zero, List.getElem?_cons_succ, List.set_cons_zero, List.set_cons_succ, Option.some.injEq, exists_eq_left', exists_eq_left, exists_and_left, V.int.injEq, V.bl.injEq, V.ref.injEq, List.cons.injEq, and_true, true_and, and_assoc, decide_eq_true_eq, Bool.not_eq_true', if_true, if_false, Bool.false_eq_true, ite_true, ite_false, Bool.true_eq_false, reduceCtorEq, false_and, and_false, exists_false, false_or, or_false, gUnl, tCallN, rMax, tBreak, cxK, spRoot]
            refine ⟨Nat.zero_le _, fun u1 m1 => ⟨u1, i, rfl, rfl, po, hq7.at (s11.trans (same_new m1)), [], F, hA, by omega, ρ, hR, IsL.new (ns := []) upd_same, 0, .inl ⟨rfl, rfl⟩, by omega, fun H12 s12 => ?_⟩⟩
            rw [if_neg (by simp)]
            have t12 := s11.trans ((same_new m1).trans s12)
            refine ⟨by show 1 ≤ sizeLine; decide, fun u2 m2 => ⟨u2, i, rfl, rfl, po, hq7.at (t12.trans (same_new m2)), [-4], F, hA, by omega, ρ, hR, IsL.new (ns := [-4]) upd_same, -1, .inr ⟨by decide, [], asked_four, [], -4, by decide +kernel, fun x => ?_, fun g => Iff.rfl, ?_⟩, by omega, fun H13 s13 => ?_⟩⟩
            · show evI [-4] x = -4 * (1 : Rat)
              rw [evI_cons, evI_nil]; push_cast; grind
            · show (-1 : Int) = sg (-4) * 1
              decide +kernel
            rw [if_neg (by simp)]
            have t13 := t12.trans ((same_new m2).trans s13)
            refine ⟨q, i, rfl, rfl, po, hq7.at t13, po, F, hA, by omega, ρ, hR, hq7.at t13, 0, .inr ⟨hA.ne, F, asked_self hA (by omega), F, c, q_ne c0, fun x => by rw [hvp, hP.ev], fun g => Iff.rfl, by rw [sgP_zero hR.mem, Int.mul_zero]⟩, by omega, fun H14 s14 => ?_⟩
            rw [if_neg (by simp)]
            refine hK5 _ _ (for_cut fun B3 hB3 => ?_)
            simp (maxSteps := 2000000) only [NewO, tLc, wipe, List.map_cons, List.map_nil, tSeq, tIfS, tTest, tOp, tVar, tC, rI0, tPar, tUn, rU, tCons, tNil, tAsg, gName, tCB, tRet, tTup, tLst, rI, rGcd, tNext, tCall, tCallN, tIf, tSl, tPart, tNoPart, rSlL, tDrop, tBM, tBM0, rAppend, rPop, tAndV, tOrV, tNotV, tAnd, tOr, tNot, tB, rEq, rNe, scal_int, gTup, gCons, gNil, gUnl, gSub, rSetL, tRevL, tAug, ipI, rIxL, rIxT, rCat, rRep, TruV, iList, iRng1, iRng2, iRng3, iEnum, tFor, tYes, List.append_nil, List.cons_append, List.nil_append, List.getElem?_cons_zero, List.getElem?_cons_succ, List.set_cons_zero, List.set_cons_succ, Option.some.injEq, exists_eq_left', exists_eq_left, exists_and_left, V.int.injEq, V.bl.injEq, V.ref.injEq, List.cons.injEq, and_true, true_and, and_assoc, decide_eq_true_eq, Bool.not_eq_true', if_true, if_false, Bool.false_eq_true, ite_true, ite_false, Bool.true_eq_false, reduceCtorEq, false_and, and_false, exists_false, false_or, or_false, gUnl, tCallN, rMax, tBreak, cxK, spRat]
            have t14 := t13.trans s14
            refine ⟨po, hq7.at t14, F, asked_self hA (by omega), fun H15 R15 ys s15 h15 hy => ⟨⟨_, SqL.of h15⟩, frl (xs := ys) (fun j σ H' => ∃ y12 : Option V, σ = [some (V.ref a), some (V.ref p), some (V.ref q), some (V.ref L), some (V.ref O), some (V.int b), y6, some (V.ref W), some (V.str (prT po oo).shown), some (V.int (i : Int)), some (V.int (sI b * sgP ρ (G ++ T))), some (V.int (sI b * sgP ρ (G ++ T))), y12] ∧ Same H15 H') ⟨y12, rfl, Same.refl _⟩ (fun j σ H16 hj z => ?_) (fun j x σ H16 hx z => ?_) (fun σ H16 z => ?_)⟩⟩
            · obtain ⟨y12, rfl, s16⟩ := z
              exact SqL.of (s16 _ _ h15)
            · obtain ⟨y12, rfl, s16⟩ := z
              refine hB3 _ _ _ ?_
              simp (maxSteps := 2000000) only [NewO, tLc, wipe, List.map_cons, List.map_nil, tSeq, tIfS, tTest, tOp, tVar, tC, rI0, tPar, tUn, rU, tCons, tNil, tAsg, gName, tCB, tRet, tTup, tLst, rI, rGcd, tNext, tCall, tCallN, tIf, tSl, tPart, tNoPart, rSlL, tDrop, tBM, tBM0, rAppend, rPop, tAndV, tOrV, tNotV, tAnd, tOr, tNot, tB, rEq, rNe, scal_int, gTup, gCons, gNil, gUnl, gSub, rSetL, tRevL, tAug, ipI, rIxL, rIxT, rCat, rRep, TruV, iList, iRng1, iRng2, iRng3, iEnum, tFor, tYes, List.append_nil, List.cons_append, List.nil_append, List.getElem?_cons_zero, List.getElem?_cons_succ, List.set_cons_zero, List.set_cons_succ, Option.some.injEq, exists_eq_left', exists_eq_left, exists_and_left, V.int.injEq, V.bl.injEq, V.ref.injEq, List.cons.injEq, and_true, true_and, and_assoc, decide_eq_true_eq, Bool.not_eq_true', if_true, if_false, Bool.false_eq_true, ite_true, ite_false, Bool.true_eq_false, reduceCtorEq, false_and, and_false, exists_false, false_or, or_false, gUnl, tCallN, rMax, tBreak, cxK, spSignAt]
              obtain ⟨q1, er, r1, hr1, xr⟩ := hy x (List.mem_of_getElem? hx)
              subst er
              have hr16 := hr1.at s16
              have t16 := t14.trans (s15.trans s16)
              refine ⟨q1, i, rfl, rfl, po, hq7.at t16, F, hA, r1, hr16, xr, fun H17 z s17 hz => ite2 (fun z0 => ?_) (fun _ => s16.trans s17)⟩
              obtain ⟨z1, z2⟩ := hz z0
              have rz := root_at fm fn hR z1 z2
              refine ⟨q1, rfl, oo, hw7.at (t16.trans s17), r1, hr16.at s17, by have := hAs.len; omega, hAs.pb.mono (by decide), xr, fun H18 s18 => ?_⟩
              have e : sg (evI oo r1) = sI b * sgP ρ (G ++ T) := by rw [ph, sg_mul, ← sI_sg, sgP_at hR.lt rz om]
              rw [if_neg (by simp [e])]
              exact s16.trans (s17.trans s18)
            · obtain ⟨y12, rfl, s16⟩ := z
              exact ⟨y6, _, _, _, _, rfl, s7.trans (t14.trans (s15.trans s16))⟩
        · obtain ⟨y6, y9, y10, y11, y12, rfl, s9⟩ := z
          refine hJ8 _ _ ?_
          simp (maxSteps := 2000000) only [NewO, tLc, wipe, List.map_cons, List.map_nil, tSeq, tIfS, tTest, tOp, tVar, tC, rI0, tPar, tUn, rU, tCons, tNil, tAsg, gName, tCB, tRet, tTup, tLst, rI, rGcd, tNext, tCall, tCallN, tIf, tSl, tPart, tNoPart, rSlL, tDrop, tBM, tBM0, rAppend, rPop, tAndV, tOrV, tNotV, tAnd, tOr, tNot, tB, rEq, rNe, scal_int, gTup, gCons, gNil, gUnl, gSub, rSetL, tRevL, tAug, ipI, rIxL, rIxT, rCat, rRep, TruV, iList, iRng1, iRng2, iRng3, iEnum, tFor, tYes, List.append_nil, List.cons_append, List.nil_append, List.getElem?_cons_zero, List.getElem?_cons_succ, List.set_cons_zero, List.set_cons_succ, Option.some.injEq, exists_eq_left', exists_eq_left, exists_and_left, V.int.injEq, V.bl.injEq, V.ref.injEq, List.cons.injEq, and_true, true_and, and_assoc, decide_eq_true_eq, Bool.not_eq_true', if_true, if_false, Bool.false_eq_true, ite_true, ite_false, Bool.true_eq_false, reduceCtorEq, false_and, and_false, exists_false, false_or, or_false, gUnl, tCallN, rMax, tBreak, cxK, rReprD]
          refine ⟨le2, fun t9 n9 => ⟨prT po oo, prT_dp upd_same (IsL.new ((same_new n9) _ _ (s9 _ _ (s27 _ _ h3)))) (IsL.new ((same_new n9) _ _ (s9 _ _ w7))), k1, k2, k3, k4, rfl, ?_⟩⟩
          rw [decide_eq_true rfl]
          exact hq _ (s1.trans (s2.trans (s27.trans (s9.trans (same_new n9)))))
    refine ⟨_, hp3, _, ix_int (i := 20) rfl (by omega), .inl ⟨_, rfl, by decide, ite2 (fun _ => ?_) (fun _ => ?_)⟩⟩
    · obtain ⟨n, hn, n2⟩ : ∃ n : Nat, (1 : Int) + (cI ds 21).fmod 2 = (n : Int) ∧ n ≤ 2 := by
        rw [Int.fmod_eq_emod_of_nonneg _ (by decide)]
        exact ⟨(1 + cI ds 21 % 2).toNat, by omega, by omega⟩
      refine ⟨_, hp3, _, ix_int (i := 21) rfl (by omega), .inl ⟨_, rfl, by decide, _, SqL.of (s23 _ _ h4), fun p1 n1 => ⟨_, (same_new n1) _ _ h5, _, upd_same, ?_, fun p2 n2 => ?_⟩⟩⟩
      · rw [hn, cut_take, List.length_take]
        have := mG.len
        exact le_size (by omega)
      · rw [hn, cut_take] at n2 ⊢
        have s4 := (same_new (o := HO.lst (vs.take n)) n1).trans (same_new (o := HO.lst (ms ++ vs.take n)) n2)
        have v1 := ((mG.at (same_new (o := HO.lst (vs.take n)) n1)).any n2).upd (o := HO.lst (ms ++ vs.take n))
        have v2 := (((vF.at s23).at (same_new (o := HO.lst (vs.take n)) n1)).any n2).upd (o := HO.lst (ms ++ vs.take n))
        exact key p2 _ (F.take n) _ s4 upd_same (v1.append (v2.take n)) (fun f hf => fm f (List.mem_of_mem_take hf)) (fn.sublist (List.take_sublist _ _)) (by rw [List.length_take]; omega)
    · exact key M ms [] H3 (Same.refl _) h5 (by rw [List.append_nil]; exact mG) (fun f hf => by cases hf) List.nodup_nil (by decide)
end
end W23
namespace W23
open PySem PySem.Spec PyProof.Rows L2 K23
/-! ### the script hidden: what else stands is there -/
theorem hid_keep {h : Heap} {H : Hp} {a b : Addr} {o u : Obj} (hA : ∀ b, H b ≠ none → b = a) (ha : h.get? a = some u) (hb : h.get? b = some o) (ne : o ≠ u) : (hidT h H).get? b = some o := by
  refine hidT_get hb ?_
  apply Classical.byContradiction
  intro q
  have e := hA b q
  rw [e, ha] at hb
  exact ne (Option.some.inj hb).symm
theorem hid_ns {h : Heap} {H : Hp} {a b : Addr} {u : Obj} {xs : Array Value} {n : Nat} {m : Str → Option Value} (hA : ∀ b, H b ≠ none → b = a) (ha : h.get? a = some u) (hu : u.data = .seq xs n) (hn : h.Ns b m) : (hidT h H).Ns b m := by
  obtain ⟨o, es, ep, e, d, r⟩ := hn
  refine ⟨o, es, ep, hid_keep hA ha e (fun z => ?_), d, r⟩
  rw [z, hu] at d
  cases d
theorem hid_seer {h : Heap} {H : Hp} {a : Addr} {u : Obj} {xs : Array Value} {n : Nat} (hA : ∀ b, H b ≠ none → b = a) (ha : h.get? a = some u) (hu : u.data = .seq xs n) (hc : u.cls = .type "list") (hN : h.NoSeer) : (hidT h H).NoSeer := by
  have ns : ∀ {b : Addr} {m : Str → Option Value}, h.Ns b m → (hidT h H).Ns b m := fun k => hid_ns hA ha hu k
  obtain ⟨mc, c0, c1⟩ := hN.statics
  obtain ⟨mm, m0, m1⟩ := hN.mods
  obtain ⟨mb, b0, b1⟩ := hN.imp
  obtain ⟨mg, bm, ob, g0, g1, g2, g3, g4⟩ := hN.main
  refine ⟨⟨mc, ns c0, c1⟩, ⟨mm, ns m0, m1⟩, ⟨mb, ns b0, b1⟩, mg, bm, ob, ns g0, g1, hid_keep hA ha g2 (fun z => ?_), g3, g4⟩
  rw [z, hc] at g3
  exact absurd (Value.type.inj g3) (by decide)
/-- the law's call, no repr being under way -/
theorem end_call {P : Program} {w : World} {K : PySem.W.Frag} {mg mb : Str → Option Value} {k : Nat} {fa a : Addr} {fd : FuncData} {x : Str} {sp : Sp} {s : Shared} {vs : List Value} {ns : List Int}
    (KX : K.In s.heap) (gn : s.heap.Ns mainGlobals mg) (bn : s.heap.Ns builtinsNs mb) (bb : ∀ x : Str, x ≠ "__name__" → mb x = bootBuiltins x) (nl : s.heap.NoLimit) (sn : s.heap.NoSeer) (gs : s.gens = #[])
    (ha : s.heap.get? a = some ⟨.type "list", none, .seq vs.toArray 0, #[]⟩) (hi : IntsAre vs ns) (hl : ns.length ≤ sizeLine) (hr : Room k callerA)
    (F : ∀ base : Heap, K.In base → base.Ns mainGlobals mg → base.NoSeer → FnG P w K mg base CX0 k fa fd [x] sp) (bt : ∀ (s : Shared) (u : Value), BindsTo s fd ⟨[u], []⟩ [(x, u)])
    (hsp : ∀ H : Hp, SqL K H a (ns.map V.int) → sp [.ref a] H (fun v _ => v = .bl true) fun _ _ _ => False) :
    codeAny (model P w) callerA (.call (.ref fa) ⟨[.ref a], []⟩) (fun r t => r = .ok (.ret (.bool true)) ∧ PySem.OldK s.heap t.heap ∧ t.os = s.os ∧ AllBare t.gens) s := by
  have rv := vals_ints hi
  have lv := hi.length
  obtain ⟨H, hH⟩ : ∃ H : Hp, ∀ b, H b = if b = a ∧ K.lookup a = none then some (.frz ⟨.type "list", none, .seq vs.toArray 0, #[]⟩ (.lst (ns.map V.int))) else none := ⟨_, fun _ => rfl⟩
  have hA : ∀ b, H b ≠ none → b = a := fun b q => by
    rw [hH b] at q
    split at q
    · rename_i c; exact c.1
    · exact absurd rfl q
  have hS : SqL K H a (ns.map V.int) := by
    cases q : K.lookup a with
    | none => exact .inl (.inr ⟨_, (hH a).trans (if_pos ⟨rfl, q⟩)⟩)
    | some o =>
      have e := KX a o q
      rw [ha] at e
      cases e
      exact .inr ⟨_, vs.toArray, _, q, rfl, rfl, rfl, by rw [List.size_toArray, lv]; exact hl, by simpa using rv⟩
  have ok : HOk P w H s.heap := fun b u q => by
    rw [hH b] at q
    split at q
    · rename_i c
      cases q
      rw [c.1]
      exact ⟨ha, by rw [List.length_map]; exact hl, vs, _, rv, ha⟩
    · cases q
  have kin : K.In (hidT s.heap H) := fun b o e => by
    refine hidT_get (KX b o e) ?_
    rw [hH b, if_neg]
    rintro ⟨c1, c2⟩
    rw [c1, c2] at e
    cases e
  have nn : ∀ {b : Addr} {m : Str → Option Value}, s.heap.Ns b m → (hidT s.heap H).Ns b m := fun z => hid_ns hA ha rfl z
  have md : Mod K mg (hidT s.heap H) := ⟨kin, nn gn, ⟨mb, nn bn, bb⟩, let ⟨mc, h1, h2⟩ := nl; ⟨mc, nn h1, h2⟩⟩
  have e0 : Env0 P w K mg (hidT s.heap H) callerA [] s H := ⟨rfl, md, fun b o e => of_hidT e, Nat.le_of_eq (hidT_size _ _), trivial, fun b hb => (by cases hb), ok, .of_eq gs⟩
  have G := F (hidT s.heap H) kin (nn gn) (hid_seer hA ha rfl rfl sn)
  refine codeAny_mono (G.run callerA [] s H ⟨[.ref a], []⟩ [.ref a] [.ref a] _ _ rfl hr e0 (bt s (.ref a)) (.cons rfl .nil) (hsp H hS)) fun r t h => ?_
  match r, h with
  | .ok (.ret u), ⟨v, H', os, bare, un, ok', r', q⟩ =>
    have q : v = .bl true := q
    subst q
    obtain rfl : u = Value.bool true := r'
    refine ⟨rfl, PySem.OldK.of_keep fun b o e => ?_, os, bare⟩
    cases q : H b with
    | none => exact un.keep b o e q (fun z => (by cases z)) (fun z => (by cases z))
    | some z =>
      have q2 := q
      rw [hH b] at q2
      split at q2
      · cases q2
        obtain ⟨e1, _⟩ := ok b _ q
        obtain ⟨e2, _⟩ := ok' b _ (un.frzs b _ _ q)
        rw [e] at e1
        cases e1
        exact e2
      · cases q2
theorem end_walk {l : PySem.W.OpenLaw} {n k : Nat} {q : Program} {loose : List Str} {XP : (Str → Option Value) → Heap → Prop} {YP : World → Heap → Prop} {d : DefRec} {x : Str}
    (hn : l.most = some n) (hn2 : n ≤ sizeLine) (hi : importsNone q = true) (hdf : d.params.defaults = []) (hr : Room k callerA)
    (F : ∀ (w : World) (mg : Str → Option Value) (fa : Addr) (h : Heap), YP w h → h.Ns mainGlobals mg → mg d.name = some (.ref fa) →
      ∃ (K : PySem.W.Frag) (fd : FuncData) (sp : Sp), K.In h ∧ (∀ (s : Shared) (u : Value), BindsTo s fd ⟨[u], []⟩ [(x, u)]) ∧
        (∀ (H : Hp) (a : Addr) (ns : List Int), ns.length ≤ n → SqL K H a (ns.map V.int) → sp [.ref a] H (fun v _ => v = .bl true) fun _ _ _ => False) ∧
        ∀ base : Heap, K.In base → base.Ns mainGlobals mg → base.NoSeer → FnG l.prog w K mg base CX0 k fa fd [x] sp) :
    PySem.W.WalkO q loose XP YP l.row.toRowW d [] (fun f vs => PySem.call f vs) := by
  refine Att.attach_call hn hdf fun w s₀ s₁ mg mb fa o pm cd doc a vs ns G Y ho hd hcd hmg hobj hints hlen hg => ?_
  obtain ⟨K, fd, sp, KX, hb, hsp, hF⟩ := F w mg fa _ Y G.T.g hmg
  exact end_call KX G.T.g G.T.b G.T.builtins G.T.nolimit (G.T.seer hi) hg hobj hints (Nat.le_trans hlen hn2) hr hF hb fun H hS => hsp H a ns hlen hS
/-! ### what the top leaves -/
theorem tx_of {K : PySem.W.Frag} {h : Heap} {mg : Str → Option Value} (X : K.In h) (G : h.Ns mainGlobals mg) (c : obX K = (true, He.valD fds)) :
    ∃ (A : Nat → Addr) (D : Nat → FuncData), (∀ k x i, fnl[k]? = some (x, i) → FunP K x (stm i) (A k) (D k) ∧ mg x = some (.ref (A k))) ∧ ∀ (P : Program) (base : Heap), P.given.tree = none → base.NoSeer → Tx P K mg base A D := by
  have c1 : xok K = true := congrArg Prod.fst c
  have c2 : He.SaysD fas fds K := congrArg Prod.snd c
  obtain ⟨g1, g2⟩ := He.ba c1
  obtain ⟨g2, g3⟩ := He.ba g2
  have fact : ∀ f ∈ fas, f.ok K = true := fun f hf => by
    obtain ⟨i, hi⟩ := List.mem_iff_getElem?.mp hf
    exact c2.fact i hi
  have ex : ∀ k : Nat, ∃ p : Addr × FuncData, ∀ x i, fnl[k]? = some (x, i) → FunP K x (stm i) p.1 p.2 ∧ mg x = some (.ref p.1) := fun k => by
    cases e : fnl[k]? with
    | none =>
      obtain ⟨fd, _⟩ := c2.def_ 0 (d := dd (ent "number" 3)) rfl
      exact ⟨(0, fd), fun x i z => by cases z⟩
    | some q =>
      have e2 : fds[k]? = some (dd q) := by
        unfold fds
        rw [List.getElem?_map, e]; rfl
      obtain ⟨fd, hf⟩ := c2.def_ k e2
      refine ⟨(He.ga K q.1, fd), fun x i z => ?_⟩
      cases z
      refine ⟨hf, He.glo_ok X G (fact (.glo x) ?_)⟩
      exact List.mem_append_left _ (List.mem_map.mpr ⟨(x, i), List.mem_of_getElem? e, rfl⟩)
  refine ⟨fun k => (Classical.choose (ex k)).1, fun k => (Classical.choose (ex k)).2, fun k => Classical.choose_spec (ex k), fun P base ht hs => ⟨fun k x i e => (Classical.choose_spec (ex k) x i e).1, fun k x i e => (Classical.choose_spec (ex k) x i e).2, fun k x e => ?_, ?_, ?_, hs, ht⟩⟩
  · exact He.free_ok X G (fact (.free x) (List.mem_append_right _ (List.mem_map.mpr ⟨x, List.mem_of_getElem? e, rfl⟩)))
  · exact PySem.W.mg_of X G (He.eqO_ok g1)
  · exact ⟨_, He.glo_ok X G g2, fun H => He.tupB_ok g3 H⟩
end W23
namespace W23
open PySem PySem.Spec PyProof.Rows L2 K23
theorem facts {w : World} {K : PySem.W.Frag} {h : Heap} {mg : Str → Option Value} {f : Addr} (X : K.In h) (G : h.Ns mainGlobals mg) (hf : mg ("law" : Str) = some (.ref f)) (c : obX K = (true, He.valD fds)) (ht : (PySem.Challenge.rw_wheretrue_k23_whole_signs_at_roots).prog.given.tree = none) :
    ∃ (K : PySem.W.Frag) (fd : FuncData) (sp : Sp), K.In h ∧ (∀ (s : Shared) (u : Value), BindsTo s fd ⟨[u], []⟩ [("_law_script", u)]) ∧
        (∀ (H : Hp) (a : Addr) (ns : List Int), ns.length ≤ 63 → SqL K H a (ns.map V.int) → sp [.ref a] H (fun v _ => v = .bl true) fun _ _ _ => False) ∧
        ∀ base : Heap, K.In base → base.Ns mainGlobals mg → base.NoSeer → FnG (PySem.Challenge.rw_wheretrue_k23_whole_signs_at_roots).prog w K mg base CX0 51 f fd ["_law_script"] sp := by
  obtain ⟨A, D, F, T⟩ := tx_of X G c
  obtain ⟨F1, F2⟩ := F 67 "law" 79 rfl
  cases hf.symm.trans F2
  have b := FunD.bindsA (ps := ["_law_script"]) F1 fun _ _ _ _ _ _ us hl => match us, hl with | [_], _ => rfl
  exact ⟨K, _, spLaw K, X, fun s u => b s [u] rfl, fun H a ns hl hS => ⟨a, ns, rfl, hS, by omega, fun _ _ => rfl⟩, fun base _ _ hN => okg_law (T _ base ht hN)⟩
end W23
open PySem PySem.W PySem.Calls PyProof.Rows
theorem PySem.Challenge.cw_wheretrue_k23_whole_signs_at_roots_holds : PySem.Challenge.rw_wheretrue_k23_whole_signs_at_roots.Holds := by
  w_on; o_law
  refine HandSHeadRun.head_imp (r := OpenLaw.row PySem.Challenge.rw_wheretrue_k23_whole_signs_at_roots) (q := view (OpenLaw.row PySem.Challenge.rw_wheretrue_k23_whole_signs_at_roots).prog [79]) (H := W23.hkX) (ob := W23.obS) (M := 8000) (loose := W23.names) (d := HandSHeadRun.topDef (OpenLaw.row PySem.Challenge.rw_wheretrue_k23_whole_signs_at_roots).prog 79) (kwd := []) W23.obS_eq
    W23.run (by kernel_rfl) (by kernel_rfl) (by kernel_rfl) (by rfl) (by first | assumption | decide +kernel) (by decide +kernel) ⟨rfl, rfl, rfl, rfl, rfl, by decide +kernel⟩ ?hw ?hc
  case hw => w_witness2
  case hc =>
    refine W23.end_walk (l := PySem.Challenge.rw_wheretrue_k23_whole_signs_at_roots) (n := 63) (k := 51) (x := "_law_script") rfl (by decide) (by kernel_rfl) (by kernel_rfl) ⟨rfl, by decide, by decide⟩ ?F
    intro w mg fa h Y G hmg0
    obtain ⟨K, KX, c⟩ := Y
    have e : (HandSHeadRun.topDef (OpenLaw.row PySem.Challenge.rw_wheretrue_k23_whole_signs_at_roots).prog 79).name = ("law" : PySem.Str) := by kernel_rfl
    rw [e] at hmg0
    exact W23.facts KX G hmg0 c (by kernel_rfl)
