import PyProof.Rows.All
import Wide.All
import OpenK.AllK
import Wide.FinOn
import HandS.ForMost
import HandS.Defaults
import HandS.HeadEnd
import HandS.HeadHook4
import HandS.Head3
import PySem.Challenge.RW_buybook_k60_whole_liking_and_refusal_nev
import HandS.Wide
import HandS.WideBits
import HandS.Gcd
import HandS.Style
import HandS.Flow
import HandS.IsInst
import KE.KDictKeyed
import KE.KDictDisplayH
import HandS.Codes
set_option Elab.async false
set_option linter.all false
section
set_option maxRecDepth 100000
set_option maxHeartbeats 0
/-! The head: facts by names, the run. -/
namespace BB
open PySem PySem.Spec PyProof.Rows L2
def top (i : Nat) : Stmt := PySem.Challenge.pw_buybook_k60_whole_liking_and_refusal_nev.main.body.getD i (.Pass ⟨0, 0, 0, 0⟩)
def sInit : Stmt := inClass (top 15) 0
abbrev RR : PySem.W.OpenRow := PySem.W.OpenLaw.row PySem.Challenge.rw_buybook_k60_whole_liking_and_refusal_nev
def dD (x : Str) (i : Nat) : He.DefD := ⟨(x, none), x, x, defArgs (top i), defBody (top i), defScope (top i), [], []⟩
def dI : He.DefD := ⟨("Data", some "__init__"), "__init__", "Data.__init__", defArgs sInit, defBody sInit, defScope sInit, [], []⟩
def fnL0 : List He.DefD := [dD "_law_row" 75, dD "_law_gcd" 77, dD "_law_lowest" 78, dD "_law_long" 76, dD "_law_purchase" 81, dD "_law_data" 82, dD "_law_closure" 88, dD "_law_dot" 84, dD "_law_gap" 85, dD "_law_step" 86, dD "_law_steps" 87, dD "_law_small" 92, dD "_law_two_baskets" 93, dD "_law_made" 83, dD "ratio" 4, dD "add" 5, dD "mul" 7, dD "dot" 13, dD "cost" 16, dD "spent" 17, dD "at_most" 11, dD "less" 10, dD "step" 37, dD "step_table" 38, dD "find_in" 39, dD "leads" 40, dD "next_class" 46, dD "sub" 6, dD "plane" 43, dD "class_number" 47]
def fnL1 : List He.DefD := [dD "div" 8, dD "member_weight" 48, dD "make_taste" 49, dD "check" 50, dD "points_of" 52, dD "neg" 9, dD "turned" 20, dD "slack_columns" 21, dD "helper_columns" 22, dD "first_rows" 23, dD "first_basis" 34, dD "entering" 27, dD "leaving" 28, dD "less_times" 24, dD "pivot" 26, dD "descend" 29, dD "reduced" 25, dD "prices_of" 33, dD "without_helpers" 30, dD "values_of" 31, dD "solve" 35, dD "excess" 53, dD "minus" 54, dD "total_of" 67, dD "number_entries" 66, dD "pair_line" 68, dD "goal_pairs" 60, dD "liking_lines" 69, dD "refusal_from" 71, dD "liking_from" 70]
def fnL2 : List He.DefD := [dD "likes" 72, dD "_law_is_integer" 74, dD "_law_is_fraction" 79, dD "_law_are_fractions" 80, dD "_law_is_liking" 94, dD "right_lengths" 58, dD "all_above" 56, dD "plane_at" 55, dD "goal_holds" 57, dD "links_hold" 44, dD "judge_liking" 59, dD "_law_one_accepted" 101, dD "_law_add" 89, dD "_law_put" 96, dD "_law_likings" 97, dD "_law_is_refusal" 95, dD "none_below" 63, dD "right_prices" 64, dD "balanced" 61, dD "excesses" 62, dD "judge_refusal" 65, dD "_law_copy" 100, dD "_law_one_refused" 102, dD "_law_around" 98, dD "_law_refusals" 99, dD "_law_same" 90, dD "_law_unchanged" 91, dD "law" 103]
def fnL : List He.DefD := dI :: (fnL0 ++ fnL1 ++ fnL2)
def faL0 : List He.Fa := [.cls "Data", .noat "Data" "goods", .noat "Data" "buys", .noat "Data" "links", .mkr "Data", .glo "Data", .glo "ZERO", .glo "ONE", .free "len", .free "abs", .free "max", .free "min", .free "int", .free "isinstance", .free "list", .free "range", .free "bool", .free "str", .free "tuple"]
def faM0 : List He.Fa := [.glo "_law_row", .glo "_law_gcd", .glo "_law_lowest", .glo "_law_long", .glo "_law_purchase", .glo "_law_data", .glo "_law_closure", .glo "_law_dot", .glo "_law_gap", .glo "_law_step", .glo "_law_steps", .glo "_law_small", .glo "_law_two_baskets", .glo "_law_made", .glo "ratio", .glo "add", .glo "mul", .glo "dot", .glo "cost", .glo "spent", .glo "at_most", .glo "less", .glo "step", .glo "step_table", .glo "find_in", .glo "leads", .glo "next_class", .glo "sub", .glo "plane", .glo "class_number"]
def faM1 : List He.Fa := [.glo "div", .glo "member_weight", .glo "make_taste", .glo "check", .glo "points_of", .glo "neg", .glo "turned", .glo "slack_columns", .glo "helper_columns", .glo "first_rows", .glo "first_basis", .glo "entering", .glo "leaving", .glo "less_times", .glo "pivot", .glo "descend", .glo "reduced", .glo "prices_of", .glo "without_helpers", .glo "values_of", .glo "solve", .glo "excess", .glo "minus", .glo "total_of", .glo "number_entries", .glo "pair_line", .glo "goal_pairs", .glo "liking_lines", .glo "refusal_from", .glo "liking_from"]
def faM2 : List He.Fa := [.glo "likes", .glo "_law_is_integer", .glo "_law_is_fraction", .glo "_law_are_fractions", .glo "_law_is_liking", .glo "right_lengths", .glo "all_above", .glo "plane_at", .glo "goal_holds", .glo "links_hold", .glo "judge_liking", .glo "_law_one_accepted", .glo "_law_add", .glo "_law_put", .glo "_law_likings", .glo "_law_is_refusal", .glo "none_below", .glo "right_prices", .glo "balanced", .glo "excesses", .glo "judge_refusal", .glo "_law_copy", .glo "_law_one_refused", .glo "_law_around", .glo "_law_refusals", .glo "_law_same", .glo "_law_unchanged", .glo "law"]
def faL : List He.Fa := faL0 ++ (faM0 ++ faM1 ++ faM2)
def lo0 : List PySem.Str := ["gcd", "ZERO", "ONE", "ratio", "add", "sub", "mul", "div", "neg", "less", "at_most", "dot", "Data", "cost", "spent", "unit", "turned", "slack_columns", "helper_columns", "first_rows", "less_times", "reduced", "pivot", "entering", "leaving", "descend", "without_helpers", "values_of", "ray_of", "prices_of"]
def lo1 : List PySem.Str := ["first_basis", "solve", "step", "step_table", "find_in", "leads", "find_chain", "plane", "links_hold", "next_class", "class_number", "member_weight", "make_taste", "check", "points_of", "excess", "minus", "plane_at", "all_above", "goal_holds", "right_lengths", "judge_liking", "goal_pairs", "balanced", "excesses", "none_below", "right_prices", "judge_refusal", "number_entries", "total_of"]
def lo2 : List PySem.Str := ["pair_line", "liking_lines", "liking_from", "refusal_from", "likes", "_law_is_integer", "_law_row", "_law_long", "_law_gcd", "_law_lowest", "_law_is_fraction", "_law_are_fractions", "_law_purchase", "_law_data", "_law_made", "_law_dot", "_law_gap", "_law_step", "_law_steps", "_law_closure", "_law_add", "_law_same", "_law_unchanged", "_law_small", "_law_two_baskets", "_law_is_liking", "_law_is_refusal", "_law_put", "_law_likings", "_law_around"]
def lo3 : List PySem.Str := ["_law_refusals", "_law_copy", "_law_one_accepted", "_law_one_refused"]
def loL : List PySem.Str := lo0 ++ lo1 ++ lo2 ++ lo3
def exB (K : PySem.W.Frag) : Bool := He.eqO (PySem.W.nsIn K mainGlobals "gcd") (some (some (.builtin "math.gcd"))) && (He.tupB K "ZERO" [.int 0, .int 1] && He.tupB K "ONE" [.int 1, .int 1])
/-- what of the heap is looked at: the globals, the objects that they name, the defs' code, the class's names, its methods and their code -/
def refA (o : Obj) : List Addr := match o.data with
  | .dict es _ => es.toList.flatMap fun e => He.refV e.val
  | .func fd => He.refV fd.code
  | .cls cd => [cd.ns]
  | _ => []
def nxA (g : Addr → Option Obj) (as : List Addr) : List Addr := as.flatMap fun a => match g a with
  | some o => refA o
  | none => []
def frL {α β : Type} : List α → (List α → β) → β
  | [], k => k []
  | a :: l, k => frL l fun r => k (a :: r)
def asP (g : Addr → Option Obj) : List Addr := frL (nxA g [mainGlobals]) fun l1 => frL (nxA g l1) fun l2 => frL (nxA g l2) fun l3 => frL (nxA g l3) fun l4 => mainGlobals :: (l1 ++ (l2 ++ (l3 ++ l4)))
abbrev AlP : Type := Bool × He.AlD
def obsK (fa : List He.Fa) (fn : List He.DefD) (ex : PySem.W.Frag → Bool) (K : PySem.W.Frag) : AlP := (ex K, He.obsD fa fn K)
def obsP (fa : List He.Fa) (fn : List He.DefD) (ex : PySem.W.Frag → Bool) (g : Addr → Option Obj) : AlP := obsK fa fn ex (He.frG g (asP g))
def SaysP (fa : List He.Fa) (fn : List He.DefD) (ex : PySem.W.Frag → Bool) (K : PySem.W.Frag) : Prop := He.SaysD fa fn K ∧ ex K = true
def hookP (fa : List He.Fa) (fn : List He.DefD) (ex : PySem.W.Frag → Bool) : PySem.W.Hook where
  α := AlP
  obs := fun s => obsP fa fn ex s.heap.get?
  val := fun _ => (true, He.valD fn)
  says := fun _ h => ∃ K : PySem.W.Frag, K.In h ∧ SaysP fa fn ex K
  of := fun _ _ e => ⟨_, He.frG_in, congrArg (fun z : AlP => z.2) e, congrArg (fun z : AlP => z.1) e⟩
  keeps := fun _ _ _ ⟨K, hK, c⟩ k => ⟨K, PySem.W.Frag.In.keeps hK k, c⟩
abbrev hk : PySem.W.Hook := hookP faL fnL exB
def obH (s : PySem.W.SharedT) : AlP := obsP faL fnL exB (HandSHeadRun.getT s)
theorem ob_eq (s : PySem.W.SharedT) : obH s = hk.obs s.abs := by
  have e : HandSHeadRun.getT s = s.abs.heap.get? := funext (HandSHeadRun.getT_eq s)
  unfold obH
  rw [e]
  rfl
abbrev qV : Program := PySem.W.view RR.prog [0, 103]
theorem run (w : World) : HandSHeadRun.RunEqI RR qV hk obH 8000 loL w := by
  unfold HandSHeadRun.RunEqI
  kernel_rfl
end BB
end
section
set_option maxHeartbeats 4000000
/-! Sums and determinants over Rat. -/
namespace MA
def sm : Nat → (Nat → Rat) → Rat
  | 0, _ => 0
  | n + 1, f => sm n f + f n
theorem sm_0 (f : Nat → Rat) : sm 0 f = 0 := rfl
theorem sm_s (n : Nat) (f : Nat → Rat) : sm (n + 1) f = sm n f + f n := rfl
theorem sm_congr : ∀ {n : Nat} {f g : Nat → Rat}, (∀ i, i < n → f i = g i) → sm n f = sm n g
  | 0, _, _, _ => rfl
  | n + 1, f, g, h => by
    unfold sm
    rw [sm_congr fun i hi => h i (by omega), h n (by omega)]
theorem sm_add : ∀ (n : Nat) (f g : Nat → Rat), sm n (fun i => f i + g i) = sm n f + sm n g
  | 0, _, _ => by unfold sm; grind
  | n + 1, f, g => by unfold sm; rw [sm_add n f g]; grind
theorem sm_sub : ∀ (n : Nat) (f g : Nat → Rat), sm n (fun i => f i - g i) = sm n f - sm n g
  | 0, _, _ => by unfold sm; grind
  | n + 1, f, g => by unfold sm; rw [sm_sub n f g]; grind
theorem sm_mul : ∀ (n : Nat) (c : Rat) (f : Nat → Rat), sm n (fun i => c * f i) = c * sm n f
  | 0, _, _ => by unfold sm; grind
  | n + 1, c, f => by unfold sm; rw [sm_mul n c f]; grind
theorem sm_mulr (n : Nat) (c : Rat) (f : Nat → Rat) : sm n (fun i => f i * c) = sm n f * c := by
  rw [show (fun i => f i * c) = fun i => c * f i from funext fun i => Rat.mul_comm _ _, sm_mul, Rat.mul_comm]
theorem sm_zero : ∀ {n : Nat} {f : Nat → Rat}, (∀ i, i < n → f i = 0) → sm n f = 0
  | 0, _, _ => rfl
  | n + 1, f, h => by unfold sm; rw [sm_zero fun i hi => h i (by omega), h n (by omega)]; grind
theorem sm_swap : ∀ (n m : Nat) (f : Nat → Nat → Rat), sm n (fun i => sm m fun j => f i j) = sm m fun j => sm n fun i => f i j
  | 0, m, f => by rw [sm_0]; exact (sm_zero fun _ _ => rfl).symm
  | n + 1, m, f => by
    rw [sm_s, sm_swap n m f, ← sm_add]; rfl
theorem sm_one : ∀ {n r : Nat} {f : Nat → Rat}, r < n → (∀ i, i < n → i ≠ r → f i = 0) → sm n f = f r
  | 0, r, f, h, _ => by omega
  | n + 1, r, f, h, h0 => by
    unfold sm
    by_cases e : r = n
    · subst e; rw [sm_zero fun i hi => h0 i (by omega) (by omega)]; grind
    · rw [sm_one (r := r) (by omega) fun i hi hn => h0 i (by omega) hn, h0 n (by omega) (by omega)]; grind
theorem sm_pick {n r : Nat} (f : Nat → Rat) (h : r < n) : sm n f = f r + sm n (fun i => if i = r then 0 else f i) := by
  have : sm n (fun i => f i - if i = r then 0 else f i) = f r := by
    rw [sm_one h fun i _ hn => by rw [if_neg hn]; grind]
    rw [if_pos rfl]; grind
  rw [sm_sub] at this
  grind
theorem sm_nonneg : ∀ {n : Nat} {f : Nat → Rat}, (∀ i, i < n → 0 ≤ f i) → 0 ≤ sm n f
  | 0, _, _ => by unfold sm; grind
  | n + 1, f, h => by
    unfold sm
    have := sm_nonneg (n := n) (f := f) fun i hi => h i (by omega)
    have := h n (by omega)
    grind
theorem sm_le {n : Nat} {f g : Nat → Rat} (h : ∀ i, i < n → f i ≤ g i) : sm n f ≤ sm n g := by
  have := sm_nonneg (n := n) (f := fun i => g i - f i) fun i hi => by have := h i hi; grind
  rw [sm_sub] at this; grind
theorem sm_pos {n r : Nat} {f : Nat → Rat} (h : ∀ i, i < n → 0 ≤ f i) (hr : r < n) (hp : 0 < f r) : 0 < sm n f := by
  rw [sm_pick f hr]
  have := sm_nonneg (n := n) (f := fun i => if i = r then 0 else f i) fun i hi => by
    by_cases e : i = r
    · rw [if_pos e]; grind
    · rw [if_neg e]; exact h i hi
  grind
/-- of a sum of nonnegatives that is not positive each is zero -/
theorem sm_zero_of {n : Nat} {f : Nat → Rat} (h : ∀ i, i < n → 0 ≤ f i) (h0 : sm n f ≤ 0) : ∀ i, i < n → f i = 0 := by
  intro i hi
  have h1 := h i hi
  by_cases e : 0 < f i
  · have := sm_pos h hi e; grind
  · grind
theorem sm_split (n : Nat) : ∀ (m : Nat) (f : Nat → Rat), sm (n + m) f = sm n f + sm m fun i => f (n + i)
  | 0, f => by show sm n f = _; unfold sm; grind
  | m + 1, f => by
    show sm (n + m) f + f (n + m) = _ + (_ + _)
    rw [sm_split n m f]; grind
/-- somewhere positive -/
theorem sm_pos_ex : ∀ {n : Nat} {f : Nat → Rat}, 0 < sm n f → ∃ i, i < n ∧ 0 < f i
  | 0, f, h => by unfold sm at h; grind
  | n + 1, f, h => by
    unfold sm at h
    by_cases e : 0 < f n
    · exact ⟨n, by omega, e⟩
    · obtain ⟨i, hi, hp⟩ := sm_pos_ex (n := n) (f := f) (by grind)
      exact ⟨i, by omega, hp⟩

/-! ### determinants -/
def sk (a j : Nat) : Nat := if j < a then j else j + 1
def sg (j : Nat) : Rat := if j % 2 = 0 then 1 else -1
def det : Nat → (Nat → Nat → Rat) → Rat
  | 0, _ => 1
  | n + 1, M => sm (n + 1) fun j => sg j * M 0 j * det n fun i k => M (i + 1) (sk j k)
def setc (M : Nat → Nat → Rat) (c : Nat) (v : Nat → Rat) : Nat → Nat → Rat := fun i k => if k = c then v i else M i k
theorem sk_lt {n j k : Nat} (hk : k < n) : sk j k < n + 1 := by unfold sk; split <;> omega
theorem det_congr : ∀ {n : Nat} {M N : Nat → Nat → Rat}, (∀ i k, i < n → k < n → M i k = N i k) → det n M = det n N
  | 0, _, _, _ => rfl
  | n + 1, M, N, h => by
    unfold det
    refine sm_congr fun j hj => ?_
    rw [h 0 j (by omega) hj, det_congr (M := fun i k => M (i + 1) (sk j k)) (N := fun i k => N (i + 1) (sk j k)) fun i k hi hk => h (i + 1) (sk j k) (by omega) (sk_lt hk)]
/-- the column's place in the minor -/
def un (j c : Nat) : Nat := if c < j then c else c - 1
theorem sk_un {j c k : Nat} (h : c ≠ j) : sk j k = c ↔ k = un j c := by unfold sk un; split <;> split <;> omega
theorem sk_ne {j k : Nat} : sk j k ≠ j := by unfold sk; split <;> omega
theorem minor_setc {M : Nat → Nat → Rat} {j c : Nat} {v : Nat → Rat} (h : c ≠ j) : (fun i k => setc M c v (i + 1) (sk j k)) = setc (fun i k => M (i + 1) (sk j k)) (un j c) fun i => v (i + 1) := by
  funext i k
  unfold setc
  by_cases e : sk j k = c
  · rw [if_pos e, if_pos ((sk_un h).mp e)]
  · rw [if_neg e, if_neg fun e' => e ((sk_un h).mpr e')]
theorem minor_self {M : Nat → Nat → Rat} {c : Nat} {v : Nat → Rat} : (fun i k => setc M c v (i + 1) (sk c k)) = fun i k => M (i + 1) (sk c k) := by
  funext i k
  unfold setc
  rw [if_neg sk_ne]
theorem det_lin : ∀ {n : Nat} (M : Nat → Nat → Rat) (c : Nat) (a b : Rat) (u v : Nat → Rat), c < n → det n (setc M c fun i => a * u i + b * v i) = a * det n (setc M c u) + b * det n (setc M c v)
  | 0, _, _, _, _, _, _, h => by omega
  | n + 1, M, c, a, b, u, v, h => by
    unfold det
    rw [← sm_mul, ← sm_mul, ← sm_add]
    refine sm_congr fun j hj => ?_
    by_cases e : c = j
    · subst e
      rw [minor_self, minor_self, minor_self]
      unfold setc
      rw [if_pos rfl, if_pos rfl, if_pos rfl]
      grind
    · rw [minor_setc e, minor_setc e, minor_setc e, det_lin _ _ a b (fun i => u (i + 1)) (fun i => v (i + 1)) (by unfold un; split <;> omega)]
      unfold setc
      rw [if_neg (Ne.symm e), if_neg (Ne.symm e), if_neg (Ne.symm e)]
      grind
theorem sg_succ (j : Nat) : sg (j + 1) = - sg j := by
  unfold sg
  by_cases h : j % 2 = 0
  · rw [if_pos h, if_neg (by omega)]
  · rw [if_neg h, if_pos (by omega)]; grind
theorem det_adj : ∀ {n : Nat} (M : Nat → Nat → Rat) (c : Nat), c + 1 < n → (∀ i, i < n → M i c = M i (c + 1)) → det n M = 0
  | 0, _, _, h, _ => by omega
  | n + 1, M, c, h, he => by
    unfold det
    have h1 : ∀ j, j < n + 1 → j ≠ c → j ≠ c + 1 → det n (fun i k => M (i + 1) (sk j k)) = 0 := by
      intro j hj h1 h2
      by_cases hl : j < c
      · refine det_adj _ (c - 1) (by omega) fun i hi => ?_
        show M (i + 1) (sk j (c - 1)) = M (i + 1) (sk j (c - 1 + 1))
        rw [show sk j (c - 1) = c by unfold sk; split <;> omega, show sk j (c - 1 + 1) = c + 1 by unfold sk; split <;> omega]
        exact he _ (by omega)
      · refine det_adj _ c (by omega) fun i hi => ?_
        show M (i + 1) (sk j c) = M (i + 1) (sk j (c + 1))
        rw [show sk j c = c by unfold sk; split <;> omega, show sk j (c + 1) = c + 1 by unfold sk; split <;> omega]
        exact he _ (by omega)
    have h2 : det n (fun i k => M (i + 1) (sk c k)) = det n (fun i k => M (i + 1) (sk (c + 1) k)) := by
      refine det_congr fun i k hi hk => ?_
      by_cases e : k = c
      · subst e
        rw [show sk k k = k + 1 by unfold sk; split <;> omega, show sk (k + 1) k = k by unfold sk; split <;> omega]
        exact (he _ (by omega)).symm
      · rw [show sk c k = sk (c + 1) k by unfold sk; split <;> split <;> omega]
    rw [sm_pick (r := c) _ (by omega), sm_one (r := c + 1) (by omega) fun i hi hn => ?_]
    · rw [if_neg (by omega), sg_succ, h2, he 0 (by omega)]; grind
    · by_cases e : i = c
      · rw [if_pos e]
      · rw [if_neg e, h1 i hi e hn]; grind
def swc (M : Nat → Nat → Rat) (c : Nat) : Nat → Nat → Rat := fun i k => if k = c then M i (c + 1) else if k = c + 1 then M i c else M i k
theorem det_swap {n : Nat} (M : Nat → Nat → Rat) {c : Nat} (h : c + 1 < n) : det n (swc M c) = - det n M := by
  let u : Nat → Rat := fun i => M i c
  let v : Nat → Rat := fun i => M i (c + 1)
  let N : (Nat → Rat) → (Nat → Rat) → Nat → Nat → Rat := fun x y => setc (setc M c x) (c + 1) y
  have hN : ∀ x y, N x y = setc (setc M (c + 1) y) c x := by
    intro x y; funext i k
    show setc (setc M c x) (c + 1) y i k = _
    unfold setc
    by_cases e1 : k = c + 1
    · rw [if_pos e1, if_neg (by omega), if_pos e1]
    · rw [if_neg e1, if_neg e1]
  have h0 : ∀ x, det n (N x x) = 0 := fun x => by
    refine det_adj _ c h fun i _ => ?_
    show setc (setc M c x) (c + 1) x i c = setc (setc M c x) (c + 1) x i (c + 1)
    unfold setc
    rw [if_neg (by omega), if_pos rfl, if_pos rfl]
  have l2 : ∀ x, det n (N x fun i => 1 * u i + 1 * v i) = 1 * det n (N x u) + 1 * det n (N x v) := fun x => det_lin _ _ 1 1 u v h
  have l1 : ∀ y, det n (N (fun i => 1 * u i + 1 * v i) y) = 1 * det n (N u y) + 1 * det n (N v y) := fun y => by
    rw [hN, hN, hN]; exact det_lin _ _ 1 1 u v (by omega)
  have e := h0 fun i => 1 * u i + 1 * v i
  rw [l2, l1, l1, h0, h0] at e
  have e1 : N u v = M := by
    funext i k
    show setc (setc M c u) (c + 1) v i k = _
    unfold setc
    by_cases q : k = c + 1
    · rw [if_pos q, q]
    · rw [if_neg q]
      by_cases q' : k = c
      · rw [if_pos q', q']
      · rw [if_neg q']
  have e2 : N v u = swc M c := by
    funext i k
    show setc (setc M c v) (c + 1) u i k = _
    unfold setc swc
    by_cases q : k = c + 1
    · rw [if_pos q, if_neg (by omega), if_pos q]
    · rw [if_neg q]
      by_cases q' : k = c
      · rw [if_pos q', if_pos q']
      · rw [if_neg q', if_neg q', if_neg q]
  rw [e1, e2] at e
  grind
theorem det_eq : ∀ (d : Nat) {n : Nat} (M : Nat → Nat → Rat) (a : Nat), a + d + 1 < n → (∀ i, i < n → M i a = M i (a + d + 1)) → det n M = 0
  | 0, n, M, a, h, he => det_adj M a h he
  | d + 1, n, M, a, h, he => by
    have := det_swap M (c := a + d + 1) (n := n) (by omega)
    rw [det_eq d (swc M (a + d + 1)) a (by omega) fun i hi => ?_] at this
    · grind
    · show swc M (a + d + 1) i a = swc M (a + d + 1) i (a + d + 1)
      unfold swc
      rw [if_neg (by omega), if_neg (by omega), if_pos rfl]
      exact he i hi
theorem det_eq' {n : Nat} (M : Nat → Nat → Rat) {a b : Nat} (ha : a < n) (hb : b < n) (hne : a ≠ b) (he : ∀ i, i < n → M i a = M i b) : det n M = 0 := by
  rcases Nat.lt_or_gt_of_ne hne with h | h
  · obtain ⟨d, rfl⟩ := Nat.le.dest h
    exact det_eq d M a (by omega) fun i hi => by rw [he i hi]; congr 1; omega
  · obtain ⟨d, rfl⟩ := Nat.le.dest h
    exact det_eq d M b (by omega) fun i hi => by rw [← he i hi]; congr 1; omega
theorem det_sum {n : Nat} (M : Nat → Nat → Rat) {c : Nat} (h : c < n) (t : Nat → Rat) (w : Nat → Nat → Rat) : ∀ p, det n (setc M c fun i => sm p fun k => t k * w i k) = sm p fun k => t k * det n (setc M c fun i => w i k)
  | 0 => by
    have := det_lin M c 0 0 (fun _ => 0) (fun _ => 0) h
    unfold sm
    rw [show (fun i : Nat => (0 : Rat)) = fun i => 0 * (0 : Rat) + 0 * 0 from funext fun _ => by grind, this]
    grind
  | p + 1 => by
    unfold sm
    rw [← det_sum M h t w p]
    have := det_lin M c 1 (t p) (fun i => sm p fun k => t k * w i k) (fun i => w i p) h
    rw [show (fun i => (sm p fun k => t k * w i k) + t p * w i p) = fun i => 1 * (sm p fun k => t k * w i k) + t p * w i p from funext fun _ => by grind, this]
    grind
/-- Cramer -/
theorem cramer {n : Nat} (B : Nat → Nat → Rat) {r : Nat} (h : r < n) (t : Nat → Rat) : det n (setc B r fun i => sm n fun k => t k * B i k) = t r * det n B := by
  rw [det_sum B h t B n, sm_one h fun k hk hn => ?_]
  · congr 1
    congr 1
    funext i k
    unfold setc
    by_cases e : k = r
    · rw [if_pos e, e]
    · rw [if_neg e]
  · rw [det_eq' _ hk h hn fun i _ => ?_]
    · grind
    · unfold setc; rw [if_neg hn, if_pos rfl]
theorem det_diag : ∀ (n : Nat) (L : Nat → Rat), (∀ i, i < n → L i ≠ 0) → det n (fun i k => if i = k then L i else 0) ≠ 0
  | 0, _, _ => by unfold det; grind
  | n + 1, L, h => by
    unfold det
    rw [sm_one (r := 0) (by omega) fun i _ hn => by dsimp only; rw [if_neg (Ne.symm hn)]; grind]
    have ih := det_diag n (fun i => L (i + 1)) fun i hi => h (i + 1) (by omega)
    have h0 := h 0 (by omega)
    dsimp only
    rw [if_pos rfl, show sg 0 = 1 from rfl, show (fun i k => if i + 1 = sk 0 k then L (i + 1) else (0 : Rat)) = fun i k => if i = k then L (i + 1) else 0 from ?_]
    · intro e
      rcases Rat.mul_eq_zero.mp e with e | e
      · grind
      · exact ih e
    · funext i k
      rw [show sk 0 k = k + 1 by unfold sk; split <;> omega]
      by_cases e : i = k
      · rw [if_pos e, if_pos (by omega)]
      · rw [if_neg e, if_neg (by omega)]

/-! ### integers of bounded size over a common denominator -/
def Zs (d M : Nat) (a : Rat) : Prop := ∃ z : Int, a * (d : Rat) = (z : Rat) ∧ z.natAbs ≤ M
theorem Zs.mono {d M M' : Nat} {a : Rat} (h : Zs d M a) (hM : M ≤ M') : Zs d M' a := by
  obtain ⟨z, e, hz⟩ := h; exact ⟨z, e, Nat.le_trans hz hM⟩
theorem Zs.zero {d M : Nat} : Zs d M 0 := ⟨0, by grind, by simp⟩
theorem Zs.add {d M M' : Nat} {a b : Rat} (h : Zs d M a) (h' : Zs d M' b) : Zs d (M + M') (a + b) := by
  obtain ⟨z, e, hz⟩ := h; obtain ⟨z', e', hz'⟩ := h'
  refine ⟨z + z', by rw [Rat.intCast_add]; grind, by omega⟩
theorem Zs.neg {d M : Nat} {a : Rat} (h : Zs d M a) : Zs d M (-a) := by
  obtain ⟨z, e, hz⟩ := h
  refine ⟨-z, by rw [Rat.intCast_neg]; grind, by omega⟩
theorem Zs.sub {d M M' : Nat} {a b : Rat} (h : Zs d M a) (h' : Zs d M' b) : Zs d (M + M') (a - b) := by
  rw [Rat.sub_eq_add_neg]; exact h.add h'.neg
theorem Zs.mul {d d' M M' : Nat} {a b : Rat} (h : Zs d M a) (h' : Zs d' M' b) : Zs (d * d') (M * M') (a * b) := by
  obtain ⟨z, e, hz⟩ := h; obtain ⟨z', e', hz'⟩ := h'
  refine ⟨z * z', by rw [Rat.intCast_mul, Rat.natCast_mul]; grind, ?_⟩
  rw [Int.natAbs_mul]; exact Nat.mul_le_mul hz hz'
theorem Zs.up {d M : Nat} (c : Nat) {a : Rat} (h : Zs d M a) : Zs (d * c) (M * c) a := by
  obtain ⟨z, e, hz⟩ := h
  refine ⟨z * c, by rw [Rat.intCast_mul, Rat.natCast_mul, Rat.intCast_natCast]; grind, ?_⟩
  rw [Int.natAbs_mul]; exact Nat.mul_le_mul hz (by simp)
theorem Zs.sm {d M : Nat} : ∀ {n : Nat} {f : Nat → Rat}, (∀ i, i < n → Zs d M (f i)) → Zs d (n * M) (sm n f)
  | 0, f, _ => by unfold MA.sm; exact Zs.zero
  | n + 1, f, h => by
    unfold MA.sm
    have := (Zs.sm (n := n) (f := f) fun i hi => h i (by omega)).add (h n (by omega))
    rwa [Nat.succ_mul]
theorem Zs.int {M : Nat} (z : Int) (h : z.natAbs ≤ M) : Zs 1 M z := ⟨z, by grind, h⟩
/-- bound of determinants -/
def dB : Nat → Nat → Nat
  | _, 0 => 1
  | H, n + 1 => (n + 1) * (H * dB H n)
theorem det_Zs {H : Nat} : ∀ {n : Nat} {M : Nat → Nat → Rat}, (∀ i k, i < n → k < n → Zs 1 H (M i k)) → Zs 1 (dB H n) (det n M)
  | 0, _, _ => ⟨1, by unfold det; grind, by simp [dB]⟩
  | n + 1, M, h => by
    unfold det dB
    refine Zs.sm fun j hj => ?_
    have h1 := h 0 j (by omega) hj
    have h2 := det_Zs (n := n) (M := fun i k => M (i + 1) (sk j k)) fun i k hi hk => h (i + 1) (sk j k) (by omega) (sk_lt hk)
    have h3 := h1.mul h2
    unfold sg
    split
    · rwa [show (1 : Rat) * M 0 j = M 0 j by grind]
    · have := h3.neg
      rwa [show -(1 : Rat) * M 0 j * det n (fun i k => M (i + 1) (sk j k)) = -(M 0 j * det n fun i k => M (i + 1) (sk j k)) by grind]
end MA
end
section
set_option maxHeartbeats 4000000
/-! The simplex tableau over Rat: what a pivot keeps, and that Bland's rule ends. -/
namespace MA
def pv (T : Nat → Nat → Rat) (r c : Nat) : Nat → Nat → Rat := fun k j => if k = r then T r j / T r c else T k j - T k c * (T r j / T r c)
def up (β : Nat → Nat) (r c : Nat) : Nat → Nat := fun k => if k = r then c else β k
/-- m rows and the cost row m; n columns and the right side n -/
structure Inv (m n : Nat) (A : Nat → Nat → Rat) (cst : Nat → Rat) (T : Nat → Nat → Rat) (β : Nat → Nat) : Prop where
  bas : ∀ k l, k ≤ m → l < m → T k (β l) = if k = l then 1 else 0
  col : ∀ i j, i < m → j ≤ n → A i j = sm m fun k => A i (β k) * T k j
  row : ∀ k, k < m → ∃ v : Nat → Rat, ∀ j, j ≤ n → T k j = sm m fun l => v l * A l j
  cost : ∃ y : Nat → Rat, ∀ j, j ≤ n → T m j = cst j - sm m fun l => y l * A l j
  lt : ∀ k, k < m → β k < n
theorem Inv.pv {m n : Nat} {A : Nat → Nat → Rat} {cst : Nat → Rat} {T : Nat → Nat → Rat} {β : Nat → Nat} (h : Inv m n A cst T β) {r c : Nat} (hr : r < m) (hc : c < n) (h0 : T r c ≠ 0) : Inv m n A cst (pv T r c) (up β r c) where
  bas k l hk hl := by
    unfold MA.pv up
    by_cases e : l = r
    · subst e
      rw [if_pos rfl]
      by_cases e' : k = l
      · rw [if_pos e', if_pos e']; grind
      · rw [if_neg e', if_neg e']; grind
    · rw [if_neg e]
      have h1 := h.bas k l hk hl
      have h2 := h.bas r l (by omega) hl
      rw [if_neg (Ne.symm e)] at h2
      by_cases e' : k = r
      · rw [if_pos e', if_neg (by omega), h2]; grind
      · rw [if_neg e', h1, h2]; grind
  col i j hi hj := by
    have h1 := h.col i j hi hj
    have h2 := h.col i c hi (by omega)
    rw [sm_pick _ hr] at h1 h2
    rw [sm_pick _ hr]
    have h3 : (sm m fun k => if k = r then 0 else A i (up β r c k) * MA.pv T r c k j) = (sm m fun k => if k = r then 0 else A i (β k) * T k j) - (T r j / T r c) * sm m fun k => if k = r then 0 else A i (β k) * T k c := by
      rw [← sm_mul, ← sm_sub]
      refine sm_congr fun k _ => ?_
      unfold up MA.pv
      by_cases e : k = r
      · rw [if_pos e, if_pos e, if_pos e]; grind
      · rw [if_neg e, if_neg e, if_neg e, if_neg e, if_neg e]; grind
    rw [h3]
    unfold up MA.pv
    rw [if_pos rfl, if_pos rfl]
    generalize (sm m fun k => if k = r then 0 else A i (β k) * T k j) = X at *
    generalize (sm m fun k => if k = r then 0 else A i (β k) * T k c) = Y at *
    rw [h1, h2]
    grind
  row k hk := by
    obtain ⟨v, hv⟩ := h.row r hr
    by_cases e : k = r
    · refine ⟨fun l => v l / T r c, fun j hj => ?_⟩
      unfold MA.pv
      rw [if_pos e, hv j hj, show (fun l => v l / T r c * A l j) = fun l => (1 / T r c) * (v l * A l j) from funext fun l => by grind, sm_mul]
      grind
    · obtain ⟨u, hu⟩ := h.row k hk
      refine ⟨fun l => u l - T k c / T r c * v l, fun j hj => ?_⟩
      unfold MA.pv
      rw [if_neg e, show (fun l => (u l - T k c / T r c * v l) * A l j) = fun l => u l * A l j - (T k c / T r c) * (v l * A l j) from funext fun l => by grind, sm_sub, sm_mul, ← hu j hj, ← hv j hj]
      grind
  cost := by
    obtain ⟨v, hv⟩ := h.row r hr
    obtain ⟨y, hy⟩ := h.cost
    refine ⟨fun l => y l + T m c / T r c * v l, fun j hj => ?_⟩
    unfold MA.pv
    rw [if_neg (by omega), show (fun l => (y l + T m c / T r c * v l) * A l j) = fun l => y l * A l j + (T m c / T r c) * (v l * A l j) from funext fun l => by grind, sm_add, sm_mul, ← hv j hj, hy j hj]
    grind
  lt k hk := by
    unfold up
    split
    · exact hc
    · exact h.lt k hk
section
variable {m n : Nat} {A : Nat → Nat → Rat} {cst : Nat → Rat} {T Ta : Nat → Nat → Rat} {β βa : Nat → Nat}
theorem Inv.red (h : Inv m n A cst T β) (y : Nat → Rat) {s : Nat} (hs : s ≤ n) : (cst s - sm m fun i => y i * A i s) - (sm m fun l => (cst (β l) - sm m fun i => y i * A i (β l)) * T l s) = cst s - sm m fun l => cst (β l) * T l s := by
  have h1 : (sm m fun l => (cst (β l) - sm m fun i => y i * A i (β l)) * T l s) = (sm m fun l => cst (β l) * T l s) - sm m fun i => y i * A i s := by
    rw [show (fun l => (cst (β l) - sm m fun i => y i * A i (β l)) * T l s) = fun l => cst (β l) * T l s - sm m fun i => y i * A i (β l) * T l s from funext fun l => by rw [sm_mulr]; grind, sm_sub, sm_swap]
    congr 1
    refine sm_congr fun i hi => ?_
    rw [h.col i s hi hs, ← sm_mul]
    refine sm_congr fun l _ => ?_
    grind
  rw [h1]; grind
theorem Inv.cm (h : Inv m n A cst T β) {s : Nat} (hs : s ≤ n) : T m s = cst s - sm m fun l => cst (β l) * T l s := by
  obtain ⟨y, hy⟩ := h.cost
  rw [← h.red y hs, ← hy s hs, sm_zero (f := fun l => (cst (β l) - sm m fun i => y i * A i (β l)) * T l s) fun l hl => ?_]
  · grind
  · rw [← hy _ (Nat.le_of_lt (h.lt l hl)), h.bas m l (by omega) hl, if_neg (by omega)]; grind
theorem Inv.star (ha : Inv m n A cst Ta βa) (h : Inv m n A cst T β) {s : Nat} (hs : s ≤ n) : T m s = Ta m s - sm m fun l => Ta m (β l) * T l s := by
  obtain ⟨y, hy⟩ := ha.cost
  rw [h.cm hs, ← h.red y hs, hy s hs]
  congr 1
  refine sm_congr fun l hl => ?_
  rw [hy _ (Nat.le_of_lt (h.lt l hl))]
theorem Inv.inj (h : Inv m n A cst T β) {k l : Nat} (hk : k < m) (hl : l < m) (e : β k = β l) : k = l := by
  have h1 := h.bas k l (by omega) hl
  have h2 := h.bas k k (by omega) hk
  rw [e] at h2
  rw [if_pos rfl] at h2
  by_cases q : k = l
  · exact q
  · rw [if_neg q] at h1; grind
end

/-! ### pigeons -/
def code (n : Nat) : Nat → (Nat → Nat) → Nat
  | 0, _ => 0
  | m + 1, β => β m + n * code n m β
theorem code_lt {n : Nat} : ∀ {m : Nat} {β : Nat → Nat}, (∀ k, k < m → β k < n) → code n m β < n ^ m
  | 0, _, _ => by simp [code]
  | m + 1, β, h => by
    have h1 := code_lt (m := m) (β := β) fun k hk => h k (by omega)
    have h2 := h m (by omega)
    unfold code
    rw [Nat.pow_succ, Nat.mul_comm (n ^ m)]
    calc β m + n * code n m β < n + n * code n m β := by omega
      _ = n * (code n m β + 1) := by rw [Nat.mul_add]; omega
      _ ≤ n * n ^ m := Nat.mul_le_mul_left _ h1
theorem code_inj {n : Nat} : ∀ {m : Nat} {β γ : Nat → Nat}, (∀ k, k < m → β k < n) → (∀ k, k < m → γ k < n) → code n m β = code n m γ → ∀ k, k < m → β k = γ k
  | 0, _, _, _, _, _, k, hk => by omega
  | m + 1, β, γ, h, h', e, k, hk => by
    unfold code at e
    have h1 := h m (by omega)
    have h2 := h' m (by omega)
    have e1 : β m = γ m := by
      have := congrArg (· % n) e
      simpa [Nat.add_mul_mod_self_left, Nat.mod_eq_of_lt h1, Nat.mod_eq_of_lt h2] using this
    by_cases q : k = m
    · rw [q, e1]
    · refine code_inj (m := m) (fun k hk => h k (by omega)) (fun k hk => h' k (by omega)) ?_ k (by omega)
      rw [e1] at e
      exact Nat.eq_of_mul_eq_mul_left (by omega) (Nat.add_left_cancel e)
theorem pigeon : ∀ (N : Nat) (f : Nat → Nat), (∀ i, i < N + 1 → f i < N) → ∃ i j, i < j ∧ j < N + 1 ∧ f i = f j
  | 0, f, h => by have := h 0 (by omega); omega
  | N + 1, f, h => by
    by_cases e : ∃ i, i < N + 1 ∧ f i = f (N + 1)
    · obtain ⟨i, hi, q⟩ := e; exact ⟨i, N + 1, hi, by omega, q⟩
    · let v := f (N + 1)
      let g : Nat → Nat := fun i => if f i < v then f i else f i - 1
      have hne : ∀ i, i < N + 1 → f i ≠ v := fun i hi q => e ⟨i, hi, q⟩
      obtain ⟨i, j, hij, hj, q⟩ := pigeon N g fun i hi => by
        have := h i (by omega)
        have := h (N + 1) (by omega)
        have := hne i hi
        show (if f i < v then f i else f i - 1) < N
        split <;> omega
      refine ⟨i, j, hij, by omega, ?_⟩
      have h1 := hne i (by omega)
      have h2 := hne j (by omega)
      have q' : (if f i < v then f i else f i - 1) = if f j < v then f j else f j - 1 := q
      split at q' <;> split at q' <;> omega

/-! ### Bland's rule -/
structure Stp (m n w : Nat) (T : Nat → Nat → Rat) (β : Nat → Nat) (r c : Nat) : Prop where
  cw : c < w
  neg : T m c < 0
  fst : ∀ j, j < c → ¬ T m j < 0
  rm : r < m
  pos : 0 < T r c
  rat : ∀ k, k < m → 0 < T k c → T r n / T r c ≤ T k n / T k c
  tie : ∀ k, k < m → 0 < T k c → T r n / T r c = T k n / T k c → k ≠ r → β r < β k
theorem feas_pv {m n w : Nat} {T : Nat → Nat → Rat} {β : Nat → Nat} {r c : Nat} (s : Stp m n w T β r c) (h : ∀ k, k < m → 0 ≤ T k n) : ∀ k, k < m → 0 ≤ pv T r c k n := by
  intro k hk
  have h1 := h r s.rm
  have hp := s.pos
  have hq : 0 ≤ T r n / T r c := by
    rw [Rat.div_def]; exact Rat.mul_nonneg h1 (Rat.le_of_lt (Rat.inv_pos.mpr hp))
  unfold pv
  by_cases e : k = r
  · rw [if_pos e]; exact hq
  · rw [if_neg e]
    have h2 := h k hk
    by_cases e' : 0 < T k c
    · have h3 := s.rat k hk e'
      have h4 := Rat.mul_le_mul_of_nonneg_left h3 (Rat.le_of_lt e')
      have h5 : T k c * (T k n / T k c) = T k n := by grind
      grind
    · have h3 : T k c ≤ 0 := by grind
      have h4 : 0 ≤ (-T k c) * (T r n / T r c) := Rat.mul_nonneg (by grind) hq
      grind
structure Run (m n w : Nat) (A : Nat → Nat → Rat) (cst : Nat → Rat) (T : Nat → Nat → Nat → Rat) (β : Nat → Nat → Nat) (r c : Nat → Nat) : Prop where
  wn : w ≤ n
  inv : ∀ p, Inv m n A cst (T p) (β p)
  fea : ∀ p k, k < m → 0 ≤ T p k n
  stp : ∀ p, Stp m n w (T p) (β p) (r p) (c p)
  nxT : ∀ p, T (p + 1) = pv (T p) (r p) (c p)
  nxb : ∀ p, β (p + 1) = up (β p) (r p) (c p)
section
variable {m n w : Nat} {A : Nat → Nat → Rat} {cst : Nat → Rat} {T : Nat → Nat → Nat → Rat} {β : Nat → Nat → Nat} {r c : Nat → Nat}
def Bin (m : Nat) (β : Nat → Nat) (v : Nat) : Prop := ∃ k, k < m ∧ β k = v
theorem Run.out (R : Run m n w A cst T β r c) (p : Nat) : ¬ Bin m (β p) (c p) := fun ⟨k, hk, e⟩ => by
  have h1 := (R.inv p).bas m k (by omega) hk
  rw [if_neg (by omega), e] at h1
  have := (R.stp p).neg
  grind
theorem Run.into (R : Run m n w A cst T β r c) (p : Nat) : Bin m (β (p + 1)) (c p) := ⟨r p, (R.stp p).rm, by rw [R.nxb]; unfold up; rw [if_pos rfl]⟩
theorem Run.ent (R : Run m n w A cst T β r c) {v p : Nat} : ∀ {q : Nat}, p ≤ q → ¬ Bin m (β p) v → Bin m (β q) v → ∃ e, p ≤ e ∧ e < q ∧ c e = v
  | 0, h, h1, h2 => by rw [Nat.le_zero.mp h] at h1; exact absurd h2 h1
  | q + 1, h, h1, h2 => by
    by_cases e : p = q + 1
    · subst e; exact absurd h2 h1
    · by_cases hq : Bin m (β q) v
      · obtain ⟨e, a, b, d⟩ := R.ent (q := q) (by omega) h1 hq
        exact ⟨e, a, by omega, d⟩
      · refine ⟨q, by omega, by omega, ?_⟩
        obtain ⟨k, hk, e'⟩ := h2
        rw [R.nxb] at e'
        unfold up at e'
        split at e'
        · exact e'
        · exact absurd ⟨k, hk, e'⟩ hq
theorem Run.lea (R : Run m n w A cst T β r c) {v p : Nat} : ∀ {q : Nat}, p ≤ q → Bin m (β p) v → ¬ Bin m (β q) v → ∃ e, p ≤ e ∧ e < q ∧ β e (r e) = v
  | 0, h, h1, h2 => by rw [Nat.le_zero.mp h] at h1; exact absurd h1 h2
  | q + 1, h, h1, h2 => by
    by_cases e : p = q + 1
    · subst e; exact absurd h1 h2
    · by_cases hq : Bin m (β q) v
      · refine ⟨q, by omega, by omega, ?_⟩
        obtain ⟨k, hk, e'⟩ := hq
        by_cases e2 : k = r q
        · rw [← e2]; exact e'
        · exact absurd ⟨k, hk, by rw [R.nxb]; unfold up; rw [if_neg e2]; exact e'⟩ h2
      · obtain ⟨e, a, b, d⟩ := R.lea (q := q) (by omega) h1 hq
        exact ⟨e, a, by omega, d⟩
theorem max_ex (c : Nat → Nat) (i : Nat) : ∀ d, ∃ a, i ≤ a ∧ a < i + (d + 1) ∧ ∀ e, i ≤ e → e < i + (d + 1) → c e ≤ c a
  | 0 => ⟨i, by omega, by omega, fun e h1 h2 => by rw [show e = i by omega]; exact Nat.le_refl _⟩
  | d + 1 => by
    obtain ⟨a, h1, h2, h3⟩ := max_ex c i d
    by_cases q : c a ≤ c (i + (d + 1))
    · refine ⟨i + (d + 1), by omega, by omega, fun e h4 h5 => ?_⟩
      by_cases q' : e = i + (d + 1)
      · rw [q']; exact Nat.le_refl _
      · exact Nat.le_trans (h3 e h4 (by omega)) q
    · refine ⟨a, h1, by omega, fun e h4 h5 => ?_⟩
      by_cases q' : e = i + (d + 1)
      · rw [q']; omega
      · exact h3 e h4 (by omega)
theorem no_run (R : Run m n w A cst T β r c) : False := by
  -- the same basis twice
  obtain ⟨i, j, hij, _, hc⟩ := pigeon (n ^ m) (fun p => code n m (β p)) fun p _ => code_lt fun k hk => (R.inv p).lt k hk
  have hb : ∀ k, k < m → β i k = β j k := code_inj (fun k hk => (R.inv i).lt k hk) (fun k hk => (R.inv j).lt k hk) hc
  have hbin : ∀ v, Bin m (β i) v ↔ Bin m (β j) v := fun v => ⟨fun ⟨k, hk, e⟩ => ⟨k, hk, by rw [← hb k hk]; exact e⟩, fun ⟨k, hk, e⟩ => ⟨k, hk, by rw [hb k hk]; exact e⟩⟩
  -- the objective
  have hq : ∀ p, 0 ≤ T p (r p) n / T p (r p) (c p) := fun p => by
    rw [Rat.div_def]; exact Rat.mul_nonneg (R.fea p _ (R.stp p).rm) (Rat.le_of_lt (Rat.inv_pos.mpr (R.stp p).pos))
  have hst : ∀ p, T (p + 1) m n = T p m n + (- T p m (c p)) * (T p (r p) n / T p (r p) (c p)) := fun p => by
    rw [R.nxT]; unfold pv; rw [if_neg (by have := (R.stp p).rm; omega)]; grind
  have hup : ∀ p, T p m n ≤ T (p + 1) m n := fun p => by
    have := Rat.mul_nonneg (a := - T p m (c p)) (by have := (R.stp p).neg; grind) (hq p)
    rw [hst]; grind
  have hmo : ∀ p d, T p m n ≤ T (p + d) m n := fun p d => by
    induction d with
    | zero => exact Rat.le_refl
    | succ d ih => exact Rat.le_trans ih (hup (p + d))
  have heq : T j m n = T i m n := by
    rw [(R.inv i).star (R.inv j) (Nat.le_refl n), sm_zero fun l hl => ?_]
    · grind
    · rw [← hb l hl, (R.inv i).bas m l (by omega) hl, if_neg (by omega)]; grind
  have hdeg : ∀ p, i ≤ p → p < j → T p (r p) n = 0 := fun p h1 h2 => by
    obtain ⟨d, rfl⟩ := Nat.le.dest h1
    have a1 := hmo i d
    obtain ⟨d', hd'⟩ := Nat.le.dest (show i + d + 1 ≤ j from h2)
    have a2 := hmo (i + d + 1) d'
    rw [hd', heq] at a2
    have a3 := hst (i + d)
    have a4 : (- T (i + d) m (c (i + d))) * (T (i + d) (r (i + d)) n / T (i + d) (r (i + d)) (c (i + d))) ≤ 0 := by grind
    have n1 := (R.stp (i + d)).neg
    have p1 := (R.stp (i + d)).pos
    have a5 : T (i + d) (r (i + d)) n / T (i + d) (r (i + d)) (c (i + d)) = 0 := by
      have := hq (i + d)
      by_cases e : 0 < T (i + d) (r (i + d)) n / T (i + d) (r (i + d)) (c (i + d))
      · have := Rat.mul_pos (a := - T (i + d) m (c (i + d))) (by grind) e
        grind
      · grind
    grind
  have hrhs : ∀ p, i ≤ p → p < j → ∀ k, T (p + 1) k n = T p k n := fun p h1 h2 k => by
    have := hdeg p h1 h2
    rw [R.nxT]; unfold pv
    by_cases e : k = r p
    · rw [if_pos e, e, this]; grind
    · rw [if_neg e, this]; grind
  -- a variable's value is zero
  let Z : Nat → Nat → Prop := fun p v => ∀ k, k < m → β p k = v → T p k n = 0
  have hZ : ∀ p v, i ≤ p → p < j → (Z p v ↔ Z (p + 1) v) := fun p v h1 h2 => by
    constructor
    · intro h k hk e
      rw [hrhs p h1 h2]
      by_cases q : k = r p
      · rw [q]; exact hdeg p h1 h2
      · refine h k hk ?_
        rw [R.nxb] at e; unfold up at e; rw [if_neg q] at e; exact e
    · intro h k hk e
      by_cases q : k = r p
      · rw [q]; exact hdeg p h1 h2
      · rw [← hrhs p h1 h2]
        refine h k hk ?_
        rw [R.nxb]; unfold up; rw [if_neg q]; exact e
  have hZi : ∀ v d, i + d ≤ j → (Z i v ↔ Z (i + d) v) := fun v d => by
    induction d with
    | zero => exact fun _ => Iff.rfl
    | succ d ih => exact fun h => (ih (by omega)).trans (hZ (i + d) v (by omega) (by omega))
  have hZe : ∀ e, i ≤ e → e < j → ∀ p, i ≤ p → p ≤ j → Z p (c e) := fun e h1 h2 p h3 h4 => by
    have z : Z e (c e) := fun k hk q => absurd ⟨k, hk, q⟩ (R.out e)
    obtain ⟨d, rfl⟩ := Nat.le.dest h1
    obtain ⟨d', rfl⟩ := Nat.le.dest h3
    exact (hZi _ d' h4).mp ((hZi _ d (by omega)).mpr z)
  -- the greatest that enters
  obtain ⟨d0, hd0⟩ := Nat.le.dest (show i + 1 ≤ j from hij)
  obtain ⟨a, ha1, ha2, hmax⟩ := max_ex c i d0
  have ha2 : a < j := by omega
  have hmax : ∀ e, i ≤ e → e < j → c e ≤ c a := fun e h1 h2 => hmax e h1 (by omega)
  have hna := R.out a
  have hb' : ∃ b, i ≤ b ∧ b < j ∧ β b (r b) = c a := by
    by_cases q : Bin m (β j) (c a)
    · obtain ⟨b, h1, h2, h3⟩ := R.lea (p := i) (q := a) ha1 ((hbin _).mpr q) hna
      exact ⟨b, h1, by omega, h3⟩
    · obtain ⟨b, h1, h2, h3⟩ := R.lea (p := a + 1) (q := j) (by omega) (R.into a) q
      exact ⟨b, by omega, h2, h3⟩
  obtain ⟨b, hb1, hb2, hbt⟩ := hb'
  have sb := R.stp b
  have sa := R.stp a
  have hs1 : c b < c a := by
    have h1 := hmax b hb1 hb2
    have h2 : c b ≠ c a := fun e => R.out b ⟨r b, sb.rm, by rw [hbt, e]⟩
    omega
  have hsn : c b ≤ n := by have := sb.cw; have := R.wn; omega
  have hstar := (R.inv a).star (R.inv b) hsn
  have g1 := sa.fst _ hs1
  have g2 := sb.neg
  have hpos : 0 < sm m fun l => T a m (β b l) * T b l (c b) := by grind
  obtain ⟨l, hl, hp⟩ := sm_pos_ex hpos
  have hva : ¬ Bin m (β a) (β b l) := fun ⟨k, hk, e⟩ => by
    have := (R.inv a).bas m k (by omega) hk
    rw [if_neg (by omega), e] at this
    rw [this] at hp; grind
  have hvb : Bin m (β b) (β b l) := ⟨l, hl, rfl⟩
  have hve : ∃ e, i ≤ e ∧ e < j ∧ c e = β b l := by
    rcases Nat.le_total a b with h | h
    · obtain ⟨e, h1, h2, h3⟩ := R.ent h hva hvb
      exact ⟨e, by omega, by omega, h3⟩
    · by_cases q : Bin m (β j) (β b l)
      · obtain ⟨e, h1, h2, h3⟩ := R.ent (p := a) (q := j) (by omega) hva q
        exact ⟨e, by omega, by omega, h3⟩
      · obtain ⟨e, h1, h2, h3⟩ := R.ent (p := i) (q := b) hb1 (fun q' => q ((hbin _).mp q')) hvb
        exact ⟨e, by omega, by omega, h3⟩
  obtain ⟨e, he1, he2, he3⟩ := hve
  have hvt := hmax e he1 he2
  have hna2 := sa.neg
  have hpb := sb.pos
  by_cases q : β b l = c a
  · have hl' : l = r b := (R.inv b).inj hl sb.rm (by rw [q, hbt])
    rw [q, hl'] at hp
    have := Rat.mul_pos (a := - T a m (c a)) (by grind) hpb
    grind
  · have hlt : β b l < c a := by omega
    have g3 := sa.fst _ hlt
    have g4 : 0 < T b l (c b) := by
      by_cases q2 : 0 < T b l (c b)
      · exact q2
      · have := Rat.mul_nonneg (a := T a m (β b l)) (b := - T b l (c b)) (by grind) (by grind)
        grind
    have z1 : T b l n = 0 := by
      have := hZe e he1 he2 b hb1 (by omega)
      rw [he3] at this
      exact this l hl rfl
    have z2 := hdeg b hb1 hb2
    have hne : l ≠ r b := fun q' => q (by rw [q', hbt])
    have := sb.tie l hl g4 (by rw [z1, z2]; grind) hne
    rw [hbt] at this
    omega
end
/-- what holds after each sequence of steps that must end -/
theorem by_steps {S : Type} {Good P : S → Prop} {Step : S → S → Prop} (h : ∀ s, Good s → P s ∨ ∃ s', Good s' ∧ Step s s' ∧ (P s' → P s)) (hno : ∀ f : Nat → S, (∀ p, Good (f p)) → (∀ p, Step (f p) (f (p + 1))) → False) (s0 : S) (h0 : Good s0) : P s0 := by
  apply Classical.byContradiction
  intro hn
  have hx : ∀ s : { s : S // Good s ∧ ¬ P s }, ∃ s' : { s : S // Good s ∧ ¬ P s }, Step s.1 s'.1 := fun ⟨s, g, hp⟩ => by
    rcases h s g with q | ⟨s', g', st, q⟩
    · exact absurd q hp
    · exact ⟨⟨s', g', fun q' => hp (q q')⟩, st⟩
  let nx : { s : S // Good s ∧ ¬ P s } → { s : S // Good s ∧ ¬ P s } := fun s => Classical.choose (hx s)
  let f : Nat → { s : S // Good s ∧ ¬ P s } := fun p => Nat.rec ⟨s0, h0, hn⟩ (fun _ s => nx s) p
  exact hno (fun p => (f p).1) (fun p => (f p).2.1) fun p => Classical.choose_spec (hx (f p))
end MA
end
section
set_option maxHeartbeats 4000000
/-! Sizes of the tableau's entries; what the two ends of the method say about the lines. -/
namespace MA
theorem num_den (a : Rat) : a = (a.num : Rat) / (a.den : Rat) := by
  conv => lhs; rw [← Rat.mkRat_self a, Rat.mkRat_eq_div]
theorem den_ne (a : Rat) : (a.den : Rat) ≠ 0 := by
  intro h
  have : ((a.den : Int) : Rat) = ((0 : Int) : Rat) := by rw [Rat.intCast_natCast]; exact h
  have := Rat.intCast_inj.mp this
  have := a.den_nz
  omega
theorem Zs.le {d M : Nat} {a : Rat} (h : Zs d M a) (hd : 0 < d) : a.num.natAbs ≤ M ∧ a.den ≤ d := by
  obtain ⟨z, e, hz⟩ := h
  have h0 := den_ne a
  have h1 : (a.num : Rat) * (d : Rat) = (z : Rat) * (a.den : Rat) := by
    have := num_den a
    generalize (a.num : Rat) = u at *
    generalize (a.den : Rat) = v at *
    grind
  have h2 : a.num * (d : Int) = z * (a.den : Int) := by
    apply Rat.intCast_inj.mp
    rw [Rat.intCast_mul, Rat.intCast_mul, Rat.intCast_natCast, Rat.intCast_natCast]; exact h1
  have h3 : a.num.natAbs * d = z.natAbs * a.den := by
    have := congrArg Int.natAbs h2
    simpa [Int.natAbs_mul] using this
  have h4 : a.den ∣ d := (Nat.Coprime.symm a.reduced).dvd_of_dvd_mul_left ⟨z.natAbs, by rw [h3, Nat.mul_comm]⟩
  obtain ⟨k, hk⟩ := h4
  have hk0 : 0 < k := by
    rcases Nat.eq_zero_or_pos k with e | e
    · subst e; omega
    · exact e
  refine ⟨?_, by rw [hk]; exact Nat.le_mul_of_pos_right _ hk0⟩
  rw [hk] at h3
  have h5 : a.num.natAbs * k = z.natAbs := by
    have : a.den * (a.num.natAbs * k) = a.den * z.natAbs := by
      rw [Nat.mul_comm _ z.natAbs, ← h3]; simp [Nat.mul_assoc, Nat.mul_comm, Nat.mul_left_comm]
    exact Nat.eq_of_mul_eq_mul_left a.den_pos this
  have := Nat.le_mul_of_pos_right a.num.natAbs hk0
  omega
/-- both parts below 2^e -/
def sz (e : Nat) (r : Rat) : Prop := r.num.natAbs < 2 ^ e ∧ r.den < 2 ^ e
theorem sz.mono {e e' : Nat} {r : Rat} (h : sz e r) (he : e ≤ e') : sz e' r :=
  ⟨Nat.lt_of_lt_of_le h.1 (Nat.pow_le_pow_right (by omega) he), Nat.lt_of_lt_of_le h.2 (Nat.pow_le_pow_right (by omega) he)⟩
theorem Zs.sz {d M e : Nat} {a : Rat} (h : Zs d M a) (hd : 0 < d) (h1 : d < 2 ^ e) (h2 : M < 2 ^ e) : sz e a := by
  obtain ⟨a1, a2⟩ := h.le hd
  exact ⟨by omega, by omega⟩
theorem Zs.self (a : Rat) : Zs a.den a.num.natAbs a := ⟨a.num, by
  have := num_den a
  have := den_ne a
  generalize (a.num : Rat) = u at *
  generalize (a.den : Rat) = v at *
  grind, Nat.le_refl _⟩
section
variable {m n : Nat} {A : Nat → Nat → Rat} {cst : Nat → Rat} {T : Nat → Nat → Rat} {β : Nat → Nat} {L : Nat → Rat}
def DetOk (m : Nat) (A : Nat → Nat → Rat) (L : Nat → Rat) (β : Nat → Nat) : Prop := det m (fun i k => L i * A i (β k)) ≠ 0
theorem Inv.cramer (h : Inv m n A cst T β) (L : Nat → Rat) {r c : Nat} (hr : r < m) (hc : c ≤ n) : det m (setc (fun i k => L i * A i (β k)) r fun i => L i * A i c) = T r c * det m fun i k => L i * A i (β k) := by
  rw [← MA.cramer _ hr fun k => T k c]
  refine det_congr fun i k hi hk => ?_
  unfold setc
  by_cases e : k = r
  · rw [if_pos e, if_pos e]
    dsimp only
    rw [h.col i c hi hc, ← sm_mul]
    refine sm_congr fun k _ => by grind
  · rw [if_neg e, if_neg e]
theorem DetOk.pv (h : Inv m n A cst T β) (hd : DetOk m A L β) {r c : Nat} (hr : r < m) (hc : c < n) (h0 : T r c ≠ 0) : DetOk m A L (up β r c) := by
  unfold DetOk at *
  have := h.cramer L hr (Nat.le_of_lt hc)
  rw [show (fun i k => L i * A i (up β r c k)) = setc (fun i k => L i * A i (β k)) r fun i => L i * A i c from ?_, this]
  · intro e; rcases Rat.mul_eq_zero.mp e with e | e
    · exact h0 e
    · exact hd e
  · funext i k; unfold up setc; split <;> rfl
theorem Inv.size {H : Nat} (h : Inv m n A cst T β) (hd : DetOk m A L β) (hA : ∀ i j, i < m → j ≤ n → Zs 1 H (L i * A i j)) (hc : ∀ j, j ≤ n → cst j = 0 ∨ cst j = 1) :
    ∃ d, 0 < d ∧ d ≤ dB H m ∧ ∀ k j, k ≤ m → j ≤ n → Zs d ((m + 1) * dB H m) (T k j) := by
  have h1 : Zs 1 (dB H m) (det m fun i k => L i * A i (β k)) := det_Zs fun i k hi hk => hA i _ hi (Nat.le_of_lt (h.lt k hk))
  obtain ⟨z, e, hz⟩ := h1
  have hz0 : z ≠ 0 := by
    intro q; subst q
    apply hd
    have : ((1 : Nat) : Rat) = 1 := rfl
    rw [this] at e
    have : ((0 : Int) : Rat) = 0 := rfl
    grind
  have hrow : ∀ k j, k < m → j ≤ n → Zs z.natAbs (dB H m) (T k j) := fun k j hk hj => by
    have h2 : Zs 1 (dB H m) (det m (setc (fun i k => L i * A i (β k)) k fun i => L i * A i j)) := det_Zs fun i l hi hl => by
      unfold setc; split
      · exact hA i j hi hj
      · exact hA i _ hi (Nat.le_of_lt (h.lt l hl))
    rw [h.cramer L hk hj] at h2
    obtain ⟨y, e', hy⟩ := h2
    have : ((1 : Nat) : Rat) = 1 := rfl
    rw [this] at e e'
    have e2 : T k j * (z : Rat) = (y : Rat) := by grind
    rcases Int.natAbs_eq z with q | q
    · refine ⟨y, ?_, hy⟩
      rw [← Rat.intCast_natCast, ← q]; exact e2
    · refine ⟨-y, ?_, by rw [Int.natAbs_neg]; exact hy⟩
      rw [← Rat.intCast_natCast, show (z.natAbs : Int) = -z by omega, Rat.intCast_neg, Rat.intCast_neg]; grind
  refine ⟨z.natAbs, by omega, hz, fun k j hk hj => ?_⟩
  by_cases q : k < m
  · exact (hrow k j q hj).mono (by rw [Nat.succ_mul]; exact Nat.le_add_left _ _)
  · rw [show k = m by omega, h.cm hj]
    have h3 : Zs z.natAbs (dB H m) (cst j) := by
      rcases hc j hj with e | e
      · rw [e]; exact Zs.zero
      · rw [e]; exact ⟨z.natAbs, by rw [Rat.intCast_natCast]; grind, by omega⟩
    have h4 : Zs z.natAbs (m * dB H m) (sm m fun l => cst (β l) * T l j) := Zs.sm fun l hl => by
      rcases hc _ (Nat.le_of_lt (h.lt l hl)) with e | e
      · rw [e, show 0 * T l j = 0 by grind]; exact Zs.zero
      · rw [e, show 1 * T l j = T l j by grind]; exact hrow l j hl hj
    exact (h3.sub h4).mono (by rw [Nat.succ_mul]; omega)
end
theorem dB_le {H : Nat} (h0 : 0 < H) : ∀ {n N : Nat}, n ≤ N → 0 < N → dB H n ≤ (N * H) ^ n
  | 0, _, _, _ => by simp [dB]
  | n + 1, N, h, hN => by
    have := dB_le h0 (n := n) (N := N) (by omega) hN
    unfold dB
    rw [Nat.pow_succ, Nat.mul_comm (_ ^ n), Nat.mul_assoc N]
    exact Nat.mul_le_mul h (Nat.mul_le_mul_left _ this)

/-! ### the lines: Σ a l j x j ≥ b l -/
def sgm (b : Nat → Rat) (l : Nat) : Rat := if 0 < b l then 1 else -1
def hc (b : Nat → Rat) : Nat → Nat
  | 0 => 0
  | l + 1 => hc b l + if 0 < b l then 1 else 0
section
variable (m N : Nat) (a : Nat → Nat → Rat) (b : Nat → Rat)
def wid : Nat := N + m
def tot : Nat := N + m + hc b m
def A0 (i j : Nat) : Rat := if j < N then sgm b i * a i j else if j < N + m then (if j = N + i then - sgm b i else 0) else if j < N + m + hc b m then (if 0 < b i ∧ j = N + m + hc b i then 1 else 0) else sgm b i * b i
def B0 (i : Nat) : Nat := if 0 < b i then N + m + hc b i else N + i
def c0 (j : Nat) : Rat := if N + m ≤ j ∧ j < N + m + hc b m then 1 else 0
def T0 (k j : Nat) : Rat := if k < m then A0 m N a b k j else c0 m N b j - sm m fun l => c0 m N b (B0 m N b l) * A0 m N a b l j
end
section
variable {m N : Nat} {a : Nat → Nat → Rat} {b : Nat → Rat}
theorem hc_le : ∀ {l k : Nat}, l ≤ k → hc b l ≤ hc b k
  | l, 0, h => by rw [Nat.le_zero.mp h]; exact Nat.le_refl _
  | l, k + 1, h => by
    by_cases e : l = k + 1
    · rw [e]; exact Nat.le_refl _
    · have := hc_le (l := l) (k := k) (by omega); show _ ≤ hc b k + _; omega
theorem hc_lt {l k : Nat} (h : l < k) (hb : 0 < b l) : hc b l < hc b k := by
  have : hc b (l + 1) ≤ hc b k := hc_le h
  have e : hc b (l + 1) = hc b l + if 0 < b l then 1 else 0 := rfl
  rw [if_pos hb] at e; omega
theorem hc_inj {l k : Nat} (h1 : 0 < b l) (h2 : 0 < b k) (e : hc b l = hc b k) : l = k := by
  rcases Nat.lt_trichotomy l k with h | h | h
  · have := hc_lt h h1; omega
  · exact h
  · have := hc_lt h h2; omega
theorem A0_B0 {i l : Nat} (hl : l < m) : A0 m N a b i (B0 m N b l) = if i = l then 1 else 0 := by
  unfold B0
  by_cases h : 0 < b l
  · have := hc_lt hl h
    unfold A0
    rw [if_pos h, if_neg (by omega), if_neg (by omega), if_pos (by omega)]
    by_cases e : i = l
    · rw [if_pos e, if_pos ⟨by rw [e]; exact h, by rw [e]⟩]
    · rw [if_neg e, if_neg fun q => e (hc_inj q.1 h (by omega))]
  · unfold A0
    rw [if_neg h, if_neg (by omega), if_pos (by omega)]
    by_cases e : i = l
    · rw [if_pos e, if_pos (by rw [e])]; unfold sgm; rw [e, if_neg h]; grind
    · rw [if_neg e, if_neg (by omega)]
theorem B0_lt {l : Nat} (hl : l < m) : B0 m N b l < tot m N b := by
  unfold B0 tot
  by_cases h : 0 < b l
  · have := hc_lt hl h; rw [if_pos h]; omega
  · rw [if_neg h]; omega
theorem start_inv : Inv m (tot m N b) (A0 m N a b) (c0 m N b) (T0 m N a b) (B0 m N b) where
  bas k l hk hl := by
    unfold T0
    by_cases h : k < m
    · rw [if_pos h, A0_B0 hl]
    · rw [if_neg h, if_neg (by omega), sm_one hl fun i _ hn => by rw [A0_B0 hl, if_neg hn]; grind]
      rw [A0_B0 hl, if_pos rfl]; grind
  col i j hi hj := by
    rw [sm_one hi fun k hk hn => by rw [A0_B0 hk, if_neg (Ne.symm hn)]; grind]
    rw [A0_B0 hi, if_pos rfl]; unfold T0; rw [if_pos hi]; grind
  row k hk := by
    refine ⟨fun l => if l = k then 1 else 0, fun j hj => ?_⟩
    rw [sm_one hk fun l _ hn => by dsimp only; rw [if_neg hn]; grind]
    dsimp only
    rw [if_pos rfl]; unfold T0; rw [if_pos hk]; grind
  cost := ⟨fun l => c0 m N b (B0 m N b l), fun j _ => by unfold T0; rw [if_neg (by omega)]⟩
  lt k hk := B0_lt hk
theorem start_det {L : Nat → Rat} (h : ∀ i, i < m → L i ≠ 0) : DetOk m (A0 m N a b) L (B0 m N b) := by
  unfold DetOk
  have := det_diag m L h
  rwa [det_congr (N := fun i k => L i * A0 m N a b i (B0 m N b k)) fun i k hi hk => ?_] at this
  rw [A0_B0 hk]; split <;> grind
theorem sgm_b (l : Nat) : 0 ≤ sgm b l * b l := by
  unfold sgm; split <;> grind
theorem start_feas : ∀ k, k < m → 0 ≤ T0 m N a b k (tot m N b) := fun k hk => by
  unfold T0 A0 tot
  rw [if_pos hk, if_neg (by omega), if_neg (by omega), if_neg (by omega)]
  exact sgm_b k
theorem c0_01 (j : Nat) : c0 m N b j = 0 ∨ c0 m N b j = 1 := by unfold c0; split <;> simp
theorem c0_nn (j : Nat) : 0 ≤ c0 m N b j := by rcases @c0_01 m N b j with e | e <;> rw [e] <;> grind
theorem c0_w {j : Nat} (h : j < N + m) : c0 m N b j = 0 := by unfold c0; rw [if_neg (by omega)]
theorem c0_n : c0 m N b (tot m N b) = 0 := by unfold c0 tot; rw [if_neg (by omega)]
variable {T : Nat → Nat → Rat} {β : Nat → Nat}
/-- a way down is never without end -/
theorem leave_ex (h : Inv m (tot m N b) (A0 m N a b) (c0 m N b) T β) {c : Nat} (hc : c < tot m N b) (hn : T m c < 0) : ∃ k, k < m ∧ 0 < T k c := by
  have h1 := h.cm (Nat.le_of_lt hc)
  have h2 := c0_nn (m := m) (N := N) (b := b) c
  obtain ⟨k, hk, hp⟩ := sm_pos_ex (n := m) (f := fun l => c0 m N b (β l) * T l c) (by grind)
  refine ⟨k, hk, ?_⟩
  rcases @c0_01 m N b (β k) with e | e <;> rw [e] at hp <;> grind
/-- the price of a line as the last costs tell it -/
def yof (m N : Nat) (b : Nat → Rat) (T : Nat → Nat → Rat) (l : Nat) : Rat := c0 m N b (B0 m N b l) - T m (B0 m N b l)
def pof (m N : Nat) (b : Nat → Rat) (T : Nat → Nat → Rat) (l : Nat) : Rat := sgm b l * yof m N b T l
theorem cost_y (h : Inv m (tot m N b) (A0 m N a b) (c0 m N b) T β) {j : Nat} (hj : j ≤ tot m N b) : T m j = c0 m N b j - sm m fun l => yof m N b T l * A0 m N a b l j := by
  obtain ⟨y, hy⟩ := h.cost
  have : ∀ l, l < m → yof m N b T l = y l := fun l hl => by
    unfold yof
    rw [hy _ (Nat.le_of_lt (B0_lt hl)), sm_one hl fun i _ hn => by rw [A0_B0 hl, if_neg hn]; grind]
    rw [A0_B0 hl, if_pos rfl]; grind
  rw [hy j hj]
  congr 1
  exact sm_congr fun l hl => by rw [this l hl]
/-- the lines cannot hold together -/
theorem farkas (h : Inv m (tot m N b) (A0 m N a b) (c0 m N b) T β) (ho : ∀ j, j < N + m → 0 ≤ T m j) (hn : T m (tot m N b) < 0) :
    (∀ l, l < m → 0 ≤ pof m N b T l) ∧ (∀ j, j < N → sm m (fun l => pof m N b T l * a l j) ≤ 0) ∧ 0 < sm m fun l => pof m N b T l * b l := by
  refine ⟨fun l hl => ?_, fun j hj => ?_, ?_⟩
  · have h1 := ho (N + l) (by omega)
    rw [cost_y h (by unfold tot; omega), c0_w (by omega), sm_one hl fun i hi hq => by unfold A0; rw [if_neg (by omega), if_pos (by omega), if_neg (by omega)]; grind] at h1
    unfold A0 at h1
    rw [if_neg (by omega), if_pos (by omega), if_pos rfl] at h1
    unfold pof; grind
  · have h1 := ho j (by omega)
    rw [cost_y h (by unfold tot; omega), c0_w (by omega)] at h1
    rw [sm_congr (g := fun l => yof m N b T l * A0 m N a b l j) fun l _ => ?_]
    · grind
    · unfold pof A0; rw [if_pos hj]; grind
  · rw [cost_y h (Nat.le_refl _), c0_n] at hn
    rw [sm_congr (g := fun l => yof m N b T l * A0 m N a b l (tot m N b)) fun l _ => ?_]
    · grind
    · unfold pof A0 tot; rw [if_neg (by omega), if_neg (by omega), if_neg (by omega)]; grind
/-- helpers in the basis stand at zero -/
def HZ (m N : Nat) (b : Nat → Rat) (T : Nat → Nat → Rat) (β : Nat → Nat) : Prop := ∀ k, k < m → N + m ≤ β k → T k (tot m N b) = 0
theorem hz_of (h : Inv m (tot m N b) (A0 m N a b) (c0 m N b) T β) (hf : ∀ k, k < m → 0 ≤ T k (tot m N b)) (hn : ¬ T m (tot m N b) < 0) : HZ m N b T β := by
  intro k hk hw
  rw [h.cm (Nat.le_refl _), c0_n] at hn
  have := sm_zero_of (n := m) (f := fun l => c0 m N b (β l) * T l (tot m N b)) (fun l hl => Rat.mul_nonneg (c0_nn _) (hf l hl)) (by grind) k hk
  have hl := h.lt k hk
  unfold c0 tot at *
  rw [if_pos (by omega)] at this
  grind
theorem rhs_pv {r c n : Nat} (h : T r n = 0) (k : Nat) : pv T r c k n = T k n := by
  unfold pv
  by_cases e : k = r
  · rw [if_pos e, e, h]; grind
  · rw [if_neg e, h]; grind
/-- the values -/
def xof (m N : Nat) (b : Nat → Rat) (T : Nat → Nat → Rat) (β : Nat → Nat) (j : Nat) : Rat := sm m fun k => if β k = j then T k (tot m N b) else 0
theorem xof_nn (hf : ∀ k, k < m → 0 ≤ T k (tot m N b)) (j : Nat) : 0 ≤ xof m N b T β j := sm_nonneg fun k hk => by
  split
  · exact hf k hk
  · exact Rat.le_refl
/-- the values keep the lines -/
theorem values_ok (h : Inv m (tot m N b) (A0 m N a b) (c0 m N b) T β) (hf : ∀ k, k < m → 0 ≤ T k (tot m N b)) (hz : HZ m N b T β) {i : Nat} (hi : i < m) : b i ≤ sm N fun j => a i j * xof m N b T β j := by
  have h1 := h.col i _ hi (Nat.le_refl _)
  have e1 : A0 m N a b i (tot m N b) = sgm b i * b i := by
    unfold A0 tot; rw [if_neg (by omega), if_neg (by omega), if_neg (by omega)]
  have e2 : (sm N fun j => a i j * xof m N b T β j) = sm m fun k => if β k < N then a i (β k) * T k (tot m N b) else 0 := by
    unfold xof
    rw [sm_congr (g := fun j => sm m fun k => a i j * if β k = j then T k (tot m N b) else 0) fun j _ => (sm_mul _ _ _).symm, sm_swap]
    refine sm_congr fun k hk => ?_
    by_cases q : β k < N
    · rw [if_pos q, sm_one q fun j _ hn => by rw [if_neg (Ne.symm hn)]; grind]
      rw [if_pos rfl]
    · rw [if_neg q]
      exact sm_zero fun j hj => by rw [if_neg (by omega)]; grind
  have e3 : (sm m fun k => A0 m N a b i (β k) * T k (tot m N b)) = sgm b i * ((sm m fun k => if β k < N then a i (β k) * T k (tot m N b) else 0) - sm m fun k => if β k = N + i then T k (tot m N b) else 0) := by
    rw [← sm_sub, ← sm_mul]
    refine sm_congr fun k hk => ?_
    have hlt := h.lt k hk
    by_cases q : β k < N
    · rw [if_pos q, if_neg (by omega)]; unfold A0; rw [if_pos q]; grind
    · rw [if_neg q]
      by_cases q2 : β k < N + m
      · by_cases q3 : β k = N + i
        · rw [if_pos q3]; unfold A0; rw [if_neg q, if_pos q2, if_pos q3]; grind
        · rw [if_neg q3]; unfold A0; rw [if_neg q, if_pos q2, if_neg q3]; grind
      · rw [if_neg (by omega), hz k hk (by omega)]; grind
  have e4 : 0 ≤ sm m fun k => if β k = N + i then T k (tot m N b) else 0 := sm_nonneg fun k hk => by
    split
    · exact hf k hk
    · exact Rat.le_refl
  rw [e1, e3] at h1
  rw [e2]
  generalize (sm m fun k => if β k < N then a i (β k) * T k (tot m N b) else 0) = X at *
  generalize (sm m fun k => if β k = N + i then T k (tot m N b) else 0) = Y at *
  unfold sgm at h1
  split at h1 <;> grind
end
end MA
end
section
set_option maxHeartbeats 4000000
set_option exponentiation.threshold 100
/-! Sizes for the lines of this program. -/
namespace MA
def LPz (m N : Nat) (a : Nat → Nat → Rat) (b : Nat → Rat) (L : Nat → Nat) : Prop := ∀ i, i < m → 0 < L i ∧ L i ≤ 2 ^ 60 ∧ (∀ j, j < N → Zs (L i) (2 ^ 122) (a i j)) ∧ Zs (L i) (2 ^ 122) (b i)
theorem Zs.one {d M : Nat} (h : d ≤ M) : Zs d M 1 := ⟨d, by rw [Rat.intCast_natCast]; grind, by omega⟩
theorem Zs.sgm {d M : Nat} {a : Rat} (b : Nat → Rat) (i : Nat) (h : Zs d M a) : Zs d M (MA.sgm b i * a) := by
  unfold MA.sgm
  split
  · rwa [Rat.one_mul]
  · rw [show -1 * a = -a by grind]; exact h.neg
variable {m N : Nat} {a : Nat → Nat → Rat} {b : Nat → Rat} {L : Nat → Nat}
theorem p60_122 : (2 : Nat) ^ 60 ≤ 2 ^ 122 := Nat.pow_le_pow_right (by omega) (by omega)
theorem A0_Zs (h : LPz m N a b L) {i j : Nat} (hi : i < m) : Zs (L i) (2 ^ 122) (A0 m N a b i j) := by
  obtain ⟨h1, h2, h3, h4⟩ := h i hi
  have hl : L i ≤ 2 ^ 122 := Nat.le_trans h2 p60_122
  unfold A0
  split
  · rename_i q; exact (h3 j q).sgm b i
  · split
    · split
      · have := (Zs.one hl).sgm b i
        rw [show MA.sgm b i * 1 = MA.sgm b i by grind] at this
        exact this.neg
      · exact Zs.zero
    · split
      · split
        · exact Zs.one hl
        · exact Zs.zero
      · exact h4.sgm b i
theorem scale_Zs {d M : Nat} {x : Rat} (h : Zs d M x) : Zs 1 M ((d : Rat) * x) := by
  obtain ⟨z, e, hz⟩ := h
  refine ⟨z, ?_, hz⟩
  have : ((1 : Nat) : Rat) = 1 := rfl
  rw [this]; grind
theorem natCast_ne {d : Nat} (h : 0 < d) : (d : Rat) ≠ 0 := by
  intro q
  have : ((d : Int) : Rat) = ((0 : Int) : Rat) := by rw [Rat.intCast_natCast]; exact q
  have := Rat.intCast_inj.mp this
  omega
theorem dB_small {m : Nat} (hm : m ≤ 16) : dB (2 ^ 122) m ≤ 2 ^ 2016 := by
  have h := dB_le (H := 2 ^ 122) (Nat.two_pow_pos _) hm (by omega)
  have e : 16 * 2 ^ 122 = 2 ^ 126 := by rw [show (16 : Nat) = 2 ^ 4 from rfl, ← Nat.pow_add]
  rw [e, ← Nat.pow_mul] at h
  exact Nat.le_trans h (Nat.pow_le_pow_right (by omega) (by omega))
theorem good_size (h : LPz m N a b L) (hm : m ≤ 16) {T : Nat → Nat → Rat} {β : Nat → Nat} (hi : Inv m (tot m N b) (A0 m N a b) (c0 m N b) T β) (hd : DetOk m (A0 m N a b) (fun i => (L i : Rat)) β) :
    ∃ d, 0 < d ∧ d ≤ 2 ^ 2016 ∧ ∀ k j, k ≤ m → j ≤ tot m N b → Zs d (2 ^ 2021) (T k j) := by
  obtain ⟨d, h1, h2, h3⟩ := hi.size hd (H := 2 ^ 122) (fun i j hi hj => scale_Zs (A0_Zs h hi)) fun j _ => c0_01 j
  refine ⟨d, h1, Nat.le_trans h2 (dB_small hm), fun k j hk hj => (h3 k j hk hj).mono ?_⟩
  have h4 := dB_small hm
  calc (m + 1) * dB (2 ^ 122) m ≤ 2 ^ 5 * 2 ^ 2016 := Nat.mul_le_mul (by omega) h4
    _ = 2 ^ 2021 := by rw [← Nat.pow_add]
theorem good_sz (h : LPz m N a b L) (hm : m ≤ 16) {T : Nat → Nat → Rat} {β : Nat → Nat} (hi : Inv m (tot m N b) (A0 m N a b) (c0 m N b) T β) (hd : DetOk m (A0 m N a b) (fun i => (L i : Rat)) β) :
    ∀ k j, k < m + 1 → j < tot m N b + 1 → sz 2200 (T k j) := fun k j hk hj => by
  obtain ⟨d, h1, h2, h3⟩ := good_size h hm hi hd
  exact (h3 k j (by omega) (by omega)).sz h1 (Nat.lt_of_le_of_lt h2 (Nat.pow_lt_pow_right (by omega) (by omega))) (Nat.pow_lt_pow_right (by omega) (by omega))
/-- partial sums of few rows -/
theorem sum_Zs {L : Nat → Nat} {f w : Nat → Rat} {B c : Nat} (hc : 0 < c) (hL : ∀ i, i < m → 0 < L i ∧ L i ≤ c) (hf : ∀ i, i < m → Zs (L i) B (f i)) (hw : ∀ k, w k = 0 ∨ w k = 1) : ∀ i, i ≤ m → ∃ d, 0 < d ∧ d ≤ c ^ i ∧ Zs d (i * (B * c ^ i)) (sm i fun k => w k * f k)
  | 0, _ => ⟨1, by omega, by simp, by rw [sm_0]; exact Zs.zero⟩
  | i + 1, hi => by
    obtain ⟨d, h1, h2, h3⟩ := sum_Zs hc hL hf hw i (by omega)
    obtain ⟨g1, g2⟩ := hL i (by omega)
    have h4 : Zs (L i) B (w i * f i) := by
      rcases hw i with e | e
      · rw [e, Rat.zero_mul]; exact Zs.zero
      · rw [e, Rat.one_mul]; exact hf i (by omega)
    refine ⟨d * L i, Nat.mul_pos h1 g1, by rw [Nat.pow_succ]; exact Nat.mul_le_mul h2 g2, ?_⟩
    rw [sm_s]
    have h5 := h4.up d
    rw [Nat.mul_comm (L i) d] at h5
    refine ((h3.up (L i)).add h5).mono ?_
    rw [Nat.succ_mul, Nat.pow_succ]
    refine Nat.add_le_add ?_ ?_
    · rw [Nat.mul_assoc, Nat.mul_assoc]
      exact Nat.mul_le_mul_left _ (Nat.mul_le_mul_left _ (Nat.mul_le_mul_left _ g2))
    · refine Nat.mul_le_mul_left _ (Nat.le_trans h2 ?_)
      exact Nat.le_mul_of_pos_right _ hc
theorem red_sz (h : LPz m N a b L) (hm : m ≤ 16) {w : Nat → Rat} (hw : ∀ k, w k = 0 ∨ w k = 1) {x : Rat} (hx : x = 0 ∨ x = 1) (j : Nat) {i : Nat} (hi : i ≤ m) : sz 2200 (x - sm i fun k => w k * A0 m N a b k j) := by
  obtain ⟨d, h1, h2, h3⟩ := sum_Zs (m := m) (f := fun k => A0 m N a b k j) (Nat.two_pow_pos 60) (fun i hi => ⟨(h i hi).1, (h i hi).2.1⟩) (fun i hi => A0_Zs h hi) hw i hi
  rw [← Nat.pow_mul] at h2 h3
  have e1 : d ≤ 2 ^ 960 := Nat.le_trans h2 (Nat.pow_le_pow_right (by omega) (by omega))
  have hx' : Zs d d x := by
    rcases hx with e | e
    · rw [e]; exact Zs.zero
    · rw [e]; exact Zs.one (Nat.le_refl _)
  refine (hx'.sub h3).sz h1 (Nat.lt_of_le_of_lt e1 (Nat.pow_lt_pow_right (by omega) (by omega))) ?_
  have e2 : i * (2 ^ 122 * 2 ^ (60 * i)) ≤ 2 ^ 4 * (2 ^ 122 * 2 ^ 960) := Nat.mul_le_mul (by omega) (Nat.mul_le_mul_left _ (Nat.pow_le_pow_right (by omega) (by omega)))
  rw [← Nat.pow_add 2 122 960, ← Nat.pow_add 2 4] at e2
  have e3 : (2 : Nat) ^ 960 ≤ 2 ^ 1086 := Nat.pow_le_pow_right (by omega) (by omega)
  calc d + i * (2 ^ 122 * 2 ^ (60 * i)) ≤ 2 ^ 1086 + 2 ^ 1086 := Nat.add_le_add (Nat.le_trans e1 e3) e2
    _ = 2 ^ 1087 := by rw [Nat.pow_succ 2 1086, Nat.mul_two]
    _ < 2 ^ 2200 := Nat.pow_lt_pow_right (by omega) (by omega)
end MA
end
section
set_option maxRecDepth 100000
set_option maxHeartbeats 4000000
/-! The pure layer: data trees, slots, and what each construct does to them. No heap. -/
namespace BB
open PySem L2

/-- a datum as a tree -/
inductive D where
  | non | bl (b : Bool) | int (i : Int) | str (x : Str) | tup (ds : List D) | lst (ds : List D)
  /-- the script -/
  | frz (ns : List Int)
  /-- a Data object -/
  | dat (g b l : D)
  /-- a dict with keys (int, bool) -/
  | dic (ks : List (Int × Bool)) (ds : List D)

mutual
/-- nothing in it can change -/
def D.scal : D → Bool
  | .non => true
  | .bl _ => true
  | .int _ => true
  | .str _ => true
  | .tup ds => D.scals ds
  | .lst _ => false
  | .frz _ => false
  | .dat _ _ _ => false
  | .dic _ _ => false
def D.scals : List D → Bool
  | [] => true
  | d :: ds => d.scal && D.scals ds
end

/-- a slot: unassigned; a shared datum; a list that is this slot's alone; a list of lists, all this slot's alone; a dict of its own -/
inductive Sl where
  | no | sh (d : D) | ow (ds : List D) | ow2 (dss : List (List D)) | owd (ks : List (Int × Bool)) (ds : List D)

abbrev Env := List Sl
/-- a value's kind: shared; the object that a slot owns (its items shared); something in it is owned -/
inductive Kd where
  | s | o | b
abbrev PE' := Env → (Kd → D → Prop) → Prop
abbrev PT' := Env → (Bool → Prop) → Prop
/-- arguments: are all shared? -/
abbrev PA' := Env → (Bool → List D → Prop) → Prop
/-- a fresh list -/
abbrev PF' := Env → (List D → Prop) → Prop
/-- a fresh list of fresh lists -/
abbrev PFF' := Env → (List (List D) → Prop) → Prop
structure Post where
  nx : Env → Prop
  rt : D → Prop
  /-- a new list is handed back -/
  rf : List D → Prop := fun _ => False
abbrev PS' := Post → Env → Prop
abbrev PG' := D → Env → (Env → Prop) → Prop
abbrev PGs' := List D → Env → (Env → Prop) → Prop
abbrev SpecT := List D → (D → Prop) → Prop

def kN (k : Kd) (d : D) : Kd := match k with
  | .s => .s
  | _ => if d.scal then .s else .b
/-- an item's kind -/
def kI (k : Kd) (d : D) : Kd := match k with
  | .b => kN .b d
  | _ => .s
/-- items of a list of kind k are shared -/
def elOk (k : Kd) (ds : List D) : Bool := match k with
  | .s => true
  | .o => true
  | .b => D.scals ds
def isS : Kd → Bool
  | .s => true
  | _ => false
/-- made of shared things (b), or not -/
def kB (b : Bool) (d : D) : Kd := match b with
  | true => .s
  | false => kN .b d
def kOf (b : Bool) : Kd := match b with
  | true => .s
  | false => .b

/-! ### expressions -/
def pVar (i : Nat) : PE' := fun env k => match env[i]? with
  | some (.sh d) => k .s d
  | some (.ow ds) => k .o (.lst ds)
  | some (.ow2 dss) => k .b (.lst (dss.map D.lst))
  | some (.owd ks ds) => k .o (.dic ks ds)
  | _ => False
def pC (d : D) : PE' := fun _ k => k .s d
def mulOk (i j : Int) : Prop := (i.natAbs < 2 ^ 64 ∨ j.natAbs < 2 ^ 64) ∨ i.natAbs.log2 + j.natAbs.log2 < 1000000
def divOk (j : Int) : Prop := 0 < j ∧ j.natAbs.log2 < 9000
def addD (ka kb : Kd) (x y : D) (k : Kd → D → Prop) : Prop := match x, y with
  | .int i, .int j => k .s (.int (i + j))
  | .lst xs, .lst ys => xs.length + ys.length ≤ 100000 ∧ k (kOf (elOk ka xs && elOk kb ys)) (.lst (xs ++ ys))
  | _, _ => False
def onI (x y : D) (k : Int → Int → Prop) : Prop := match x, y with
  | .int i, .int j => k i j
  | _, _ => False
def pAdd (a b : PE') : PE' := fun env k => a env fun ka x => b env fun kb y => addD ka kb x y k
def pSub (a b : PE') : PE' := fun env k => a env fun _ x => b env fun _ y => onI x y fun i j => k .s (.int (i - j))
def pMul (a b : PE') : PE' := fun env k => a env fun _ x => b env fun _ y => onI x y fun i j => mulOk i j ∧ k .s (.int (i * j))
def pDiv (a b : PE') : PE' := fun env k => a env fun _ x => b env fun _ y => onI x y fun i j => divOk j ∧ k .s (.int (i / j))
def pMod (a b : PE') : PE' := fun env k => a env fun _ x => b env fun _ y => onI x y fun i j => 0 < j ∧ k .s (.int (i % j))
def pPow (a b : PE') : PE' := fun env k => a env fun _ x => b env fun _ y => onI x y fun i j => CPow i j ∧ k .s (.int (i ^ j.toNat))
def pNeg (a : PE') : PE' := fun env k => a env fun _ x => match x with
  | .int i => k .s (.int (-i))
  | _ => False
def pCmp (f : Int → Int → Bool) (a b : PE') : PE' := fun env k => a env fun _ x => b env fun _ y => onI x y fun i j => k .s (.bl (f i j))
mutual
/-- made of ints, tuples and lists alone -/
def D.ints : D → Bool
  | .int _ => true
  | .tup ds => D.intss ds
  | .lst ds => D.intss ds
  | .non => false
  | .bl _ => false
  | .str _ => false
  | .frz _ => false
  | .dat _ _ _ => false
  | .dic _ _ => false
def D.intss : List D → Bool
  | [] => true
  | d :: ds => d.ints && D.intss ds
end
mutual
def D.dep : D → Nat
  | .tup ds => D.deps ds + 1
  | .lst ds => D.deps ds + 1
  | .int _ => 1
  | .non => 1
  | .bl _ => 1
  | .str _ => 1
  | .frz _ => 1
  | .dat _ _ _ => 1
  | .dic _ _ => 1
def D.deps : List D → Nat
  | [] => 0
  | d :: ds => max d.dep (D.deps ds)
end
open Classical in
/-- == where it is served -/
noncomputable def eqD (x y : D) (k : Bool → Prop) : Prop := match x, y with
  | .non, .non => k true
  | .bl a, .bl b => k (decide (a = b))
  | .int a, .int b => k (decide (a = b))
  | .str a, .str b => k (decide (a = b))
  | .tup xs, .tup ys => D.intss xs = true ∧ D.intss ys = true ∧ D.deps xs ≤ 60 ∧ D.deps ys ≤ 60 ∧ k (decide (xs = ys))
  | .lst xs, .lst ys => D.intss xs = true ∧ D.intss ys = true ∧ D.deps xs ≤ 60 ∧ D.deps ys ≤ 60 ∧ k (decide (xs = ys))
  | _, _ => False
noncomputable def pEq (a b : PE') : PE' := fun env k => a env fun _ x => b env fun _ y => eqD x y fun c => k .s (.bl c)
noncomputable def pNe (a b : PE') : PE' := fun env k => a env fun _ x => b env fun _ y => eqD x y fun c => k .s (.bl (!c))
def isNon : D → Bool
  | .non => true
  | _ => false
def pIsN (neg : Bool) (a : PE') : PE' := fun env k => a env fun _ x => k .s (.bl (isNon x != neg))
def pIsT (neg : Bool) (a : PE') : PE' := fun env k => a env fun _ x => match x with
  | .bl b => k .s (.bl (b != neg))
  | .non => k .s (.bl neg)
  | _ => False
/-- truth -/
def truD (x : D) (k : Bool → Prop) : Prop := match x with
  | .non => k false
  | .bl b => k b
  | .int i => k (i != 0)
  | .lst ds => k (!ds.isEmpty)
  | _ => False
def pAnd (a b : PE') : PE' := fun env k => a env fun ka x => truD x fun t => match t with
  | true => b env k
  | false => k ka x
def pOr (a b : PE') : PE' := fun env k => a env fun ka x => truD x fun t => match t with
  | true => k ka x
  | false => b env k
def pNot (a : PE') : PE' := fun env k => a env fun _ x => truD x fun t => k .s (.bl (!t))
def pIf (t : PT') (a b : PE') : PE' := fun env k => t env fun c => match c with
  | true => a env k
  | false => b env k
/-- o[i] -/
def ixD (ka : Kd) (x y : D) (k : Kd → D → Prop) : Prop := match x, y with
  | .lst ds, .int i => ∃ d, atI ds i = some d ∧ k (kI ka d) d
  | .tup ds, .int i => ∃ d, atI ds i = some d ∧ k (kI ka d) d
  | .frz ns, .int i => ∃ n, atI ns i = some n ∧ k .s (.int n)
  | .dic ks ds, .tup [.int i, .bl c] => ∃ d, (ks.zip ds).lookup (i, c) = some d ∧ k (kI ka d) d
  | _, _ => False
def pIx (a b : PE') : PE' := fun env k => a env fun ka x => b env fun _ y => ixD ka x y k
def pIn (neg : Bool) (a b : PE') : PE' := fun env k => a env fun _ x => b env fun _ y => match x, y with
  | .tup [.int i, .bl c], .dic ks _ => k .s (.bl (ks.contains (i, c) != neg))
  | _, _ => False
def cut {α : Type} (xs : List α) (lo hi : Option Int) : List α := (xs.drop (HT.sIx xs.length 0 lo)).take (HT.sIx xs.length xs.length hi - HT.sIx xs.length 0 lo)
abbrev PO' := Env → (Option Int → Prop) → Prop
def oNo : PO' := fun _ k => k none
def oYes (a : PE') : PO' := fun env k => a env fun _ x => match x with
  | .int i => k (some i)
  | _ => False
def fSl (a : PE') (lo hi : PO') : PF' := fun env k => a env fun ka x => lo env fun l => hi env fun h => match x with
  | .lst ds => elOk ka ds = true ∧ k (cut ds l h)
  | _ => False
def fRev (a : PE') : PF' := fun env k => a env fun ka x => match x with
  | .lst ds => elOk ka ds = true ∧ k ds.reverse
  | _ => False
/-- a fresh list as a value -/
def pF (f : PF') : PE' := fun env k => f env fun ds => k .s (.lst ds)
def aNil : PA' := fun _ k => k true []
def aCons (a : PE') (r : PA') : PA' := fun env k => a env fun ka x => r env fun b xs => k (isS ka && b) (x :: xs)
def pTup (r : PA') : PE' := fun env k => r env fun b xs => xs.length ≤ 100000 ∧ k (kB b (.tup xs)) (.tup xs)
def fLst (r : PA') : PF' := fun env k => r env fun b xs => xs.length ≤ 100000 ∧ (b = true ∨ D.scals xs = true) ∧ k xs
def fCat (a b : PE') : PF' := fun env k => a env fun ka x => b env fun kb y => match x, y with
  | .lst xs, .lst ys => xs.length + ys.length ≤ 100000 ∧ (elOk ka xs && elOk kb ys) = true ∧ k (xs ++ ys)
  | _, _ => False
def fList (a : PE') : PF' := fun env k => a env fun ka x => match x with
  | .lst ds => elOk ka ds = true ∧ k ds
  | .tup ds => elOk ka ds = true ∧ k ds
  | _ => False
inductive At where
  | goods | buys | links
def pFld (f : At) (a : PE') : PE' := fun env k => a env fun ka x => match x with
  | .dat g b l => match f with
    | .goods => k (kI ka g) g
    | .buys => k (kI ka b) b
    | .links => k (kI ka l) l
  | _ => False
/-- a def's call; where not all arguments are shared, its value is a scalar, or borrowed -/
def pCall (S : SpecT) (r : PA') : PE' := fun env k => r env fun b xs => S xs fun d => k (kB b d) d
/-- the def hands back new objects alone -/
def pCallF (S : SpecT) (r : PA') : PE' := fun env k => r env fun _ xs => S xs fun d => k .s d
def lenD (x : D) (k : Nat → Prop) : Prop := match x with
  | .lst ds => k ds.length
  | .tup ds => k ds.length
  | .frz ns => k ns.length
  | _ => False
def pLen (a : PE') : PE' := fun env k => a env fun _ x => lenD x fun n => k .s (.int (n : Int))
def pAbs (a : PE') : PE' := fun env k => a env fun _ x => match x with
  | .int i => k .s (.int (if i < 0 then -i else i))
  | _ => False
def pMin (a b : PE') : PE' := fun env k => a env fun _ x => b env fun _ y => onI x y fun i j => k .s (.int (if j < i then j else i))
def pMax (a : PE') : PE' := fun env k => a env fun _ x => ∃ ns : List Int, x = .lst (ns.map D.int) ∧ 0 < ns.length ∧ ∀ m, m ∈ ns → (∀ y, y ∈ ns → y ≤ m) → k .s (.int m)
def pInt (a : PE') : PE' := fun env k => a env fun _ x => match x with
  | .int i => k .s (.int i)
  | .bl b => k .s (.int (if b then 1 else 0))
  | _ => False
inductive Ty where
  | int | bool | str | lst | tup
def isiD : Ty → D → Option Bool
  | .int, .int _ => some true
  | .int, .bl _ => some true
  | .int, .str _ => some false
  | .int, .lst _ => some false
  | .int, .tup _ => some false
  | .int, .non => some false
  | .bool, .bl _ => some true
  | .bool, .int _ => some false
  | .bool, .str _ => some false
  | .bool, .lst _ => some false
  | .bool, .tup _ => some false
  | .bool, .non => some false
  | .str, .str _ => some true
  | .str, .int _ => some false
  | .str, .bl _ => some false
  | .str, .lst _ => some false
  | .str, .tup _ => some false
  | .str, .non => some false
  | .lst, .lst _ => some true
  | .lst, .int _ => some false
  | .lst, .bl _ => some false
  | .lst, .str _ => some false
  | .lst, .tup _ => some false
  | .lst, .non => some false
  | .tup, .tup _ => some true
  | .tup, .int _ => some false
  | .tup, .bl _ => some false
  | .tup, .str _ => some false
  | .tup, .lst _ => some false
  | .tup, .non => some false
  | _, _ => none
def pIsI (a : PE') (t : Ty) : PE' := fun env k => a env fun _ x => ∃ b, isiD t x = some b ∧ k .s (.bl b)
def pGcd (a b : PE') : PE' := fun env k => a env fun _ x => b env fun _ y => onI x y fun i j => k .s (.int ((Nat.gcd i.natAbs j.natAbs : Nat) : Int))
def pBits (a : PE') : PE' := fun env k => a env fun _ x => match x with
  | .int i => k .s (.int (Builtin.Int.intBits i : Nat))
  | _ => False
/-- list.index over texts -/
def pIndex (a b : PE') : PE' := fun env k => a env fun _ x => ∃ zs : List Str, x = .lst (zs.map D.str) ∧ b env fun _ y => ∃ (z : Str) (j : Nat), y = .str z ∧ zs[j]? = some z ∧ (∀ i, i < j → zs[i]? ≠ some z) ∧ k .s (.int (j : Int))
/-! ### tests -/
def tOf (a : PE') : PT' := fun env k => a env fun _ x => match x with
  | .bl b => k b
  | _ => False
def tTru (a : PE') : PT' := fun env k => a env fun _ x => truD x k
def tNot' (t : PT') : PT' := fun env k => t env fun b => k (!b)
def tAnd' (t u : PT') : PT' := fun env k => t env fun b => match b with
  | true => u env k
  | false => k false
def tOr' (t u : PT') : PT' := fun env k => t env fun b => match b with
  | true => k true
  | false => u env k
def tYes' : PT' := fun _ k => k true
/-! ### what is walked: its items are shared -/
abbrev PI' := Env → (Bool → List D → Prop) → Prop
def iRange (a : PE') : PI' := fun env k => a env fun _ x => match x with
  | .int n => (-4611686018427387904 ≤ n ∧ n < 4611686018427387904) ∧ k true ((List.range n.toNat).map fun i : Nat => D.int (i : Int))
  | _ => False
def iList' (a : PE') : PI' := fun env k => a env fun ka x => match x with
  | .lst ds => elOk ka ds = true ∧ k (isS ka) ds
  | _ => False
def iTup' (a : PE') : PI' := fun env k => a env fun ka x => match x with
  | .tup ds => elOk ka ds = true ∧ k (isS ka) ds
  | _ => False
/-! ### targets -/
def gName' (i : Nat) : PG' := fun d env k => k (env.set i (.sh d))
def gNil' : PGs' := fun ds env k => ds = [] ∧ k env
def gCons' (g : PG') (r : PGs') : PGs' := fun ds env k => match ds with
  | d :: ds => g d env fun e => r ds e k
  | [] => False
def gTup' (n : Nat) (r : PGs') : PG' := fun d env k => match d with
  | .tup ds => ds.length = n ∧ r ds env k
  | _ => False
/-! ### comprehensions -/
def wipe' (env : Env) : List Nat → Env
  | [] => env
  | v :: vs => (wipe' env vs).set v .no
def compGo (g : PG') (t : PT') (e : PE') (env : Env) : List D → List D → (List D → Prop) → Prop
  | [], acc, k => k acc
  | d :: ds, acc, k => g d env fun env' => t env' fun b => match b with
    | true => e env' fun kd x => isS kd = true ∧ compGo g t e env ds (acc ++ [x]) k
    | false => compGo g t e env ds acc k
def fComp (i : PI') (g : PG') (t : PT') (e : PE') (vs : List Nat) : PF' := fun env k => i env fun _ ds => ds.length ≤ 100000 ∧ compGo g t e (wipe' env vs) ds [] k
def compGoF (g : PG') (f : PF') (env : Env) : List D → List (List D) → (List (List D) → Prop) → Prop
  | [], acc, k => k acc
  | d :: ds, acc, k => g d env fun env' => f env' fun xs => compGoF g f env ds (acc ++ [xs]) k
def ffComp (i : PI') (g : PG') (f : PF') (vs : List Nat) : PFF' := fun env k => i env fun _ ds => ds.length ≤ 100000 ∧ compGoF g f (wipe' env vs) ds [] k
/-! ### statements -/
def sNext : PS' := fun Z env => Z.nx env
def sSeq (a b : PS') : PS' := fun Z env => a { Z with nx := b Z } env
def sSet (g : PG') (p : PE') : PS' := fun Z env => p env fun kd d => isS kd = true ∧ g d env Z.nx
def sOwn (i : Nat) (f : PF') : PS' := fun Z env => f env fun ds => Z.nx (env.set i (.ow ds))
def sOwn2 (i : Nat) (f : PFF') : PS' := fun Z env => f env fun dss => Z.nx (env.set i (.ow2 dss))
/-- a new dict with one entry -/
def sOwnD (i : Nat) (key val : PE') : PS' := fun Z env => key env fun _ x => val env fun kv d => match x with
  | .tup [.int n, .bl c] => isS kv = true ∧ Z.nx (env.set i (.owd [(n, c)] [d]))
  | _ => False
/-- x[e] = v, x a slot's own list or dict -/
def sPut (i : Nat) (e v : PE') : PS' := fun Z env => match env[i]? with
  | some (.ow ds) => v env fun kv d => isS kv = true ∧ e env fun _ y => match y with
    | .int n => ∃ j, ixN ds.length n = some j ∧ Z.nx (env.set i (.ow (ds.set j d)))
    | _ => False
  | some (.owd ks ds) => v env fun kv d => isS kv = true ∧ e env fun ke y => match y with
    | .tup [.int n, .bl c] => isS ke = true ∧ ks.contains (n, c) = false ∧ ks.length < 100000 ∧ Z.nx (env.set i (.owd (ks ++ [(n, c)]) (ds ++ [d])))
    | _ => False
  | _ => False
/-- x[e1][e2] = v -/
def sPut2 (i : Nat) (e1 e2 v : PE') : PS' := fun Z env => match env[i]? with
  | some (.ow2 dss) => v env fun kv d => isS kv = true ∧ e1 env fun _ y => match y with
    | .int n => ∃ j ds, ixN dss.length n = some j ∧ dss[j]? = some ds ∧ e2 env fun _ z => match z with
      | .int m => ∃ l, ixN ds.length m = some l ∧ Z.nx (env.set i (.ow2 (dss.set j (ds.set l d))))
      | _ => False
    | _ => False
  | _ => False
def sApp (i : Nat) (v : PE') : PS' := fun Z env => match env[i]? with
  | some (.ow ds) => v env fun kv d => isS kv = true ∧ ds.length < 100000 ∧ Z.nx (env.set i (.ow (ds ++ [d])))
  | _ => False
/-- the slot's own list is shared from here on -/
def sFrz (i : Nat) : PS' := fun Z env => match env[i]? with
  | some (.ow ds) => Z.nx (env.set i (.sh (.lst ds)))
  | some (.ow2 dss) => Z.nx (env.set i (.sh (.lst (dss.map D.lst))))
  | some (.owd ks ds) => Z.nx (env.set i (.sh (.dic ks ds)))
  | some (.sh d) => Z.nx env
  | _ => False
def sIf (t : PT') (a b : PS') : PS' := fun Z env => t env fun c => match c with
  | true => a Z env
  | false => b Z env
def sRet (p : PE') : PS' := fun Z env => p env fun _ d => Z.rt d
def sRetF (f : PF') : PS' := fun Z env => f env fun ds => Z.rf ds
/-- a, b = x, y -/
def sPar (i j : Nat) (r : PA') : PS' := fun Z env => r env fun b xs => b = true ∧ match xs with
  | [x, y] => Z.nx ((env.set i (.sh x)).set j (.sh y))
  | _ => False
def forGo (g : PG') (body : PS') : List D → Post → Env → Prop
  | [], Z, env => Z.nx env
  | d :: ds, Z, env => g d env fun env' => body { Z with nx := forGo g body ds Z } env'
def sFor (i : PI') (g : PG') (body : PS') : PS' := fun Z env => i env fun b ds => b = true ∧ forGo g body ds Z env
def whGo (t : PT') (body : PS') (Z : Post) : Nat → Env → Prop
  | 0, _ => False
  | n + 1, env => t env fun c => match c with
    | true => body { Z with nx := whGo t body Z n } env
    | false => Z.nx env
def sWhile (t : PT') (body : PS') : PS' := fun Z env => ∃ n, whGo t body Z n env
end BB
end
section
set_option maxRecDepth 100000
set_option maxHeartbeats 4000000
/-! What a tree means in the abstract heap; states; what it is to be served. -/
namespace BB
open PySem L2

structure Wc where
  P : Program
  w : World
  K : PySem.W.Frag
  C : Addr

def nk (p : Int × Bool) : NestedKey := .tup [.num p.1, .num (if p.2 then 1 else 0)]
/-- the raw object of a dict -/
def DRaw (W : Wc) (a : Addr) (xs : List (NestedKey × Addr × Value)) : Heap → Prop := fun h => ∃ o es ep, h.get? a = some o ∧ o.ExactDict ∧ o.data = .dict es ep ∧ es.toList = xs.map (entryOfKey (nestedKind W.P W.w))
structure DicAt (W : Wc) (H : Hp) (a : Addr) (ks : List (Int × Bool)) (vs : List V) : Prop where
  ex : ∃ xs : List (NestedKey × Addr × Value), H a = some (.ext (DRaw W a xs)) ∧ xs.map (·.1) = ks.map nk ∧ Paired (fun (k : Int × Bool) (x : NestedKey × Addr × Value) => SqT W.K H x.2.1 [.int k.1, .bl k.2]) ks xs ∧ Vals vs (xs.map (·.2.2))
  nd : ks.Nodup
  ns : (a == sysModules) = false

def sGoods : Str := "goods"
def sBuys : Str := "buys"
def sLinks : Str := "links"
def datF (vg vb vl : V) : List (Str × V) := [(sGoods, vg), (sBuys, vb), (sLinks, vl)]

mutual
def Is (W : Wc) (H : Hp) : D → V → Prop
  | .non, v => v = .non
  | .bl b, v => v = .bl b
  | .int i, v => v = .int i
  | .str x, v => v = .str x
  | .tup ds, v => ∃ a vs, v = .ref a ∧ SqT W.K H a vs ∧ IsAll W H ds vs
  | .lst ds, v => ∃ a vs, v = .ref a ∧ H a = some (.lst vs) ∧ IsAll W H ds vs
  | .frz ns, v => ∃ a, v = .ref a ∧ SqL W.K H a (ns.map V.int)
  | .dat g b l, v => ∃ p dx vg vb vl, v = .ref p ∧ H p = some (.ins W.C dx (datF vg vb vl)) ∧ Is W H g vg ∧ Is W H b vb ∧ Is W H l vl
  | .dic ks ds, v => ∃ a vs, v = .ref a ∧ DicAt W H a ks vs ∧ IsAll W H ds vs
def IsAll (W : Wc) (H : Hp) : List D → List V → Prop
  | [], vs => vs = []
  | d :: ds, vs => ∃ v r, vs = v :: r ∧ Is W H d v ∧ IsAll W H ds r
end

/-- all that H tracks H' tracks -/
def Ex (H H' : Hp) : Prop := ∀ a o, H a = some o → H' a = some o
theorem Ex.refl (H : Hp) : Ex H H := fun _ _ h => h
theorem Ex.trans {H H1 H2 : Hp} (a : Ex H H1) (b : Ex H1 H2) : Ex H H2 := fun x o h => b x o (a x o h)
theorem Ex.back {H H' : Hp} {p : Addr} (e : Ex H H') (h : H' p = none) : H p = none := by
  cases h1 : H p with
  | none => rfl
  | some o => rw [e p o h1] at h; cases h
theorem Ex.new {H : Hp} {p : Addr} {o : HO} (h : H p = none) : Ex H (upd H p o) := fun a u e => by
  rw [upd_ne (ne_of_none e h)]; exact e
theorem Ex.mut {H H' : Hp} {p : Addr} {o : HO} (e : Ex H H') (h : H p = none) : Ex H (upd H' p o) := fun a u ha => by
  rw [upd_ne (ne_of_none ha h)]; exact e a u ha
theorem Ex.rd {H H' : Hp} {a : Addr} {u : HO} (e : Ex H H') (h : Rd H a u) : Rd H' a u := by
  rcases h with h | ⟨o, h⟩
  · exact Or.inl (e a _ h)
  · exact Or.inr ⟨o, e a _ h⟩
theorem Ex.l {K : PySem.W.Frag} {H H' : Hp} {a : Addr} {xs : List V} (e : Ex H H') (h : SqL K H a xs) : SqL K H' a xs := h.imp e.rd id
theorem Ex.t {K : PySem.W.Frag} {H H' : Hp} {a : Addr} {xs : List V} (e : Ex H H') (h : SqT K H a xs) : SqT K H' a xs := h.imp e.rd id
theorem paired_mono {α β : Type} {F G : α → β → Prop} (f : ∀ a b, F a b → G a b) : ∀ {l : List α} {r : List β}, Paired F l r → Paired G l r
  | _, _, .nil => .nil
  | _, _, .cons h t => .cons (f _ _ h) (paired_mono f t)
theorem DicAt.mono {W : Wc} {H H' : Hp} (e : Ex H H') {a : Addr} {ks : List (Int × Bool)} {vs : List V} (h : DicAt W H a ks vs) : DicAt W H' a ks vs := by
  obtain ⟨⟨xs, h1, h2, h3, h4⟩, nd, ns⟩ := h
  exact ⟨⟨xs, e _ _ h1, h2, paired_mono (fun k x q => e.t q) h3, h4⟩, nd, ns⟩

mutual
theorem Is.mono {W : Wc} {H H' : Hp} (e : Ex H H') : ∀ (d : D) (v : V), Is W H d v → Is W H' d v
  | .non, v, h => by simpa only [Is] using h
  | .bl b, v, h => by simpa only [Is] using h
  | .int i, v, h => by simpa only [Is] using h
  | .str x, v, h => by simpa only [Is] using h
  | .tup ds, v, h => by
    simp only [Is] at h ⊢
    obtain ⟨a, vs, h1, h2, h3⟩ := h
    exact ⟨a, vs, h1, e.t h2, IsAll.mono e ds vs h3⟩
  | .lst ds, v, h => by
    simp only [Is] at h ⊢
    obtain ⟨a, vs, h1, h2, h3⟩ := h
    exact ⟨a, vs, h1, e _ _ h2, IsAll.mono e ds vs h3⟩
  | .frz ns, v, h => by
    simp only [Is] at h ⊢
    obtain ⟨a, h1, h2⟩ := h
    exact ⟨a, h1, e.l h2⟩
  | .dat g b l, v, h => by
    simp only [Is] at h ⊢
    obtain ⟨p, dx, vg, vb, vl, h1, h2, h3, h4, h5⟩ := h
    exact ⟨p, dx, vg, vb, vl, h1, e _ _ h2, Is.mono e g vg h3, Is.mono e b vb h4, Is.mono e l vl h5⟩
  | .dic ks ds, v, h => by
    simp only [Is] at h ⊢
    obtain ⟨a, vs, h1, h2, h3⟩ := h
    exact ⟨a, vs, h1, h2.mono e, IsAll.mono e ds vs h3⟩
theorem IsAll.mono {W : Wc} {H H' : Hp} (e : Ex H H') : ∀ (ds : List D) (vs : List V), IsAll W H ds vs → IsAll W H' ds vs
  | [], vs, h => by simpa only [IsAll] using h
  | d :: ds, vs, h => by
    simp only [IsAll] at h ⊢
    obtain ⟨v, r, h1, h2, h3⟩ := h
    exact ⟨v, r, h1, Is.mono e d v h2, IsAll.mono e ds r h3⟩
end
section
variable {W : Wc} {H : Hp}
theorem IsAll.length : ∀ {ds : List D} {vs : List V}, IsAll W H ds vs → vs.length = ds.length
  | [], vs, h => by simp only [IsAll] at h; subst h; rfl
  | d :: ds, vs, h => by
    simp only [IsAll] at h
    obtain ⟨v, r, rfl, _, h3⟩ := h
    simp [IsAll.length h3]
theorem IsAll.nil : IsAll W H [] [] := by simp only [IsAll]
theorem IsAll.cons {d : D} {v : V} {ds : List D} {vs : List V} (h : Is W H d v) (t : IsAll W H ds vs) : IsAll W H (d :: ds) (v :: vs) := by
  simp only [IsAll]; exact ⟨v, vs, rfl, h, t⟩
theorem IsAll.get : ∀ {ds : List D} {vs : List V}, IsAll W H ds vs → ∀ {i : Nat} {d : D}, ds[i]? = some d → ∃ v, vs[i]? = some v ∧ Is W H d v
  | [], _, _, i, d, e => by simp at e
  | d' :: ds, vs, h, i, d, e => by
    simp only [IsAll] at h
    obtain ⟨v, r, rfl, h2, h3⟩ := h
    cases i with
    | zero => simp at e; subst e; exact ⟨v, rfl, h2⟩
    | succ i => simp at e; simpa using IsAll.get h3 e
theorem IsAll.append : ∀ {ds es : List D} {vs us : List V}, IsAll W H ds vs → IsAll W H es us → IsAll W H (ds ++ es) (vs ++ us)
  | [], es, vs, us, h, h' => by simp only [IsAll] at h; subst h; exact h'
  | d :: ds, es, vs, us, h, h' => by
    simp only [IsAll] at h
    obtain ⟨v, r, rfl, h2, h3⟩ := h
    exact .cons h2 (IsAll.append h3 h')
theorem IsAll.one {d : D} {v : V} (h : Is W H d v) : IsAll W H [d] [v] := .cons h .nil
theorem IsAll.take : ∀ {ds : List D} {vs : List V} (n : Nat), IsAll W H ds vs → IsAll W H (ds.take n) (vs.take n)
  | _, _, 0, _ => by simp only [List.take_zero]; exact .nil
  | [], vs, n + 1, h => by simp only [IsAll] at h; subst h; exact .nil
  | d :: ds, vs, n + 1, h => by
    simp only [IsAll] at h
    obtain ⟨v, r, rfl, h2, h3⟩ := h
    exact .cons h2 (IsAll.take n h3)
theorem IsAll.drop : ∀ {ds : List D} {vs : List V} (n : Nat), IsAll W H ds vs → IsAll W H (ds.drop n) (vs.drop n)
  | _, _, 0, h => h
  | [], vs, n + 1, h => by simp only [IsAll] at h; subst h; exact .nil
  | d :: ds, vs, n + 1, h => by
    simp only [IsAll] at h
    obtain ⟨v, r, rfl, h2, h3⟩ := h
    exact IsAll.drop n h3
theorem IsAll.reverse : ∀ {ds : List D} {vs : List V}, IsAll W H ds vs → IsAll W H ds.reverse vs.reverse
  | [], vs, h => by simp only [IsAll] at h; subst h; exact .nil
  | d :: ds, vs, h => by
    simp only [IsAll] at h
    obtain ⟨v, r, rfl, h2, h3⟩ := h
    rw [List.reverse_cons, List.reverse_cons]
    exact (IsAll.reverse h3).append (.one h2)
theorem IsAll.set {d : D} {v : V} (hv : Is W H d v) : ∀ {ds : List D} {vs : List V} (n : Nat), IsAll W H ds vs → IsAll W H (ds.set n d) (vs.set n v)
  | [], vs, n, h => by simp only [IsAll] at h; subst h; exact .nil
  | d' :: ds, vs, 0, h => by
    simp only [IsAll] at h
    obtain ⟨v', r, rfl, h2, h3⟩ := h
    exact .cons hv h3
  | d' :: ds, vs, n + 1, h => by
    simp only [IsAll] at h
    obtain ⟨v', r, rfl, h2, h3⟩ := h
    exact .cons h2 (IsAll.set hv n h3)
theorem IsAll.mem : ∀ {ds : List D} {vs : List V}, IsAll W H ds vs → ∀ {i : Nat} {v : V}, vs[i]? = some v → ∃ d, ds[i]? = some d ∧ Is W H d v
  | [], vs, h, i, v, e => by simp only [IsAll] at h; subst h; simp at e
  | d' :: ds, vs, h, i, v, e => by
    simp only [IsAll] at h
    obtain ⟨v', r, rfl, h2, h3⟩ := h
    cases i with
    | zero => simp at e; subst e; exact ⟨d', rfl, h2⟩
    | succ i => simp at e; simpa using IsAll.mem h3 e
theorem IsAll.ints : ∀ {ns : List Int} {vs : List V}, IsAll W H (ns.map D.int) vs → vs = ns.map V.int
  | [], vs, h => by simpa only [List.map_nil, IsAll] using h
  | n :: ns, vs, h => by
    simp only [List.map_cons, IsAll] at h
    obtain ⟨v', r, rfl, h2, h3⟩ := h
    simp only [Is] at h2
    subst h2
    rw [IsAll.ints h3]; rfl
theorem IsAll.strs : ∀ {ns : List Str} {vs : List V}, IsAll W H (ns.map D.str) vs → vs = ns.map V.str
  | [], vs, h => by simpa only [List.map_nil, IsAll] using h
  | n :: ns, vs, h => by
    simp only [List.map_cons, IsAll] at h
    obtain ⟨v', r, rfl, h2, h3⟩ := h
    simp only [Is] at h2
    subst h2
    rw [IsAll.strs h3]; rfl
end
/-- a scalar stands wherever the tuples stand -/
def ExT (H H' : Hp) : Prop := ∀ a u, Rd H a u → (∃ xs, u = .tup xs) → Rd H' a u
mutual
theorem Is.scal {W : Wc} {H H' : Hp} (e : ExT H H') : ∀ (d : D) (v : V), d.scal = true → Is W H d v → Is W H' d v
  | .non, v, _, h => by simpa only [Is] using h
  | .bl b, v, _, h => by simpa only [Is] using h
  | .int i, v, _, h => by simpa only [Is] using h
  | .str x, v, _, h => by simpa only [Is] using h
  | .tup ds, v, s, h => by
    simp only [Is] at h ⊢
    simp only [D.scal] at s
    obtain ⟨a, vs, h1, h2, h3⟩ := h
    exact ⟨a, vs, h1, h2.imp (fun q => e _ _ q ⟨_, rfl⟩) id, IsAll.scal e ds vs s h3⟩
  | .lst ds, v, s, h => by simp only [D.scal] at s; cases s
  | .frz ns, v, s, h => by simp only [D.scal] at s; cases s
  | .dat g b l, v, s, h => by simp only [D.scal] at s; cases s
  | .dic ks ds, v, s, h => by simp only [D.scal] at s; cases s
theorem IsAll.scal {W : Wc} {H H' : Hp} (e : ExT H H') : ∀ (ds : List D) (vs : List V), D.scals ds = true → IsAll W H ds vs → IsAll W H' ds vs
  | [], vs, _, h => by simpa only [IsAll] using h
  | d :: ds, vs, s, h => by
    simp only [IsAll] at h ⊢
    simp only [D.scals, Bool.and_eq_true] at s
    obtain ⟨v, r, h1, h2, h3⟩ := h
    exact ⟨v, r, h1, Is.scal e d v s.1 h2, IsAll.scal e ds r s.2 h3⟩
end

/-! ### states -/
/-- who owns an address -/
abbrev Own := Addr → Option Nat
/-- the shared part and what is owned -/
def uni (O : Own) (Hm H : Hp) : Hp := fun a => if (O a).isSome then H a else Hm a
def isOwn : HO → Prop
  | .lst _ => True
  | .ext _ => True
  | _ => False
def SlOk (W : Wc) (O : Own) (Hm H : Hp) (i : Nat) (v : Option (Option V)) : Sl → Prop
  | .no => True
  | .sh d => ∃ u, v = some (some u) ∧ Is W Hm d u
  | .ow ds => ∃ a vs, v = some (some (.ref a)) ∧ O a = some i ∧ H a = some (.lst vs) ∧ IsAll W Hm ds vs
  | .ow2 dss => ∃ a as, v = some (some (.ref a)) ∧ O a = some i ∧ H a = some (.lst (as.map V.ref)) ∧ (a :: as).Nodup ∧ Paired (fun b ds => O b = some i ∧ ∃ vs, H b = some (.lst vs) ∧ IsAll W Hm ds vs) as dss
  | .owd ks ds => ∃ a vs, v = some (some (.ref a)) ∧ O a = some i ∧ DicAt W (uni O Hm H) a ks vs ∧ IsAll W Hm ds vs
structure Rep (W : Wc) (O : Own) (Hm H : Hp) (σ : L2.St) (env : Env) : Prop where
  len : σ.length = env.length
  sub : Ex Hm H
  own : ∀ a i, O a = some i → Hm a = none ∧ ∃ o, H a = some o ∧ isOwn o
  slots : ∀ i sl, env[i]? = some sl → SlOk W O Hm H i σ[i]? sl
/-- what an expression may do: new objects, shared or dropped -/
structure Grow (Hm H Hm' H' : Hp) : Prop where
  ex : Ex H H'
  exm : Ex Hm Hm'
  sub : Ex Hm' H'
  fresh : ∀ a o, Hm' a = some o → Hm a = some o ∨ H a = none
theorem Grow.refl {Hm H : Hp} (h : Ex Hm H) : Grow Hm H Hm H := ⟨Ex.refl _, Ex.refl _, h, fun _ _ e => .inl e⟩
theorem Grow.trans {Hm H Hm1 H1 Hm2 H2 : Hp} (a : Grow Hm H Hm1 H1) (b : Grow Hm1 H1 Hm2 H2) : Grow Hm H Hm2 H2 :=
  ⟨a.ex.trans b.ex, a.exm.trans b.exm, b.sub, fun x o e => by
    rcases b.fresh x o e with h | h
    · exact a.fresh x o h
    · exact .inr (a.ex.back h)⟩
section
variable {W : Wc} {O : Own} {Hm H Hm' H' : Hp} {σ : L2.St} {env : Env}
theorem Rep.uniSub (R : Rep W O Hm H σ env) : Ex (uni O Hm H) H := fun a o e => by
  unfold uni at e
  split at e
  · exact e
  · exact R.sub a o e
theorem Rep.subUni (R : Rep W O Hm H σ env) : Ex Hm (uni O Hm H) := fun a o e => by
  unfold uni
  split
  · rename_i h
    obtain ⟨i, hi⟩ := Option.isSome_iff_exists.mp h
    rw [(R.own a i hi).1] at e; cases e
  · exact e
theorem Grow.uni (R : Rep W O Hm H σ env) (g : Grow Hm H Hm' H') : Ex (uni O Hm H) (uni O Hm' H') := fun a o e => by
  unfold BB.uni at e ⊢
  split
  · rename_i h; rw [if_pos h] at e; exact g.ex a o e
  · rename_i h; rw [if_neg h] at e; exact g.exm a o e
theorem Grow.ownm (R : Rep W O Hm H σ env) (g : Grow Hm H Hm' H') : ∀ a i, O a = some i → Hm' a = none := fun a i e => by
  obtain ⟨h1, o, h2, _⟩ := R.own a i e
  cases h : Hm' a with
  | none => rfl
  | some u =>
    rcases g.fresh a u h with q | q
    · rw [h1] at q; cases q
    · rw [h2] at q; cases q
theorem Rep.grow (R : Rep W O Hm H σ env) (g : Grow Hm H Hm' H') : Rep W O Hm' H' σ env := by
  refine ⟨R.len, g.sub, fun a i e => ⟨g.ownm R a i e, ?_⟩, fun i sl e => ?_⟩
  · obtain ⟨_, o, h2, h3⟩ := R.own a i e
    exact ⟨o, g.ex a o h2, h3⟩
  · have h := R.slots i sl e
    cases sl with
    | no => trivial
    | sh d => obtain ⟨u, h1, h2⟩ := h; exact ⟨u, h1, h2.mono g.exm⟩
    | ow ds => obtain ⟨a, vs, h1, h2, h3, h4⟩ := h; exact ⟨a, vs, h1, h2, g.ex _ _ h3, h4.mono g.exm⟩
    | ow2 dss =>
      obtain ⟨a, as, h1, h2, h3, h4, h5⟩ := h
      exact ⟨a, as, h1, h2, g.ex _ _ h3, h4, paired_mono (fun b ds ⟨q1, vs, q2, q3⟩ => ⟨q1, vs, g.ex _ _ q2, q3.mono g.exm⟩) h5⟩
    | owd ks ds =>
      obtain ⟨a, vs, h1, h2, h3, h5⟩ := h
      exact ⟨a, vs, h1, h2, h3.mono (g.uni R), h5.mono g.exm⟩
/-- a scalar that is borrowed is shared -/
theorem Rep.exT (R : Rep W O Hm H σ env) : ExT (BB.uni O Hm H) Hm := fun a u r ⟨xs, e⟩ => by
  subst e
  have key : ∀ o, BB.uni O Hm H a = some o → ¬ isOwn o → Hm a = some o := fun o e n => by
    unfold BB.uni at e
    split at e
    · rename_i h
      obtain ⟨i, hi⟩ := Option.isSome_iff_exists.mp h
      obtain ⟨_, o', h2, h3⟩ := R.own a i hi
      rw [h2] at e; cases e
      exact absurd h3 n
    · exact e
  rcases r with r | ⟨o, r⟩
  · exact .inl (key _ r fun z => z)
  · exact .inr ⟨o, key _ r fun z => z⟩
end
end BB
end
section
set_option maxRecDepth 100000
set_option maxHeartbeats 4000000
/-! What each reading of the hand layer comes to in the pure layer. -/
namespace BB
open PySem L2

def IsK (W : Wc) (O : Own) (Hm H : Hp) : Kd → D → V → Prop
  | .s, d, v => Is W Hm d v
  | .o, d, v => ∃ a vs, v = .ref a ∧ (O a).isSome = true ∧ match d with
    | .lst ds => H a = some (.lst vs) ∧ IsAll W Hm ds vs
    | .dic ks ds => DicAt W (uni O Hm H) a ks vs ∧ IsAll W Hm ds vs
    | _ => False
  | .b, d, v => Is W (uni O Hm H) d v
def IsAs (W : Wc) (O : Own) (Hm H : Hp) : Bool → List D → List V → Prop
  | true, ds, vs => IsAll W Hm ds vs
  | false, ds, vs => IsAll W (uni O Hm H) ds vs
section
variable {W : Wc} {O : Own} {Hm H Hm' H' : Hp} {σ : L2.St} {env : Env} {kd : Kd} {d : D} {v : V}
theorem IsK.uni (R : Rep W O Hm H σ env) (h : IsK W O Hm H kd d v) : Is W (BB.uni O Hm H) d v := by
  cases kd with
  | s => exact Is.mono R.subUni _ _ h
  | b => exact h
  | o =>
    obtain ⟨a, vs, e, ho, q⟩ := h
    cases d with
    | lst ds =>
      simp only [Is]
      refine ⟨a, vs, e, ?_, q.2.mono R.subUni⟩
      unfold BB.uni; rw [if_pos ho]; exact q.1
    | dic ks ds =>
      simp only [Is]
      exact ⟨a, vs, e, q.1, q.2.mono R.subUni⟩
    | _ => exact q.elim
theorem IsK.full (R : Rep W O Hm H σ env) (h : IsK W O Hm H kd d v) : Is W H d v := (h.uni R).mono R.uniSub
theorem IsK.grow (R : Rep W O Hm H σ env) (g : Grow Hm H Hm' H') (h : IsK W O Hm H kd d v) : IsK W O Hm' H' kd d v := by
  cases kd with
  | s => exact Is.mono g.exm _ _ h
  | b => exact Is.mono (g.uni R) _ _ h
  | o =>
    obtain ⟨a, vs, e, ho, q⟩ := h
    refine ⟨a, vs, e, ho, ?_⟩
    cases d with
    | lst ds => exact ⟨g.ex _ _ q.1, q.2.mono g.exm⟩
    | dic ks ds => exact ⟨q.1.mono (g.uni R), q.2.mono g.exm⟩
    | _ => exact q
theorem IsK.kN (R : Rep W O Hm H σ env) (h : Is W (BB.uni O Hm H) d v) : IsK W O Hm H (kN .b d) d v := by
  unfold BB.kN
  cases e : d.scal with
  | true => exact Is.scal R.exT d v e h
  | false => exact h
theorem IsAs.grow (R : Rep W O Hm H σ env) (g : Grow Hm H Hm' H') {b : Bool} {ds : List D} {vs : List V} (h : IsAs W O Hm H b ds vs) : IsAs W O Hm' H' b ds vs := by
  cases b with
  | true => exact IsAll.mono g.exm _ _ h
  | false => exact IsAll.mono (g.uni R) _ _ h
theorem IsAs.uni (R : Rep W O Hm H σ env) {b : Bool} {ds : List D} {vs : List V} (h : IsAs W O Hm H b ds vs) : IsAll W (BB.uni O Hm H) ds vs := by
  cases b with
  | true => exact IsAll.mono R.subUni _ _ h
  | false => exact h
/-- a list of kind k: where it stands, its items -/
theorem IsK.lst (R : Rep W O Hm H σ env) {ds : List D} (h : IsK W O Hm H kd (.lst ds) v) : ∃ a vs, v = .ref a ∧ H a = some (.lst vs) ∧ IsAll W (BB.uni O Hm H) ds vs ∧ (elOk kd ds = true → IsAll W Hm ds vs) ∧ (isS kd = true → Hm a = some (.lst vs)) := by
  cases kd with
  | s =>
    simp only [IsK, Is] at h
    obtain ⟨a, vs, e, h1, h2⟩ := h
    exact ⟨a, vs, e, R.sub _ _ h1, h2.mono R.subUni, fun _ => h2, fun _ => h1⟩
  | o =>
    obtain ⟨a, vs, e, ho, h1, h2⟩ := h
    exact ⟨a, vs, e, h1, h2.mono R.subUni, fun _ => h2, fun z => by cases z⟩
  | b =>
    simp only [IsK, Is] at h
    obtain ⟨a, vs, e, h1, h2⟩ := h
    exact ⟨a, vs, e, R.uniSub _ _ h1, h2, fun s => IsAll.scal R.exT _ _ s h2, fun z => by cases z⟩
theorem IsK.tup (R : Rep W O Hm H σ env) {ds : List D} (h : IsK W O Hm H kd (.tup ds) v) : ∃ a vs, v = .ref a ∧ SqT W.K H a vs ∧ IsAll W (BB.uni O Hm H) ds vs ∧ (elOk kd ds = true → IsAll W Hm ds vs) ∧ (isS kd = true → SqT W.K Hm a vs) := by
  cases kd with
  | s =>
    simp only [IsK, Is] at h
    obtain ⟨a, vs, e, h1, h2⟩ := h
    exact ⟨a, vs, e, R.sub.t h1, h2.mono R.subUni, fun _ => h2, fun _ => h1⟩
  | o =>
    obtain ⟨a, vs, e, ho, h1⟩ := h
    exact h1.elim
  | b =>
    simp only [IsK, Is] at h
    obtain ⟨a, vs, e, h1, h2⟩ := h
    exact ⟨a, vs, e, R.uniSub.t h1, h2, fun s => IsAll.scal R.exT _ _ s h2, fun z => by cases z⟩
end

def SndE (W : Wc) (te : TE) (p : PE') : Prop := ∀ (O : Own) (Hm H : Hp) (σ : L2.St) (env : Env) (Q : VK) (k : Kd → D → Prop), Rep W O Hm H σ env → p env k →
  (∀ v kd d Hm' H', Grow Hm H Hm' H' → IsK W O Hm' H' kd d v → k kd d → Q v H') → te σ H Q
def SndT (W : Wc) (tt : TT) (p : PT') : Prop := ∀ (O : Own) (Hm H : Hp) (σ : L2.St) (env : Env) (Q : Bool → Hp → Prop) (k : Bool → Prop), Rep W O Hm H σ env → p env k →
  (∀ b Hm' H', Grow Hm H Hm' H' → k b → Q b H') → tt σ H Q
def SndA (W : Wc) (ta : TA) (p : PA') : Prop := ∀ (O : Own) (Hm H : Hp) (σ : L2.St) (env : Env) (Q : List V → Hp → Prop) (k : Bool → List D → Prop), Rep W O Hm H σ env → p env k →
  (∀ vs b ds Hm' H', Grow Hm H Hm' H' → IsAs W O Hm' H' b ds vs → k b ds → Q vs H') → ta σ H Q
def SndF (W : Wc) (te : TE) (p : PF') : Prop := ∀ (O : Own) (Hm H : Hp) (σ : L2.St) (env : Env) (Q : VK) (k : List D → Prop), Rep W O Hm H σ env → p env k →
  (∀ a ds vs Hm' H', Grow Hm H Hm' H' → H a = none → Hm' a = none → H' a = some (.lst vs) → IsAll W Hm' ds vs → k ds → Q (.ref a) H') → te σ H Q
def SndFF (W : Wc) (te : TE) (p : PFF') : Prop := ∀ (O : Own) (Hm H : Hp) (σ : L2.St) (env : Env) (Q : VK) (k : List (List D) → Prop), Rep W O Hm H σ env → p env k →
  (∀ a as dss Hm' H', Grow Hm H Hm' H' → H a = none → Hm' a = none → H' a = some (.lst (as.map V.ref)) → (a :: as).Nodup →
    Paired (fun b ds => H b = none ∧ Hm' b = none ∧ ∃ vs, H' b = some (.lst vs) ∧ IsAll W Hm' ds vs) as dss → k dss → Q (.ref a) H') → te σ H Q
def SndO (W : Wc) (to : L2.TO) (p : PO') : Prop := ∀ (O : Own) (Hm H : Hp) (σ : L2.St) (env : Env) (Q : Option Int → Hp → Prop) (k : Option Int → Prop), Rep W O Hm H σ env → p env k →
  (∀ o Hm' H', Grow Hm H Hm' H' → k o → Q o H') → to σ H Q
/-- over every heap that has Hb, J yields vs, one a turn, and stops -/
def JOk (Hb : Hp) (J : It) (vs : List V) : Prop := ∀ H, Ex Hb H → (∀ i x, vs[i]? = some x → J.go i H ∧ ∀ y H', J.yld i H y H' → H' = H ∧ y = x) ∧ J.stop vs.length H
def jBase (b : Bool) (Hm H : Hp) : Hp := match b with
  | true => Hm
  | false => H
def SndI (W : Wc) (ti : TI) (p : PI') : Prop := ∀ (O : Own) (Hm H : Hp) (σ : L2.St) (env : Env) (Q : It → Hp → Prop) (k : Bool → List D → Prop), Rep W O Hm H σ env → p env k →
  (∀ J vs b ds Hm' H', Grow Hm H Hm' H' → JOk (jBase b Hm' H') J vs → IsAll W Hm' ds vs → k b ds → Q J H') → ti σ H Q
def SndG (W : Wc) (g : TG) (p : PG') : Prop := ∀ (O : Own) (Hm H : Hp) (σ : L2.St) (env : Env) (Q : L2.St → Hp → Prop) (k : Env → Prop) (v : V) (d : D), Rep W O Hm H σ env → Is W Hm d v → p d env k →
  (∀ σ' env', Rep W O Hm H σ' env' → k env' → Q σ' H) → g v σ H Q
def SndGs (W : Wc) (g : TGs) (p : PGs') : Prop := ∀ (O : Own) (Hm H : Hp) (σ : L2.St) (env : Env) (Q : L2.St → Hp → Prop) (k : Env → Prop) (vs : List V) (ds : List D), Rep W O Hm H σ env → IsAll W Hm ds vs → p ds env k →
  (∀ σ' env', Rep W O Hm H σ' env' → k env' → Q σ' H) → g vs σ H Q

section
variable {W : Wc} {ta tb : TE} {pa pb : PE'} {tt tu : TT} {qt qu : PT'}
/-! ### expressions -/
theorem se_var {i : Nat} : SndE W (tVar i) (pVar i) := by
  intro O Hm H σ env Q k R h q
  unfold pVar at h
  cases e : env[i]? with
  | none => rw [e] at h; exact h.elim
  | some sl =>
    rw [e] at h
    have hs := R.slots i sl e
    cases sl with
    | no => exact h.elim
    | sh d =>
      obtain ⟨u, h1, h2⟩ := hs
      have h1' : σ[i]? = some (some u) := h1
      exact ⟨u, h1', q u .s d Hm H (Grow.refl R.sub) h2 h⟩
    | ow ds =>
      obtain ⟨a, vs, h1, h2, h3, h4⟩ := hs
      have h1' : σ[i]? = some (some (.ref a)) := h1
      exact ⟨.ref a, h1', q _ .o (.lst ds) Hm H (Grow.refl R.sub) ⟨a, vs, rfl, by rw [h2]; rfl, h3, h4⟩ h⟩
    | ow2 dss =>
      obtain ⟨a, as, h1, h2, h3, h4, h5⟩ := hs
      have h1' : σ[i]? = some (some (.ref a)) := h1
      refine ⟨.ref a, h1', q _ .b _ Hm H (Grow.refl R.sub) ?_ h⟩
      show Is W (BB.uni O Hm H) (.lst (dss.map D.lst)) (.ref a)
      simp only [Is]
      refine ⟨a, as.map V.ref, rfl, ?_, ?_⟩
      · unfold BB.uni; rw [h2]; exact h3
      · clear h1 h1' h2 h3 h4 h e
        induction h5 with
        | nil => exact .nil
        | @cons b ds as dss q _ ih =>
          obtain ⟨q1, vs, q2, q3⟩ := q
          refine .cons ?_ ih
          simp only [Is]
          refine ⟨b, vs, rfl, ?_, q3.mono R.subUni⟩
          unfold BB.uni; rw [q1]; exact q2
    | owd ks ds =>
      obtain ⟨a, vs, h1, h2, h3, h4⟩ := hs
      have h1' : σ[i]? = some (some (.ref a)) := h1
      exact ⟨.ref a, h1', q _ .o (.dic ks ds) Hm H (Grow.refl R.sub) ⟨a, vs, rfl, by rw [h2]; rfl, h3, h4⟩ h⟩
theorem se_c {d : D} {v : V} (hd : ∀ H, Is W H d v) : SndE W (tC v) (pC d) := fun O Hm H σ env Q k R h q => q v .s d Hm H (Grow.refl R.sub) (hd Hm) h
/-- two values, then an operation on them -/
theorem se_op {r : R2} {f : Kd → Kd → D → D → (Kd → D → Prop) → Prop}
    (hr : ∀ (O : Own) (Hm H : Hp) (σ : L2.St) (env : Env) (x y : V) (ka kb : Kd) (dx dy : D) (Q : VK) (k : Kd → D → Prop), Rep W O Hm H σ env → IsK W O Hm H ka dx x → IsK W O Hm H kb dy y → f ka kb dx dy k →
      (∀ v kd d Hm' H', Grow Hm H Hm' H' → IsK W O Hm' H' kd d v → k kd d → Q v H') → r x y H Q)
    (ha : SndE W ta pa) (hb : SndE W tb pb) : SndE W (tOp r ta tb) (fun env k => pa env fun ka x => pb env fun kb y => f ka kb x y k) := fun O Hm H σ env Q k R h q =>
  ha O Hm H σ env _ _ R h fun x ka dx Hm1 H1 g1 i1 h1 => hb O Hm1 H1 σ env _ _ (R.grow g1) h1 fun y kb dy Hm2 H2 g2 i2 h2 =>
    hr O Hm2 H2 σ env x y ka kb dx dy Q k ((R.grow g1).grow g2) (i1.grow (R.grow g1) g2) i2 h2 fun v kd d Hm3 H3 g3 i3 h3 => q v kd d Hm3 H3 ((g1.trans g2).trans g3) i3 h3
theorem se_un {r : V → Hp → VK → Prop} {f : Kd → D → (Kd → D → Prop) → Prop}
    (hr : ∀ (O : Own) (Hm H : Hp) (σ : L2.St) (env : Env) (x : V) (ka : Kd) (dx : D) (Q : VK) (k : Kd → D → Prop), Rep W O Hm H σ env → IsK W O Hm H ka dx x → f ka dx k →
      (∀ v kd d Hm' H', Grow Hm H Hm' H' → IsK W O Hm' H' kd d v → k kd d → Q v H') → r x H Q)
    (ha : SndE W ta pa) : SndE W (fun σ H Q => ta σ H fun x H1 => r x H1 Q) (fun env k => pa env fun ka x => f ka x k) := fun O Hm H σ env Q k R h q =>
  ha O Hm H σ env _ _ R h fun x ka dx Hm1 H1 g1 i1 h1 => hr O Hm1 H1 σ env x ka dx Q k (R.grow g1) i1 h1 fun v kd d Hm3 H3 g3 i3 h3 => q v kd d Hm3 H3 (g1.trans g3) i3 h3
theorem is_int {H : Hp} {v : V} {i : Int} (h : Is W H (.int i) v) : v = .int i := by simpa only [Is] using h
theorem is_bl {H : Hp} {v : V} {i : Bool} (h : Is W H (.bl i) v) : v = .bl i := by simpa only [Is] using h
theorem is_non {H : Hp} {v : V} (h : Is W H .non v) : v = .non := by simpa only [Is] using h
theorem is_str {H : Hp} {v : V} {i : Str} (h : Is W H (.str i) v) : v = .str i := by simpa only [Is] using h
theorem i_int {O : Own} {Hm H : Hp} (i : Int) : IsK W O Hm H .s (.int i) (.int i) := by simp only [IsK, Is]
theorem i_bl {O : Own} {Hm H : Hp} (i : Bool) : IsK W O Hm H .s (.bl i) (.bl i) := by simp only [IsK, Is]
theorem i_non {O : Own} {Hm H : Hp} : IsK W O Hm H .s .non .non := by simp only [IsK, Is]
/-- a new list joins the shared part -/
theorem grow_new {Hm H : Hp} (s : Ex Hm H) {p : Addr} {o : HO} (hp : H p = none) : Grow Hm H (upd Hm p o) (upd H p o) :=
  ⟨Ex.new hp, Ex.new (s.back hp), fun a u e => by
    by_cases ha : a = p
    · subst ha; rw [upd_same] at e ⊢; exact e
    · rw [upd_ne ha] at e ⊢; exact s a u e, fun a u e => by
    by_cases ha : a = p
    · subst ha; exact .inr hp
    · rw [upd_ne ha] at e; exact .inl e⟩
/-- a new object that is not (yet) shared -/
theorem grow_own {Hm H : Hp} (s : Ex Hm H) {p : Addr} {o : HO} (hp : H p = none) : Grow Hm H Hm (upd H p o) :=
  ⟨Ex.new hp, Ex.refl _, s.trans (Ex.new hp), fun a u e => .inl e⟩
/-- a fresh list as a shared value -/
theorem se_F {te : TE} {f : PF'} (h : SndF W te f) : SndE W te (pF f) := fun O Hm H σ env Q k R hp q =>
  h O Hm H σ env Q _ R hp fun a ds vs Hm' H' g ha hm hl hi hk => by
    refine q (.ref a) .s (.lst ds) (upd Hm' a (.lst vs)) H' ⟨g.ex, g.exm.mut (g.exm.back hm), fun b u e => ?_, fun b u e => ?_⟩ ?_ hk
    · by_cases hb : b = a
      · subst hb; rw [upd_same] at e; cases e; exact hl
      · rw [upd_ne hb] at e; exact g.sub b u e
    · by_cases hb : b = a
      · subst hb; exact .inr ha
      · rw [upd_ne hb] at e; exact g.fresh b u e
    · simp only [IsK, Is]
      exact ⟨a, vs, rfl, upd_same, hi.mono (Ex.new hm)⟩

theorem onI_ints {O : Own} {Hm H : Hp} {σ : L2.St} {env : Env} {ka kb : Kd} {dx dy : D} {x y : V} {k : Int → Int → Prop} (R : Rep W O Hm H σ env) (hx : IsK W O Hm H ka dx x) (hy : IsK W O Hm H kb dy y) (h : onI dx dy k) : ∃ i j, x = .int i ∧ y = .int j ∧ k i j := by
  cases dx with
  | int i =>
    cases dy with
    | int j => exact ⟨i, j, is_int (hx.full R), is_int (hy.full R), h⟩
    | _ => exact h.elim
  | _ => exact h.elim
theorem mulOk.ok {i j : Int} (h : mulOk i j) : PySem.IntMulOk i j := by
  rcases h with (h | h) | h
  · exact CMul.ok (.inl ⟨by omega, by omega⟩)
  · exact CMul.ok (.inr ⟨by omega, by omega⟩)
  · exact CMulW.ok h
def rMul : R2 := rI mulOk fun i j => .int (i * j)
theorem op_mul' {X : Cx} : OpR X (binaryOp .Mult) rMul := opI fun _ _ _ _ _ _ _ hc q => PyProof.Rows.mul_int q hc.ok
def rDiv : R2 := rI CDivW fun i j => .int (i / j)
def rAddX : R2 := fun x y H Q => rI0 (fun i j => .int (i + j)) x y H Q ∨ rCat x y H Q
theorem op_addX {X : Cx} : OpR X (binaryOp .Add) rAddX := op_add.or op_cat
theorem se_add (ha : SndE W ta pa) (hb : SndE W tb pb) : SndE W (tOp rAddX ta tb) (pAdd pa pb) := by
  refine se_op (f := addD) (fun O Hm H σ env x y ka kb dx dy Q k R hx hy h q => ?_) ha hb
  cases dx with
  | int i =>
    cases dy with
    | int j => exact .inl ⟨i, j, is_int (hx.full R), is_int (hy.full R), q _ .s _ Hm H (Grow.refl R.sub) (i_int _) h⟩
    | _ => exact h.elim
  | lst xs =>
    cases dy with
    | lst ys =>
      obtain ⟨hz, h⟩ := h
      obtain ⟨a, us, rfl, h1, h2, h3, _⟩ := hx.lst R
      obtain ⟨b, ws, rfl, g1, g2, g3, _⟩ := hy.lst R
      refine .inr ⟨a, b, us, ws, rfl, rfl, h1, g1, ?_, fun p hp => ?_⟩
      · rw [h2.length, g2.length]; exact Nat.le_trans hz (by decide)
      · have gg := grow_new (o := .lst (us ++ ws)) R.sub hp
        refine q (.ref p) _ _ (upd Hm p (.lst (us ++ ws))) _ gg ?_ h
        cases e : (elOk ka xs && elOk kb ys) with
        | true =>
          rw [Bool.and_eq_true] at e
          show Is W _ _ _
          simp only [Is]
          exact ⟨p, us ++ ws, rfl, upd_same, ((h3 e.1).append (g3 e.2)).mono gg.exm⟩
        | false =>
          show Is W _ _ _
          simp only [Is]
          refine ⟨p, us ++ ws, rfl, ?_, (h2.append g2).mono (gg.uni R)⟩
          unfold BB.uni
          split <;> exact upd_same
    | _ => exact h.elim
  | _ => exact h.elim
theorem se_I {C : Int → Int → Prop} {g : Int → Int → Int} (ha : SndE W ta pa) (hb : SndE W tb pb) : SndE W (tOp (rI C fun i j => .int (g i j)) ta tb) (fun env k => pa env fun _ x => pb env fun _ y => onI x y fun i j => C i j ∧ k .s (.int (g i j))) := by
  refine se_op (f := fun _ _ x y k => onI x y fun i j => C i j ∧ k .s (.int (g i j))) (fun O Hm H σ env x y ka kb dx dy Q k R hx hy h q => ?_) ha hb
  obtain ⟨i, j, rfl, rfl, hc, hk⟩ := onI_ints R hx hy h
  exact ⟨i, j, rfl, rfl, hc, q _ .s _ Hm H (Grow.refl R.sub) (i_int _) hk⟩
theorem se_I0 {g : Int → Int → Int} (ha : SndE W ta pa) (hb : SndE W tb pb) : SndE W (tOp (rI0 fun i j => .int (g i j)) ta tb) (fun env k => pa env fun _ x => pb env fun _ y => onI x y fun i j => k .s (.int (g i j))) := by
  refine se_op (f := fun _ _ x y k => onI x y fun i j => k .s (.int (g i j))) (fun O Hm H σ env x y ka kb dx dy Q k R hx hy h q => ?_) ha hb
  obtain ⟨i, j, rfl, rfl, hk⟩ := onI_ints R hx hy h
  exact ⟨i, j, rfl, rfl, q _ .s _ Hm H (Grow.refl R.sub) (i_int _) hk⟩
theorem se_sub (ha : SndE W ta pa) (hb : SndE W tb pb) : SndE W (tOp (rI0 fun i j => .int (i - j)) ta tb) (pSub pa pb) := se_I0 ha hb
theorem se_mul (ha : SndE W ta pa) (hb : SndE W tb pb) : SndE W (tOp rMul ta tb) (pMul pa pb) := se_I ha hb
theorem se_div (ha : SndE W ta pa) (hb : SndE W tb pb) : SndE W (tOp rDiv ta tb) (pDiv pa pb) := se_I ha hb
theorem se_mod (ha : SndE W ta pa) (hb : SndE W tb pb) : SndE W (tOp (rI (fun _ j => 0 < j) fun i j => .int (i % j)) ta tb) (pMod pa pb) := se_I ha hb
theorem se_pow (ha : SndE W ta pa) (hb : SndE W tb pb) : SndE W (tOp (rI CPow fun i j => .int (i ^ j.toNat)) ta tb) (pPow pa pb) := se_I ha hb
theorem se_neg (ha : SndE W ta pa) : SndE W (tUn (rU fun i => .int (-i)) ta) (pNeg pa) := by
  refine se_un (r := rU fun i => .int (-i)) (f := fun _ x k => match x with | .int i => k .s (.int (-i)) | _ => False) (fun O Hm H σ env x ka dx Q k R hx h q => ?_) ha
  cases dx with
  | int i => exact ⟨i, is_int (hx.full R), q _ .s _ Hm H (Grow.refl R.sub) (i_int _) h⟩
  | _ => exact h.elim
theorem se_cmp {f : Int → Int → Bool} (ha : SndE W ta pa) (hb : SndE W tb pb) : SndE W (tOp (rI0 fun i j => .bl (f i j)) ta tb) (pCmp f pa pb) := by
  refine se_op (f := fun _ _ x y k => onI x y fun i j => k .s (.bl (f i j))) (fun O Hm H σ env x y ka kb dx dy Q k R hx hy h q => ?_) ha hb
  obtain ⟨i, j, rfl, rfl, hk⟩ := onI_ints R hx hy h
  exact ⟨i, j, rfl, rfl, q _ .s _ Hm H (Grow.refl R.sub) (i_bl _) hk⟩

/-! ### == -/
mutual
def toPD : D → PyData
  | .int i => .int i
  | .tup ds => .tuple (toPDs ds)
  | .lst ds => .list (toPDs ds)
  | .non => .none
  | .bl _ => .none
  | .str _ => .none
  | .frz _ => .none
  | .dat _ _ _ => .none
  | .dic _ _ => .none
def toPDs : List D → List PyData
  | [] => []
  | d :: ds => toPD d :: toPDs ds
end
mutual
theorem toPD_lay : ∀ d : D, d.ints = true → (toPD d).canLay0 = true
  | .int i, _ => by simp only [toPD, PyData.canLay0]
  | .tup ds, h => by simp only [toPD, PyData.canLay0]; exact toPDs_lay ds (by simpa only [D.ints] using h)
  | .lst ds, h => by simp only [toPD, PyData.canLay0]; exact toPDs_lay ds (by simpa only [D.ints] using h)
  | .non, h => by simp [D.ints] at h
  | .bl _, h => by simp [D.ints] at h
  | .str _, h => by simp [D.ints] at h
  | .frz _, h => by simp [D.ints] at h
  | .dat _ _ _, h => by simp [D.ints] at h
  | .dic _ _, h => by simp [D.ints] at h
theorem toPDs_lay : ∀ ds : List D, D.intss ds = true → PyData.canLayAll0 (toPDs ds) = true
  | [], _ => by simp only [toPDs, PyData.canLayAll0]
  | d :: ds, h => by
    simp only [D.intss, Bool.and_eq_true] at h
    simp only [toPDs, PyData.canLayAll0, toPD_lay d h.1, toPDs_lay ds h.2, Bool.and_self]
end
mutual
theorem toPD_dep : ∀ d : D, (toPD d).depth ≤ d.dep
  | .int i => by simp only [toPD, PyData.depth]; exact Nat.zero_le _
  | .tup ds => by simp only [toPD, PyData.depth, D.dep]; exact Nat.succ_le_succ (toPDs_dep ds)
  | .lst ds => by simp only [toPD, PyData.depth, D.dep]; exact Nat.succ_le_succ (toPDs_dep ds)
  | .non => by simp only [toPD, PyData.depth]; exact Nat.zero_le _
  | .bl _ => by simp only [toPD, PyData.depth]; exact Nat.zero_le _
  | .str _ => by simp only [toPD, PyData.depth]; exact Nat.zero_le _
  | .frz _ => by simp only [toPD, PyData.depth]; exact Nat.zero_le _
  | .dat _ _ _ => by simp only [toPD, PyData.depth]; exact Nat.zero_le _
  | .dic _ _ => by simp only [toPD, PyData.depth]; exact Nat.zero_le _
theorem toPDs_dep : ∀ ds : List D, PyData.depthAll (toPDs ds) ≤ D.deps ds
  | [] => by simp only [toPDs, PyData.depthAll]; exact Nat.zero_le _
  | d :: ds => by
    simp only [toPDs, PyData.depthAll, D.deps]
    have a := toPD_dep d
    have b := toPDs_dep ds
    omega
end
mutual
theorem toPD_inj : ∀ x y : D, x.ints = true → y.ints = true → (PyData.eqv (toPD x) (toPD y) = true ↔ x = y)
  | .int i, .int j, _, _ => by simp [toPD, PyData.eqv]
  | .int i, .tup ds, _, _ => by simp [toPD, PyData.eqv]
  | .int i, .lst ds, _, _ => by simp [toPD, PyData.eqv]
  | .tup ds, .int i, _, _ => by simp [toPD, PyData.eqv]
  | .lst ds, .int i, _, _ => by simp [toPD, PyData.eqv]
  | .tup ds, .lst es, _, _ => by simp [toPD, PyData.eqv]
  | .lst ds, .tup es, _, _ => by simp [toPD, PyData.eqv]
  | .tup ds, .tup es, h, h' => by
    simp only [D.ints] at h h'
    simp only [toPD, PyData.eqv, D.tup.injEq]
    exact toPDs_inj ds es h h'
  | .lst ds, .lst es, h, h' => by
    simp only [D.ints] at h h'
    simp only [toPD, PyData.eqv, D.lst.injEq]
    exact toPDs_inj ds es h h'
  | .non, _, h, _ => by simp [D.ints] at h
  | .bl _, _, h, _ => by simp [D.ints] at h
  | .str _, _, h, _ => by simp [D.ints] at h
  | .frz _, _, h, _ => by simp [D.ints] at h
  | .dat _ _ _, _, h, _ => by simp [D.ints] at h
  | .dic _ _, _, h, _ => by simp [D.ints] at h
  | _, .non, _, h => by simp [D.ints] at h
  | _, .bl _, _, h => by simp [D.ints] at h
  | _, .str _, _, h => by simp [D.ints] at h
  | _, .frz _, _, h => by simp [D.ints] at h
  | _, .dat _ _ _, _, h => by simp [D.ints] at h
  | _, .dic _ _, _, h => by simp [D.ints] at h
theorem toPDs_inj : ∀ x y : List D, D.intss x = true → D.intss y = true → (PyData.eqvAll (toPDs x) (toPDs y) = true ↔ x = y)
  | [], [], _, _ => by simp [toPDs, PyData.eqvAll]
  | [], _ :: _, _, _ => by simp [toPDs, PyData.eqvAll]
  | _ :: _, [], _, _ => by simp [toPDs, PyData.eqvAll]
  | x :: xs, y :: ys, h, h' => by
    simp only [D.intss, Bool.and_eq_true] at h h'
    simp only [toPDs, PyData.eqvAll, Bool.and_eq_true, List.cons.injEq, toPD_inj x y h.1 h'.1, toPDs_inj xs ys h.2 h'.2]
end
section
variable {W : Wc}
mutual
theorem Is.dp {H : Hp} : ∀ (d : D) (v : V), d.ints = true → Is W H d v → Dp W.K H v (toPD d)
  | .int i, v, _, h => by
    simp only [Is] at h; subst h
    simp only [toPD]; exact .int i
  | .tup ds, v, s, h => by
    simp only [Is] at h
    obtain ⟨a, vs, rfl, h2, h3⟩ := h
    simp only [toPD]
    exact .tup h2 (IsAll.dp ds vs (by simpa only [D.ints] using s) h3)
  | .lst ds, v, s, h => by
    simp only [Is] at h
    obtain ⟨a, vs, rfl, h2, h3⟩ := h
    simp only [toPD]
    exact .lst (SqL.of h2) (IsAll.dp ds vs (by simpa only [D.ints] using s) h3)
  | .non, v, s, h => by simp [D.ints] at s
  | .bl _, v, s, h => by simp [D.ints] at s
  | .str _, v, s, h => by simp [D.ints] at s
  | .frz _, v, s, h => by simp [D.ints] at s
  | .dat _ _ _, v, s, h => by simp [D.ints] at s
  | .dic _ _, v, s, h => by simp [D.ints] at s
theorem IsAll.dp {H : Hp} : ∀ (ds : List D) (vs : List V), D.intss ds = true → IsAll W H ds vs → DpAll W.K H vs (toPDs ds)
  | [], vs, _, h => by
    simp only [IsAll] at h; subst h
    simp only [toPDs]; exact .nil
  | d :: ds, vs, s, h => by
    simp only [D.intss, Bool.and_eq_true] at s
    simp only [IsAll] at h
    obtain ⟨v, r, rfl, h2, h3⟩ := h
    simp only [toPDs]
    exact .cons (Is.dp d v s.1 h2) (IsAll.dp ds r s.2 h3)
end
def rEqX (K : PySem.W.Frag) : R2 := fun x y H Q => rEq x y H Q ∨ rEqD K x y H Q
def rNeX (K : PySem.W.Frag) : R2 := fun x y H Q => rNe x y H Q ∨ rNeD K x y H Q
theorem op_eqX {X : Cx} (hu : X.A.units + 64 < cLine) : OpR X (compareOp .Eq) (rEqX X.K) := op_eq.or (op_eqD hu)
theorem op_neX {X : Cx} (hu : X.A.units + 64 < cLine) : OpR X (compareOp .NotEq) (rNeX X.K) := op_ne.or (op_neD hu)
variable {ta tb : TE} {pa pb : PE'} {tt tu : TT} {qt qu : PT'}
open Classical in
theorem eqD_ok {O : Own} {Hm H : Hp} {σ : L2.St} {env : Env} {ka kb : Kd} {dx dy : D} {x y : V} {k : Bool → Prop} (R : Rep W O Hm H σ env) (hx : IsK W O Hm H ka dx x) (hy : IsK W O Hm H kb dy y) (h : eqD dx dy k) :
    ∃ c, k c ∧ ((scal x y = true ∧ c = decide (x = y)) ∨ ∃ d e, Dp W.K H x d ∧ Dp W.K H y e ∧ SeqAt.shaped d = true ∧ SeqAt.shaped e = true ∧ c = PyData.eqv d e) := by
  have sh : ∀ d : D, d.ints = true → d.dep ≤ 64 → SeqAt.shaped (toPD d) = true := fun d h1 h2 => by
    unfold SeqAt.shaped
    rw [toPD_lay d h1, Bool.true_and]
    exact decide_eq_true (Nat.le_trans (toPD_dep d) h2)
  cases dx with
  | non =>
    cases dy with
    | non =>
      have e1 := is_non (hx.full R); have e2 := is_non (hy.full R); subst e1 e2
      exact ⟨true, h, .inl ⟨rfl, by simp⟩⟩
    | _ => exact h.elim
  | bl a =>
    cases dy with
    | bl b =>
      have e1 := is_bl (hx.full R); have e2 := is_bl (hy.full R); subst e1 e2
      exact ⟨_, h, .inl ⟨rfl, by simp⟩⟩
    | _ => exact h.elim
  | int a =>
    cases dy with
    | int b =>
      have e1 := is_int (hx.full R); have e2 := is_int (hy.full R); subst e1 e2
      exact ⟨_, h, .inl ⟨rfl, by simp⟩⟩
    | _ => exact h.elim
  | str a =>
    cases dy with
    | str b =>
      have e1 := is_str (hx.full R); have e2 := is_str (hy.full R); subst e1 e2
      exact ⟨_, h, .inl ⟨rfl, by simp⟩⟩
    | _ => exact h.elim
  | tup a =>
    cases dy with
    | tup b =>
      obtain ⟨h1, h2, h3, h4, h5⟩ := h
      have i1 : (D.tup a).ints = true := by simpa only [D.ints] using h1
      have i2 : (D.tup b).ints = true := by simpa only [D.ints] using h2
      refine ⟨_, h5, .inr ⟨_, _, Is.dp _ _ i1 (hx.full R), Is.dp _ _ i2 (hy.full R), sh _ i1 (by simp only [D.dep]; omega), sh _ i2 (by simp only [D.dep]; omega), ?_⟩⟩
      have z := toPD_inj (.tup a) (.tup b) i1 i2
      rw [D.tup.injEq] at z
      rw [Bool.eq_iff_iff, z, decide_eq_true_iff]
    | _ => exact h.elim
  | lst a =>
    cases dy with
    | lst b =>
      obtain ⟨h1, h2, h3, h4, h5⟩ := h
      have i1 : (D.lst a).ints = true := by simpa only [D.ints] using h1
      have i2 : (D.lst b).ints = true := by simpa only [D.ints] using h2
      refine ⟨_, h5, .inr ⟨_, _, Is.dp _ _ i1 (hx.full R), Is.dp _ _ i2 (hy.full R), sh _ i1 (by simp only [D.dep]; omega), sh _ i2 (by simp only [D.dep]; omega), ?_⟩⟩
      have z := toPD_inj (.lst a) (.lst b) i1 i2
      rw [D.lst.injEq] at z
      rw [Bool.eq_iff_iff, z, decide_eq_true_iff]
    | _ => exact h.elim
  | _ => exact h.elim
theorem se_eq (ha : SndE W ta pa) (hb : SndE W tb pb) : SndE W (tOp (rEqX W.K) ta tb) (pEq pa pb) := by
  refine se_op (f := fun _ _ x y k => eqD x y fun c => k .s (.bl c)) (fun O Hm H σ env x y ka kb dx dy Q k R hx hy h q => ?_) ha hb
  obtain ⟨c, hk, e⟩ := eqD_ok R hx hy h
  have fin := q _ .s _ Hm H (Grow.refl R.sub) (i_bl c) hk
  rcases e with ⟨e1, e2⟩ | ⟨d, e, h1, h2, h3, h4, h5⟩
  · exact .inl ⟨e1, by rw [← e2]; exact fin⟩
  · exact .inr ⟨d, e, h1, h2, h3, h4, by rw [← h5]; exact fin⟩
theorem se_ne (ha : SndE W ta pa) (hb : SndE W tb pb) : SndE W (tOp (rNeX W.K) ta tb) (pNe pa pb) := by
  refine se_op (f := fun _ _ x y k => eqD x y fun c => k .s (.bl (!c))) (fun O Hm H σ env x y ka kb dx dy Q k R hx hy h q => ?_) ha hb
  obtain ⟨c, hk, e⟩ := eqD_ok R hx hy h
  have fin := q _ .s _ Hm H (Grow.refl R.sub) (i_bl (!c)) hk
  rcases e with ⟨e1, e2⟩ | ⟨d, e, h1, h2, h3, h4, h5⟩
  · exact .inl ⟨e1, by rw [← e2]; exact fin⟩
  · exact .inr ⟨d, e, h1, h2, h3, h4, by rw [← h5]; exact fin⟩
/-! ### is -/
theorem isNon_iff {H : Hp} {d : D} {v : V} (h : Is W H d v) : decide (v = .non) = isNon d := by
  cases d with
  | non => simp only [Is] at h; subst h; rfl
  | bl _ => simp only [Is] at h; subst h; rfl
  | int _ => simp only [Is] at h; subst h; rfl
  | str _ => simp only [Is] at h; subst h; rfl
  | tup _ => simp only [Is] at h; obtain ⟨a, vs, rfl, _⟩ := h; rfl
  | lst _ => simp only [Is] at h; obtain ⟨a, vs, rfl, _⟩ := h; rfl
  | frz _ => simp only [Is] at h; obtain ⟨a, rfl, _⟩ := h; rfl
  | dat _ _ _ => simp only [Is] at h; obtain ⟨a, _, _, _, _, rfl, _⟩ := h; rfl
  | dic _ _ => simp only [Is] at h; obtain ⟨a, vs, rfl, _⟩ := h; rfl
def rIsN (neg : Bool) : R2 := fun x y H Q => y = .non ∧ Q (.bl (decide (x = .non) != neg)) H
theorem op_isN' {X : Cx} : OpR X (compareOp .Is) (rIsN false) := by
  intro pins s σ H x y v u Q I rx ry h
  obtain ⟨h1, h2⟩ := h
  exact op_isN pins s σ H x y v u Q I rx ry ⟨h1, by simpa using h2⟩
theorem op_notN' {X : Cx} : OpR X (compareOp .IsNot) (rIsN true) := by
  intro pins s σ H x y v u Q I rx ry h
  obtain ⟨h1, h2⟩ := h
  exact op_notN pins s σ H x y v u Q I rx ry ⟨h1, by simpa using h2⟩
theorem se_isN {neg : Bool} (ha : SndE W ta pa) : SndE W (tOp (rIsN neg) ta (tC .non)) (pIsN neg pa) := fun O Hm H σ env Q k R h q =>
  ha O Hm H σ env _ _ R h fun x ka dx Hm1 H1 g1 i1 h1 => ⟨rfl, by rw [isNon_iff (i1.full (R.grow g1))]; exact q _ .s _ Hm1 H1 g1 (i_bl _) h1⟩
def rIsTr (neg : Bool) : R2 := fun x y H Q => y = .bl true ∧ ((∃ b, x = .bl b ∧ Q (.bl (b != neg)) H) ∨ (x = .non ∧ Q (.bl neg) H))
theorem op_isT {X : Cx} : OpR X (compareOp .Is) (rIsTr false) := by
  intro pins s σ H x y v u Q I rx ry h
  obtain ⟨rfl, h⟩ := h
  rcases h with ⟨b, rfl, q⟩ | ⟨rfl, q⟩
  · exact op_isBl pins s σ H _ _ v u Q I rx ry ⟨b, true, rfl, rfl, by cases b <;> simpa using q⟩
  · cases rx; cases ry
    exact wpAny_is_other rfl (fun z => by cases z) ⟨.bl false, H, I, rfl, q⟩
theorem op_notT {X : Cx} : OpR X (compareOp .IsNot) (rIsTr true) := by
  intro pins s σ H x y v u Q I rx ry h
  obtain ⟨rfl, h⟩ := h
  rcases h with ⟨b, rfl, q⟩ | ⟨rfl, q⟩
  · exact op_notBl pins s σ H _ _ v u Q I rx ry ⟨b, true, rfl, rfl, by cases b <;> simpa using q⟩
  · cases rx; cases ry
    exact wpAny_isNot_other rfl (fun z => by cases z) ⟨.bl true, H, I, rfl, q⟩
theorem se_isT {neg : Bool} (ha : SndE W ta pa) : SndE W (tOp (rIsTr neg) ta (tC (.bl true))) (pIsT neg pa) := fun O Hm H σ env Q k R h q =>
  ha O Hm H σ env _ _ R h fun x ka dx Hm1 H1 g1 i1 h1 => ⟨rfl, by
    cases dx with
    | bl b => exact .inl ⟨b, is_bl (i1.full (R.grow g1)), q _ .s _ Hm1 H1 g1 (i_bl _) h1⟩
    | non => exact .inr ⟨is_non (i1.full (R.grow g1)), q _ .s _ Hm1 H1 g1 (i_bl _) h1⟩
    | _ => exact h1.elim⟩
/-! ### truth, and, or, not, if -/
theorem truD_ok {O : Own} {Hm H : Hp} {σ : L2.St} {env : Env} {ka : Kd} {dx : D} {x : V} {k : Bool → Prop} (R : Rep W O Hm H σ env) (hx : IsK W O Hm H ka dx x) (h : truD dx k) : ∃ c, TruV W.K x H c ∧ k c := by
  cases dx with
  | non => have e := is_non (hx.full R); subst e; exact ⟨false, rfl, h⟩
  | bl b => have e := is_bl (hx.full R); subst e; exact ⟨b, rfl, h⟩
  | int i => have e := is_int (hx.full R); subst e; exact ⟨_, rfl, h⟩
  | lst ds =>
    obtain ⟨a, vs, rfl, h1, h2, _⟩ := hx.lst R
    refine ⟨_, .inl ⟨vs, SqL.of h1, rfl⟩, ?_⟩
    have e : vs.isEmpty = ds.isEmpty := by
      have l := h2.length
      cases vs <;> cases ds <;> simp at l ⊢
    rw [e]; exact h
  | _ => exact h.elim
theorem se_and (ha : SndE W ta pa) (hb : SndE W tb pb) : SndE W (tAndT W.K ta tb) (pAnd pa pb) := fun O Hm H σ env Q k R h q =>
  ha O Hm H σ env _ _ R h fun x ka dx Hm1 H1 g1 i1 h1 => by
    obtain ⟨c, hc, hk⟩ := truD_ok (R.grow g1) i1 h1
    refine ⟨c, hc, ?_⟩
    cases c with
    | true => exact hb O Hm1 H1 σ env Q k (R.grow g1) hk fun v kd d Hm2 H2 g2 i2 h2 => q v kd d Hm2 H2 (g1.trans g2) i2 h2
    | false => exact q x ka dx Hm1 H1 g1 i1 hk
theorem se_or (ha : SndE W ta pa) (hb : SndE W tb pb) : SndE W (tOrT W.K ta tb) (pOr pa pb) := fun O Hm H σ env Q k R h q =>
  ha O Hm H σ env _ _ R h fun x ka dx Hm1 H1 g1 i1 h1 => by
    obtain ⟨c, hc, hk⟩ := truD_ok (R.grow g1) i1 h1
    refine ⟨c, hc, ?_⟩
    cases c with
    | false => exact hb O Hm1 H1 σ env Q k (R.grow g1) hk fun v kd d Hm2 H2 g2 i2 h2 => q v kd d Hm2 H2 (g1.trans g2) i2 h2
    | true => exact q x ka dx Hm1 H1 g1 i1 hk
theorem se_not (ha : SndE W ta pa) : SndE W (tNotT W.K ta) (pNot pa) := fun O Hm H σ env Q k R h q =>
  ha O Hm H σ env _ _ R h fun x ka dx Hm1 H1 g1 i1 h1 => by
    obtain ⟨c, hc, hk⟩ := truD_ok (R.grow g1) i1 h1
    exact ⟨c, hc, q _ .s _ Hm1 H1 g1 (i_bl _) hk⟩
theorem se_if (ht : SndT W tt qt) (ha : SndE W ta pa) (hb : SndE W tb pb) : SndE W (tIf tt ta tb) (pIf qt pa pb) := fun O Hm H σ env Q k R h q =>
  ht O Hm H σ env _ _ R h fun c Hm1 H1 g1 h1 => by
    cases c with
    | true => exact ha O Hm1 H1 σ env Q k (R.grow g1) h1 fun v kd d Hm2 H2 g2 i2 h2 => q v kd d Hm2 H2 (g1.trans g2) i2 h2
    | false => exact hb O Hm1 H1 σ env Q k (R.grow g1) h1 fun v kd d Hm2 H2 g2 i2 h2 => q v kd d Hm2 H2 (g1.trans g2) i2 h2
/-! ### tests -/
theorem st_of' (ha : SndE W ta pa) : SndT W (tTest ta) (tOf pa) := fun O Hm H σ env Q k R h q =>
  ha O Hm H σ env _ _ R h fun x ka dx Hm1 H1 g1 i1 h1 => by
    cases dx with
    | bl b => exact ⟨b, is_bl (i1.full (R.grow g1)), q b Hm1 H1 g1 h1⟩
    | _ => exact h1.elim
theorem st_tru (ha : SndE W ta pa) : SndT W (fun σ H Q => ta σ H fun x H' => ∃ k, TruV W.K x H' k ∧ Q k H') (tTru pa) := fun O Hm H σ env Q k R h q =>
  ha O Hm H σ env _ _ R h fun x ka dx Hm1 H1 g1 i1 h1 => by
    obtain ⟨c, hc, hk⟩ := truD_ok (R.grow g1) i1 h1
    exact ⟨c, hc, q c Hm1 H1 g1 hk⟩
theorem st_not (ht : SndT W tt qt) : SndT W (tNot tt) (tNot' qt) := fun O Hm H σ env Q k R h q =>
  ht O Hm H σ env _ _ R h fun c Hm1 H1 g1 h1 => q _ Hm1 H1 g1 h1
theorem st_and (ht : SndT W tt qt) (hu : SndT W tu qu) : SndT W (tAnd tt tu) (tAnd' qt qu) := fun O Hm H σ env Q k R h q =>
  ht O Hm H σ env _ _ R h fun c Hm1 H1 g1 h1 => by
    cases c with
    | true =>
      show tu σ H1 Q
      exact hu O Hm1 H1 σ env Q k (R.grow g1) h1 fun b Hm2 H2 g2 h2 => q b Hm2 H2 (g1.trans g2) h2
    | false => exact q false Hm1 H1 g1 h1
theorem st_or (ht : SndT W tt qt) (hu : SndT W tu qu) : SndT W (tOr tt tu) (tOr' qt qu) := fun O Hm H σ env Q k R h q =>
  ht O Hm H σ env _ _ R h fun c Hm1 H1 g1 h1 => by
    cases c with
    | false =>
      show tu σ H1 Q
      exact hu O Hm1 H1 σ env Q k (R.grow g1) h1 fun b Hm2 H2 g2 h2 => q b Hm2 H2 (g1.trans g2) h2
    | true => exact q true Hm1 H1 g1 h1
theorem st_yes : SndT W tYes tYes' := fun O Hm H σ env Q k R h q => q true Hm H (Grow.refl R.sub) h
/-! ### subscripts -/
theorem atI_all {H : Hp} {ds : List D} {vs : List V} (h : IsAll W H ds vs) {i : Int} {d : D} (e : atI ds i = some d) : ∃ v, atI vs i = some v ∧ Is W H d v := by
  unfold atI at e ⊢
  rw [h.length]
  cases q : ixN ds.length i with
  | none => rw [q] at e; cases e
  | some j =>
    rw [q] at e
    exact IsAll.get h (show ds[j]? = some d from e)
def rIxX (W : Wc) : R2 := fun x y H Q => rIx W.K x y H Q ∨ (∃ (a : Addr) (ks : List (Int × Bool)) (vs : List V) (t : Addr) (i : Int) (c : Bool) (v : V), x = .ref a ∧ y = .ref t ∧ DicAt W H a ks vs ∧ SqT W.K H t [.int i, .bl c] ∧ (ks.zip vs).lookup (i, c) = some v ∧ Q v H)
theorem zip_lookup {H : Hp} {ks : List (Int × Bool)} : ∀ {ds : List D} {vs : List V}, IsAll W H ds vs → ∀ {p : Int × Bool} {d : D}, (ks.zip ds).lookup p = some d → ∃ v, (ks.zip vs).lookup p = some v ∧ Is W H d v := by
  induction ks with
  | nil => intro ds vs h p d e; simp at e
  | cons k ks ih =>
    intro ds vs h p d e
    cases ds with
    | nil => simp at e
    | cons d' ds =>
      simp only [IsAll] at h
      obtain ⟨v, r, rfl, h2, h3⟩ := h
      simp only [List.zip_cons_cons, List.lookup_cons] at e ⊢
      cases q : (p == k) with
      | true => rw [q] at e; cases e; exact ⟨v, rfl, h2⟩
      | false => rw [q] at e; exact ih h3 e
theorem tup2 {O : Own} {Hm H : Hp} {σ : L2.St} {env : Env} {ka : Kd} {x : V} {i : Int} {c : Bool} (R : Rep W O Hm H σ env) (hx : IsK W O Hm H ka (.tup [.int i, .bl c]) x) : ∃ t, x = .ref t ∧ SqT W.K H t [.int i, .bl c] := by
  obtain ⟨a, vs, rfl, h1, h2, _⟩ := hx.tup R
  simp only [IsAll, Is] at h2
  obtain ⟨_, _, rfl, rfl, _, _, rfl, rfl, rfl⟩ := h2
  exact ⟨a, rfl, h1⟩

theorem i_of_ix {O : Own} {Hm H : Hp} {σ : L2.St} {env : Env} {ka : Kd} {d : D} {v : V} (R : Rep W O Hm H σ env) (hu : Is W (BB.uni O Hm H) d v) (hs : ka ≠ .b → Is W Hm d v) : IsK W O Hm H (kI ka d) d v := by
  cases ka with
  | s => exact hs (fun z => by cases z)
  | o => exact hs (fun z => by cases z)
  | b => exact IsK.kN R hu
theorem se_ix (ha : SndE W ta pa) (hb : SndE W tb pb) : SndE W (tOp (rIxX W) ta tb) (pIx pa pb) := by
  refine se_op (f := fun ka _ x y k => ixD ka x y k) (fun O Hm H σ env x y ka kb dx dy Q k R hx hy h q => ?_) ha hb
  have fin : ∀ {d : D} {v : V}, IsK W O Hm H (kI ka d) d v → k (kI ka d) d → Q v H := fun i hk => q _ _ _ Hm H (Grow.refl R.sub) i hk
  have el : ∀ ds : List D, ka ≠ .b → elOk ka ds = true := fun ds z => by cases ka <;> first | rfl | exact absurd rfl z
  cases dx with
  | lst ds =>
    cases dy with
    | int i =>
      obtain ⟨d, e, hk⟩ := h
      obtain ⟨a, vs, rfl, h1, h2, h3, _⟩ := hx.lst R
      obtain ⟨v, e1, i1⟩ := atI_all h2 e
      refine .inl (.inl ⟨a, vs, i, v, rfl, is_int (hy.full R), SqL.of h1, e1, fin (i_of_ix R i1 fun z => ?_) hk⟩)
      obtain ⟨v', e2, i2⟩ := atI_all (h3 (el ds z)) e
      rw [e1] at e2; cases e2; exact i2
    | _ => exact h.elim
  | tup ds =>
    cases dy with
    | int i =>
      obtain ⟨d, e, hk⟩ := h
      obtain ⟨a, vs, rfl, h1, h2, h3, _⟩ := hx.tup R
      obtain ⟨v, e1, i1⟩ := atI_all h2 e
      refine .inl (.inr (.inl ⟨a, vs, i, v, rfl, is_int (hy.full R), h1, e1, fin (i_of_ix R i1 fun z => ?_) hk⟩))
      obtain ⟨v', e2, i2⟩ := atI_all (h3 (el ds z)) e
      rw [e1] at e2; cases e2; exact i2
    | _ => exact h.elim
  | frz ns =>
    cases dy with
    | int i =>
      obtain ⟨n, e, hk⟩ := h
      have z := hx.full R
      simp only [Is] at z
      obtain ⟨a, rfl, h1⟩ := z
      refine .inl (.inl ⟨a, ns.map V.int, i, .int n, rfl, is_int (hy.full R), h1, ?_, q _ .s _ Hm H (Grow.refl R.sub) (i_int _) hk⟩)
      unfold atI at e ⊢
      rw [List.length_map]
      cases z : ixN ns.length i with
      | none => rw [z] at e; cases e
      | some j =>
        rw [z] at e
        show (ns.map V.int)[j]? = _
        have e' : ns[j]? = some n := e
        rw [List.getElem?_map, e']; rfl
    | _ => exact h.elim
  | dic ks ds =>
    cases dy with
    | tup es =>
      obtain ⟨i, c, rfl⟩ : ∃ i c, es = [D.int i, D.bl c] := by
        match es, h with
        | [.int i, .bl c], _ => exact ⟨i, c, rfl⟩
      obtain ⟨d, e, hk⟩ := h
      obtain ⟨t, rfl, ht⟩ := tup2 R hy
      cases ka with
      | s =>
        simp only [IsK, Is] at hx
        obtain ⟨a, vs, rfl, h1, h2⟩ := hx
        obtain ⟨v, e2, i2⟩ := zip_lookup h2 e
        exact .inr ⟨a, ks, vs, t, i, c, v, rfl, rfl, h1.mono R.sub, ht, e2, fin i2 hk⟩
      | o =>
        obtain ⟨a, vs, rfl, _, h1, h2⟩ := hx
        obtain ⟨v, e2, i2⟩ := zip_lookup h2 e
        exact .inr ⟨a, ks, vs, t, i, c, v, rfl, rfl, h1.mono R.uniSub, ht, e2, fin i2 hk⟩
      | b =>
        simp only [IsK, Is] at hx
        obtain ⟨a, vs, rfl, h1, h2⟩ := hx
        obtain ⟨v, e2, i2⟩ := zip_lookup h2 e
        exact .inr ⟨a, ks, vs, t, i, c, v, rfl, rfl, h1.mono R.uniSub, ht, e2, fin (IsK.kN R i2) hk⟩
    | _ => exact h.elim
  | _ => exact h.elim
def rInX (W : Wc) (neg : Bool) : R2 := fun x y H Q => ∃ (a : Addr) (ks : List (Int × Bool)) (vs : List V) (t : Addr) (i : Int) (c : Bool), x = .ref t ∧ y = .ref a ∧ DicAt W H a ks vs ∧ SqT W.K H t [.int i, .bl c] ∧ Q (.bl (ks.contains (i, c) != neg)) H
theorem se_in {neg : Bool} (ha : SndE W ta pa) (hb : SndE W tb pb) : SndE W (tOp (rInX W neg) ta tb) (pIn neg pa pb) := by
  refine se_op (f := fun _ _ x y k => match x, y with
    | .tup [.int i, .bl c], .dic ks _ => k .s (.bl (ks.contains (i, c) != neg))
    | _, _ => False) (fun O Hm H σ env x y ka kb dx dy Q k R hx hy h q => ?_) ha hb
  split at h
  · obtain ⟨t, rfl, ht⟩ := tup2 R hx
    have z := hy.full R
    simp only [Is] at z
    obtain ⟨a, vs, rfl, h1, h2⟩ := z
    exact ⟨a, _, vs, t, _, _, rfl, rfl, h1, ht, q _ .s _ Hm H (Grow.refl R.sub) (i_bl _) h⟩
  · exact h.elim
/-! ### slices, displays -/
theorem so_no : SndO W tNoPart oNo := fun O Hm H σ env Q k R h q => q none Hm H (Grow.refl R.sub) h
theorem so_yes (ha : SndE W ta pa) : SndO W (tPart ta) (oYes pa) := fun O Hm H σ env Q k R h q =>
  ha O Hm H σ env _ _ R h fun x ka dx Hm1 H1 g1 i1 h1 => by
    cases dx with
    | int i => exact ⟨i, is_int (i1.full (R.grow g1)), q (some i) Hm1 H1 g1 h1⟩
    | _ => exact h1.elim
theorem cut_all {H : Hp} {ds : List D} {vs : List V} (h : IsAll W H ds vs) (lo hi : Option Int) : IsAll W H (cut ds lo hi) (cutV vs lo hi) := by
  unfold cut cutV
  rw [h.length]
  exact (h.drop _).take _
theorem sf_sl {tl th : L2.TO} {ol oh : PO'} (ha : SndE W ta pa) (hl : SndO W tl ol) (hh : SndO W th oh) : SndF W (tSl (rSlL W.K) ta tl th) (fSl pa ol oh) := fun O Hm H σ env Q k R h q =>
  ha O Hm H σ env _ _ R h fun x ka dx Hm1 H1 g1 i1 h1 => hl O Hm1 H1 σ env _ _ (R.grow g1) h1 fun l Hm2 H2 g2 h2 => hh O Hm2 H2 σ env _ _ ((R.grow g1).grow g2) h2 fun u Hm3 H3 g3 h3 => by
    have R3 := ((R.grow g1).grow g2).grow g3
    have i3 := (i1.grow (R.grow g1) g2).grow ((R.grow g1).grow g2) g3
    cases dx with
    | lst ds =>
      obtain ⟨he, hk⟩ := h3
      obtain ⟨a, vs, rfl, q1, q2, q3, _⟩ := i3.lst R3
      refine ⟨a, vs, rfl, SqL.of q1, fun p hp => ?_⟩
      have gg := (g1.trans g2).trans g3
      have go := grow_own (o := .lst (cutV vs l u)) R3.sub hp
      exact q p _ _ Hm3 _ (gg.trans go) (gg.ex.back hp) (R3.sub.back hp) upd_same (cut_all (q3 he) l u) hk
    | _ => exact h3.elim
theorem sf_rev (ha : SndE W ta pa) : SndF W (tRevL W.K ta) (fRev pa) := fun O Hm H σ env Q k R h q =>
  ha O Hm H σ env _ _ R h fun x ka dx Hm1 H1 g1 i1 h1 => by
    have R1 := R.grow g1
    cases dx with
    | lst ds =>
      obtain ⟨he, hk⟩ := h1
      obtain ⟨a, vs, rfl, q1, q2, q3, _⟩ := i1.lst R1
      refine ⟨a, vs, rfl, SqL.of q1, fun p hp => ?_⟩
      exact q p _ _ Hm1 _ (g1.trans (grow_own R1.sub hp)) (g1.ex.back hp) (R1.sub.back hp) upd_same (q3 he).reverse hk
    | _ => exact h1.elim
theorem sa_nil : SndA W tNil aNil := fun O Hm H σ env Q k R h q => q [] true [] Hm H (Grow.refl R.sub) (show IsAll W Hm [] [] from .nil) h
theorem sa_cons {tr : TA} {pr : PA'} (ha : SndE W ta pa) (hr : SndA W tr pr) : SndA W (tCons ta tr) (aCons pa pr) := fun O Hm H σ env Q k R h q =>
  ha O Hm H σ env _ _ R h fun x ka dx Hm1 H1 g1 i1 h1 => hr O Hm1 H1 σ env _ _ (R.grow g1) h1 fun vs b ds Hm2 H2 g2 i2 h2 => by
    have R2 := (R.grow g1).grow g2
    have i3 := i1.grow (R.grow g1) g2
    refine q (x :: vs) _ (dx :: ds) Hm2 H2 (g1.trans g2) ?_ h2
    cases e : (isS ka && b) with
    | true =>
      rw [Bool.and_eq_true] at e
      obtain ⟨e1, e2⟩ := e
      subst e2
      cases ka with
      | s => exact .cons i3 i2
      | _ => cases e1
    | false => exact .cons (i3.uni R2) (i2.uni R2)
theorem isK_tup {O : Own} {Hm H : Hp} {σ : L2.St} {env : Env} {b : Bool} {ds : List D} {vs : List V} {p : Addr} (R : Rep W O Hm H σ env) (h : IsAs W O Hm H b ds vs) (hp : H p = none) : IsK W O (upd Hm p (.tup vs)) (upd H p (.tup vs)) (kB b (.tup ds)) (.tup ds) (.ref p) := by
  have g := grow_new (o := .tup vs) R.sub hp
  cases b with
  | true =>
    show Is W _ _ _
    simp only [Is]
    exact ⟨p, vs, rfl, SqT.of upd_same, IsAll.mono g.exm _ _ h⟩
  | false =>
    refine IsK.kN (R.grow g) ?_
    simp only [Is]
    refine ⟨p, vs, rfl, SqT.of ?_, IsAll.mono (g.uni R) _ _ h⟩
    unfold BB.uni
    split <;> exact upd_same
theorem se_tup {tr : TA} {pr : PA'} (hr : SndA W tr pr) : SndE W (tTup tr) (pTup pr) := fun O Hm H σ env Q k R h q =>
  hr O Hm H σ env _ _ R h fun vs b ds Hm1 H1 g1 i1 ⟨hz, h1⟩ => by
    have R1 := R.grow g1
    have hl : vs.length = ds.length := (i1.uni R1).length
    refine ⟨by rw [hl]; exact Nat.le_trans hz (by decide), fun p hp => ?_⟩
    exact q (.ref p) _ _ _ _ (g1.trans (grow_new R1.sub hp)) (isK_tup R1 i1 hp) h1
theorem sf_lst {tr : TA} {pr : PA'} (hr : SndA W tr pr) : SndF W (tLst tr) (fLst pr) := fun O Hm H σ env Q k R h q =>
  hr O Hm H σ env _ _ R h fun vs b ds Hm1 H1 g1 i1 ⟨hz, hs, h1⟩ => by
    have R1 := R.grow g1
    have hl : vs.length = ds.length := (i1.uni R1).length
    refine ⟨by rw [hl]; exact Nat.le_trans hz (by decide), fun p hp => ?_⟩
    refine q p ds vs Hm1 _ (g1.trans (grow_own R1.sub hp)) (g1.ex.back hp) (R1.sub.back hp) upd_same ?_ h1
    cases b with
    | true => exact i1
    | false =>
      rcases hs with hs | hs
      · cases hs
      · exact IsAll.scal R1.exT _ _ hs i1
theorem sf_cat (ha : SndE W ta pa) (hb : SndE W tb pb) : SndF W (tOp rAddX ta tb) (fCat pa pb) := fun O Hm H σ env Q k R h q =>
  ha O Hm H σ env _ _ R h fun x ka dx Hm1 H1 g1 i1 h1 => hb O Hm1 H1 σ env _ _ (R.grow g1) h1 fun y kb dy Hm2 H2 g2 i2 h2 => by
    have R2 := (R.grow g1).grow g2
    have i3 := i1.grow (R.grow g1) g2
    cases dx with
    | lst xs =>
      cases dy with
      | lst ys =>
        obtain ⟨hz, he, hk⟩ := h2
        rw [Bool.and_eq_true] at he
        obtain ⟨a, us, rfl, p1, p2, p3, _⟩ := i3.lst R2
        obtain ⟨b, ws, rfl, q1, q2, q3, _⟩ := i2.lst R2
        refine .inr ⟨a, b, us, ws, rfl, rfl, p1, q1, ?_, fun p hp => ?_⟩
        · rw [p2.length, q2.length]; exact Nat.le_trans hz (by decide)
        · have gg := g1.trans g2
          exact q p _ _ Hm2 _ (gg.trans (grow_own R2.sub hp)) (gg.ex.back hp) (R2.sub.back hp) upd_same ((p3 he.1).append (q3 he.2)) hk
      | _ => exact h2.elim
    | _ => exact h2.elim
def rListX (K : PySem.W.Frag) : List V → Hp → VK → Prop := fun xs H Q => ∃ p ys, xs = [.ref p] ∧ (SqL K H p ys ∨ SqT K H p ys) ∧ ∀ l, H l = none → Q (.ref l) (upd H l (.lst ys))
theorem sf_list (ha : SndE W ta pa) : SndF W (tCB (rListX W.K) (tCons ta tNil)) (fList pa) := fun O Hm H σ env Q k R h q =>
  ha O Hm H σ env _ _ R h fun x ka dx Hm1 H1 g1 i1 h1 => by
    have R1 := R.grow g1
    cases dx with
    | lst ds =>
      obtain ⟨he, hk⟩ := h1
      obtain ⟨a, vs, rfl, q1, q2, q3, _⟩ := i1.lst R1
      exact ⟨a, vs, rfl, .inl (SqL.of q1), fun p hp => q p _ _ Hm1 _ (g1.trans (grow_own R1.sub hp)) (g1.ex.back hp) (R1.sub.back hp) upd_same (q3 he) hk⟩
    | tup ds =>
      obtain ⟨he, hk⟩ := h1
      obtain ⟨a, vs, rfl, q1, q2, q3, _⟩ := i1.tup R1
      exact ⟨a, vs, rfl, .inr q1, fun p hp => q p _ _ Hm1 _ (g1.trans (grow_own R1.sub hp)) (g1.ex.back hp) (R1.sub.back hp) upd_same (q3 he) hk⟩
    | _ => exact h1.elim
end
end
end BB
end
section
set_option maxRecDepth 100000
set_option maxHeartbeats 4000000
/-! Fields, calls, built-ins, what is walked, comprehensions, statements. -/
namespace BB
open PySem L2
section
variable {W : Wc} {ta tb : TE} {pa pb : PE'} {tt tu : TT} {qt qu : PT'}
/-! ### fields -/
def At.nm : At → Str
  | .goods => sGoods
  | .buys => sBuys
  | .links => sLinks
theorem lk_dat (f : At) (a b c : V) : (datF a b c).lookup f.nm = some (match f with | .goods => a | .buys => b | .links => c) := by
  cases f <;> decide_cbv
structure DatOk (W : Wc) : Prop where
  cl : Cls W.K W.C
  na : ∀ f : At, NoAttr W.K W.C f.nm
theorem IsK.dat {O : Own} {Hm H : Hp} {σ : L2.St} {env : Env} {kd : Kd} {v : V} {g b l : D} (R : Rep W O Hm H σ env) (h : IsK W O Hm H kd (.dat g b l) v) :
    ∃ p dx vg vb vl, v = .ref p ∧ H p = some (.ins W.C dx (datF vg vb vl)) ∧ IsK W O Hm H (kI kd g) g vg ∧ IsK W O Hm H (kI kd b) b vb ∧ IsK W O Hm H (kI kd l) l vl := by
  cases kd with
  | s =>
    simp only [IsK, Is] at h
    obtain ⟨p, dx, vg, vb, vl, e, h1, h2, h3, h4⟩ := h
    exact ⟨p, dx, vg, vb, vl, e, R.sub _ _ h1, h2, h3, h4⟩
  | o =>
    obtain ⟨_, _, _, _, h1⟩ := h
    exact h1.elim
  | b =>
    simp only [IsK, Is] at h
    obtain ⟨p, dx, vg, vb, vl, e, h1, h2, h3, h4⟩ := h
    exact ⟨p, dx, vg, vb, vl, e, R.uniSub _ _ h1, IsK.kN R h2, IsK.kN R h3, IsK.kN R h4⟩
theorem se_fld (hd : DatOk W) {f : At} (ha : SndE W ta pa) : SndE W (tFld W.K ta f.nm) (pFld f pa) := fun O Hm H σ env Q k R h q =>
  ha O Hm H σ env _ _ R h fun x ka dx Hm1 H1 g1 i1 h1 => by
    have R1 := R.grow g1
    cases dx with
    | dat g b l =>
      obtain ⟨p, dxa, vg, vb, vl, rfl, h2, h3, h4, h5⟩ := i1.dat R1
      refine ⟨p, W.C, dxa, _, _, rfl, h2, hd.cl, hd.na f, lk_dat f _ _ _, ?_⟩
      cases f with
      | goods => exact q vg _ g Hm1 H1 g1 h3 h1
      | buys => exact q vb _ b Hm1 H1 g1 h4 h1
      | links => exact q vl _ l Hm1 H1 g1 h5 h1
    | _ => exact h1.elim
/-! ### calls -/
def join (Ha Hs H : Hp) : Hp := fun a => if (Hs a).isSome = true then Ha a else H a
/-- the promise of a def that hands back old things and new ones -/
def spOf (W : Wc) (S : SpecT) : Sp := fun vs H Q _ => ∃ (Ha : Hp) (ds : List D) (k : D → Prop), Ex Ha H ∧ IsAll W Ha ds vs ∧ S ds k ∧ ∀ d, k d → ∀ v H', Ex H H' → Is W (join Ha H H') d v → Q v H'
/-- .. new ones alone -/
def spFr (W : Wc) (S : SpecT) : Sp := fun vs H Q _ => ∃ (Ha : Hp) (ds : List D) (k : D → Prop), Ex Ha H ∧ IsAll W Ha ds vs ∧ S ds k ∧ ∀ d, k d → ∀ v H', Ex H H' → Is W (join (fun _ => none) H H') d v → Q v H'
theorem grow_join {Hm H H' : Hp} (s : Ex Hm H) (e : Ex H H') : Grow Hm H (join Hm H H') H' := by
  refine ⟨e, fun a o h => ?_, fun a o h => ?_, fun a o h => ?_⟩
  · unfold join; rw [if_pos (by rw [s a o h]; rfl)]; exact h
  · unfold join at h
    split at h
    · exact e _ _ (s _ _ h)
    · exact h
  · unfold join at h
    split at h
    · exact .inl h
    · rename_i hn
      refine .inr ?_
      cases q : H a with
      | none => rfl
      | some u => rw [q] at hn; exact absurd rfl hn
theorem join_uni {O : Own} {Hm H H' : Hp} {σ : L2.St} {env : Env} (R : Rep W O Hm H σ env) (e : Ex H H') : Ex (join (uni O Hm H) H H') (uni O (join Hm H H') H') := fun a o h => by
  unfold join at h
  unfold BB.uni at h ⊢
  cases ho : (O a).isSome with
  | true =>
    rw [if_pos rfl]
    obtain ⟨i, hi⟩ := Option.isSome_iff_exists.mp ho
    obtain ⟨_, u, h2, _⟩ := R.own a i hi
    rw [if_pos (by rw [h2]; rfl), ho, if_pos rfl] at h
    exact e _ _ h
  | false =>
    rw [if_neg Bool.false_ne_true]
    unfold join
    rw [ho, if_neg Bool.false_ne_true] at h
    exact h
theorem ex_nojoin {Hm H H' : Hp} : Ex (join (fun _ => none) H H') (join Hm H H') := fun a o h => by
  unfold join at h ⊢
  split at h
  · cases h
  · rename_i hn; rw [if_neg hn]; exact h
theorem se_call {S : SpecT} {tr : TA} {pr : PA'} (hr : SndA W tr pr) : SndE W (tCall (spOf W S) [] E0 tr) (pCall S pr) := fun O Hm H σ env Q k R h q =>
  hr O Hm H σ env _ _ R h fun vs b ds Hm1 H1 g1 i1 h1 => by
    have R1 := R.grow g1
    rw [List.append_nil]
    cases b with
    | true => exact ⟨Hm1, ds, _, R1.sub, i1, h1, fun d hk v H' e hi => q v (kB true d) d _ H' (g1.trans (grow_join R1.sub e)) hi hk⟩
    | false =>
      refine ⟨BB.uni O Hm1 H1, ds, _, R1.uniSub, i1, h1, fun d hk v H' e hi => ?_⟩
      have g2 := grow_join R1.sub e
      exact q v _ d _ H' (g1.trans g2) (IsK.kN (R1.grow g2) (hi.mono (join_uni R1 e))) hk
theorem se_callF {S : SpecT} {tr : TA} {pr : PA'} (hr : SndA W tr pr) : SndE W (tCall (spFr W S) [] E0 tr) (pCallF S pr) := fun O Hm H σ env Q k R h q =>
  hr O Hm H σ env _ _ R h fun vs b ds Hm1 H1 g1 i1 h1 => by
    have R1 := R.grow g1
    rw [List.append_nil]
    exact ⟨BB.uni O Hm1 H1, ds, _, R1.uniSub, i1.uni R1, h1, fun d hk v H' e hi => q v .s d _ H' (g1.trans (grow_join R1.sub e)) (Is.mono ex_nojoin _ _ hi) hk⟩
/-! ### built-ins -/
def rLenX (K : PySem.W.Frag) : List V → Hp → VK → Prop := fun xs H Q => ∃ p ys, xs = [.ref p] ∧ (SqL K H p ys ∨ SqT K H p ys) ∧ Q (.int ys.length) H
theorem se_len (ha : SndE W ta pa) : SndE W (tCB (rLenX W.K) (tCons ta tNil)) (pLen pa) := fun O Hm H σ env Q k R h q =>
  ha O Hm H σ env _ _ R h fun x ka dx Hm1 H1 g1 i1 h1 => by
    have R1 := R.grow g1
    cases dx with
    | lst ds =>
      obtain ⟨a, vs, rfl, q1, q2, _⟩ := i1.lst R1
      exact ⟨a, vs, rfl, .inl (SqL.of q1), by rw [q2.length]; exact q _ .s _ Hm1 H1 g1 (i_int _) h1⟩
    | tup ds =>
      obtain ⟨a, vs, rfl, q1, q2, _⟩ := i1.tup R1
      exact ⟨a, vs, rfl, .inr q1, by rw [q2.length]; exact q _ .s _ Hm1 H1 g1 (i_int _) h1⟩
    | frz ns =>
      have z := i1.full R1
      simp only [Is] at z
      obtain ⟨a, rfl, h2⟩ := z
      exact ⟨a, ns.map V.int, rfl, .inl h2, by rw [List.length_map]; exact q _ .s _ Hm1 H1 g1 (i_int _) h1⟩
    | _ => exact h1.elim
def rAbs : List V → Hp → VK → Prop := fun xs H Q => ∃ i, xs = [.int i] ∧ Q (.int (if i < 0 then -i else i)) H
theorem se_abs (ha : SndE W ta pa) : SndE W (tCB rAbs (tCons ta tNil)) (pAbs pa) := fun O Hm H σ env Q k R h q =>
  ha O Hm H σ env _ _ R h fun x ka dx Hm1 H1 g1 i1 h1 => by
    cases dx with
    | int i =>
      have e := is_int (i1.full (R.grow g1)); subst e
      exact ⟨i, rfl, q _ .s _ Hm1 H1 g1 (i_int _) h1⟩
    | _ => exact h1.elim
def rMin2 : List V → Hp → VK → Prop := fun xs H Q => ∃ i j, xs = [.int i, .int j] ∧ Q (.int (if j < i then j else i)) H
theorem se_min (ha : SndE W ta pa) (hb : SndE W tb pb) : SndE W (tCB rMin2 (tCons ta (tCons tb tNil))) (pMin pa pb) := fun O Hm H σ env Q k R h q =>
  ha O Hm H σ env _ _ R h fun x ka dx Hm1 H1 g1 i1 h1 => hb O Hm1 H1 σ env _ _ (R.grow g1) h1 fun y kb dy Hm2 H2 g2 i2 h2 => by
    obtain ⟨i, j, rfl, rfl, hk⟩ := onI_ints ((R.grow g1).grow g2) (i1.grow (R.grow g1) g2) i2 h2
    exact ⟨i, j, rfl, q _ .s _ Hm2 H2 (g1.trans g2) (i_int _) hk⟩
theorem se_max (ha : SndE W ta pa) : SndE W (tCB (rMax W.K) (tCons ta tNil)) (pMax pa) := fun O Hm H σ env Q k R h q =>
  ha O Hm H σ env _ _ R h fun x ka dx Hm1 H1 g1 i1 ⟨ns, e, hn, hk⟩ => by
    subst e
    obtain ⟨a, vs, rfl, q1, q2, _⟩ := i1.lst (R.grow g1)
    have e := q2.ints
    subst e
    exact ⟨a, ns, rfl, SqL.of q1, hn, fun m h1 h2 => q _ .s _ Hm1 H1 g1 (i_int _) (hk m h1 h2)⟩
def rInt1 : List V → Hp → VK → Prop := fun xs H Q => (∃ i, xs = [.int i] ∧ Q (.int i) H) ∨ ∃ k, xs = [.bl k] ∧ Q (.int (if k then 1 else 0)) H
theorem se_int (ha : SndE W ta pa) : SndE W (tCB rInt1 (tCons ta tNil)) (pInt pa) := fun O Hm H σ env Q k R h q =>
  ha O Hm H σ env _ _ R h fun x ka dx Hm1 H1 g1 i1 h1 => by
    cases dx with
    | int i =>
      have e := is_int (i1.full (R.grow g1)); subst e
      exact .inl ⟨i, rfl, q _ .s _ Hm1 H1 g1 (i_int _) h1⟩
    | bl i =>
      have e := is_bl (i1.full (R.grow g1)); subst e
      exact .inr ⟨i, rfl, q _ .s _ Hm1 H1 g1 (i_int _) h1⟩
    | _ => exact h1.elim
def Ty.nm : Ty → String
  | .int => "int"
  | .bool => "bool"
  | .str => "str"
  | .lst => "list"
  | .tup => "tuple"
def tyOfD : D → Option String
  | .int _ => some "int"
  | .bl _ => some "bool"
  | .str _ => some "str"
  | .lst _ => some "list"
  | .tup _ => some "tuple"
  | .non => some "NoneType"
  | _ => none
theorem isi_kit (K : PySem.W.Frag) : ∀ (t : Ty) (d : D) (b : Bool), isiD t d = some b → ∃ T, tyOfD d = some T ∧ PySem.W.kitOne K (.type T) (.type t.nm) = some b := by
  intro t d b h
  cases t <;> cases d <;> first
    | (cases h; exact ⟨_, rfl, rfl⟩)
    | cases h
theorem tyX_of {H : Hp} {d : D} {v : V} {T : String} (e : tyOfD d = some T) (h : Is W H d v) : TyX W.K H v (.type T) := by
  cases d with
  | non => cases e; simp only [Is] at h; subst h; exact .base .non
  | bl b => cases e; simp only [Is] at h; subst h; exact .base (.bl b)
  | int i => cases e; simp only [Is] at h; subst h; exact .base (.int i)
  | str i => cases e; simp only [Is] at h; subst h; exact .base (.str i)
  | lst ds =>
    cases e; simp only [Is] at h
    obtain ⟨a, vs, rfl, h1, _⟩ := h
    exact .base (.lst h1)
  | tup ds =>
    cases e; simp only [Is] at h
    obtain ⟨a, vs, rfl, h1, _⟩ := h
    rcases h1 with (h1 | ⟨o, h1⟩) | ⟨o, its, n, h1, h2, _⟩
    · exact .base (.tup h1)
    · exact .fTuple h1
    · exact .kTuple h1 h2
  | _ => cases e
theorem se_isI (ha : SndE W ta pa) {t : Ty} : SndE W (tCB (rIsi W.K) (tCons ta (tCons (tC (.ty t.nm)) tNil))) (pIsI pa t) := fun O Hm H σ env Q k R h q =>
  ha O Hm H σ env _ _ R h fun x ka dx Hm1 H1 g1 i1 ⟨b, hb, h1⟩ => by
    obtain ⟨T, e1, e2⟩ := isi_kit W.K t dx b hb
    exact ⟨x, _, _, _, b, rfl, .ty _, tyX_of e1 (i1.full (R.grow g1)), e2, q _ .s _ Hm1 H1 g1 (i_bl _) h1⟩
theorem se_gcd (ha : SndE W ta pa) (hb : SndE W tb pb) : SndE W (tCB rGcd (tCons ta (tCons tb tNil))) (pGcd pa pb) := fun O Hm H σ env Q k R h q =>
  ha O Hm H σ env _ _ R h fun x ka dx Hm1 H1 g1 i1 h1 => hb O Hm1 H1 σ env _ _ (R.grow g1) h1 fun y kb dy Hm2 H2 g2 i2 h2 => by
    obtain ⟨i, j, rfl, rfl, hk⟩ := onI_ints ((R.grow g1).grow g2) (i1.grow (R.grow g1) g2) i2 h2
    exact ⟨i, j, rfl, q _ .s _ Hm2 H2 (g1.trans g2) (i_int _) hk⟩
theorem se_bits (ha : SndE W ta pa) : SndE W (tBits ta) (pBits pa) := fun O Hm H σ env Q k R h q =>
  ha O Hm H σ env _ _ R h fun x ka dx Hm1 H1 g1 i1 h1 => by
    cases dx with
    | int i => exact ⟨i, is_int (i1.full (R.grow g1)), q _ .s _ Hm1 H1 g1 (i_int _) h1⟩
    | _ => exact h1.elim
theorem se_index (ha : SndE W ta pa) (hb : SndE W tb pb) : SndE W (tBM W.K "list" (rIndex W.K) ta (tCons tb tNil)) (pIndex pa pb) := fun O Hm H σ env Q k R h q =>
  ha O Hm H σ env _ _ R h fun x ka dx Hm1 H1 g1 i1 ⟨zs, e1, h1⟩ => by
    subst e1
    obtain ⟨a0, vs0, rfl, q0, _⟩ := id (i1.lst (R.grow g1))
    refine ⟨.inl ⟨rfl, _, SqL.of q0⟩, hb O Hm1 H1 σ env _ _ (R.grow g1) h1 fun y kb dy Hm2 H2 g2 i2 ⟨z, j, e2, e3, e4, hk⟩ => ?_⟩
    · subst e2
      have R2 := (R.grow g1).grow g2
      obtain ⟨a, vs, e7, q1, q2, _⟩ := (i1.grow (R.grow g1) g2).lst R2
      cases e7
      have e := q2.strs; subst e
      have e := is_str (i2.full R2); subst e
      refine ⟨a0, _, _, j, .str z, rfl, rfl, SqL.of q1, rfl, ?_, ?_, ?_, ?_, q _ .s _ Hm2 H2 (g1.trans g2) (i_int _) hk⟩
      · rw [List.all_map]; exact List.all_eq_true.mpr fun _ _ => rfl
      · rw [List.getElem?_map, e3]; rfl
      · show (z == z) = true; simp
      · intro m z' hm hz
        rw [List.getElem?_map] at hz
        cases e5 : zs[m]? with
        | none => rw [e5] at hz; cases hz
        | some w =>
          rw [e5] at hz; cases hz
          show (w == z) = false
          rw [beq_eq_false_iff_ne]
          intro e; subst e
          exact e4 m hm e5
end
end BB
end
section
set_option maxRecDepth 100000
set_option maxHeartbeats 4000000
/-! What is walked, targets, comprehensions, statements. -/
namespace BB
open PySem L2
section
variable {W : Wc} {ta tb : TE} {pa pb : PE'} {tt tu : TT} {qt qu : PT'}
/-! ### what is walked -/
theorem isAll_range {H : Hp} : ∀ ns : List Nat, IsAll W H (ns.map fun i : Nat => D.int (i : Int)) (ns.map fun i : Nat => V.int (i : Int))
  | [] => .nil
  | n :: ns => .cons (by simp only [Is]) (isAll_range ns)
theorem si_range (ha : SndE W ta pa) : SndI W (iRng1 (tCons ta tNil)) (iRange pa) := fun O Hm H σ env Q k R h q =>
  ha O Hm H σ env _ _ R h fun x ka dx Hm1 H1 g1 i1 h1 => by
    cases dx with
    | int n =>
      obtain ⟨⟨b1, b2⟩, hk⟩ := h1
      have e := is_int (i1.full (R.grow g1)); subst e
      refine ⟨n, rfl, by omega, by omega, q (Itr 0 n.toNat) ((List.range n.toNat).map fun i : Nat => V.int (i : Int)) true _ Hm1 H1 g1 (fun H' _ => ⟨fun i x hx => ?_, ?_⟩) (isAll_range _) hk⟩
      · rw [List.getElem?_map] at hx
        cases e : (List.range n.toNat)[i]? with
        | none => rw [e] at hx; cases hx
        | some j =>
          rw [e] at hx
          have hx' : V.int (j : Int) = x := Option.some.inj hx
          obtain ⟨h1, h2⟩ := List.getElem?_eq_some_iff.mp e
          rw [List.length_range] at h1
          rw [List.getElem_range] at h2
          subst h2
          refine ⟨h1, fun y H2 ⟨e1, e2⟩ => ⟨e1, ?_⟩⟩
          rw [e2, ← hx', Int.zero_add]
      · show n.toNat ≤ _
        rw [List.length_map, List.length_range]
        exact Nat.le_refl _
    | _ => exact h1.elim
theorem jok_list {K : PySem.W.Frag} {Hb : Hp} {a : Addr} {vs : List V} (h : Hb a = some (.lst vs)) : JOk Hb (Itl K a) vs := fun H' e => by
  have hq : SqL K H' a vs := SqL.of (e _ _ h)
  refine ⟨fun i x hx => ⟨⟨vs, x, hq, hx⟩, fun y H2 ⟨e1, e2⟩ => ⟨e1, ?_⟩⟩, ⟨vs, hq, Nat.le_refl _⟩⟩
  have e3 := e2 vs hq
  rw [hx] at e3
  exact (Option.some.inj e3).symm
theorem jok_tup {K : PySem.W.Frag} {Hb : Hp} {a : Addr} {vs : List V} (h : SqT K Hb a vs) : JOk Hb (Itt K a) vs := fun H' e => by
  have hq : SqT K H' a vs := e.t h
  refine ⟨fun i x hx => ⟨⟨vs, x, hq, hx⟩, fun y H2 ⟨e1, e2⟩ => ⟨e1, ?_⟩⟩, ⟨vs, hq, Nat.le_refl _⟩⟩
  have e3 := e2 vs hq
  rw [hx] at e3
  exact (Option.some.inj e3).symm
theorem si_list (ha : SndE W ta pa) : SndI W (iList W.K ta) (iList' pa) := fun O Hm H σ env Q k R h q =>
  ha O Hm H σ env _ _ R h fun x ka dx Hm1 H1 g1 i1 h1 => by
    cases dx with
    | lst ds =>
      obtain ⟨he, hk⟩ := h1
      obtain ⟨a, vs, rfl, q1, q2, q3, q4⟩ := i1.lst (R.grow g1)
      refine ⟨a, rfl, ⟨vs, SqL.of q1⟩, q _ vs (isS ka) ds Hm1 H1 g1 ?_ (q3 he) hk⟩
      cases e : isS ka with
      | true => exact jok_list (q4 e)
      | false => exact jok_list q1
    | _ => exact h1.elim
theorem si_tup (ha : SndE W ta pa) : SndI W (iTup W.K ta) (iTup' pa) := fun O Hm H σ env Q k R h q =>
  ha O Hm H σ env _ _ R h fun x ka dx Hm1 H1 g1 i1 h1 => by
    cases dx with
    | tup ds =>
      obtain ⟨he, hk⟩ := h1
      obtain ⟨a, vs, rfl, q1, q2, q3, q4⟩ := i1.tup (R.grow g1)
      refine ⟨a, rfl, ⟨vs, q1⟩, q _ vs (isS ka) ds Hm1 H1 g1 ?_ (q3 he) hk⟩
      cases e : isS ka with
      | true => exact jok_tup (q4 e)
      | false => exact jok_tup q1
    | _ => exact h1.elim
/-! ### targets -/
theorem Rep.set {O : Own} {Hm H : Hp} {σ : L2.St} {env : Env} {i : Nat} {v : V} {sl : Sl} (R : Rep W O Hm H σ env) (h : i < env.length → SlOk W O Hm H i (some (some v)) sl) : Rep W O Hm H (σ.set i (some v)) (env.set i sl) := by
  refine ⟨by rw [List.length_set, List.length_set]; exact R.len, R.sub, R.own, fun j s e => ?_⟩
  by_cases hj : i = j
  · subst hj
    by_cases hi : i < env.length
    · rw [List.getElem?_set_self hi] at e
      rw [List.getElem?_set_self (by rw [R.len]; exact hi)]
      cases e
      exact h hi
    · rw [List.getElem?_eq_none (by rw [List.length_set]; omega)] at e
      cases e
  · rw [List.getElem?_set_ne hj] at e ⊢
    exact R.slots j s e
theorem sg_name {i : Nat} : SndG W (gName i) (gName' i) := fun O Hm H σ env Q k v d R hi h q =>
  q _ _ (R.set (sl := .sh d) fun _ => ⟨v, rfl, hi⟩) h
theorem sgs_nil : SndGs W gNil gNil' := fun O Hm H σ env Q k vs ds R hi ⟨e, h⟩ q => by
  subst e
  simp only [IsAll] at hi
  exact ⟨hi, q σ env R h⟩
theorem sgs_cons {g : TG} {r : TGs} {pg : PG'} {pr : PGs'} (hg : SndG W g pg) (hr : SndGs W r pr) : SndGs W (gCons g r) (gCons' pg pr) := fun O Hm H σ env Q k vs ds R hi h q => by
  cases ds with
  | nil => exact h.elim
  | cons d ds =>
    simp only [IsAll] at hi
    obtain ⟨v, us, e, h1, h2⟩ := hi
    exact ⟨v, us, e, hg O Hm H σ env _ _ v d R h1 h fun σ' env' R' h' => hr O Hm H σ' env' Q k us ds R' h2 h' q⟩
theorem sg_tup {n : Nat} {r : TGs} {pr : PGs'} (hr : SndGs W r pr) : SndG W (gTup W.K n r) (gTup' n pr) := fun O Hm H σ env Q k v d R hi h q => by
  cases d with
  | tup ds =>
    obtain ⟨hn, h⟩ := h
    simp only [Is] at hi
    obtain ⟨a, vs, e, h1, h2⟩ := hi
    exact ⟨a, vs, e, R.sub.t h1, by rw [h2.length]; exact hn, hr O Hm H σ env Q k vs ds R h2 h q⟩
  | _ => exact h.elim
/-! ### comprehensions -/
theorem Rep.set_no {O : Own} {Hm H : Hp} {σ : L2.St} {env : Env} {i : Nat} (R : Rep W O Hm H σ env) : Rep W O Hm H (σ.set i none) (env.set i .no) := by
  refine ⟨by rw [List.length_set, List.length_set]; exact R.len, R.sub, R.own, fun j s e => ?_⟩
  by_cases hj : i = j
  · subst hj
    by_cases hi : i < env.length
    · rw [List.getElem?_set_self hi] at e
      cases e
      trivial
    · rw [List.getElem?_eq_none (by rw [List.length_set]; omega)] at e
      cases e
  · rw [List.getElem?_set_ne hj] at e ⊢
    exact R.slots j s e
theorem Rep.wipe {O : Own} {Hm H : Hp} {σ : L2.St} {env : Env} (R : Rep W O Hm H σ env) : ∀ vs : List Nat, Rep W O Hm H (L2.wipe σ vs) (wipe' env vs)
  | [] => R
  | v :: vs => by
    unfold L2.wipe wipe'
    exact (Rep.wipe R vs).set_no
/-- a target that touches these slots alone -/
def OnlyG (g : TG) (vs : List Nat) : Prop := ∀ v σ H Q, g v σ H Q → g v σ H fun σ2 H2 => L2.wipe σ2 vs = L2.wipe σ vs ∧ Q σ2 H2
def OnlyGs (g : TGs) (vs : List Nat) : Prop := ∀ us σ H Q, g us σ H Q → g us σ H fun σ2 H2 => L2.wipe σ2 vs = L2.wipe σ vs ∧ Q σ2 H2
theorem wipe_get {σ : L2.St} {i : Nat} : ∀ {vs : List Nat}, (L2.wipe σ vs)[i]? = if i ∈ vs then (σ[i]?).map (fun _ => none) else σ[i]?
  | [] => by simp [L2.wipe]
  | v :: vs => by
    unfold L2.wipe
    by_cases h : v = i
    · subst h
      rw [if_pos (List.mem_cons_self ..)]
      by_cases hl : v < (L2.wipe σ vs).length
      · rw [List.getElem?_set_self hl]
        rw [L2.wipe_length] at hl
        rw [List.getElem?_eq_getElem hl]; rfl
      · rw [List.getElem?_eq_none (by rw [List.length_set]; omega)]
        rw [L2.wipe_length] at hl
        rw [List.getElem?_eq_none (by omega)]; rfl
    · rw [List.getElem?_set_ne h, wipe_get]
      have e : (i ∈ v :: vs) ↔ i ∈ vs := by
        simp only [List.mem_cons]
        exact ⟨fun z => z.resolve_left (fun q => h q.symm), .inr⟩
      simp only [e]
theorem wipe_set {σ : L2.St} {i : Nat} {x : Option V} {vs : List Nat} (h : i ∈ vs) : L2.wipe (σ.set i x) vs = L2.wipe σ vs := by
  refine List.ext_getElem? fun j => ?_
  rw [wipe_get, wipe_get]
  by_cases hj : j ∈ vs
  · rw [if_pos hj, if_pos hj]
    by_cases e : i = j
    · subst e
      by_cases hl : i < σ.length
      · rw [List.getElem?_set_self hl, List.getElem?_eq_getElem hl]; rfl
      · rw [List.getElem?_eq_none (by rw [List.length_set]; omega), List.getElem?_eq_none (by omega)]
    · rw [List.getElem?_set_ne e]
  · rw [if_neg hj, if_neg hj, List.getElem?_set_ne (fun e : i = j => hj (by subst e; exact h))]
theorem wipe_wipe {σ : L2.St} {vs : List Nat} : L2.wipe (L2.wipe σ vs) vs = L2.wipe σ vs := by
  refine List.ext_getElem? fun j => ?_
  rw [wipe_get]
  by_cases hj : j ∈ vs
  · rw [if_pos hj, wipe_get, if_pos hj]
    cases σ[j]? <;> rfl
  · rw [if_neg hj]
theorem og_name {i : Nat} {vs : List Nat} (h : i ∈ vs) : OnlyG (gName i) vs := fun v σ H Q q => ⟨wipe_set h, q⟩
theorem ogs_nil {vs : List Nat} : OnlyGs gNil vs := fun us σ H Q ⟨e, q⟩ => ⟨e, rfl, q⟩
theorem ogs_cons {g : TG} {r : TGs} {vs : List Nat} (hm : ∀ v σ H Q Q', (∀ a b, Q a b → Q' a b) → g v σ H Q → g v σ H Q') (hg : OnlyG g vs) (hr : OnlyGs r vs) : OnlyGs (gCons g r) vs := fun us σ H Q ⟨v, rest, e, q⟩ =>
  ⟨v, rest, e, hm _ _ _ _ _ (fun σ' H' ⟨e1, q1⟩ => by
    have z := hr rest σ' H' Q q1
    rw [e1] at z
    exact z) (hg v σ H _ q)⟩
theorem og_tup {K : PySem.W.Frag} {n : Nat} {r : TGs} {vs : List Nat} (hr : OnlyGs r vs) : OnlyG (gTup K n r) vs := fun v σ H Q ⟨a, xs, e, h1, h2, q⟩ => ⟨a, xs, e, h1, h2, hr xs σ H Q q⟩

theorem drop_cons {α : Type} {ds : List α} {i : Nat} {d : α} (h : ds[i]? = some d) : ds.drop i = d :: ds.drop (i + 1) := by
  obtain ⟨h1, h2⟩ := List.getElem?_eq_some_iff.mp h
  rw [List.drop_eq_getElem_cons h1, h2]
theorem sf_comp {ti : TI} {g : TG} {tq : TT} {te : TE} {pi : PI'} {pg : PG'} {pq : PT'} {pe : PE'} {vs : List Nat} (hi : SndI W ti pi) (hg : SndG W g pg) (ho : OnlyG g vs) (ht : SndT W tq pq) (he : SndE W te pe) :
    SndF W (tLc ti g tq te vs) (fComp pi pg pq pe vs) := fun O Hm H σ env Q k R h q =>
  hi O Hm H σ env _ _ R h fun J us b ds Hm1 H1 g1 hj hall ⟨hz, h1⟩ => fun L hL => by
    have R1 := R.grow g1
    have hlen := hall.length
    have jb : ∀ {Hm2 H2 : Hp}, Grow Hm1 H1 Hm2 H2 → Ex (jBase b Hm1 H1) H2 := fun g => by
      cases b with
      | true => exact g.exm.trans g.sub
      | false => exact g.ex
    refine ⟨fun i m H' => m = ds.length - i ∧ i ≤ ds.length ∧ ∃ Hm' acc av, Grow Hm1 H1 Hm' H' ∧ Hm' L = none ∧ H' L = some (.lst av) ∧ IsAll W Hm' acc av ∧ acc.length ≤ i ∧ compGo pg pq pe (wipe' env vs) (ds.drop i) acc k,
      ⟨ds.length, by simp, Nat.zero_le _, Hm1, [], [], grow_own R1.sub hL, R1.sub.back hL, upd_same, .nil, Nat.le_refl _, h1⟩, ?_⟩
    rintro i m H' ⟨rfl, hi', Hm', acc, av, g2, hmL, hLv, hacc, hal, hgo⟩
    obtain ⟨jgo, jstop⟩ := hj H' (jb g2)
    have R2 := (R1.grow g2).wipe vs
    by_cases hlt : i < ds.length
    · obtain ⟨d, hd⟩ : ∃ d, ds[i]? = some d := ⟨_, List.getElem?_eq_getElem hlt⟩
      rw [drop_cons hd] at hgo
      obtain ⟨x, hx, ix⟩ := hall.get hd
      obtain ⟨jg, jy⟩ := jgo i x hx
      refine .inr ⟨jg, fun H'' => ∃ Hm' acc av, Grow Hm1 H1 Hm' H'' ∧ Hm' L = none ∧ H'' L = some (.lst av) ∧ IsAll W Hm' acc av ∧ acc.length ≤ i + 1 ∧ compGo pg pq pe (wipe' env vs) (ds.drop (i + 1)) acc k,
        fun H'' w => ⟨ds.length - (i + 1), by omega, rfl, by omega, w⟩, fun y H'' hy => ?_⟩
      obtain ⟨e1, e2⟩ := jy y H'' hy
      subst e1 e2
      have st := hg O Hm' H'' (L2.wipe σ vs) (wipe' env vs) (fun σ2 H2 => tq σ2 H2 fun b H3 => if b = true then te σ2 H3 fun y H4 => ∃ acc, H4 L = some (.lst acc) ∧ acc.length < sizeLine ∧ ∃ Hm' acc_1 av, Grow Hm1 H1 Hm' (upd H4 L (.lst (acc ++ [y]))) ∧ Hm' L = none ∧ (upd H4 L (.lst (acc ++ [y]))) L = some (.lst av) ∧ IsAll W Hm' acc_1 av ∧ acc_1.length ≤ i + 1 ∧ compGo pg pq pe (wipe' env vs) (ds.drop (i + 1)) acc_1 k
          else ∃ Hm' acc av, Grow Hm1 H1 Hm' H3 ∧ Hm' L = none ∧ H3 L = some (.lst av) ∧ IsAll W Hm' acc av ∧ acc.length ≤ i + 1 ∧ compGo pg pq pe (wipe' env vs) (ds.drop (i + 1)) acc k) _ y d R2 (ix.mono g2.exm) hgo fun σ3 env3 R3 h3 => ?_
      · have z := ho _ _ _ _ st
        rw [wipe_wipe] at z
        exact z
      · refine ht O Hm' H'' σ3 env3 _ _ R3 h3 fun c Hm4 H4 g4 h4 => ?_
        have g24 := g2.trans g4
        have hL4 : H4 L = some (.lst av) := g4.ex _ _ hLv
        have hm4 : Hm4 L = none := by
          cases q : Hm4 L with
          | none => rfl
          | some o =>
            rcases g4.fresh _ _ q with z | z
            · rw [hmL] at z; cases z
            · rw [hLv] at z; cases z
        cases c with
        | false => exact ⟨Hm4, acc, av, g24, hm4, hL4, hacc.mono g4.exm, by omega, h4⟩
        | true =>
          refine he O Hm4 H4 σ3 env3 _ _ (R3.grow g4) h4 fun w kw dw Hm5 H5 g5 i5 ⟨hs, h5⟩ => ?_
          have hL5 : H5 L = some (.lst av) := g5.ex _ _ hL4
          have hm5 : Hm5 L = none := by
            cases q : Hm5 L with
            | none => rfl
            | some o =>
              rcases g5.fresh _ _ q with z | z
              · rw [hm4] at z; cases z
              · rw [hL4] at z; cases z
          have g25 := g24.trans g5
          have iw : Is W Hm5 dw w := by
            cases kw with
            | s => exact i5
            | _ => cases hs
          have a5 := (hacc.mono g4.exm).mono g5.exm
          have al : av.length = acc.length := hacc.length
          refine ⟨av, hL5, ?_, Hm5, acc ++ [dw], av ++ [w], ⟨g25.ex.mut hL, g25.exm, g25.sub.mut hm5, g25.fresh⟩, hm5, upd_same, a5.append (.one iw), by rw [List.length_append, List.length_singleton]; omega, h5⟩
          exact Nat.lt_of_le_of_lt (show av.length ≤ 100000 by omega) (by decide)
    · have e : i = ds.length := by omega
      subst e
      refine .inl ⟨by rw [← hlen]; exact jstop, ?_⟩
      rw [List.drop_length] at hgo
      exact q L acc av Hm' H' (g1.trans g2) (g1.ex.back hL) hmL hLv hacc hgo
end
end BB
end
section
set_option maxRecDepth 100000
set_option maxHeartbeats 4000000
/-! Statements; a def. -/
namespace BB
open PySem L2
section
variable {W : Wc}
theorem paired_append {α β : Type} {F : α → β → Prop} : ∀ {l l2 : List α} {r r2 : List β}, Paired F l r → Paired F l2 r2 → Paired F (l ++ l2) (r ++ r2)
  | _, _, _, _, .nil, h => h
  | _, _, _, _, .cons h t, h2 => .cons h (paired_append t h2)
theorem paired_mem {α β : Type} {F : α → β → Prop} : ∀ {l : List α} {r : List β}, Paired F l r → ∀ x ∈ l, ∃ y, F x y
  | _, _, .nil, x, h => by cases h
  | _, _, .cons h t, x, hx => by
    rcases List.mem_cons.mp hx with e | e
    · subst e; exact ⟨_, h⟩
    · exact paired_mem t x e
theorem sff_comp {ti : TI} {g : TG} {te : TE} {pi : PI'} {pg : PG'} {pf : PF'} {vs : List Nat} (hi : SndI W ti pi) (hg : SndG W g pg) (ho : OnlyG g vs) (he : SndF W te pf) :
    SndFF W (tLc ti g tYes te vs) (ffComp pi pg pf vs) := fun O Hm H σ env Q k R h q =>
  hi O Hm H σ env _ _ R h fun J us b ds Hm1 H1 g1 hj hall ⟨hz, h1⟩ => fun L hL => by
    have R1 := R.grow g1
    have hlen := hall.length
    have jb : ∀ {Hm2 H2 : Hp}, Grow Hm1 H1 Hm2 H2 → Ex (jBase b Hm1 H1) H2 := fun g => by
      cases b with
      | true => exact g.exm.trans g.sub
      | false => exact g.ex
    let In : Nat → Hp → Prop := fun i H' => ∃ Hm' acc as, Grow Hm1 H1 Hm' H' ∧ Hm' L = none ∧ H' L = some (.lst (as.map V.ref)) ∧ (L :: as).Nodup ∧
      Paired (fun b ds => H1 b = none ∧ Hm' b = none ∧ ∃ vs, H' b = some (.lst vs) ∧ IsAll W Hm' ds vs) as acc ∧ acc.length ≤ i ∧ compGoF pg pf (wipe' env vs) (ds.drop i) acc k
    refine ⟨fun i m H' => m = ds.length - i ∧ i ≤ ds.length ∧ In i H', ⟨ds.length, by simp, Nat.zero_le _, Hm1, [], [], grow_own R1.sub hL, R1.sub.back hL, upd_same, by simp, .nil, Nat.le_refl _, h1⟩, ?_⟩
    rintro i m H' ⟨rfl, hi', Hm', acc, as, g2, hmL, hLv, hnd, hacc, hal, hgo⟩
    obtain ⟨jgo, jstop⟩ := hj H' (jb g2)
    have R2 := (R1.grow g2).wipe vs
    by_cases hlt : i < ds.length
    · obtain ⟨d, hd⟩ : ∃ d, ds[i]? = some d := ⟨_, List.getElem?_eq_getElem hlt⟩
      rw [drop_cons hd] at hgo
      obtain ⟨x, hx, ix⟩ := hall.get hd
      obtain ⟨jg, jy⟩ := jgo i x hx
      refine .inr ⟨jg, In (i + 1), fun H'' w => ⟨ds.length - (i + 1), by omega, rfl, by omega, w⟩, fun y H'' hy => ?_⟩
      obtain ⟨e1, e2⟩ := jy y H'' hy
      subst e1 e2
      have st := hg O Hm' H'' (L2.wipe σ vs) (wipe' env vs) (fun σ2 H2 => tYes σ2 H2 fun b H3 => if b = true then te σ2 H3 fun y H4 => ∃ acc, H4 L = some (.lst acc) ∧ acc.length < sizeLine ∧ In (i + 1) (upd H4 L (.lst (acc ++ [y])))
          else In (i + 1) H3) _ y d R2 (ix.mono g2.exm) hgo fun σ3 env3 R3 h3 => ?_
      · have z := ho _ _ _ _ st
        rw [wipe_wipe] at z
        exact z
      · show te σ3 H'' _
        refine he O Hm' H'' σ3 env3 _ _ R3 h3 fun p pd pv Hm5 H5 g5 hp0 hp1 hp2 hp3 h5 => ?_
        have g25 := g2.trans g5
        have keep : ∀ {a : Addr} {xs : List V}, Hm' a = none → H'' a = some (.lst xs) → Hm5 a = none := fun {a xs} h1 h2 => by
          cases q : Hm5 a with
          | none => rfl
          | some o =>
            rcases g5.fresh _ _ q with z | z
            · rw [h1] at z; cases z
            · rw [h2] at z; cases z
        have hL5 := g5.ex _ _ hLv
        have hm5 := keep hmL hLv
        have pL : p ≠ L := fun e => by subst e; rw [hp0] at hLv; cases hLv
        have pas : p ∉ as := fun hm => by
          obtain ⟨dd, _, _, vs', e, _⟩ := paired_mem hacc p hm
          rw [hp0] at e; cases e
        have al : (as.map V.ref).length = acc.length := by rw [List.length_map]; exact Paired.length hacc
        have ok5 : ∀ b ds, (H1 b = none ∧ Hm5 b = none ∧ ∃ vs, H5 b = some (.lst vs) ∧ IsAll W Hm5 ds vs) → b ≠ L → (H1 b = none ∧ Hm5 b = none ∧ ∃ vs, (upd H5 L (.lst (as.map V.ref ++ [V.ref p]))) b = some (.lst vs) ∧ IsAll W Hm5 ds vs) := fun b ds ⟨q1, q2, vs, q3, q4⟩ hb => ⟨q1, q2, vs, by rw [upd_ne hb]; exact q3, q4⟩
        refine ⟨as.map V.ref, hL5, ?_, Hm5, acc ++ [pd], as ++ [p], ⟨g25.ex.mut hL, g25.exm, g25.sub.mut hm5, g25.fresh⟩, hm5, by rw [upd_same, List.map_append]; rfl, ?_, paired_append ?_ (.cons (ok5 _ _ ⟨g2.ex.back hp0, hp1, pv, hp2, hp3⟩ pL) .nil), by rw [List.length_append, List.length_singleton]; omega, h5⟩
        · exact Nat.lt_of_le_of_lt (show (as.map V.ref).length ≤ 100000 by omega) (by decide)
        · rw [← List.cons_append, List.nodup_append]
          refine ⟨hnd, by simp, fun a ha b hb => ?_⟩
          have hb' : b = p := by simpa using hb
          subst hb'
          rcases List.mem_cons.mp ha with e | e
          · subst e; exact pL.symm
          · exact fun z => pas (z ▸ e)
        · have nL : L ∉ as := (List.nodup_cons.mp hnd).1
          clear hgo hnd hal al pas hLv hL5 hi' hlt jgo jstop
          have : ∀ {as' acc'}, Paired (fun b ds => H1 b = none ∧ Hm' b = none ∧ ∃ vs, H'' b = some (.lst vs) ∧ IsAll W Hm' ds vs) as' acc' → L ∉ as' → Paired (fun b ds => H1 b = none ∧ Hm5 b = none ∧ ∃ vs, (upd H5 L (.lst (as.map V.ref ++ [V.ref p]))) b = some (.lst vs) ∧ IsAll W Hm5 ds vs) as' acc' := by
            intro as' acc' hp
            induction hp with
            | nil => intro _; exact .nil
            | @cons b dd as' acc' hb _ ih =>
              intro hn
              obtain ⟨q1, q2, vs, q3, q4⟩ := hb
              refine .cons (ok5 _ _ ⟨q1, keep q2 q3, vs, g5.ex _ _ q3, q4.mono g5.exm⟩ fun z => hn (by rw [z]; exact List.mem_cons_self ..)) (ih fun z => hn (List.mem_cons_of_mem _ z))
          exact this hacc nL
    · have e : i = ds.length := by omega
      subst e
      refine .inl ⟨by rw [← hlen]; exact jstop, ?_⟩
      rw [List.drop_length] at hgo
      refine q L as acc Hm' H' (g1.trans g2) (g1.ex.back hL) hmL hLv hnd (paired_mono (fun b ds ⟨q1, q2, q3⟩ => ⟨g1.ex.back q1, q2, q3⟩) hacc) hgo

/-! ### statements -/
/-- the state of a def's body: Hs what was tracked at its start, Ha what its arguments stand in, Hl shared by now -/
structure GoR (W : Wc) (Hs Ha Hl : Hp) (O : Own) (Hm H : Hp) (σ : L2.St) (env : Env) : Prop where
  rep : Rep W O Hm H σ env
  ex : Ex Hs H
  fr : ∀ a o, Hm a = some o → Ha a = some o ∨ Hs a = none
  ow : ∀ a i, O a = some i → Hs a = none
  lo : Ex Hl Hm
def Go (W : Wc) (Hs Ha Hl H : Hp) (σ : L2.St) (env : Env) : Prop := ∃ O Hm, GoR W Hs Ha Hl O Hm H σ env
def SndS (W : Wc) (ts : TS) (p : PS') : Prop := ∀ (Hs Ha Hl H : Hp) (σ : L2.St) (env : Env) (D : Ends) (Z : Post), Go W Hs Ha Hl H σ env → p Z env →
  (∀ σ' H' env', Go W Hs Ha Hl H' σ' env' → Z.nx env' → D.nx σ' H') → (∀ v d H', Ex Hs H' → Is W (join Ha Hs H') d v → Z.rt d → D.rt v H') →
  (∀ a ds vs H', Ex Hs H' → Hs a = none → H' a = some (.lst vs) → IsAll W (join Ha Hs H') ds vs → Z.rf ds → D.rt (.ref a) H') → ts D σ H
theorem GoR.grow {Hs Ha Hl Hm H Hm' H' : Hp} {O : Own} {σ : L2.St} {env : Env} (G : GoR W Hs Ha Hl O Hm H σ env) (g : Grow Hm H Hm' H') : GoR W Hs Ha Hl O Hm' H' σ env :=
  ⟨G.rep.grow g, G.ex.trans g.ex, fun a o e => by
    rcases g.fresh a o e with z | z
    · exact G.fr a o z
    · exact .inr (G.ex.back z), G.ow, G.lo.trans g.exm⟩
theorem GoR.rep' {Hs Ha Hl Hm H : Hp} {O : Own} {σ σ' : L2.St} {env env' : Env} (G : GoR W Hs Ha Hl O Hm H σ env) (R : Rep W O Hm H σ' env') : GoR W Hs Ha Hl O Hm H σ' env' := ⟨R, G.ex, G.fr, G.ow, G.lo⟩
theorem GoR.lower {Hs Ha Hl Hl' Hm H : Hp} {O : Own} {σ : L2.St} {env : Env} (G : GoR W Hs Ha Hl O Hm H σ env) (h : Ex Hl' Hl) : GoR W Hs Ha Hl' O Hm H σ env := ⟨G.rep, G.ex, G.fr, G.ow, h.trans G.lo⟩
theorem Go.lower {Hs Ha Hl Hl' H : Hp} {σ : L2.St} {env : Env} (G : Go W Hs Ha Hl H σ env) (h : Ex Hl' Hl) : Go W Hs Ha Hl' H σ env := let ⟨O, Hm, G⟩ := G; ⟨O, Hm, G.lower h⟩
theorem ss_next : SndS W tNext sNext := fun Hs Ha Hl H σ env D Z G h qn qr qf => qn σ H env G h
theorem ss_never : SndS W tNever (fun _ _ => False) := fun Hs Ha Hl H σ env D Z G h qn qr qf => h.elim
theorem ss_seq {t u : TS} {p q : PS'} (h1 : SndS W t p) (h2 : SndS W u q) : SndS W (tSeq t u) (sSeq p q) := fun Hs Ha Hl H σ env D Z G h qn qr qf =>
  h1 Hs Ha Hl H σ env { D with nx := u D } { Z with nx := q Z } G h (fun σ' H' env' G' h' => h2 Hs Ha Hl H' σ' env' D Z G' h' qn qr qf) qr qf
variable {ta tb te : TE} {pa pb pe : PE'} {tt : TT} {qt : PT'}
theorem ss_set {g : TG} {pg : PG'} (he : SndE W te pe) (hg : SndG W g pg) : SndS W (tAsg te g) (sSet pg pe) := fun Hs Ha Hl H σ env D Z ⟨O, Hm, G⟩ h qn qr qf =>
  he O Hm H σ env _ _ G.rep h fun v kd d Hm1 H1 g1 i1 ⟨hs, h1⟩ => by
    have G1 := G.grow g1
    have iv : Is W Hm1 d v := by
      cases kd with
      | s => exact i1
      | _ => cases hs
    exact hg O Hm1 H1 σ env _ _ v d G1.rep iv h1 fun σ' env' R' h' => qn σ' H1 env' ⟨O, Hm1, G1.rep' R'⟩ h'
/-- a new object becomes a slot's own -/
theorem GoR.own {Hs Ha Hl Hm H : Hp} {O : Own} {σ : L2.St} {env : Env} (G : GoR W Hs Ha Hl O Hm H σ env) {i : Nat} {S : List Addr} {v : V} {sl : Sl}
    (hS : ∀ a ∈ S, Hm a = none ∧ Hs a = none ∧ O a = none ∧ ∃ o, H a = some o ∧ isOwn o)
    (hsl : SlOk W (fun x => if x ∈ S then some i else O x) Hm H i (some (some v)) sl) : GoR W Hs Ha Hl (fun x => if x ∈ S then some i else O x) Hm H (σ.set i (some v)) (env.set i sl) := by
  have hne : ∀ {x : Addr} {j : Nat}, O x = some j → x ∉ S := fun {x j} e z => by rw [(hS x z).2.2.1] at e; cases e
  have hif : ∀ {x : Addr} {j : Nat}, O x = some j → (if x ∈ S then some i else O x) = some j := fun {x j} e => by rw [if_neg (hne e)]; exact e
  have hu : Ex (BB.uni O Hm H) (BB.uni (fun x => if x ∈ S then some i else O x) Hm H) := fun a o e => by
    unfold BB.uni at e ⊢
    by_cases ha : a ∈ S
    · rw [(hS a ha).2.2.1, (hS a ha).1] at e; cases e
    · simp only [if_neg ha]; exact e
  have R0 : Rep W (fun x => if x ∈ S then some i else O x) Hm H σ (env.set i .no) := by
    refine ⟨by rw [List.length_set]; exact G.rep.len, G.rep.sub, fun a j e => ?_, fun j s e => ?_⟩
    · by_cases ha : a ∈ S
      · exact ⟨(hS a ha).1, (hS a ha).2.2.2⟩
      · have e' : O a = some j := by simpa only [if_neg ha] using e
        exact G.rep.own a j e'
    · by_cases hj : i = j
      · subst hj
        by_cases hi : i < env.length
        · rw [List.getElem?_set_self hi] at e; cases e; trivial
        · rw [List.getElem?_eq_none (by rw [List.length_set]; omega)] at e; cases e
      · rw [List.getElem?_set_ne hj] at e
        have z := G.rep.slots j s e
        cases s with
        | no => trivial
        | sh d => exact z
        | ow ds => obtain ⟨a, vs, q1, q2, q3⟩ := z; exact ⟨a, vs, q1, hif q2, q3⟩
        | ow2 dss =>
          obtain ⟨a, as, q1, q2, q3, q4, q5⟩ := z
          exact ⟨a, as, q1, hif q2, q3, q4, paired_mono (fun b ds ⟨w1, w2⟩ => ⟨hif w1, w2⟩) q5⟩
        | owd ks ds => obtain ⟨a, vs, q1, q2, q3, q4⟩ := z; exact ⟨a, vs, q1, hif q2, q3.mono hu, q4⟩
  refine ⟨?_, G.ex, G.fr, fun a j e => ?_, G.lo⟩
  · have R1 := R0.set (i := i) (v := v) (sl := sl) fun _ => hsl
    rwa [List.set_set] at R1
  · by_cases ha : a ∈ S
    · exact (hS a ha).2.1
    · have e' : O a = some j := by simpa only [if_neg ha] using e
      exact G.ow a j e'
theorem ss_own {i : Nat} {f : PF'} (he : SndF W te f) : SndS W (tAsg te (gName i)) (sOwn i f) := fun Hs Ha Hl H σ env D Z ⟨O, Hm, G⟩ h qn qr qf =>
  he O Hm H σ env _ _ G.rep h fun a ds vs Hm1 H1 g1 ha hm hl hi h1 => by
    have G1 := G.grow g1
    have hO : O a = none := by
      cases q : O a with
      | none => rfl
      | some j => obtain ⟨_, o, e, _⟩ := G.rep.own a j q; rw [ha] at e; cases e
    refine qn _ H1 _ ⟨_, Hm1, G1.own (S := [a]) (i := i) (v := .ref a) (sl := .ow ds) (fun x hx => ?_) ⟨a, vs, rfl, by simp, hl, hi⟩⟩ h1
    have e : x = a := by simpa using hx
    subst e
    exact ⟨hm, G.ex.back ha, hO, _, hl, trivial⟩
theorem ss_own2 {i : Nat} {f : PFF'} (he : SndFF W te f) : SndS W (tAsg te (gName i)) (sOwn2 i f) := fun Hs Ha Hl H σ env D Z ⟨O, Hm, G⟩ h qn qr qf =>
  he O Hm H σ env _ _ G.rep h fun a as dss Hm1 H1 g1 ha hm hl hnd hp h1 => by
    have G1 := G.grow g1
    have hO : ∀ {x}, H x = none → O x = none := fun {x} hx => by
      cases q : O x with
      | none => rfl
      | some j => obtain ⟨_, o, e, _⟩ := G.rep.own x j q; rw [hx] at e; cases e
    refine qn _ H1 _ ⟨_, Hm1, G1.own (S := a :: as) (i := i) (v := .ref a) (sl := .ow2 dss) (fun x hx => ?_) ⟨a, as, rfl, by simp, hl, hnd, ?_⟩⟩ h1
    · rcases List.mem_cons.mp hx with e | e
      · subst e; exact ⟨hm, G.ex.back ha, hO ha, _, hl, trivial⟩
      · obtain ⟨dd, q1, q2, vs, q3, _⟩ := paired_mem hp x e
        exact ⟨q2, G.ex.back q1, hO q1, _, q3, trivial⟩
    · have : ∀ {as' dss'}, Paired (fun b ds => H b = none ∧ Hm1 b = none ∧ ∃ vs, H1 b = some (.lst vs) ∧ IsAll W Hm1 ds vs) as' dss' → (∀ x ∈ as', x ∈ a :: as) → Paired (fun b ds => (if b ∈ a :: as then some i else O b) = some i ∧ ∃ vs, H1 b = some (.lst vs) ∧ IsAll W Hm1 ds vs) as' dss' := by
        intro as' dss' hp
        induction hp with
        | nil => intro _; exact .nil
        | @cons b dd as' dss' hb _ ih =>
          intro hs
          obtain ⟨q1, q2, q3⟩ := hb
          exact .cons ⟨if_pos (hs b (List.mem_cons_self ..)), q3⟩ (ih fun x hx => hs x (List.mem_cons_of_mem _ hx))
      exact this hp fun x hx => List.mem_cons_of_mem _ hx

/-- what the slot owned is shared from here on -/
theorem GoR.frz {Hs Ha Hl Hm H : Hp} {O : Own} {σ : L2.St} {env : Env} (G : GoR W Hs Ha Hl O Hm H σ env) (i : Nat) {sl : Sl}
    (hsl : ∀ Hm', Ex Hm Hm' → (∀ a o, O a = some i → H a = some o → Hm' a = some o) → (∀ a o, uni O Hm H a = some o → O a = some i ∨ O a = none → Hm' a = some o) → i < env.length → SlOk W (fun x => if O x = some i then none else O x) Hm' H i σ[i]? sl) :
    Go W Hs Ha Hl H σ (env.set i sl) := by
  let O' : Own := fun x => if O x = some i then none else O x
  let Hm' : Hp := fun x => if O x = some i then H x else Hm x
  have e1 : Ex Hm Hm' := fun a o e => by
    show (if O a = some i then H a else Hm a) = some o
    split
    · exact G.rep.sub a o e
    · exact e
  have e2 : Ex Hm' H := fun a o e => by
    have e' : (if O a = some i then H a else Hm a) = some o := e
    split at e'
    · exact e'
    · exact G.rep.sub a o e'
  have hO' : ∀ {a j}, O' a = some j → O a = some j ∧ j ≠ i := fun {a j} e => by
    have e' : (if O a = some i then none else O a) = some j := e
    split at e'
    · cases e'
    · rename_i hn; exact ⟨e', fun z => hn (z ▸ e')⟩
  have hif : ∀ {a j}, O a = some j → j ≠ i → O' a = some j := fun {a j} e hn => by
    show (if O a = some i then none else O a) = some j
    rw [if_neg (fun z => hn (by rw [e] at z; exact Option.some.inj z))]
    exact e
  have hu : Ex (BB.uni O Hm H) (BB.uni O' Hm' H) := fun a o e => by
    unfold BB.uni at e ⊢
    by_cases hi : O a = some i
    · have z : (O' a).isSome = false := by
        show (if O a = some i then none else O a).isSome = false
        rw [if_pos hi]; rfl
      rw [hi] at e
      rw [z]
      show (if O a = some i then H a else Hm a) = some o
      rw [if_pos hi]; exact e
    · have z : O' a = O a := by
        show (if O a = some i then none else O a) = O a
        rw [if_neg hi]
      rw [z]
      split at e
      · rename_i hs; rw [if_pos hs]; exact e
      · rename_i hs
        rw [if_neg hs]
        exact e1 _ _ e
  refine ⟨O', Hm', ⟨⟨by rw [List.length_set]; exact G.rep.len, e2, fun a j e => ?_, fun j s e => ?_⟩, G.ex, fun a o e => ?_, fun a j e => G.ow a j (hO' e).1, G.lo.trans e1⟩⟩
  · obtain ⟨q1, q2⟩ := hO' e
    obtain ⟨w1, w2⟩ := G.rep.own a j q1
    refine ⟨?_, w2⟩
    show (if O a = some i then H a else Hm a) = none
    rw [if_neg (fun z => q2 (by rw [q1] at z; exact Option.some.inj z))]
    exact w1
  · by_cases hj : i = j
    · subst hj
      by_cases hi : i < env.length
      · rw [List.getElem?_set_self hi] at e
        cases e
        refine hsl Hm' e1 (fun a o h1 h2 => ?_) (fun a o h1 h2 => ?_) hi
        · show (if O a = some i then H a else Hm a) = some o
          rw [if_pos h1]; exact h2
        · show (if O a = some i then H a else Hm a) = some o
          unfold BB.uni at h1
          rcases h2 with h2 | h2
          · rw [if_pos h2]; rw [h2] at h1; exact h1
          · rw [if_neg (by rw [h2]; exact fun z => by cases z)]; rw [h2] at h1; exact h1
      · rw [List.getElem?_eq_none (by rw [List.length_set]; omega)] at e; cases e
    · rw [List.getElem?_set_ne hj] at e
      have z := G.rep.slots j s e
      have hji : j ≠ i := fun q => hj q.symm
      cases s with
      | no => trivial
      | sh d => obtain ⟨u, q1, q2⟩ := z; exact ⟨u, q1, q2.mono e1⟩
      | ow ds => obtain ⟨a, vs, q1, q2, q3, q4⟩ := z; exact ⟨a, vs, q1, hif q2 hji, q3, q4.mono e1⟩
      | ow2 dss =>
        obtain ⟨a, as, q1, q2, q3, q4, q5⟩ := z
        exact ⟨a, as, q1, hif q2 hji, q3, q4, paired_mono (fun b ds ⟨w1, vs, w2, w3⟩ => ⟨hif w1 hji, vs, w2, w3.mono e1⟩) q5⟩
      | owd ks ds => obtain ⟨a, vs, q1, q2, q3, q4⟩ := z; exact ⟨a, vs, q1, hif q2 hji, q3.mono hu, q4.mono e1⟩
  · have e' : (if O a = some i then H a else Hm a) = some o := e
    split at e'
    · rename_i hi; exact .inr (G.ow a i hi)
    · exact G.fr a o e'
theorem uni_tup {Hm H : Hp} {O : Own} {σ : L2.St} {env : Env} (R : Rep W O Hm H σ env) {a : Addr} {ps : List V} (h : uni O Hm H a = some (.tup ps)) : O a = none := by
  cases q : O a with
  | none => rfl
  | some j =>
    obtain ⟨_, o, h1, h2⟩ := R.own a j q
    unfold BB.uni at h
    rw [q] at h
    have h' : H a = some (.tup ps) := h
    rw [h1] at h'; cases h'
    exact h2.elim
theorem uni_frz {Hm H : Hp} {O : Own} {σ : L2.St} {env : Env} (R : Rep W O Hm H σ env) {a : Addr} {o : Obj} {u : HO} (h : uni O Hm H a = some (.frz o u)) : O a = none := by
  cases q : O a with
  | none => rfl
  | some j =>
    obtain ⟨_, o, h1, h2⟩ := R.own a j q
    unfold BB.uni at h
    rw [q] at h
    have h' : H a = _ := h
    rw [h1] at h'; cases h'
    exact h2.elim
theorem ss_frz {t : TS} {p : PS'} (i : Nat) (h2 : SndS W t p) : SndS W t (sSeq (sFrz i) p) := fun Hs Ha Hl H σ env D Z ⟨O, Hm, G⟩ h qn qr qf => by
  have h' : (sFrz i) { Z with nx := p Z } env := h
  unfold sFrz at h'
  cases e : env[i]? with
  | none => rw [e] at h'; exact h'.elim
  | some sl =>
    rw [e] at h'
    have z := G.rep.slots i sl e
    cases sl with
    | no => exact h'.elim
    | sh d => exact h2 Hs Ha Hl H σ env D Z ⟨O, Hm, G⟩ h' qn qr qf
    | ow ds =>
      refine h2 Hs Ha Hl H σ _ D Z (G.frz i fun Hm' e1 e2 e3 _ => ?_) h' qn qr qf
      obtain ⟨a, vs, q1, q2, q3, q4⟩ := z
      refine ⟨.ref a, q1, ?_⟩
      simp only [Is]
      exact ⟨a, vs, rfl, e2 _ _ q2 q3, q4.mono e1⟩
    | ow2 dss =>
      refine h2 Hs Ha Hl H σ _ D Z (G.frz i fun Hm' e1 e2 e3 _ => ?_) h' qn qr qf
      obtain ⟨a, as, q1, q2, q3, q4, q5⟩ := z
      refine ⟨.ref a, q1, ?_⟩
      simp only [Is]
      refine ⟨a, as.map V.ref, rfl, e2 _ _ q2 q3, ?_⟩
      clear q1 q2 q3 q4 h' e h
      induction q5 with
      | nil => exact .nil
      | @cons b dd as' dss' hb _ ih =>
        obtain ⟨w1, vs, w2, w3⟩ := hb
        refine .cons ?_ ih
        simp only [Is]
        exact ⟨b, vs, rfl, e2 _ _ w1 w2, w3.mono e1⟩
    | owd ks ds =>
      refine h2 Hs Ha Hl H σ _ D Z (G.frz i fun Hm' e1 e2 e3 _ => ?_) h' qn qr qf
      obtain ⟨a, vs, q1, q2, ⟨⟨xs, w1, w2, w3, w4⟩, nd, ns⟩, q4⟩ := z
      refine ⟨.ref a, q1, ?_⟩
      simp only [Is]
      refine ⟨a, vs, rfl, ⟨⟨xs, e3 _ _ w1 (.inl q2), w2, paired_mono (fun k x q => ?_) w3, w4⟩, nd, ns⟩, q4.mono e1⟩
      rcases q with (q | ⟨o, q⟩) | q
      · exact .inl (.inl (e3 _ _ q (.inr (uni_tup G.rep q))))
      · exact .inl (.inr ⟨o, e3 _ _ q (.inr (uni_frz G.rep q))⟩)
      · exact .inr q
/-- a slot's own list is changed -/
theorem GoR.put {Hs Ha Hl Hm H : Hp} {O : Own} {σ : L2.St} {env : Env} (G : GoR W Hs Ha Hl O Hm H σ env) {i : Nat} {a : Addr} {o : HO} {sl : Sl} (ha : O a = some i) (ho : isOwn o)
    (hsl : SlOk W O Hm (upd H a o) i σ[i]? sl) : Go W Hs Ha Hl (upd H a o) σ (env.set i sl) := by
  obtain ⟨hm, _⟩ := G.rep.own a i ha
  have hu : ∀ x, O x ≠ some i → uni O Hm (upd H a o) x = uni O Hm H x := fun x hx => by
    unfold BB.uni
    by_cases e : x = a
    · subst e; exact absurd ha hx
    · rw [upd_ne e]
  refine ⟨O, Hm, ⟨⟨by rw [List.length_set]; exact G.rep.len, G.rep.sub.mut hm, fun x j e => ?_, fun j s e => ?_⟩, G.ex.mut (G.ow a i ha), G.fr, G.ow, G.lo⟩⟩
  · obtain ⟨h1, u, h2, h3⟩ := G.rep.own x j e
    by_cases hx : x = a
    · subst hx; exact ⟨h1, o, upd_same, ho⟩
    · exact ⟨h1, u, by rw [upd_ne hx]; exact h2, h3⟩
  · by_cases hj : i = j
    · subst hj
      by_cases hi : i < env.length
      · rw [List.getElem?_set_self hi] at e; cases e; exact hsl
      · rw [List.getElem?_eq_none (by rw [List.length_set]; omega)] at e; cases e
    · rw [List.getElem?_set_ne hj] at e
      have z := G.rep.slots j s e
      have ne : ∀ {x}, O x = some j → x ≠ a := fun {x} h1 h2 => by subst h2; rw [ha] at h1; exact hj (Option.some.inj h1)
      cases s with
      | no => trivial
      | sh d => exact z
      | ow ds => obtain ⟨b, vs, q1, q2, q3, q4⟩ := z; exact ⟨b, vs, q1, q2, by rw [upd_ne (ne q2)]; exact q3, q4⟩
      | ow2 dss =>
        obtain ⟨b, as, q1, q2, q3, q4, q5⟩ := z
        exact ⟨b, as, q1, q2, by rw [upd_ne (ne q2)]; exact q3, q4, paired_mono (fun b ds ⟨w1, vs, w2, w3⟩ => ⟨w1, vs, by rw [upd_ne (ne w1)]; exact w2, w3⟩) q5⟩
      | owd ks ds =>
        obtain ⟨b, vs, q1, q2, ⟨⟨xs, w1, w2, w3, w4⟩, nd, ns⟩, q4⟩ := z
        have keep : ∀ x u, (∀ l, u ≠ HO.lst l) → (∀ f, u ≠ HO.ext f) → uni O Hm H x = some u → uni O Hm (upd H a o) x = some u := fun x u n1 n2 e => by
          rw [hu x fun z => ?_]
          · exact e
          · obtain ⟨_, u', h2, h3⟩ := G.rep.own x i z
            unfold BB.uni at e
            rw [z] at e
            have e' : H x = some u := e
            rw [h2] at e'; cases e'
            cases u <;> first | exact absurd rfl (n1 _) | exact absurd rfl (n2 _) | exact h3.elim
        refine ⟨b, vs, q1, q2, ⟨⟨xs, by rw [hu b fun z => by rw [q2] at z; exact hj (Option.some.inj z).symm]; exact w1, w2, paired_mono (fun k x q => ?_) w3, w4⟩, nd, ns⟩, q4⟩
        rcases q with (q | ⟨o', q⟩) | q
        · exact .inl (.inl (keep _ _ (fun _ z => by cases z) (fun _ z => by cases z) q))
        · exact .inl (.inr ⟨o', keep _ _ (fun _ z => by cases z) (fun _ z => by cases z) q⟩)
        · exact .inr q
theorem kd_s {O : Own} {Hm H : Hp} {kd : Kd} {d : D} {v : V} (h : IsK W O Hm H kd d v) (hs : isS kd = true) : Is W Hm d v := by
  cases kd with
  | s => exact h
  | _ => cases hs
theorem ow_in {Hs Ha Hl Hm H Hm' H' : Hp} {O : Own} {σ : L2.St} {env : Env} {i : Nat} {ds : List D} (G : GoR W Hs Ha Hl O Hm H σ env) (g : Grow Hm H Hm' H') (e : env[i]? = some (.ow ds)) :
    ∃ a vs, σ[i]? = some (some (.ref a)) ∧ O a = some i ∧ H' a = some (.lst vs) ∧ IsAll W Hm' ds vs := (G.rep.grow g).slots i _ e
theorem ss_app {i : Nat} (he : SndE W te pe) : SndS W (tDrop (tBM W.K "list" rAppend (tVar i) (tCons te tNil))) (sApp i pe) := fun Hs Ha Hl H σ env D Z ⟨O, Hm, G⟩ h qn qr qf => by
  unfold sApp at h
  cases e : env[i]? with
  | none => rw [e] at h; exact h.elim
  | some sl =>
    rw [e] at h
    cases sl with
    | ow ds =>
      obtain ⟨a, vs, q1, q2, q3, q4⟩ := ow_in G (Grow.refl G.rep.sub) e
      refine ⟨.ref a, q1, .inl ⟨rfl, vs, SqL.of q3⟩, ?_⟩
      refine he O Hm H σ env _ _ G.rep h fun v kd d Hm1 H1 g1 i1 ⟨hs, hz, h1⟩ => ?_
      obtain ⟨a', vs', r1, r2, r3, r4⟩ := ow_in G g1 e
      rw [q1] at r1; cases r1
      refine ⟨a, vs', v, rfl, rfl, r3, ?_, ?_⟩
      · rw [r4.length]; exact Nat.lt_of_lt_of_le hz (by decide)
      · exact qn σ _ _ ((G.grow g1).put r2 (o := .lst (vs' ++ [v])) (sl := .ow (ds ++ [d])) trivial ⟨a, _, q1, r2, upd_same, r4.append (.one (kd_s i1 hs))⟩) h1
    | _ => exact h.elim
def rSetX (W : Wc) : V → V → V → Hp → (Hp → Prop) → Prop := fun o i v H Q => rSetL o i v H Q ∨ ∃ (a : Addr) (ks : List (Int × Bool)) (vs : List V) (t : Addr) (n : Int) (c : Bool) (xs : List (NestedKey × Addr × Value)), o = .ref a ∧ i = .ref t ∧
  H a = some (.ext (DRaw W a xs)) ∧ xs.map (·.1) = ks.map nk ∧ Paired (fun (k : Int × Bool) (x : NestedKey × Addr × Value) => SqT W.K H x.2.1 [.int k.1, .bl k.2]) ks xs ∧ Vals vs (xs.map (·.2.2)) ∧ ks.Nodup ∧ (a == sysModules) = false ∧
  SqT W.K H t [.int n, .bl c] ∧ ks.contains (n, c) = false ∧ ks.length ≤ 100000 ∧ ∀ u, RelV v u → Q (upd H a (.ext (DRaw W a (xs ++ [(nk (n, c), t, u)]))))
theorem ss_put {i : Nat} (hv : SndE W te pe) (ha : SndE W ta pa) : SndS W (tAsg te (gSub (tVar i) ta (rSetX W))) (sPut i pa pe) := fun Hs Ha Hl H σ env D Z ⟨O, Hm, G⟩ h qn qr qf => by
  unfold sPut at h
  cases e : env[i]? with
  | none => rw [e] at h; exact h.elim
  | some sl =>
    rw [e] at h
    cases sl with
    | ow ds =>
      refine hv O Hm H σ env _ _ G.rep h fun v kd d Hm1 H1 g1 i1 ⟨hs, h1⟩ => ?_
      obtain ⟨a, vs, q1, q2, q3, q4⟩ := ow_in G g1 e
      refine ⟨.ref a, q1, ?_⟩
      refine ha O Hm1 H1 σ env _ _ (G.rep.grow g1) h1 fun y ky dy Hm2 H2 g2 i2 h2 => ?_
      cases dy with
      | int n =>
        obtain ⟨j, hj, h3⟩ := h2
        have g12 := g1.trans g2
        have ey := is_int (i2.full (G.rep.grow g12)); subst ey
        obtain ⟨a', vs', r1, r2, r3, r4⟩ := ow_in G g12 e
        rw [q1] at r1; cases r1
        refine .inl ⟨a, vs', n, j, rfl, rfl, r3, by rw [r4.length]; exact hj, ?_⟩
        exact qn σ _ _ ((G.grow g12).put r2 (o := .lst (vs'.set j v)) (sl := .ow (ds.set j d)) trivial ⟨a, _, q1, r2, upd_same, r4.set ((kd_s i1 hs).mono g2.exm) j⟩) h3
      | _ => exact h2.elim
    | owd ks ds =>
      refine hv O Hm H σ env _ _ G.rep h fun v kd d Hm1 H1 g1 i1 ⟨hs, h1⟩ => ?_
      obtain ⟨a, vs, q1, q2, q3, q4⟩ := (G.rep.grow g1).slots i _ e
      refine ⟨.ref a, q1, ?_⟩
      refine ha O Hm1 H1 σ env _ _ (G.rep.grow g1) h1 fun y ky dy Hm2 H2 g2 i2 h2 => ?_
      split at h2
      · rename_i n c
        obtain ⟨hk, hc, hz, h3⟩ := h2
        have g12 := g1.trans g2
        have G2 := G.grow g12
        obtain ⟨a', vs', r1, r2, r3, r4⟩ := G2.rep.slots i _ e
        have r1' : σ[i]? = some (some (.ref a')) := r1
        rw [show σ[i]? = some (some (.ref a)) from q1] at r1'; cases r1'
        obtain ⟨t, rfl, ht⟩ := tup2 G2.rep i2
        -- the key's tuple is shared
        have htm : SqT W.K (uni O Hm2 H2) t [.int n, .bl c] := by
          obtain ⟨t', ts, w1, w2, w3, w4, w5⟩ := i2.tup G2.rep
          cases w1
          have w6 := w5 hk
          have w7 : ts = [.int n, .bl c] := by
            simp only [IsAll, Is] at w3
            obtain ⟨_, _, rfl, rfl, _, _, rfl, rfl, rfl⟩ := w3
            rfl
          subst w7
          exact G2.rep.subUni.t w6
        have iv := (kd_s i1 hs).mono g2.exm
        obtain ⟨⟨xs, w1, w2, w3, w4⟩, nd, ns⟩ := r3
        have up : ∀ x u, O x ≠ some i → uni O Hm2 H2 x = some u → ∀ o, uni O Hm2 (upd H2 a o) x = some u := fun x u hx e o => by
          unfold BB.uni at e ⊢
          by_cases ex : x = a
          · subst ex; exact absurd r2 hx
          · rw [upd_ne ex]; exact e
        have sq : ∀ {x ps} o, SqT W.K (uni O Hm2 H2) x ps → SqT W.K (uni O Hm2 (upd H2 a o)) x ps := fun {x ps} o q => by
          rcases q with (q | ⟨o', q⟩) | q
          · exact .inl (.inl (up _ _ (by rw [uni_tup G2.rep q]; exact fun z => by cases z) q o))
          · exact .inl (.inr ⟨o', up _ _ (by rw [uni_frz G2.rep q]; exact fun z => by cases z) q o⟩)
          · exact .inr q
        refine .inr ⟨a, ks, vs', t, n, c, xs, rfl, rfl, G2.rep.uniSub _ _ w1, w2, paired_mono (fun k x q => G2.rep.uniSub.t q) w3, w4, nd, ns, ht, hc, by omega, fun u ru => ?_⟩
        refine qn σ _ _ (G2.put r2 (o := .ext (DRaw W a (xs ++ [(nk (n, c), t, u)]))) (sl := .owd (ks ++ [(n, c)]) (ds ++ [d])) trivial ⟨a, vs' ++ [v], q1, r2, ⟨⟨xs ++ [(nk (n, c), t, u)], ?_, ?_, ?_, ?_⟩, ?_, ns⟩, r4.append (.one iv)⟩) h3
        · unfold BB.uni; rw [r2]; exact upd_same
        · rw [List.map_append, List.map_append, w2]; rfl
        · exact paired_append (paired_mono (fun k x q => sq _ q) w3) (.cons (sq _ htm) .nil)
        · rw [List.map_append]; exact w4.append (.cons ru .nil)
        · rw [List.nodup_append]
          refine ⟨nd, by simp, fun x hx y hy => ?_⟩
          have ey : y = (n, c) := by simpa using hy
          subst ey
          intro z; subst z
          have := List.contains_iff_mem.mpr hx
          rw [this] at hc; cases hc
      · exact h2.elim
    | _ => exact h.elim
theorem paired_at {α β : Type} {F : α → β → Prop} : ∀ {l : List α} {r : List β}, Paired F l r → ∀ {j : Nat} {y : β}, r[j]? = some y → ∃ x, l[j]? = some x ∧ F x y
  | _, _, .nil, j, y, h => by simp at h
  | _, _, .cons q t, 0, y, h => by simp at h; subst h; exact ⟨_, rfl, q⟩
  | _, _, .cons q t, j + 1, y, h => by simp at h; simpa using paired_at t h
theorem paired_put {O : Own} {Hm H : Hp} {i : Nat} {b0 : Addr} {ws : List V} {es : List D} : ∀ {as : List Addr} {dss : List (List D)}, Paired (fun b ds => O b = some i ∧ ∃ vs, H b = some (.lst vs) ∧ IsAll W Hm ds vs) as dss → as.Nodup → ∀ {j : Nat}, as[j]? = some b0 → IsAll W Hm es ws →
    Paired (fun b ds => O b = some i ∧ ∃ vs, (upd H b0 (.lst ws)) b = some (.lst vs) ∧ IsAll W Hm ds vs) as (dss.set j es)
  | _, _, .nil, _, j, h, _ => by simp at h
  | _, _, .cons (a := b) (l₁ := as) (l₂ := dss) q t, nd, 0, h, hw => by
    simp at h; subst h
    refine .cons ⟨q.1, ws, upd_same, hw⟩ ?_
    have nb := (List.nodup_cons.mp nd).1
    have : ∀ {as' dss'}, Paired (fun b ds => O b = some i ∧ ∃ vs, H b = some (.lst vs) ∧ IsAll W Hm ds vs) as' dss' → b ∉ as' → Paired (fun b' ds => O b' = some i ∧ ∃ vs, (upd H b (.lst ws)) b' = some (.lst vs) ∧ IsAll W Hm ds vs) as' dss' := by
      intro as' dss' hp
      induction hp with
      | nil => intro _; exact .nil
      | @cons b2 d2 as2 dss2 hb4 _ ih2 =>
        intro hn
        obtain ⟨w1, vs2, w2, w3⟩ := hb4
        exact .cons ⟨w1, vs2, by rw [upd_ne (fun z => hn (by rw [← z]; exact List.mem_cons_self ..))]; exact w2, w3⟩ (ih2 fun z => hn (List.mem_cons_of_mem _ z))
    exact this t nb
  | _, _, .cons (a := b) (l₁ := as) (l₂ := dss) q t, nd, j + 1, h, hw => by
    simp at h
    obtain ⟨w1, vs2, w2, w3⟩ := q
    have nb : b ≠ b0 := fun z => by subst z; exact (List.nodup_cons.mp nd).1 (List.mem_of_getElem? h)
    exact .cons ⟨w1, vs2, by rw [upd_ne nb]; exact w2, w3⟩ (paired_put t (List.nodup_cons.mp nd).2 h hw)
theorem ss_put2 {i : Nat} {t2 : TE} {p2 : PE'} (hv : SndE W te pe) (h1 : SndE W ta pa) (h2 : SndE W t2 p2) : SndS W (tAsg te (gSub (tOp (rIxX W) (tVar i) ta) t2 (rSetX W))) (sPut2 i pa p2 pe) := fun Hs Ha Hl H σ env D Z ⟨O, Hm, G⟩ h qn qr qf => by
  unfold sPut2 at h
  cases e : env[i]? with
  | none => rw [e] at h; exact h.elim
  | some sl =>
    rw [e] at h
    cases sl with
    | ow2 dss =>
      refine hv O Hm H σ env _ _ G.rep h fun v kd d Hm1 H1 g1 i1 ⟨hs, k1⟩ => ?_
      obtain ⟨a, as, q1, q2, q3, q4, q5⟩ := (G.rep.grow g1).slots i _ e
      refine ⟨.ref a, q1, h1 O Hm1 H1 σ env _ _ (G.rep.grow g1) k1 fun y ky dy Hm2 H2 g2 i2 k2 => ?_⟩
      cases dy with
      | int n =>
        obtain ⟨j, ds, hj, hd, k3⟩ := k2
        have g12 := g1.trans g2
        have ey := is_int (i2.full (G.rep.grow g12)); subst ey
        obtain ⟨a', as', r1, r2, r3, r4, r5⟩ := (G.rep.grow g12).slots i _ e
        have r1' : σ[i]? = some (some (.ref a')) := r1
        rw [show σ[i]? = some (some (.ref a)) from q1] at r1'; cases r1'
        have hlen : as'.length = dss.length := Paired.length r5
        obtain ⟨b, hb, hb1, vs, hb2, hb3⟩ := paired_at r5 hd
        refine .inl (.inl ⟨a, as'.map V.ref, n, .ref b, rfl, rfl, SqL.of r3, ?_, ?_⟩)
        · unfold atI; rw [List.length_map, hlen, hj]
          show (as'.map V.ref)[j]? = _
          rw [List.getElem?_map, hb]; rfl
        · refine h2 O Hm2 H2 σ env _ _ (G.rep.grow g12) k3 fun w kw dw Hm3 H3 g3 i3 k4 => ?_
          cases dw with
          | int m =>
            obtain ⟨l, hl, k5⟩ := k4
            have g13 := g12.trans g3
            have ew := is_int (i3.full (G.rep.grow g13)); subst ew
            have G3 := G.grow g13
            obtain ⟨a3, as3, s1, s2, s3, s4, s5⟩ := G3.rep.slots i _ e
            have s1' : σ[i]? = some (some (.ref a3)) := s1
            rw [show σ[i]? = some (some (.ref a)) from q1] at s1'; cases s1'
            have eas : as3.map V.ref = as'.map V.ref := by
              have z := g3.ex _ _ r3
              rw [s3] at z
              exact HO.lst.inj (Option.some.inj z)
            have eas' : as3 = as' := List.map_inj_right (fun x y e => by cases e; rfl) |>.mp eas
            subst eas'
            have hb2' := g3.ex _ _ hb2
            refine .inl ⟨b, vs, m, l, rfl, rfl, hb2', by rw [hb3.length]; exact hl, ?_⟩
            have iv := ((kd_s i1 hs).mono g2.exm).mono g3.exm
            have nba : b ≠ a := fun z => by subst z; exact (List.nodup_cons.mp s4).1 (List.mem_of_getElem? hb)
            refine qn σ _ _ (G3.put hb1 (o := .lst (vs.set l v)) (sl := .ow2 (dss.set j (ds.set l d))) trivial ⟨a, as3, q1, s2, by rw [upd_ne nba.symm]; exact s3, s4, ?_⟩) k5
            exact paired_put s5 (List.nodup_cons.mp s4).2 hb ((hb3.mono g3.exm).set iv l)
          | _ => exact k4.elim
      | _ => exact k2.elim
    | _ => exact h.elim
theorem ss_if {t u : TS} {p q : PS'} {tt : TT} {qt : PT'} (hc : SndT W tt qt) (h1 : SndS W t p) (h2 : SndS W u q) : SndS W (tIfS tt t u) (sIf qt p q) := fun Hs Ha Hl H σ env D Z ⟨O, Hm, G⟩ h qn qr qf =>
  hc O Hm H σ env _ _ G.rep h fun c Hm1 H1 g1 hk => by
    cases c with
    | true => exact h1 Hs Ha Hl H1 σ env D Z ⟨O, Hm1, G.grow g1⟩ hk qn qr qf
    | false => exact h2 Hs Ha Hl H1 σ env D Z ⟨O, Hm1, G.grow g1⟩ hk qn qr qf
theorem GoR.back {Hs Ha Hl Hm H : Hp} {O : Own} {σ : L2.St} {env : Env} (G : GoR W Hs Ha Hl O Hm H σ env) : Ex (uni O Hm H) (join Ha Hs H) := fun a o e => by
  unfold BB.uni at e
  unfold join
  split at e
  · rename_i h
    obtain ⟨i, hi⟩ := Option.isSome_iff_exists.mp h
    rw [G.ow a i hi]
    exact e
  · cases q : Hs a with
    | none => exact G.rep.sub a o e
    | some u =>
      rcases G.fr a o e with z | z
      · exact z
      · rw [q] at z; cases z
theorem ss_ret (he : SndE W te pe) : SndS W (tRet te) (sRet pe) := fun Hs Ha Hl H σ env D Z ⟨O, Hm, G⟩ h qn qr qf =>
  he O Hm H σ env _ _ G.rep h fun v kd d Hm1 H1 g1 i1 h1 => qr v d H1 (G.ex.trans g1.ex) ((i1.uni (G.grow g1).rep).mono (G.grow g1).back) h1
theorem ss_retF {f : PF'} (he : SndF W te f) : SndS W (tRet te) (sRetF f) := fun Hs Ha Hl H σ env D Z ⟨O, Hm, G⟩ h qn qr qf =>
  he O Hm H σ env _ _ G.rep h fun a ds vs Hm1 H1 g1 ha hm hl hi h1 => qf a ds vs H1 (G.ex.trans g1.ex) (G.ex.back ha) hl ((hi.mono (G.grow g1).rep.subUni).mono (G.grow g1).back) h1
theorem ss_par {i j : Nat} {tr : TA} {pr : PA'} (hr : SndA W tr pr) : SndS W (tPar i j tr) (sPar i j pr) := fun Hs Ha Hl H σ env D Z ⟨O, Hm, G⟩ h qn qr qf =>
  hr O Hm H σ env _ _ G.rep h fun vs b ds Hm1 H1 g1 i1 ⟨hb, h1⟩ => by
    subst hb
    have G1 := G.grow g1
    split at h1
    · rename_i _ x y _
      have i1' : IsAll W Hm1 [x, y] vs := i1
      simp only [IsAll] at i1'
      obtain ⟨v, _, rfl, hx, w, _, rfl, hy, rfl⟩ := i1'
      exact ⟨v, w, rfl, qn _ H1 _ ⟨O, Hm1, G1.rep' ((G1.rep.set (sl := .sh x) fun _ => ⟨v, rfl, hx⟩).set (sl := .sh y) fun _ => ⟨w, rfl, hy⟩)⟩ h1⟩
    · exact h1.elim
theorem ss_for {ti : TI} {g : TG} {tb : TS} {pi : PI'} {pg : PG'} {pb : PS'} (hi : SndI W ti pi) (hg : SndG W g pg) (hb : SndS W tb pb) : SndS W (tFor ti g tb) (sFor pi pg pb) := fun Hs Ha Hl H σ env D Z ⟨O, Hm, G⟩ h qn qr qf =>
  hi O Hm H σ env _ _ G.rep h fun J us b ds Hm1 H1 g1 hj hall ⟨hb', h1⟩ => by
    subst hb'
    have G1 := G.grow g1
    have hlen := hall.length
    have hl1 : Ex Hl Hm1 := G1.lo
    refine ⟨fun i m σ' H' => m = ds.length - i ∧ i ≤ ds.length ∧ ∃ env', Go W Hs Ha Hm1 H' σ' env' ∧ forGo pg pb (ds.drop i) Z env',
      ⟨ds.length, by simp, Nat.zero_le _, env, ⟨O, Hm1, G1.rep, G1.ex, G1.fr, G1.ow, Ex.refl _⟩, h1⟩, ?_⟩
    rintro i m σ' H' ⟨rfl, hi', env', ⟨O', Hm', G'⟩, hgo⟩
    obtain ⟨jgo, jstop⟩ := hj H' (G'.lo.trans G'.rep.sub)
    by_cases hlt : i < ds.length
    · obtain ⟨d, hd⟩ : ∃ d, ds[i]? = some d := ⟨_, List.getElem?_eq_getElem hlt⟩
      rw [drop_cons hd] at hgo
      obtain ⟨x, hx, ix⟩ := hall.get hd
      obtain ⟨jg, jy⟩ := jgo i x hx
      refine .inr ⟨jg, fun σ2 H2 => ∃ env2, Go W Hs Ha Hm1 H2 σ2 env2 ∧ forGo pg pb (ds.drop (i + 1)) Z env2, fun σ2 H2 w => ⟨ds.length - (i + 1), by omega, rfl, by omega, w⟩, fun y H2 hy => ?_⟩
      obtain ⟨e1, e2⟩ := jy y H2 hy
      subst e1 e2
      refine hg O' Hm' H2 σ' env' _ _ y d G'.rep (ix.mono G'.lo) hgo fun σ3 env3 R3 h3 => ?_
      exact hb Hs Ha Hm1 H2 σ3 env3 _ _ ⟨O', Hm', G'.rep' R3⟩ h3 (fun σ4 H4 env4 G4 h4 => ⟨env4, G4, h4⟩) qr qf
    · have e : i = ds.length := by omega
      subst e
      rw [List.drop_length] at hgo
      exact .inl ⟨by rw [← hlen]; exact jstop, qn σ' H' env' (Go.lower ⟨O', Hm', G'⟩ hl1) hgo⟩
theorem ss_while {tt : TT} {qt : PT'} {tb : TS} {pb : PS'} (hc : SndT W tt qt) (hb : SndS W tb pb) : SndS W (tWhile tt tb) (sWhile qt pb) := fun Hs Ha Hl H σ env D Z G ⟨n, h⟩ qn qr qf => by
  refine ⟨fun m σ' H' => ∃ env', Go W Hs Ha Hl H' σ' env' ∧ whGo qt pb Z m env', ⟨n, env, G, h⟩, ?_⟩
  rintro m σ' H' ⟨env', ⟨O, Hm, G'⟩, hw⟩
  cases m with
  | zero => exact hw.elim
  | succ m =>
    refine hc O Hm H' σ' env' _ _ G'.rep hw fun c Hm1 H1 g1 hk => ?_
    cases c with
    | true =>
      rw [if_pos rfl]
      refine ⟨fun σ2 H2 => ∃ env2, Go W Hs Ha Hl H2 σ2 env2 ∧ whGo qt pb Z m env2, fun σ2 H2 w => ⟨m, Nat.lt_succ_self m, w⟩, ?_⟩
      exact hb Hs Ha Hl H1 σ' env' _ _ ⟨O, Hm1, G'.grow g1⟩ hk (fun σ4 H4 env4 G4 h4 => ⟨env4, G4, h4⟩) qr qf
    | false =>
      rw [if_neg Bool.false_ne_true]
      exact qn σ' H1 env' ⟨O, Hm1, G'.grow g1⟩ hk
end
end BB
end
section
set_option maxRecDepth 100000
set_option maxHeartbeats 4000000
/-! Dicts with keys (int, bool); a def. -/
namespace BB
open PySem L2 PyProof.Rows
section
variable {X : Cx}
/-- what belongs together -/
structure WX (W : Wc) (X : Cx) : Prop where
  P : X.prog = W.P
  w : X.w = W.w
  K : X.K = W.K
theorem key_is {pins : List (Addr × Obj)} {σ : L2.St} {H : Hp} {s : Shared} (I : Inv X pins σ H s) {t : Addr} {n : Int} {c : Bool} (h : SqT X.K H t [.int n, .bl c]) : (nestedKind X.prog X.w).is s.heap (nk (n, c)) t := by
  obtain ⟨its, r, ⟨o, h1, h2, m, h3⟩, _⟩ := I.tuple h
  cases r with
  | cons r1 r =>
    cases r with
    | cons r2 r =>
      cases r
      obtain ⟨tk, rfl⟩ := r1
      cases (show _ = Value.bool c from r2)
      refine ⟨.tup h1 h2 h3 (.cons (.int n tk) (.cons (.bool rfl) .nil)), by show NestedKey.depth (.tup [.num n, .num _]) ≤ 8; simp [NestedKey.depth, NestedKey.depthAll]⟩
theorem nk_inj {p q : Int × Bool} (h : nk p = nk q) : p = q := by
  obtain ⟨a, b⟩ := p
  obtain ⟨c, d⟩ := q
  unfold nk at h
  injection h with h
  simp only [List.cons.injEq, NestedKey.num.injEq, and_true] at h
  obtain ⟨rfl, h⟩ := h
  cases b <;> cases d <;> first | rfl | cases h
theorem nk_nodup {ks : List (Int × Bool)} (h : ks.Nodup) : (ks.map nk).Nodup := by
  rw [List.Nodup, List.pairwise_map]
  exact h.imp fun hn e => hn (nk_inj e)
theorem dic_h {W : Wc} (x : WX W X) {pins : List (Addr × Obj)} {σ : L2.St} {H : Hp} {s : Shared} (I : Inv X pins σ H s) {a : Addr} {ks : List (Int × Bool)} {xs : List (NestedKey × Addr × Value)} (h1 : H a = some (.ext (DRaw W a xs))) (h2 : xs.map (·.1) = ks.map nk)
    (h3 : Paired (fun (k : Int × Bool) (x : NestedKey × Addr × Value) => SqT W.K H x.2.1 [.int k.1, .bl k.2]) ks xs) (nd : ks.Nodup) : s.heap.DictOfH (nestedKind X.prog X.w) a xs := by
  obtain ⟨⟨o, es, ep, q1, q2, q3, q4⟩, hdrop⟩ := I.hok a _ h1
  clear hdrop
  rw [← x.P, ← x.w] at q4
  refine ⟨o, es, ep, q1, q2, q3, q4, ?_, by rw [h2]; exact nk_nodup nd⟩
  rw [← x.K] at h3
  clear q4 h1 nd
  revert h2
  induction h3 with
  | nil => intro _ y hy; cases hy
  | @cons k y ks xs hk _ ih =>
    intro h2 z hz
    rw [List.map_cons, List.map_cons, List.cons.injEq] at h2
    rcases List.mem_cons.mp hz with e | e
    · subst e
      rw [h2.1]
      exact key_is I hk
    · exact ih h2.2 z e
theorem atKey_lookup {ks : List (Int × Bool)} {xs : List (NestedKey × Addr × Value)} (h2 : xs.map (·.1) = ks.map nk) : ∀ {vs : List V}, Vals vs (xs.map (·.2.2)) → ∀ {p : Int × Bool}, (∀ {v : V}, (ks.zip vs).lookup p = some v → ∃ t u, atKey xs (nk p) = some (t, u) ∧ RelV v u) ∧ ((atKey xs (nk p)).isSome = ks.contains p) := by
  induction ks generalizing xs with
  | nil =>
    intro vs _ p
    have e : xs = [] := by simpa using h2
    subst e
    exact ⟨fun h => by simp at h, rfl⟩
  | cons k ks ih =>
    intro vs hv p
    cases xs with
    | nil => simp at h2
    | cons y xs =>
      rw [List.map_cons, List.map_cons, List.cons.injEq] at h2
      rw [List.map_cons] at hv
      cases hv with
      | @cons v _ vs _ r rs =>
        obtain ⟨ih1, ih2⟩ := ih h2.2 rs (p := p)
        by_cases e : p = k
        · subst e
          have e1 : atKey (y :: xs) (nk p) = some y.2 := by unfold atKey; rw [List.find?_cons, h2.1]; simp
          refine ⟨fun h => ?_, ?_⟩
          · simp only [List.zip_cons_cons, List.lookup_cons, beq_self_eq_true, Option.some.injEq] at h
            subst h
            exact ⟨y.2.1, y.2.2, e1, r⟩
          · rw [e1]; simp
        · have ne : ¬ y.1 = nk p := fun z => e (nk_inj (h2.1 ▸ z)).symm
          have e1 : atKey (y :: xs) (nk p) = atKey xs (nk p) := by
            unfold atKey
            rw [List.find?_cons]
            simp only [ne, decide_false]
          have e2 : (p == k) = false := beq_eq_false_iff_ne.mpr e
          refine ⟨fun h => ?_, ?_⟩
          · simp only [List.zip_cons_cons, List.lookup_cons, e2] at h
            rw [e1]; exact ih1 h
          · rw [e1, ih2, List.contains_cons, e2, Bool.false_or]
theorem ix_X {W : Wc} (x : WX W X) (hu : X.A.units + 64 < cLine) : IxR X (rIxX W) := by
  have z : IxR X (rIx W.K) := by rw [← x.K]; exact ix_seq
  refine z.or ?_
  intro value slice pins s σ H y1 y2 v u Q I rx ry h hs
  obtain ⟨a, ks, vs, t, i, c, w, rfl, rfl, ⟨⟨xs, w1, w2, w3, w4⟩, nd, ns⟩, ht, hl, q⟩ := h
  cases rx; cases ry
  have hd := dic_h x I w1 w2 w3 nd
  obtain ⟨t', u, e1, r⟩ := (atKey_lookup w2 w4).1 hl
  rw [← x.K] at ht
  refine tail_any hd.typeIs PySem.F.slot_dict_getitem.lookup ?_ hs
  exact wpAny_getItem_heap (by show X.A.units + 1 + 8 < cLine; omega) (key_is I ht) hd e1 ⟨w, H, I.tok _, r, q⟩
theorem op_inX {W : Wc} (x : WX W X) (hu : X.A.units + 64 < cLine) : OpR X (compareOp .In) (rInX W false) := by
  intro pins s σ H y1 y2 v u Q I rx ry h
  obtain ⟨a, ks, vs, t, i, c, rfl, rfl, ⟨⟨xs, w1, w2, w3, w4⟩, nd, ns⟩, ht, q⟩ := h
  cases rx; cases ry
  have hd := dic_h x I w1 w2 w3 nd
  have e := (atKey_lookup w2 w4 (p := (i, c))).2
  rw [← x.K] at ht
  exact wpAny_in_heap (by show X.A.units + 1 + 8 < cLine; omega) (key_is I ht) ns hd ⟨.bl _, H, I.tok _, by rw [e]; rfl, by simpa using q⟩
theorem op_notInX {W : Wc} (x : WX W X) (hu : X.A.units + 64 < cLine) : OpR X (compareOp .NotIn) (rInX W true) := by
  intro pins s σ H y1 y2 v u Q I rx ry h
  obtain ⟨a, ks, vs, t, i, c, rfl, rfl, ⟨⟨xs, w1, w2, w3, w4⟩, nd, ns⟩, ht, q⟩ := h
  cases rx; cases ry
  have hd := dic_h x I w1 w2 w3 nd
  have e := (atKey_lookup w2 w4 (p := (i, c))).2
  rw [← x.K] at ht
  show wpAny _ _ (do return Value.bool (!(← contains (.ref a) (.ref t)))) _ _ s
  exact wpAny_bind (wpAny_contains_heap (by show X.A.units + 1 + 8 < cLine; omega) (key_is I ht) ns hd (wpAny_pure ⟨.bl _, H, I.tok _, by rw [e]; rfl, by simpa using q⟩))
theorem set_X {W : Wc} (x : WX W X) (hu : X.A.units + 64 < cLine) : PSet X (rSetX W) := by
  intro pins s σ H o i v ov iv u Q I ro ri rv h
  rcases h with h | ⟨a, ks, vs, t, n, c, xs, rfl, rfl, w1, w2, w3, w4, nd, ns, ht, hc, hz, q⟩
  · exact set_list pins s σ H o i v ov iv u Q I ro ri rv h
  cases ro; cases ri
  have hd := dic_h x I w1 w2 w3 nd
  have e := (atKey_lookup w2 w4 (p := (n, c))).2
  rw [hc] at e
  have e0 : atKey xs (nk (n, c)) = none := by
    cases q : atKey xs (nk (n, c)) with
    | none => rfl
    | some _ => rw [q] at e; cases e
  rw [← x.K] at ht
  refine wpAny_setItem_heap (hsz := ?_) (by show X.A.units + 1 + 8 < cLine; omega) (key_is I ht) hd fun h' hm hs => ?_
  rotate_left
  · have e3 : xs.length = ks.length := by
      have := congrArg List.length w2
      simpa using this
    rw [e3]; exact Nat.le_trans hz (by decide)
  · rw [storedH_new e0] at hm
    obtain ⟨ob, es, ep, m1, m2, m3, m4, _⟩ := hm
    refine ⟨_, I.write (x := a) (e := a) (o := .ext (DRaw W a (xs ++ [(nk (n, c), t, u)]))) (by rw [w1]; trivial) (.inl rfl) (fun b q hb z => (hs.2 b hb).trans z) ⟨ob, m1⟩ ⟨⟨ob, es, ep, m1, m2, m3, by rw [← x.P, ← x.w]; exact m4⟩, ⟨ob, m1⟩, fun h1 h2 ⟨o', es', ep', r1, r2⟩ k => ⟨o', es', ep', k _ r1, r2⟩⟩, q u rv⟩
/-- {key: value} -/
def tDicD (W : Wc) (tk tv : TE) : TE := fun σ H Q => ∀ p, H p = none → tk σ (upd H p (.ext (DRaw W p []))) fun x H1 => tv σ H1 fun v H2 => ∃ t n c, x = .ref t ∧ SqT W.K H2 t [.int n, .bl c] ∧ H2 p = some (.ext (DRaw W p [])) ∧
  ((p == sysModules) = false → ∀ u, RelV v u → Q (.ref p) (upd H2 p (.ext (DRaw W p [(nk (n, c), t, u)]))))
theorem pe_dicD {W : Wc} (x : WX W X) (hu : X.A.units + 64 < cLine) {k v : Expr} {tk tv : TE} {pos : Pos} (hk : PE X k tk) (hv : PE X v tv) : PE X (.Dict [some k] [v] pos) (tDicD W tk tv) := by
  refine ⟨fun pins s σ H Q I q => ?_⟩
  have hn := I.hok.fresh (Nat.le_refl s.heap.objs.size)
  have new : ObjOk X.prog X.w (upd H s.heap.objs.size (.ext (DRaw W s.heap.objs.size []))) (s.heap.push { cls := .type "dict", data := .dict #[] }) s.heap.objs.size (.ext (DRaw W s.heap.objs.size [])) :=
    ⟨⟨_, #[], 0, Heap.get?_push_size _ rfl, ⟨rfl, rfl, rfl⟩, rfl, rfl⟩, ⟨_, Heap.get?_push_size _ rfl⟩, fun h1 h2 ⟨o', es', ep', r1, r2⟩ k => ⟨o', es', ep', k _ r1, r2⟩⟩
  have I1 := I.laid (a := s.heap.objs.size) (o := .ext (DRaw W s.heap.objs.size [])) (h' := s.heap.push { cls := .type "dict", data := .dict #[] }) (t' := s.toks) (fun _ _ q => Heap.get?_push_of_some _ q) (Nat.le_refl _) new
  rw [arm_eval_Dict, zip_pairTrees [some k] [v] X.env pos rfl rfl, dictDisplay_pairs (pairTrees [some k] [v] X.env pos) (by intro z; cases z) (by show 1 < 17; decide)]
  refine wpAny_bind (wpAny_standAt (wpAny_bind (wpAny_subDictH (knd := nestedKind X.prog X.w) (by show X.A.units + 8 < cLine; omega) (by show 1 ≤ 15; decide) ?_)))
  refine pairTrees_cons_walk (thn (hk.run pins _ σ _ _ I1 (q _ hn)) fun kv s1 ⟨y, H1, I2, ry, q1⟩ => thn (hv.run pins s1 σ H1 _ I2 q1) fun vv s2 ⟨z, H2, I3, rz, t, n, c, ey, ht, hp, q2⟩ => pairTrees_nil_walk ?_)
  subst ey
  cases ry
  rw [← x.K] at ht
  have hd := dic_h x I3 (ks := []) hp rfl .nil List.nodup_nil
  refine ⟨[(nk (n, c), t, vv)], ⟨rfl, rfl, key_is I3 ht, trivial⟩, hd, fun h' tk hm hs => wpAny_pure ?_⟩
  have hm' : h'.DictOfH (nestedKind X.prog X.w) s.heap.objs.size [(nk (n, c), t, vv)] := hm
  obtain ⟨ob, es, ep, m1, m2, m3, m4, _⟩ := hm'
  have ns : (s.heap.objs.size == sysModules) = false := beq_eq_false_iff_ne.mpr (Nat.ne_of_gt I.big)
  exact ⟨.ref s.heap.objs.size, _, I3.write (x := s.heap.objs.size) (e := s.heap.objs.size) (o := .ext (DRaw W s.heap.objs.size [(nk (n, c), t, vv)])) (by rw [hp]; trivial) (.inl rfl) (fun b q hb z => (hs.2 b hb).trans z) ⟨ob, m1⟩ ⟨⟨ob, es, ep, m1, m2, m3, by rw [← x.P, ← x.w]; exact m4⟩, ⟨ob, m1⟩, fun h1 h2 ⟨o', es', ep', r1, r2⟩ k => ⟨o', es', ep', k _ r1, r2⟩⟩, rfl, q2 ns vv rz⟩
end
section
variable {W : Wc} {ta tb te tk tv : TE} {pa pb pe pk pv' : PE'}
theorem ss_ownD {i : Nat} (hk : SndE W tk pk) (hv : SndE W tv pv') : SndS W (tAsg (tDicD W tk tv) (gName i)) (sOwnD i pk pv') := fun Hs Ha Hl H σ env D Z ⟨O, Hm, G⟩ h qn qr qf => fun p hp => by
  have g0 := grow_own (o := .ext (DRaw W p [])) G.rep.sub hp
  refine hk O Hm _ σ env _ _ (G.rep.grow g0) h fun x kx dx Hm1 H1 g1 i1 h1 => hv O Hm1 H1 σ env _ _ ((G.rep.grow g0).grow g1) h1 fun v kv d Hm2 H2 g2 i2 h2 => ?_
  split at h2
  · rename_i n c
    obtain ⟨hs, h3⟩ := h2
    have g := (g0.trans g1).trans g2
    have G2 := G.grow g
    have i3 := i1.grow ((G.rep.grow g0).grow g1) g2
    obtain ⟨t, rfl, ht⟩ := tup2 G2.rep i3
    have hO : O p = none := by
      cases q : O p with
      | none => rfl
      | some j => obtain ⟨_, o, e, _⟩ := G.rep.own p j q; rw [hp] at e; cases e
    have hp2 : H2 p = some (.ext (DRaw W p [])) := g2.ex _ _ (g1.ex _ _ upd_same)
    have hm2 : Hm2 p = none := by
      cases q : Hm2 p with
      | none => rfl
      | some o =>
        rcases g2.fresh _ _ q with z | z
        · rcases g1.fresh _ _ z with z | z
          · rw [G.rep.sub.back hp] at z; cases z
          · rw [upd_same] at z; cases z
        · rw [g1.ex _ _ upd_same] at z; cases z
    refine ⟨t, n, c, rfl, ht, hp2, fun ns u ru => ?_⟩
    have htu : SqT W.K (uni O Hm2 H2) t [.int n, .bl c] := by
      have z := i3.uni G2.rep
      simp only [Is, IsAll] at z
      obtain ⟨t', ts, e, w1, v1, r1, rfl, rfl, v2, r2, rfl, rfl, rfl⟩ := z
      cases e
      exact w1
    -- the new dict is the slot's own
    let H3 := upd H2 p (.ext (DRaw W p [(nk (n, c), t, u)]))
    have G3 : GoR W Hs Ha Hl O Hm2 H3 σ env := by
      refine ⟨⟨G2.rep.len, G2.rep.sub.mut hm2, fun a j e => ?_, fun j s e => ?_⟩, G2.ex.mut (G.ex.back hp), G2.fr, G2.ow, G2.lo⟩
      · obtain ⟨w1, o, w2, w3⟩ := G2.rep.own a j e
        have ne : a ≠ p := fun z => by subst z; rw [hO] at e; cases e
        exact ⟨w1, o, by rw [show H3 a = H2 a from upd_ne ne]; exact w2, w3⟩
      · have z := G2.rep.slots j s e
        have ne : ∀ {x j}, O x = some j → x ≠ p := fun {x j} h1 h2 => by subst h2; rw [hO] at h1; cases h1
        have hu : Ex (uni O Hm2 H2) (uni O Hm2 H3) := fun a o e => by
          unfold BB.uni at e ⊢
          split at e
          · rename_i hs
            obtain ⟨jj, hj⟩ := Option.isSome_iff_exists.mp hs
            rw [if_pos hs, show H3 a = H2 a from upd_ne (ne hj)]; exact e
          · rename_i hs; rw [if_neg hs]; exact e
        cases s with
        | no => trivial
        | sh d => exact z
        | ow ds => obtain ⟨b, vs, q1, q2, q3, q4⟩ := z; exact ⟨b, vs, q1, q2, by rw [show H3 b = H2 b from upd_ne (ne q2)]; exact q3, q4⟩
        | ow2 dss =>
          obtain ⟨b, as, q1, q2, q3, q4, q5⟩ := z
          exact ⟨b, as, q1, q2, by rw [show H3 b = H2 b from upd_ne (ne q2)]; exact q3, q4, paired_mono (fun b ds ⟨w1, vs, w2, w3⟩ => ⟨w1, vs, by rw [show H3 b = H2 b from upd_ne (ne w1)]; exact w2, w3⟩) q5⟩
        | owd ks ds => obtain ⟨b, vs, q1, q2, q3, q4⟩ := z; exact ⟨b, vs, q1, q2, q3.mono hu, q4⟩
    refine qn _ H3 _ ⟨_, Hm2, G3.own (S := [p]) (i := i) (v := .ref p) (sl := .owd [(n, c)] [d]) (fun x hx => ?_) ⟨p, [v], rfl, by simp, ⟨⟨[(nk (n, c), t, u)], ?_, rfl, .cons ?_ .nil, .cons ru .nil⟩, by simp, ns⟩, .one (kd_s i2 hs)⟩⟩ h3
    · have e : x = p := by simpa using hx
      subst e
      exact ⟨hm2, G.ex.back hp, hO, _, upd_same, trivial⟩
    · unfold BB.uni; simp only [List.mem_singleton, if_pos, Option.isSome_some]; exact upd_same
    · rcases htu with (q | ⟨o', q⟩) | q
      · refine .inl (.inl ?_)
        have z := uni_tup G2.rep q
        unfold BB.uni at q ⊢
        rw [z] at q
        have q' : Hm2 t = some (.tup [.int n, .bl c]) := q
        have ne : t ≠ p := fun e => by subst e; rw [hm2] at q'; cases q'
        simp only [List.mem_singleton, if_neg ne, z]
        exact q'
      · refine .inl (.inr ⟨o', ?_⟩)
        have z := uni_frz G2.rep q
        unfold BB.uni at q ⊢
        rw [z] at q
        have q' : Hm2 t = some (.frz o' (.tup [.int n, .bl c])) := q
        have ne : t ≠ p := fun e => by subst e; rw [hm2] at q'; cases q'
        simp only [List.mem_singleton, if_neg ne, z]
        exact q'
      · exact .inr q
  · exact h2.elim
end
end BB
end
section
set_option maxRecDepth 100000
set_option maxHeartbeats 4000000
/-! comp: from the program's text to the pure layer. -/
namespace BB
open PySem L2

inductive GE where
  | call (S : SpecT) | fresh (S : SpecT) | never | make (S : SpecT)
structure Par where
  N : List Str
  G : List (Str × GE)
  cs : List (Str × D)
  mu : List Nat
  mu2 : List Nat
  fz : List (Nat × Nat)
  fr : Bool
structure Bl where
  sc : Scope
  fn : Str → Bool
def ixOf : List Str → Str → Option Nat
  | [], _ => none
  | y :: N, x => match decide (y = x) with
    | true => some 0
    | false => (ixOf N x).map (· + 1)
theorem ixOf_get : ∀ {N : List Str} {x : Str} {i : Nat}, ixOf N x = some i → N[i]? = some x
  | [], x, i, h => by cases h
  | y :: N, x, i, h => by
    unfold ixOf at h
    by_cases e : y = x
    · rw [decide_eq_true e] at h
      cases h
      subst e; rfl
    · rw [decide_eq_false e] at h
      cases q : ixOf N x with
      | none => rw [q] at h; cases h
      | some j =>
        rw [q] at h
        cases h
        show (y :: N)[j + 1]? = some x
        rw [List.getElem?_cons_succ]
        exact ixOf_get q
structure Fns where
  E : Bl → Expr → Option PE'
  T : Bl → Expr → Option PT'
  W : Bl → Expr → Option PT'
  C : Bl → Expr → CmpOp → Expr → Option PE'
  A : Bl → List Expr → Option PA'
  F : Bl → Expr → Option PF'
  FF : Bl → Expr → Option PFF'
  I : Bl → Expr → Option PI'
def isK (k : Option NameKind) (j : NameKind) : Bool := decide (k = some j)
def visB (b : Bl) (x : Str) : Bool := isK (b.sc.names.lookup x) .local || isK (b.sc.names.lookup x) .cell || isK (b.sc.names.lookup x) .free
def okNm (x : Str) : Bool := !(x == ("__debug__" : Str)) && !(x == ("__classdict__" : Str)) && !decide (x = "__name__")
def glB (b : Bl) (x : Str) : Bool := isK (b.sc.names.lookup x) .globalImplicit && okNm x
/-- a target; the slots that it stores -/
def cG (N : List Str) (b : Bl) : Expr → Option (PG' × List Nat)
  | .Name x _ => match ixOf N x with
    | some i => if (isK (b.sc.names.lookup x) .local || (isK (b.sc.names.lookup x) .cell && b.fn x)) = true then some (gName' i, [i]) else none
    | none => none
  | _ => none
def cGs (N : List Str) (b : Bl) : List Expr → Option (PGs' × List Nat)
  | [] => some (gNil', [])
  | e :: es => match cG N b e, cGs N b es with
    | some (g, is), some (r, js) => some (gCons' g r, is ++ js)
    | _, _ => none
def cT (N : List Str) (b : Bl) : Expr → Option (PG' × List Nat)
  | .Tuple es k _ => match cGs N b es with
    | some (r, is) => some (gTup' es.length r, is)
    | none => none
  | e => cG N b e
def ownOf (N : List Str) (sc : Scope) : List (Str × Nat) := sc.names.filterMap fun y => match y.2 with
  | .local => (ixOf N y.1).map fun i => (y.1, i)
  | .cell => (ixOf N y.1).map fun i => (y.1, i)
  | _ => none
def blkOf (b : Bl) (sc : Scope) : Bl := ⟨relS sc b.sc, fun x => sc.names.lookup x == some .cell⟩
def tyOf : Str → Option Ty := fun x => if x = "int" then some .int else if x = "bool" then some .bool else if x = "str" then some .str else if x = "list" then some .lst else if x = "tuple" then some .tup else none
def cIfs (r : Fns) (b : Bl) : List Expr → Option PT'
  | [] => some tYes'
  | [t] => r.T b t
  | _ => none
def cComp (p : Par) (r : Fns) (b : Bl) (elt : Expr) (gs : List Comprehension) (sc : Scope) : Option PF' := match gs with
  | [⟨tg, it, ifs, 0⟩] =>
    if blkC p.N b.sc sc (ownOf p.N sc) = true then
      match cT p.N (blkOf b sc) tg, r.I b it, cIfs r (blkOf b sc) ifs, r.E (blkOf b sc) elt with
      | some (g, is), some i, some t, some e => if is.all (fun j => decide (j ∈ (ownOf p.N sc).map (·.2))) = true then some (fComp i g t e ((ownOf p.N sc).map (·.2))) else none
      | _, _, _, _ => none
    else none
  | _ => none
def cCompF (p : Par) (r : Fns) (b : Bl) (elt : Expr) (gs : List Comprehension) (sc : Scope) : Option PFF' := match gs with
  | [⟨tg, it, [], 0⟩] =>
    if blkC p.N b.sc sc (ownOf p.N sc) = true then
      match cT p.N (blkOf b sc) tg, r.I b it, r.F (blkOf b sc) elt with
      | some (g, is), some i, some e => if is.all (fun j => decide (j ∈ (ownOf p.N sc).map (·.2))) = true then some (ffComp i g e ((ownOf p.N sc).map (·.2))) else none
      | _, _, _ => none
    else none
  | _ => none
def cO (r : Fns) (b : Bl) : Option Expr → Option PO'
  | none => some oNo
  | some e => (r.E b e).map oYes
def isSlice : Expr → Bool
  | .Slice .. => true
  | _ => false
noncomputable def stepC (r : Fns) (b : Bl) (l : Expr) (op : CmpOp) (rt : Expr) : Option PE' :=
  match behindInMarks op rt, r.E b l with
  | false, some a => match op with
    | .Is => match rt with
      | .Constant .none _ _ => some (pIsN false a)
      | .Constant (.bool true) _ _ => some (pIsT false a)
      | _ => none
    | .IsNot => match rt with
      | .Constant .none _ _ => some (pIsN true a)
      | .Constant (.bool true) _ _ => some (pIsT true a)
      | _ => none
    | .Eq => (r.E b rt).map fun z => pEq a z
    | .NotEq => (r.E b rt).map fun z => pNe a z
    | .Lt => (r.E b rt).map fun z => pCmp (fun i j => decide (i < j)) a z
    | .LtE => (r.E b rt).map fun z => pCmp (fun i j => decide (i ≤ j)) a z
    | .Gt => (r.E b rt).map fun z => pCmp (fun i j => decide (j < i)) a z
    | .GtE => (r.E b rt).map fun z => pCmp (fun i j => decide (j ≤ i)) a z
    | .In => (r.E b rt).map fun z => pIn false a z
    | .NotIn => (r.E b rt).map fun z => pIn true a z
  | _, _ => none
def o2 {α β γ : Type} (f : α → β → γ) (a : Option α) (b : Option β) : Option γ := match a, b with
  | some x, some y => some (f x y)
  | _, _ => none
def cBin (op : Operator) (a b : PE') : Option PE' := match op with
  | .Add => some (pAdd a b)
  | .Sub => some (pSub a b)
  | .Mult => some (pMul a b)
  | .FloorDiv => some (pDiv a b)
  | .Mod => some (pMod a b)
  | .Pow => some (pPow a b)
  | _ => none
def cGl (p : Par) (r : Fns) (b : Bl) (x : Str) (e : Expr) (es : List Expr) : Option PE' := match p.G.lookup x with
  | some (.call S) => (r.A b (e :: es)).map fun a => pCall S a
  | some (.fresh S) => (r.A b (e :: es)).map fun a => pCallF S a
  | some (.make S) => (r.A b (e :: es)).map fun a => pCall S a
  | some .never => some fun _ _ => False
  | none => none
def cCall1 (p : Par) (r : Fns) (b : Bl) (x : Str) (e : Expr) : Option PE' :=
  if x = "len" then (r.E b e).map pLen
  else if x = "abs" then (r.E b e).map pAbs
  else if x = "max" then (r.E b e).map pMax
  else if x = "int" then (r.E b e).map pInt
  else cGl p r b x e []
def cCall2 (p : Par) (r : Fns) (b : Bl) (x : Str) (e f : Expr) : Option PE' :=
  if x = "min" then o2 pMin (r.E b e) (r.E b f)
  else if x = "gcd" then o2 pGcd (r.E b e) (r.E b f)
  else if x = "isinstance" then match f with
    | .Name t _ => match tyOf t with
      | some ty => if glB b t = true then (r.E b e).map fun a => pIsI a ty else none
      | none => none
    | _ => none
  else cGl p r b x e [f]
def cCall (p : Par) (r : Fns) (b : Bl) (x : Str) : List Expr → Option PE'
  | [] => none
  | [e] => cCall1 p r b x e
  | [e, f] => cCall2 p r b x e f
  | e :: es => cGl p r b x e es
def atOf (f : Str) : Option At := if f = sGoods then some .goods else if f = sBuys then some .buys else if f = sLinks then some .links else none
noncomputable def stepE (p : Par) (r : Fns) (b : Bl) : Expr → Option PE'
  | .Name x _ => if okNm x = true then (if visB b x = true then (ixOf p.N x).map pVar else if glB b x = true then (p.cs.lookup x).map pC else none) else none
  | .Constant (.int i) _ _ => some (pC (.int i))
  | .Constant (.bool i) _ _ => some (pC (.bl i))
  | .Constant .none _ _ => some (pC .non)
  | .Constant (.str i) _ _ => some (pC (.str i))
  | .BinOp a op c _ => match r.E b a, r.E b c with
    | some x, some y => cBin op x y
    | _, _ => none
  | .UnaryOp .USub a _ => (r.E b a).map pNeg
  | .UnaryOp .Not a _ => (r.E b a).map pNot
  | .Compare a [op] [c] _ => r.C b a op c
  | .BoolOp _ [a] _ => r.E b a
  | .BoolOp .And (a :: c :: rest) pos => o2 pAnd (r.E b a) (r.E b (.BoolOp .And (c :: rest) pos))
  | .BoolOp .Or (a :: c :: rest) pos => o2 pOr (r.E b a) (r.E b (.BoolOp .Or (c :: rest) pos))
  | .IfExp t a c _ => match r.T b t, r.E b a, r.E b c with
    | some t, some x, some y => some (pIf t x y)
    | _, _, _ => none
  | .Subscript a s pos => match isSlice s with
    | true => (r.F b (.Subscript a s pos)).map pF
    | false => o2 pIx (r.E b a) (r.E b s)
  | .Tuple es _ _ => (r.A b es).map pTup
  | .List es pos => (r.F b (.List es pos)).map pF
  | .ListComp e gs sc pos => (r.F b (.ListComp e gs sc pos)).map pF
  | .Attribute (.Name x px) f _ => match atOf f with
    | some f => (r.E b (.Name x px)).map (pFld f)
    | none => none
  | .Call (.Name x px) args [] pos => if glB b x = true then (if x = "list" then (r.F b (.Call (.Name x px) args [] pos)).map pF else cCall p r b x args) else none
  | .Call (.Attribute (.Name x px) m apos) [] [] pos => if m = "bit_length" ∧ (apos.endLine == pos.line) = true then (r.E b (.Name x px)).map pBits else none
  | .Call (.Attribute (.List es lp) m apos) [a] [] pos => if m = "index" ∧ (apos.endLine == pos.line) = true then o2 pIndex (r.E b (.List es lp)) (r.E b a) else none
  | _ => none
def stepF (p : Par) (r : Fns) (b : Bl) : Expr → Option PF'
  | .List es _ => (r.A b es).map fLst
  | .ListComp e gs sc _ => cComp p r b e gs sc
  | .BinOp a .Add c _ => o2 fCat (r.E b a) (r.E b c)
  | .Call (.Name x _) [a] [] _ => if x = "list" ∧ glB b x = true then (r.E b a).map fList else none
  | .Subscript a (.Slice none none (some (.UnaryOp .USub (.Constant (.int 1) _ _) _)) _) _ => (r.E b a).map fRev
  | .Subscript a (.Slice lo hi none _) _ => match r.E b a, cO r b lo, cO r b hi with
    | some x, some l, some h => some (fSl x l h)
    | _, _, _ => none
  | _ => none
def stepT (r : Fns) (b : Bl) : Expr → Option PT'
  | .UnaryOp .Not a _ => (r.T b a).map tNot'
  | .BoolOp op vs pos => r.W b (.BoolOp op vs pos)
  | .Compare a [op] [c] _ => (r.C b a op c).map tOf
  | .Name x pos => (r.E b (.Name x pos)).map tTru
  | .Constant k n pos => (r.E b (.Constant k n pos)).map tTru
  | .Call f a k pos => (r.E b (.Call f a k pos)).map tTru
  | .Subscript a s pos => (r.E b (.Subscript a s pos)).map tTru
  | _ => none
def stepW (r : Fns) (b : Bl) : Expr → Option PT'
  | .BoolOp .And [a] _ => r.T b a
  | .BoolOp .Or [a] _ => r.T b a
  | .BoolOp .And (a :: c :: rest) pos => o2 tAnd' (r.T b a) (r.W b (.BoolOp .And (c :: rest) pos))
  | .BoolOp .Or (a :: c :: rest) pos => o2 tOr' (r.T b a) (r.W b (.BoolOp .Or (c :: rest) pos))
  | _ => none
def stepA (r : Fns) (b : Bl) : List Expr → Option PA'
  | [] => some aNil
  | e :: es => o2 aCons (r.E b e) (r.A b es)
def stepI (r : Fns) (b : Bl) : Expr → Option PI'
  | .Call (.Name x px) args [] pos => if x = "range" then (match args with
      | [a] => if glB b x = true then (r.E b a).map iRange else none
      | _ => none) else (r.E b (.Call (.Name x px) args [] pos)).map iList'
  | .Tuple es k pos => (r.E b (.Tuple es k pos)).map iTup'
  | .Set .. => none
  | e => (r.E b e).map iList'
def stepFF (p : Par) (r : Fns) (b : Bl) : Expr → Option PFF'
  | .ListComp e gs sc _ => cCompF p r b e gs sc
  | _ => none
noncomputable def stepR (p : Par) (r : Fns) : Fns where
  E := stepE p r
  T := stepT r
  W := stepW r
  C := stepC r
  A := stepA r
  F := stepF p r
  FF := stepFF p r
  I := stepI r
def fns0 : Fns := ⟨fun _ _ => none, fun _ _ => none, fun _ _ => none, fun _ _ _ _ => none, fun _ _ => none, fun _ _ => none, fun _ _ => none, fun _ _ => none⟩
noncomputable def fnsN (p : Par) : Nat → Fns
  | 0 => fns0
  | n + 1 => stepR p (fnsN p n)
/-! statements -/
def isLC : Expr → Bool
  | .ListComp .. => true
  | .SetComp .. => true
  | .DictComp .. => true
  | _ => false
/-- name = e, a comprehension that is stored within its own frame -/
def lcStores (b : Bl) (y : Str) (py : Pos) : Expr → Bool
  | .ListComp _ _ sc pos => isK (b.sc.names.lookup y) .local && (py.line == pos.line) && !(sc.names.any fun z => z.1 == y && (z.2 == .local || z.2 == .cell))
  | _ => false
def lcPlain (b : Bl) (y : Str) : Expr → Bool
  | .ListComp .. => isK (b.sc.names.lookup y) .cell
  | .SetComp .. => false
  | .DictComp .. => false
  | _ => true
def isTupE : Expr → Bool
  | .Tuple .. => true
  | .List .. => true
  | _ => false
noncomputable def cAsgName (p : Par) (r : Fns) (b : Bl) (y : Str) (py : Pos) (v : Expr) : Option PS' :=
  match cG p.N b (.Name y py) with
  | some (g, [i]) =>
    if (lcStores b y py v || lcPlain b y v) = true then
      if i ∈ p.mu then (match v with
        | .Dict [some k] [w] _ => o2 (sOwnD i) (r.E b k) (r.E b w)
        | _ => (r.F b v).map (sOwn i))
      else if i ∈ p.mu2 then (r.FF b v).map (sOwn2 i)
      else (r.E b v).map (sSet (gName' i))
    else none
  | _ => none
noncomputable def stepS (p : Par) (r : Fns) (rS : Bl → List Stmt → Option PS') (b : Bl) : Stmt → Option PS'
  | .Return (some e) _ => if p.fr = true then (r.F b e).map sRetF else (r.E b e).map sRet
  | .Assign [.Name y py] v _ => cAsgName p r b y py v
  | .Assign [.Tuple ts k pt] v _ => match v with
    | .Tuple vs k2 _ => match ts, vs with
      | [.Name x px, .Name y py], [v1, v2] => match ixOf p.N x, ixOf p.N y with
        | some i, some j => if (isK (b.sc.names.lookup x) .local && isK (b.sc.names.lookup y) .local && (px.line == py.line) && decide (i ≠ j)) = true then
            (match v1, v2 with
              | .Name n pn, .BinOp l2 o2 r2 p2 => if okNm n = true then (r.A b [.Name n pn, .BinOp l2 o2 r2 p2]).map (sPar i j) else none
              | _, _ => none) else none
        | _, _ => none
      | _, _ => none
    | _ => if (isLC v || isTupE v) = true then none else match cT p.N b (.Tuple ts k pt) with
      | some (g, _) => (r.E b v).map (sSet g)
      | none => none
  | .Assign [.Subscript (.Name x px) e ps] v _ => if (isLC v || isSlice e) = true then none else match ixOf p.N x with
    | some i => if (visB b x && okNm x) = true then o2 (sPut i) (r.E b e) (r.E b v) else none
    | none => none
  | .Assign [.Subscript (.Subscript (.Name x px) e1 p1) e2 ps] v _ => if (isLC v || isSlice e1 || isSlice e2) = true then none else match ixOf p.N x with
    | some i => if (visB b x && okNm x) = true then (match r.E b e1, r.E b e2, r.E b v with
      | some a, some c, some d => some (sPut2 i a c d)
      | _, _, _ => none) else none
    | none => none
  | .Expr (.Call (.Attribute (.Name x px) m apos) [a] [] cpos) _ => if m = "append" ∧ (apos.endLine == cpos.line) = true then match ixOf p.N x with
      | some i => if (visB b x && okNm x) = true then (r.E b a).map (sApp i) else none
      | none => none
    else none
  | .If t s1 s2 _ => match r.T b t, rS b s1, rS b s2 with
    | some t, some a, some c => some (sIf t a c)
    | _, _, _ => none
  | .For tg it body [] _ => match cT p.N b tg, r.I b it, rS b body with
    | some (g, _), some i, some s => some (sFor i g s)
    | _, _, _ => none
  | .While t body [] _ => o2 sWhile (r.T b t) (rS b body)
  | _ => none
def lineOf : Stmt → Nat
  | .Return _ pos => pos.line
  | .Assign _ _ pos => pos.line
  | .Expr _ pos => pos.line
  | .If _ _ _ pos => pos.line
  | .For _ _ _ _ pos => pos.line
  | .While _ _ _ pos => pos.line
  | _ => 0
def frzs (fz : List (Nat × Nat)) (n : Nat) (s : PS') : PS' := fz.foldr (fun q s => if q.1 = n then sSeq (sFrz q.2) s else s) s
noncomputable def cSs (p : Par) (r : Fns) : Nat → Bl → List Stmt → Option PS'
  | 0, _, _ => none
  | n + 1, b, sts => match sts with
    | [] => some sNext
    | st :: rest => match stepS p r (cSs p r n) b st, cSs p r n b rest with
      | some s, some t => some (frzs p.fz (lineOf st) (sSeq s t))
      | _, _ => none
/-- a def's body -/
noncomputable def comp (p : Par) (sc : Scope) (body : List Stmt) : Option PS' := cSs p (fnsN p 40) 40 ⟨sc, fun _ => true⟩ body
end BB
end
section
set_option maxRecDepth 100000
set_option maxHeartbeats 4000000
/-! comp is sound: expressions. -/
namespace BB
open PySem L2 PyProof.Rows

structure Ctx where
  W : Wc
  mg : Str → Option Value
  base : Heap
  N : List Str
  k : Nat
structure In (c : Ctx) (b : Bl) (X : Cx) : Prop where
  x : WX c.W X
  mg : X.mg = c.mg
  base : X.base = c.base
  N : X.N = c.N
  sc : X.env.scope = b.sc
  kind : X.env.scope.kind = .function
  fn : X.fn = b.fn
  calm : X.calm = true
  room : Room c.k X.A
  xe : X.xe = fun _ _ => False
theorem In.hu {c : Ctx} {b : Bl} {X : Cx} (h : In c b X) : X.A.units + 64 < cLine := h.room.units
/-- the expression's rule, and that of name = expression -/
def PEs (X : Cx) (b : Bl) (e : Expr) (te : TE) : Prop := PE X e te ∧ ∀ (i : Nat) (y : Str) (py spos : Pos), X.N[i]? = some y → Loc X.env.scope y → (X.fn y = true ∨ X.env.scope.names.lookup y = some .local) → (lcStores b y py e || lcPlain b y e) = true → X.N.Nodup → PS X (.Assign [.Name y py] e spos) (tAsg te (gName i))
def plainE : Expr → Bool
  | .Starred .. => false
  | .Slice .. => false
  | .Set .. => false
  | _ => true
def CE (c : Ctx) (b : Bl) (e : Expr) (p : PE') : Prop := (∃ te, (∀ X, In c b X → PEs X b e te) ∧ SndE c.W te p) ∧ plainE e = true
def CF (c : Ctx) (b : Bl) (e : Expr) (p : PF') : Prop := (∃ te, (∀ X, In c b X → PEs X b e te) ∧ SndF c.W te p) ∧ plainE e = true
def CFF (c : Ctx) (b : Bl) (e : Expr) (p : PFF') : Prop := (∃ te, (∀ X, In c b X → PEs X b e te) ∧ SndFF c.W te p) ∧ plainE e = true
def CT (c : Ctx) (b : Bl) (e : Expr) (p : PT') : Prop := ∃ tt, (∀ X, In c b X → PT X e tt) ∧ SndT c.W tt p
def CW (c : Ctx) (b : Bl) (e : Expr) (p : PT') : Prop := ∃ tt, (∀ X, In c b X → PW X e tt) ∧ SndT c.W tt p
def CC (c : Ctx) (b : Bl) (l : Expr) (op : CmpOp) (rt : Expr) (p : PE') : Prop := ∃ r ta tb, (∀ X, In c b X → OpR X (compareOp op) r ∧ PE X l ta ∧ PE X rt tb) ∧ behindInMarks op rt = false ∧ SndE c.W (tOp r ta tb) p
def CA (c : Ctx) (b : Bl) (es : List Expr) (p : PA') : Prop := (∃ ta, (∀ X, In c b X → PA X es ta) ∧ SndA c.W ta p) ∧ es.all plainE = true
def CI (c : Ctx) (b : Bl) (e : Expr) (p : PI') : Prop := (∃ ti, (∀ X tg, In c b X → PI X tg e ti) ∧ SndI c.W ti p) ∧ plainE e = true
structure OK (c : Ctx) (r : Fns) : Prop where
  E : ∀ b e p, r.E b e = some p → CE c b e p
  T : ∀ b e p, r.T b e = some p → CT c b e p
  W : ∀ b e p, r.W b e = some p → CW c b e p
  C : ∀ b l op rt p, r.C b l op rt = some p → CC c b l op rt p
  A : ∀ b es p, r.A b es = some p → CA c b es p
  F : ∀ b e p, r.F b e = some p → CF c b e p
  FF : ∀ b e p, r.FF b e = some p → CFF c b e p
  I : ∀ b e p, r.I b e = some p → CI c b e p
def Callable (c : Ctx) (x : Str) (sp : Sp) : Prop := ∃ f fd ps j, c.mg x = some (.ref f) ∧ PySem.W.keepIn c.W.K (.ref f) = true ∧ FnOk c.W.P c.W.w c.W.K c.mg c.base CX0 j f fd ps sp ∧ Binds c.W.K fd ps [] ∧ j ≤ c.k
def bltNames : List Str := ["len", "abs", "max", "min", "int", "isinstance", "list", "range", "bool", "str", "tuple"]
structure GOk (c : Ctx) (G : List (Str × GE)) (cs : List (Str × D)) : Prop where
  call : ∀ x S, G.lookup x = some (.call S) → Callable c x (spOf c.W S)
  fresh : ∀ x S, G.lookup x = some (.fresh S) → Callable c x (spFr c.W S)
  make : ∀ x S, G.lookup x = some (.make S) → ∃ sp f fd ps j, Mk c.W.K c.W.C f ∧ FnOk c.W.P c.W.w c.W.K c.mg c.base CX0 j f fd ps sp ∧ j + 1 ≤ c.k ∧ c.mg x = some (.ref c.W.C) ∧ Binds c.W.K fd ps [] ∧
    ∀ ta pr, SndA c.W ta pr → SndE c.W (tMake c.W.C sp [] E0 ta) (pCall S pr)
  cst : ∀ x d, cs.lookup x = some d → ∃ a, c.mg x = some (.ref a) ∧ ∀ H, Is c.W H d (.ref a)
  blt : ∀ x ∈ bltNames, c.mg x = none
  gcd : c.mg "gcd" = some (.builtin "math.gcd")
  dat : DatOk c.W
  nd : c.N.Nodup
/-! ### small facts of the text -/
theorem star_cons {e : Expr} {es : List Expr} {env : PySem.Env} (h : plainE e = true) : starEach (e :: es) env = (false, eval e env) :: starEach es env := by
  cases e <;> first | rfl | cases h
theorem star_any : ∀ {es : List Expr} {env : PySem.Env} {pos : Pos}, es.all plainE = true → (backTo pos (starEach es env)).any (·.1) = false
  | [], _, _, _ => rfl
  | e :: es, env, pos, h => by
    rw [List.all_cons, Bool.and_eq_true] at h
    rw [star_cons h.1]
    show (false || (backTo pos (starEach es env)).any (·.1)) = false
    rw [Bool.false_or]
    exact star_any h.2
theorem plain_ix {e : Expr} (h : plainE e = true) : PlainIx e := by
  cases e <;> first | (intro o i; rfl) | cases h
theorem swaps_plain {v : Expr} {t : Option Expr} {l : Nat} {env : PySem.Env} (h : isLC v = false) : swapsWith v t l env = pure false := by
  cases v <;> first | rfl | cases h
theorem plain_set {e : Expr} (h : plainE e = true) (env : PySem.Env) (x : Value) : foldedSetIterable e env x = pure x := by
  cases e <;> first | rfl | cases h
theorem pes_of {X : Cx} {b : Bl} {e : Expr} {te : TE} (h : PE X e te) (hl : isLC e = false) : PEs X b e te :=
  ⟨h, fun i y py spos hN hx hf _ nd => ps_set nd hN hx h (swaps_plain hl) hf⟩
theorem ok0 (c : Ctx) : OK c fns0 where
  E := fun _ _ _ h => by cases h
  T := fun _ _ _ h => by cases h
  W := fun _ _ _ h => by cases h
  C := fun _ _ _ _ _ h => by cases h
  A := fun _ _ _ h => by cases h
  F := fun _ _ _ h => by cases h
  FF := fun _ _ _ h => by cases h
  I := fun _ _ _ h => by cases h
theorem isK_eq {k : Option NameKind} {j : NameKind} (h : isK k j = true) : k = some j := of_decide_eq_true h
theorem okNm_d {x : Str} (h : okNm x = true) : (x == ("__debug__" : Str)) = false ∧ (x == ("__classdict__" : Str)) = false ∧ x ≠ "__name__" := by
  unfold okNm at h
  simp only [Bool.and_eq_true, Bool.not_eq_true', decide_eq_false_iff_not] at h
  exact ⟨h.1.1, h.1.2, h.2⟩
section
variable {c : Ctx} {b : Bl} {X : Cx}
theorem In.vis (h : In c b X) {x : Str} (hv : visB b x = true) : Vis X.env.scope x := by
  unfold visB at hv
  simp only [Bool.or_eq_true] at hv
  rw [h.sc]
  rcases hv with (hv | hv) | hv
  · exact .inl (isK_eq hv)
  · exact .inr (.inl (isK_eq hv))
  · exact .inr (.inr (isK_eq hv))
theorem In.gl (h : In c b X) {x : Str} (hv : glB b x = true) : Gl X x ∧ okNm x = true := by
  unfold glB at hv
  rw [Bool.and_eq_true] at hv
  refine ⟨?_, hv.2⟩
  show X.env.scope.names.lookup x = _
  rw [h.sc]
  exact isK_eq hv.1
theorem ce_var {x : Str} {pos : Pos} {i : Nat} (hi : ixOf c.N x = some i) (hv : visB b x = true) (hn : okNm x = true) : CE c b (.Name x pos) (pVar i) :=
  ⟨⟨tVar i, fun X h => pes_of (pe_var (by rw [h.N]; exact ixOf_get hi) (h.vis hv) (okNm_d hn).1 (okNm_d hn).2.1) rfl, se_var⟩, rfl⟩
variable {G : List (Str × GE)} {cs : List (Str × D)}
theorem ce_cst (g : GOk c G cs) {x : Str} {pos : Pos} {d : D} (hd : cs.lookup x = some d) (hv : glB b x = true) : CE c b (.Name x pos) (pC d) := by
  obtain ⟨a, h1, h2⟩ := g.cst x d hd
  exact ⟨⟨tC (.ref a), fun X h => pes_of (pe_glob (h.gl hv).1 (by rw [h.mg]; exact h1) rfl (okNm_d (h.gl hv).2).1) rfl, se_c h2⟩, rfl⟩
/-! ### a comprehension -/
theorem In.blk (h : In c b X) (s : Shared) (H : Hp) (sc : Scope) (C : Addr) (cl : List (Str × Addr)) (fp : List Addr) (hk : sc.kind = .function) : In c (blkOf b sc) (X.blk s H sc (compEnvC sc cl C X.env) fp) := by
  refine ⟨⟨h.x.P, h.x.w, h.x.K⟩, h.mg, h.base, h.N, ?_, ?_, rfl, h.calm, h.room, rfl⟩
  · show relS sc X.env.scope = relS sc b.sc
    rw [h.sc]
  · exact hk
theorem cG_ok {N : List Str} {e : Expr} {g : PG'} {is : List Nat} (hN : c.N = N) (nd : N.Nodup) (h : cG N b e = some (g, is)) : ∃ tg, (∀ X, In c b X → PG X e tg) ∧ SndG c.W tg g ∧ (∀ vs, (∀ j ∈ is, j ∈ vs) → OnlyG tg vs) ∧ (∀ v σ H Q Q', (∀ a b, Q a b → Q' a b) → tg v σ H Q → tg v σ H Q') ∧ plainE e = true := by
  cases e with
  | Name x pos =>
    unfold cG at h
    cases hi : ixOf N x with
    | none => simp only [hi] at h; cases h
    | some i =>
      simp only [hi] at h
      split at h
      · rename_i hc
        cases h
        refine ⟨gName i, fun X hX => ?_, sg_name, fun vs hv => og_name (hv i (by simp)), fun v σ H Q Q' hq h => hq _ _ h, rfl⟩
        simp only [Bool.or_eq_true, Bool.and_eq_true] at hc
        refine pg_name (by rw [hX.N, hN]; exact nd) (by rw [hX.N, hN]; exact ixOf_get hi) ?_ ?_
        · show X.env.scope.names.lookup x = _ ∨ X.env.scope.names.lookup x = _
          rw [hX.sc]
          rcases hc with hc | ⟨hc, _⟩
          · exact .inl (isK_eq hc)
          · exact .inr (isK_eq hc)
        · rw [hX.sc, hX.fn]
          rcases hc with hc | ⟨_, hc⟩
          · exact .inr (isK_eq hc)
          · exact .inl hc
      · cases h
  | _ => unfold cG at h; cases h
theorem cGs_ok {N : List Str} (hN : c.N = N) (nd : N.Nodup) : ∀ {es : List Expr} {g : PGs'} {is : List Nat}, cGs N b es = some (g, is) → ∃ tg, (∀ X, In c b X → PGs X es tg) ∧ SndGs c.W tg g ∧ (∀ vs, (∀ j ∈ is, j ∈ vs) → OnlyGs tg vs) ∧ (∀ env, (assignEach es env).length = es.length ∧ (assignEach es env).findIdx? (·.1) = none)
  | [], g, is, h => by
    unfold cGs at h
    cases h
    exact ⟨gNil, fun X _ => pgs_nil, sgs_nil, fun vs _ => ogs_nil, fun env => ⟨rfl, rfl⟩⟩
  | e :: es, g, is, h => by
    unfold cGs at h
    cases h1 : cG N b e with
    | none => rw [h1] at h; cases h
    | some q1 =>
      obtain ⟨g1, is1⟩ := q1
      cases h2 : cGs N b es with
      | none => rw [h1, h2] at h; cases h
      | some q2 =>
        obtain ⟨g2, is2⟩ := q2
        rw [h1, h2] at h
        cases h
        obtain ⟨t1, a1, a2, a3, a4, a5⟩ := cG_ok hN nd h1
        obtain ⟨t2, b1, b2, b3, b4⟩ := cGs_ok hN nd h2
        have hne : ∀ env, assignEach (e :: es) env = (false, assign e env) :: assignEach es env := fun env => by
          cases e <;> first | rfl | cases a5
        refine ⟨gCons t1 t2, fun X hX => pgs_cons (a1 X hX) (b1 X hX) (by rw [hne]; rfl), sgs_cons a2 b2, fun vs hv => ogs_cons a4 (a3 vs fun j hj => hv j (List.mem_append_left _ hj)) (b3 vs fun j hj => hv j (List.mem_append_right _ hj)), fun env => ?_⟩
        rw [hne]
        obtain ⟨e1, e2⟩ := b4 env
        refine ⟨by rw [List.length_cons, List.length_cons, e1], ?_⟩
        rw [List.findIdx?_cons, e2]
        rfl
theorem cT_ok {N : List Str} {e : Expr} {g : PG'} {is : List Nat} (hN : c.N = N) (nd : N.Nodup) (h : cT N b e = some (g, is)) : ∃ tg, (∀ X, In c b X → PG X e tg) ∧ SndG c.W tg g ∧ (∀ vs, (∀ j ∈ is, j ∈ vs) → OnlyG tg vs) := by
  have base : cG N b e = some (g, is) → _ := fun h => let ⟨tg, h1, h2, h3, _, _⟩ := cG_ok (c := c) hN nd h; (⟨tg, h1, h2, h3⟩ : ∃ tg, (∀ X, In c b X → PG X e tg) ∧ SndG c.W tg g ∧ (∀ vs, (∀ j ∈ is, j ∈ vs) → OnlyG tg vs))
  cases e with
  | Tuple es k pos =>
    unfold cT at h
    cases h1 : cGs N b es with
    | none => simp only [h1] at h; cases h
    | some q =>
      obtain ⟨r, js⟩ := q
      simp only [h1] at h
      cases h
      obtain ⟨t2, b1, b2, b3, b4⟩ := cGs_ok (c := c) hN nd h1
      refine ⟨gTup c.W.K es.length t2, fun X hX => ?_, sg_tup b2, fun vs hv => og_tup (b3 vs hv)⟩
      have z := pg_tup (k := k) (pos := pos) hX.calm (b1 X hX) (b4 _).1 (b4 _).2
      rw [hX.x.K] at z
      exact z
  | _ => exact base h
theorem blkC_kind {N : List Str} {sc sc' : Scope} {own : List (Str × Nat)} (h : blkC N sc sc' own = true) : sc'.kind = .function := (blkOk_by h).kind
theorem cIfs_ok {r : Fns} (ok : OK c r) {ifs : List Expr} {t : PT'} (h : cIfs r b ifs = some t) : ∃ tt, (∀ X, In c b X → PTs X ifs tt) ∧ SndT c.W tt t := by
  unfold cIfs at h
  split at h
  · cases h; exact ⟨tYes, fun X _ => pts_nil, st_yes⟩
  · obtain ⟨tt, h1, h2⟩ := ok.T _ _ _ h
    exact ⟨tt, fun X hX => pts_one (h1 X hX), h2⟩
  · cases h
theorem lc_pes {elt tg it : Expr} {ifs : List Expr} {sc : Scope} {pos : Pos} {ti : TI} {g : TG} {tt : TT} {te : TE} {own : List (Str × Nat)} (nd : c.N.Nodup) (hb : blkC c.N b.sc sc own = true) (hi : ∀ X tg, In c b X → PI X tg it ti) (hp : plainE it = true)
    (hg : ∀ X, In c (blkOf b sc) X → PG X tg g) (ht : ∀ X, In c (blkOf b sc) X → PTs X ifs tt) (he : ∀ X, In c (blkOf b sc) X → PE X elt te) (X : Cx) (hX : In c b X) : PEs X b (.ListComp elt [⟨tg, it, ifs, 0⟩] sc pos) (tLc ti g tt te (own.map (·.2))) := by
  have bk : BlkOk X.N X.env.scope sc own := by rw [hX.N, hX.sc]; exact blkOk_by hb
  have hk := blkC_kind hb
  have nd' : X.N.Nodup := by rw [hX.N]; exact nd
  have q1 := pe_lc (pos := pos) hX.calm nd' (hi X tg hX) bk (fun s H C cl fp => hg _ (hX.blk s H sc C cl fp hk)) (fun s H C cl fp => ht _ (hX.blk s H sc C cl fp hk)) (fun s H C cl fp => he _ (hX.blk s H sc C cl fp hk)) (plain_set hp _)
  refine ⟨q1, fun i y py spos hN hx hf hl _ => ?_⟩
  rw [Bool.or_eq_true] at hl
  rcases hl with hl | hl
  · unfold lcStores at hl
    simp only [Bool.and_eq_true, Bool.not_eq_true'] at hl
    obtain ⟨⟨h1, h2⟩, h3⟩ := hl
    have hy : X.env.scope.names.lookup y = some .local := by rw [hX.sc]; exact isK_eq h1
    exact ps_setLc hX.calm nd' hN hy (sw_true hX.kind hy h2 h3) (hi X tg hX) bk (fun s H C cl fp => hg _ (hX.blk s H sc C cl fp hk)) (fun s H C cl fp => ht _ (hX.blk s H sc C cl fp hk)) (fun s H C cl fp => he _ (hX.blk s H sc C cl fp hk)) (plain_set hp _)
  · have hy : X.env.kindOf y = some .cell := by
      show X.env.scope.names.lookup y = _
      rw [hX.sc]; exact isK_eq hl
    refine ps_set nd' hN hx q1 ?_ hf
    unfold swapsWith
    simp only [hy]
    simp
    rw [show (NameKind.cell == NameKind.local) = false by decide, Bool.and_false, Bool.false_and, Bool.false_and]
theorem cComp_ok {p : Par} {r : Fns} (ok : OK c r) (nd : c.N.Nodup) (hN : c.N = p.N) {elt : Expr} {gs : List Comprehension} {sc : Scope} {pos : Pos} {f : PF'} (h : cComp p r b elt gs sc = some f) : CF c b (.ListComp elt gs sc pos) f := by
  unfold cComp at h
  split at h
  · rename_i tg it ifs
    split at h
    · rename_i hb
      split at h
      · rename_i g is i t e h1 h2 h3 h4
        split at h
        · rename_i hall
          cases h
          obtain ⟨tg', g1, g2, g3⟩ := cT_ok (c := c) hN (hN ▸ nd) h1
          obtain ⟨⟨ti, i1, i2⟩, i3⟩ := ok.I _ _ _ h2
          obtain ⟨tt, t1, t2⟩ := cIfs_ok ok h3
          obtain ⟨⟨te, e1, e2⟩, _⟩ := ok.E _ _ _ h4
          refine ⟨⟨_, lc_pes nd (by rw [hN]; exact hb) i1 i3 g1 t1 (fun X hX => (e1 X hX).1), ?_⟩, rfl⟩
          refine sf_comp i2 g2 (g3 _ fun j hj => ?_) t2 e2
          exact of_decide_eq_true (List.all_eq_true.mp hall j hj)
        · cases h
      · cases h
    · cases h
  · cases h
theorem cCompF_ok {p : Par} {r : Fns} (ok : OK c r) (nd : c.N.Nodup) (hN : c.N = p.N) {elt : Expr} {gs : List Comprehension} {sc : Scope} {pos : Pos} {f : PFF'} (h : cCompF p r b elt gs sc = some f) : CFF c b (.ListComp elt gs sc pos) f := by
  unfold cCompF at h
  split at h
  · rename_i tg it
    split at h
    · rename_i hb
      split at h
      · rename_i g is i e h1 h2 h4
        split at h
        · rename_i hall
          cases h
          obtain ⟨tg', g1, g2, g3⟩ := cT_ok (c := c) hN (hN ▸ nd) h1
          obtain ⟨⟨ti, i1, i2⟩, i3⟩ := ok.I _ _ _ h2
          obtain ⟨⟨te, e1, e2⟩, _⟩ := ok.F _ _ _ h4
          refine ⟨⟨_, lc_pes nd (by rw [hN]; exact hb) i1 i3 g1 (fun X _ => pts_nil) (fun X hX => (e1 X hX).1), ?_⟩, rfl⟩
          refine sff_comp i2 g2 (g3 _ fun j hj => ?_) e2
          exact of_decide_eq_true (List.all_eq_true.mp hall j hj)
        · cases h
      · cases h
    · cases h
  · cases h
end
end BB
end
section
set_option maxRecDepth 100000
set_option maxHeartbeats 4000000
/-! comp is sound: one step, all steps. -/
namespace BB
open PySem L2 PyProof.Rows
section
variable {c : Ctx} {b : Bl} {p : Par} {r : Fns}
theorem map_some {α β : Type} {f : α → β} {o : Option α} {z : β} (h : o.map f = some z) : ∃ x, o = some x ∧ f x = z := by
  cases o with
  | none => cases h
  | some x => cases h; exact ⟨x, rfl, rfl⟩
theorem o2_some {α β γ : Type} {f : α → β → γ} {o : Option α} {q : Option β} {z : γ} (h : o2 f o q = some z) : ∃ x y, o = some x ∧ q = some y ∧ f x y = z := by
  cases o with
  | none => cases q <;> cases h
  | some x =>
    cases q with
    | none => cases h
    | some y => cases h; exact ⟨x, y, rfl, rfl, rfl⟩
theorem stepC_ok (ok : OK c r) {l : Expr} {op : CmpOp} {rt : Expr} {z : PE'} (h : stepC r b l op rt = some z) : CC c b l op rt z := by
  unfold stepC at h
  split at h
  · rename_i a hb ha
    obtain ⟨⟨ta, a1, a2⟩, _⟩ := ok.E _ _ _ ha
    have bin : ∀ {r2 : R2} {f : PE' → PE' → PE'}, (r.E b rt).map (fun z => f a z) = some z → (∀ X, In c b X → OpR X (compareOp op) r2) → (∀ tb q, SndE c.W tb q → SndE c.W (tOp r2 ta tb) (f a q)) → CC c b l op rt z := fun {r2 f} h hr hs => by
      obtain ⟨q, hq, e⟩ := map_some h
      obtain ⟨⟨tb, b1, b2⟩, _⟩ := ok.E _ _ _ hq
      subst e
      exact ⟨r2, ta, tb, fun X hX => ⟨hr X hX, (a1 X hX).1, (b1 X hX).1⟩, hb, hs tb q b2⟩
    split at h
    · split at h
      · cases h; exact ⟨rIsN false, ta, _, fun X hX => ⟨op_isN', (a1 X hX).1, pe_non⟩, rfl, se_isN a2⟩
      · cases h; exact ⟨rIsTr false, ta, _, fun X hX => ⟨op_isT, (a1 X hX).1, pe_bl⟩, rfl, se_isT a2⟩
      · cases h
    · split at h
      · cases h; exact ⟨rIsN true, ta, _, fun X hX => ⟨op_notN', (a1 X hX).1, pe_non⟩, rfl, se_isN a2⟩
      · cases h; exact ⟨rIsTr true, ta, _, fun X hX => ⟨op_notT, (a1 X hX).1, pe_bl⟩, rfl, se_isT a2⟩
      · cases h
    · exact bin (r2 := rEqX c.W.K) (f := pEq) h (fun X hX => by rw [← hX.x.K]; exact op_eqX hX.hu) fun tb q hq => se_eq a2 hq
    · exact bin (r2 := rNeX c.W.K) (f := pNe) h (fun X hX => by rw [← hX.x.K]; exact op_neX hX.hu) fun tb q hq => se_ne a2 hq
    · exact bin (f := pCmp (fun i j => decide (i < j))) h (fun X hX => op_lt) fun tb q hq => se_cmp a2 hq
    · exact bin (f := pCmp (fun i j => decide (i ≤ j))) h (fun X hX => op_le) fun tb q hq => se_cmp a2 hq
    · exact bin (f := pCmp (fun i j => decide (j < i))) h (fun X hX => op_gt) fun tb q hq => se_cmp a2 hq
    · exact bin (f := pCmp (fun i j => decide (j ≤ i))) h (fun X hX => op_ge) fun tb q hq => se_cmp a2 hq
    · exact bin (r2 := rInX c.W false) (f := pIn false) h (fun X hX => op_inX hX.x hX.hu) fun tb q hq => se_in a2 hq
    · exact bin (r2 := rInX c.W true) (f := pIn true) h (fun X hX => op_notInX hX.x hX.hu) fun tb q hq => se_in a2 hq
  · cases h
theorem cc_e {l : Expr} {op : CmpOp} {rt : Expr} {z : PE'} {pos : Pos} (h : CC c b l op rt z) : CE c b (.Compare l [op] [rt] pos) z := by
  obtain ⟨r2, ta, tb, h1, h2, h3⟩ := h
  exact ⟨⟨_, fun X hX => pes_of (pe_cmpR (h1 X hX).1 (h1 X hX).2.1 (h1 X hX).2.2 h2) rfl, h3⟩, rfl⟩
theorem cc_t {l : Expr} {op : CmpOp} {rt : Expr} {z : PE'} {pos : Pos} (h : CC c b l op rt z) : CT c b (.Compare l [op] [rt] pos) (tOf z) := by
  obtain ⟨r2, ta, tb, h1, h2, h3⟩ := h
  exact ⟨_, fun X hX => pt_cmpR (h1 X hX).1 (h1 X hX).2.1 (h1 X hX).2.2 h2, st_of' h3⟩
/-! F -/
theorem op_divX {X : Cx} : OpR X (binaryOp .FloorDiv) rDiv := op_fdivW
theorem stepF_ok {cs : List (Str × D)} (g : GOk c p.G cs) (hN : c.N = p.N) (ok : OK c r) {e : Expr} {z : PF'} (h : stepF p r b e = some z) : CF c b e z := by
  unfold stepF at h
  split at h
  · obtain ⟨a, ha, q⟩ := map_some h; subst q
    obtain ⟨⟨ta, a1, a2⟩, _⟩ := ok.A _ _ _ ha
    exact ⟨⟨_, fun X hX => pes_of (pe_lst (a1 X hX)) rfl, sf_lst a2⟩, rfl⟩
  · exact cComp_ok ok g.nd hN h
  · obtain ⟨x, y, hx, hy, q⟩ := o2_some h; subst q
    obtain ⟨⟨ta, a1, a2⟩, _⟩ := ok.E _ _ _ hx
    obtain ⟨⟨tb, b1, b2⟩, _⟩ := ok.E _ _ _ hy
    exact ⟨⟨_, fun X hX => pes_of (pe_op op_addX (a1 X hX).1 (b1 X hX).1) rfl, sf_cat a2 b2⟩, rfl⟩
  · split at h
    · rename_i x px a pos hx
      obtain ⟨hx1, hx2⟩ := hx
      subst hx1
      obtain ⟨q, hq, e⟩ := map_some h; subst e
      obtain ⟨⟨ta, a1, a2⟩, a3⟩ := ok.E _ _ _ hq
      refine ⟨⟨tCB (rListX c.W.K) (tCons ta tNil), fun X hX => pes_of ?_ rfl, sf_list a2⟩, rfl⟩
      rw [← hX.x.K]
      exact pe_callTy call_list_of (hX.gl hx2).1 (by rw [hX.mg]; exact g.blt _ (by decide)) (by decide +kernel) (pa_cons (a1 X hX).1 pa_nil (star_cons a3)) (by decide) (by decide) (star_cons a3) rfl
    · cases h
  · obtain ⟨q, hq, e⟩ := map_some h; subst e
    obtain ⟨⟨ta, a1, a2⟩, a3⟩ := ok.E _ _ _ hq
    refine ⟨⟨tRevL c.W.K ta, fun X hX => pes_of ?_ rfl, sf_rev a2⟩, rfl⟩
    rw [← hX.x.K]
    exact pe_revL (a1 X hX).1
  · split at h
    · rename_i x l hh h1 h2 h3
      cases h
      have po : ∀ {o : Option Expr} {q : PO'}, cO r b o = some q → ∃ to, (∀ X, In c b X → PO X o to) ∧ SndO c.W to q := fun {o q} h => by
        unfold cO at h
        split at h
        · cases h; exact ⟨tNoPart, fun X _ => po_none, so_no⟩
        · obtain ⟨w, hw, e⟩ := map_some h; subst e
          obtain ⟨⟨ta, a1, a2⟩, _⟩ := ok.E _ _ _ hw
          exact ⟨_, fun X hX => po_some (a1 X hX).1, so_yes a2⟩
      obtain ⟨⟨ta, a1, a2⟩, a3⟩ := ok.E _ _ _ h1
      obtain ⟨tl, l1, l2⟩ := po h2
      obtain ⟨th, u1, u2⟩ := po h3
      refine ⟨⟨tSl (rSlL c.W.K) ta tl th, fun X hX => pes_of ?_ rfl, sf_sl a2 l2 u2⟩, rfl⟩
      rw [← hX.x.K]
      exact pe_slice sl_list (a1 X hX).1 (l1 X hX) (u1 X hX)
    · cases h
  · cases h

theorem all_cons {e : Expr} {es : List Expr} (h : (e :: es).all plainE = true) : plainE e = true ∧ es.all plainE = true := by
  rw [List.all_cons, Bool.and_eq_true] at h; exact h
theorem cBin_ok {op : Operator} {x y z : PE'} (h : cBin op x y = some z) : ∃ r2, (∀ X : Cx, OpR X (binaryOp op) r2) ∧ ∀ {W : Wc} {ta tb : TE}, SndE W ta x → SndE W tb y → SndE W (tOp r2 ta tb) z := by
  unfold cBin at h
  split at h
  · cases h; exact ⟨rAddX, fun X => op_addX, fun a b => se_add a b⟩
  · cases h; exact ⟨_, fun X => op_sub, fun a b => se_sub a b⟩
  · cases h; exact ⟨_, fun X => op_mul', fun a b => se_mul a b⟩
  · cases h; exact ⟨_, fun X => op_divX, fun a b => se_div a b⟩
  · cases h; exact ⟨_, fun X => op_mod, fun a b => se_mod a b⟩
  · cases h; exact ⟨_, fun X => op_pow, fun a b => se_pow a b⟩
  · cases h
theorem callable_pe {x : Str} {sp : Sp} (hc : Callable c x sp) {e : Expr} {es : List Expr} {ta : TA} {px pos : Pos} (hg : glB b x = true) (ha : ∀ X, In c b X → PA X (e :: es) ta) (hp : (e :: es).all plainE = true) :
    ∀ X, In c b X → PE X (.Call (.Name x px) (e :: es) [] pos) (tCall sp [] E0 ta) := fun X hX => by
  obtain ⟨f, fd, ps, j, h1, h2, h3, h4, h5⟩ := hc
  refine pe_call (CX := CX0) (k := j) (f := f) (fd := fd) (ps := ps) (ds := []) ?_ (hX.room.mono h5) (hX.gl hg).1 (by rw [hX.mg]; exact h1) (by rw [hX.x.K]; exact h2) (by rw [hX.x.K]; exact h4) .nil pass0 (ha X hX) (okNm_d (hX.gl hg).2).1 (star_cons (all_cons hp).1) (star_any (all_cons hp).2)
  rw [hX.x.P, hX.x.w, hX.x.K, hX.mg, hX.base]
  exact h3
theorem cGl_ok {cs : List (Str × D)} (g : GOk c p.G cs) (ok : OK c r) {x : Str} {e : Expr} {es : List Expr} {z : PE'} {px pos : Pos} (hg : glB b x = true) (h : cGl p r b x e es = some z) : CE c b (.Call (.Name x px) (e :: es) [] pos) z := by
  unfold cGl at h
  split at h
  · rename_i S hS
    obtain ⟨a, ha, q⟩ := map_some h; subst q
    obtain ⟨⟨ta, a1, a2⟩, a3⟩ := ok.A _ _ _ ha
    exact ⟨⟨_, fun X hX => pes_of (callable_pe (g.call x S hS) hg a1 a3 X hX) rfl, se_call a2⟩, rfl⟩
  · rename_i S hS
    obtain ⟨a, ha, q⟩ := map_some h; subst q
    obtain ⟨⟨ta, a1, a2⟩, a3⟩ := ok.A _ _ _ ha
    exact ⟨⟨_, fun X hX => pes_of (callable_pe (g.fresh x S hS) hg a1 a3 X hX) rfl, se_callF a2⟩, rfl⟩
  · rename_i S hS
    obtain ⟨a, ha, q⟩ := map_some h; subst q
    obtain ⟨⟨ta, a1, a2⟩, a3⟩ := ok.A _ _ _ ha
    obtain ⟨sp, f, fd, ps, j, m1, m2, m3, m4, m5, m6⟩ := g.make x S hS
    refine ⟨⟨_, fun X hX => pes_of (te := tMake c.W.C sp [] E0 ta) ?_ rfl, m6 _ _ a2⟩, rfl⟩
    refine pe_make (CX := CX0) (k := j) (f := f) (C := c.W.C) (fd := fd) (ps := ps) (ds := []) (by rw [hX.x.K]; exact m1) ?_ (hX.room.mono m3) (hX.gl hg).1 (by rw [hX.mg]; exact m4) (by rw [hX.x.K]; exact m5) .nil pass0 (a1 X hX) (okNm_d (hX.gl hg).2).1 (star_cons (all_cons a3).1) (star_any (all_cons a3).2)
    rw [hX.x.P, hX.x.w, hX.x.K, hX.mg, hX.base]
    exact m2
  · cases h
    exact ⟨⟨fun _ _ _ => False, fun X hX => pes_of ⟨fun _ _ _ _ _ _ h => h.elim⟩ rfl, fun O Hm H σ env Q k R h q => h.elim⟩, rfl⟩
  · cases h
theorem blt1 {cs : List (Str × D)} (g : GOk c p.G cs) {x : Str} {id : String} {rc : PySem.W.Frag → List V → Hp → VK → Prop} {e : Expr} {ta : TE} {px pos : Pos} (hg : glB b x = true) (hx : x ∈ bltNames) (hb : bootBuiltins x = some (.builtin id)) (hc : ∀ X, In c b X → CallR X (.builtin id) (rc X.K)) (ha : ∀ X, In c b X → PE X e ta) (hp : plainE e = true) :
    ∀ X, In c b X → PE X (.Call (.Name x px) [e] [] pos) (tCB (rc c.W.K) (tCons ta tNil)) := fun X hX => by
  rw [← hX.x.K]
  exact pe_callB (hc X hX) (hX.gl hg).1 (by rw [hX.mg]; exact g.blt _ hx) hb (pa_cons (ha X hX) pa_nil (star_cons hp)) (okNm_d (hX.gl hg).2).2.2 (okNm_d (hX.gl hg).2).1 (star_cons hp) rfl
theorem cCall1_ok {cs : List (Str × D)} (g : GOk c p.G cs) (ok : OK c r) {x : Str} {e : Expr} {z : PE'} {px pos : Pos} (hg : glB b x = true) (h : cCall1 p r b x e = some z) : CE c b (.Call (.Name x px) [e] [] pos) z := by
  unfold cCall1 at h
  split at h
  · rename_i hx; subst hx
    obtain ⟨q, hq, e⟩ := map_some h; subst e
    obtain ⟨⟨ta, a1, a2⟩, a3⟩ := ok.E _ _ _ hq
    exact ⟨⟨_, fun X hX => pes_of (blt1 (rc := fun K => rLenX K) g hg (by decide) (by decide +kernel) (fun X _ => call_len_seq) (fun X hX => (a1 X hX).1) a3 X hX) rfl, se_len a2⟩, rfl⟩
  · split at h
    · rename_i hx; subst hx
      obtain ⟨q, hq, e⟩ := map_some h; subst e
      obtain ⟨⟨ta, a1, a2⟩, a3⟩ := ok.E _ _ _ hq
      exact ⟨⟨_, fun X hX => pes_of (blt1 (rc := fun _ => rAbs) g hg (by decide) (by decide +kernel) (fun X _ => call_abs) (fun X hX => (a1 X hX).1) a3 X hX) rfl, se_abs a2⟩, rfl⟩
    · split at h
      · rename_i hx; subst hx
        obtain ⟨q, hq, e⟩ := map_some h; subst e
        obtain ⟨⟨ta, a1, a2⟩, a3⟩ := ok.E _ _ _ hq
        exact ⟨⟨_, fun X hX => pes_of (blt1 (rc := fun K => rMax K) g hg (by decide) (by decide +kernel) (fun X hX => cr_max hX.calm) (fun X hX => (a1 X hX).1) a3 X hX) rfl, se_max a2⟩, rfl⟩
      · split at h
        · rename_i hx; subst hx
          obtain ⟨q, hq, e⟩ := map_some h; subst e
          obtain ⟨⟨ta, a1, a2⟩, a3⟩ := ok.E _ _ _ hq
          refine ⟨⟨tCB rInt1 (tCons ta tNil), fun X hX => pes_of ?_ rfl, se_int a2⟩, rfl⟩
          exact pe_callTy call_int1 (hX.gl hg).1 (by rw [hX.mg]; exact g.blt _ (by decide)) (by decide +kernel) (pa_cons (a1 X hX).1 pa_nil (star_cons a3)) (by decide) (by decide) (star_cons a3) rfl
        · exact cGl_ok g ok hg h
theorem tyOf_ok {x : Str} {t : Ty} (h : tyOf x = some t) : x ∈ bltNames ∧ bootBuiltins x = some (.type t.nm) := by
  unfold tyOf at h
  repeat' split at h
  all_goals first
    | (rename_i hx; subst hx; cases h; exact ⟨by decide, by decide +kernel⟩)
    | cases h
theorem cCall2_ok {cs : List (Str × D)} (g : GOk c p.G cs) (ok : OK c r) {x : Str} {e f : Expr} {z : PE'} {px pos : Pos} (hg : glB b x = true) (h : cCall2 p r b x e f = some z) : CE c b (.Call (.Name x px) [e, f] [] pos) z := by
  unfold cCall2 at h
  split at h
  · rename_i hx; subst hx
    obtain ⟨q1, q2, h1, h2, e⟩ := o2_some h; subst e
    obtain ⟨⟨ta, a1, a2⟩, a3⟩ := ok.E _ _ _ h1
    obtain ⟨⟨tb, b1, b2⟩, b3⟩ := ok.E _ _ _ h2
    refine ⟨⟨tCB rMin2 (tCons ta (tCons tb tNil)), fun X hX => pes_of ?_ rfl, se_min a2 b2⟩, rfl⟩
    exact pe_callB (call_min2 hX.calm) (hX.gl hg).1 (by rw [hX.mg]; exact g.blt _ (by decide)) (by decide +kernel) (pa_cons (a1 X hX).1 (pa_cons (b1 X hX).1 pa_nil (star_cons b3)) (star_cons a3)) (by decide) (by decide) (star_cons a3) (star_any (by rw [List.all_cons, b3]; rfl))
  · split at h
    · rename_i hx; subst hx
      obtain ⟨q1, q2, h1, h2, e⟩ := o2_some h; subst e
      obtain ⟨⟨ta, a1, a2⟩, a3⟩ := ok.E _ _ _ h1
      obtain ⟨⟨tb, b1, b2⟩, b3⟩ := ok.E _ _ _ h2
      refine ⟨⟨tCB rGcd (tCons ta (tCons tb tNil)), fun X hX => pes_of ?_ rfl, se_gcd a2 b2⟩, rfl⟩
      exact pe_callBfun cr_gcd (hX.gl hg).1 (by rw [hX.mg]; exact g.gcd) (pa_cons (a1 X hX).1 (pa_cons (b1 X hX).1 pa_nil (star_cons b3)) (star_cons a3)) (by decide) (star_cons a3) (star_any (by rw [List.all_cons, b3]; rfl))
    · split at h
      · rename_i hx; subst hx
        split at h
        · rename_i t pt
          split at h
          · rename_i ty ht
            split at h
            · rename_i hgt
              obtain ⟨q, hq, e⟩ := map_some h; subst e
              obtain ⟨⟨ta, a1, a2⟩, a3⟩ := ok.E _ _ _ hq
              obtain ⟨t1, t2⟩ := tyOf_ok ht
              refine ⟨⟨tCB (rIsi c.W.K) (tCons ta (tCons (tC (.ty ty.nm)) tNil)), fun X hX => pes_of ?_ rfl, se_isI a2⟩, rfl⟩
              rw [← hX.x.K]
              exact pe_callB call_isi (hX.gl hg).1 (by rw [hX.mg]; exact g.blt _ (by decide)) (by decide +kernel) (pa_cons (a1 X hX).1 (pa_cons (pe_bltn (hX.gl hgt).1 (by rw [hX.mg]; exact g.blt _ t1) t2 rfl (okNm_d (hX.gl hgt).2).2.2 (okNm_d (hX.gl hgt).2).1) pa_nil rfl) (star_cons a3)) (by decide) (by decide) (star_cons a3) rfl
            · cases h
          · cases h
        · cases h
      · exact cGl_ok g ok hg h
theorem cCall_ok {cs : List (Str × D)} (g : GOk c p.G cs) (ok : OK c r) {x : Str} {es : List Expr} {z : PE'} {px pos : Pos} (hg : glB b x = true) (h : cCall p r b x es = some z) : CE c b (.Call (.Name x px) es [] pos) z := by
  unfold cCall at h
  split at h
  · cases h
  · exact cCall1_ok g ok hg h
  · exact cCall2_ok g ok hg h
  · exact cGl_ok g ok hg h
theorem ce_F {e : Expr} {f : PF'} (h : CF c b e f) : CE c b e (pF f) := let ⟨⟨te, h1, h2⟩, h3⟩ := h; ⟨⟨te, h1, se_F h2⟩, h3⟩
theorem stepE_ok {cs : List (Str × D)} (hcs : p.cs = cs) (g : GOk c p.G cs) (hN : c.N = p.N) (ok : OK c r) {e : Expr} {z : PE'} (h : stepE p r b e = some z) : CE c b e z := by
  unfold stepE at h
  split at h
  · split at h
    · rename_i hn
      split at h
      · rename_i hv
        obtain ⟨i, hi, q⟩ := map_some h; subst q
        exact ce_var (by rw [hN]; exact hi) hv hn
      · split at h
        · rename_i hv
          obtain ⟨d, hd, q⟩ := map_some h; subst q
          exact ce_cst g (by rw [← hcs]; exact hd) hv
        · cases h
    · cases h
  · cases h; exact ⟨⟨_, fun X _ => pes_of pe_int rfl, se_c fun H => by simp only [Is]⟩, rfl⟩
  · cases h; exact ⟨⟨_, fun X _ => pes_of pe_bl rfl, se_c fun H => by simp only [Is]⟩, rfl⟩
  · cases h; exact ⟨⟨_, fun X _ => pes_of pe_non rfl, se_c fun H => by simp only [Is]⟩, rfl⟩
  · cases h; exact ⟨⟨_, fun X _ => pes_of pe_str rfl, se_c fun H => by simp only [Is]⟩, rfl⟩
  · split at h
    · rename_i x y h1 h2
      obtain ⟨⟨ta, a1, a2⟩, _⟩ := ok.E _ _ _ h1
      obtain ⟨⟨tb, b1, b2⟩, _⟩ := ok.E _ _ _ h2
      obtain ⟨r2, q1, q2⟩ := cBin_ok h
      exact ⟨⟨_, fun X hX => pes_of (pe_op (q1 X) (a1 X hX).1 (b1 X hX).1) rfl, q2 a2 b2⟩, rfl⟩
    · cases h
  · obtain ⟨q, hq, e⟩ := map_some h; subst e
    obtain ⟨⟨ta, a1, a2⟩, _⟩ := ok.E _ _ _ hq
    exact ⟨⟨_, fun X hX => pes_of (pe_un un_neg (a1 X hX).1) rfl, se_neg a2⟩, rfl⟩
  · obtain ⟨q, hq, e⟩ := map_some h; subst e
    obtain ⟨⟨ta, a1, a2⟩, _⟩ := ok.E _ _ _ hq
    refine ⟨⟨tNotT c.W.K ta, fun X hX => pes_of ?_ rfl, se_not a2⟩, rfl⟩
    rw [← hX.x.K]
    exact pe_notT (a1 X hX).1
  · exact cc_e (ok.C _ _ _ _ _ h)
  · obtain ⟨⟨ta, a1, a2⟩, _⟩ := ok.E _ _ _ h
    exact ⟨⟨ta, fun X hX => pes_of (pe_one (a1 X hX).1) rfl, a2⟩, rfl⟩
  · obtain ⟨q1, q2, h1, h2, e⟩ := o2_some h; subst e
    obtain ⟨⟨ta, a1, a2⟩, _⟩ := ok.E _ _ _ h1
    obtain ⟨⟨tb, b1, b2⟩, _⟩ := ok.E _ _ _ h2
    refine ⟨⟨tAndT c.W.K ta tb, fun X hX => pes_of ?_ rfl, se_and a2 b2⟩, rfl⟩
    rw [← hX.x.K]
    exact pe_andT (a1 X hX).1 (b1 X hX).1
  · obtain ⟨q1, q2, h1, h2, e⟩ := o2_some h; subst e
    obtain ⟨⟨ta, a1, a2⟩, _⟩ := ok.E _ _ _ h1
    obtain ⟨⟨tb, b1, b2⟩, _⟩ := ok.E _ _ _ h2
    refine ⟨⟨tOrT c.W.K ta tb, fun X hX => pes_of ?_ rfl, se_or a2 b2⟩, rfl⟩
    rw [← hX.x.K]
    exact pe_orT (a1 X hX).1 (b1 X hX).1
  · split at h
    · rename_i t x y h1 h2 h3
      cases h
      obtain ⟨tt, t1, t2⟩ := ok.T _ _ _ h1
      obtain ⟨⟨ta, a1, a2⟩, _⟩ := ok.E _ _ _ h2
      obtain ⟨⟨tb, b1, b2⟩, _⟩ := ok.E _ _ _ h3
      exact ⟨⟨_, fun X hX => pes_of (pe_ifExp (t1 X hX) (a1 X hX).1 (b1 X hX).1) rfl, se_if t2 a2 b2⟩, rfl⟩
    · cases h
  · split at h
    · obtain ⟨q, hq, e⟩ := map_some h; subst e
      exact ce_F (ok.F _ _ _ hq)
    · obtain ⟨q1, q2, h1, h2, e⟩ := o2_some h; subst e
      obtain ⟨⟨ta, a1, a2⟩, _⟩ := ok.E _ _ _ h1
      obtain ⟨⟨tb, b1, b2⟩, b3⟩ := ok.E _ _ _ h2
      exact ⟨⟨_, fun X hX => pes_of (pe_ix (ix_X hX.x hX.hu) (a1 X hX).1 (b1 X hX).1 (plain_ix b3)) rfl, se_ix a2 b2⟩, rfl⟩
  · obtain ⟨q, hq, e⟩ := map_some h; subst e
    obtain ⟨⟨ta, a1, a2⟩, _⟩ := ok.A _ _ _ hq
    exact ⟨⟨_, fun X hX => pes_of (pe_tup (a1 X hX)) rfl, se_tup a2⟩, rfl⟩
  · obtain ⟨q, hq, e⟩ := map_some h; subst e
    exact ce_F (ok.F _ _ _ hq)
  · obtain ⟨q, hq, e⟩ := map_some h; subst e
    exact ce_F (ok.F _ _ _ hq)
  · split at h
    · rename_i xn xp f pos oo f' hf
      obtain ⟨q, hq, e⟩ := map_some h; subst e
      obtain ⟨⟨ta, a1, a2⟩, _⟩ := ok.E _ _ _ hq
      have ef : f = f'.nm := by
        unfold atOf at hf
        repeat' split at hf
        all_goals first
          | (rename_i hx; subst hx; cases hf; rfl)
          | cases hf
      subst ef
      refine ⟨⟨tFld c.W.K ta f'.nm, fun X hX => pes_of ?_ rfl, se_fld g.dat a2⟩, rfl⟩
      rw [← hX.x.K]
      exact pe_fld (a1 X hX).1 rfl
    · cases h
  · split at h
    · rename_i hg
      split at h
      · rename_i hx; subst hx
        obtain ⟨q, hq, e⟩ := map_some h; subst e
        exact ce_F (ok.F _ _ _ hq)
      · exact cCall_ok g ok hg h
    · cases h
  · split at h
    · rename_i hm
      obtain ⟨hm1, hm2⟩ := hm
      subst hm1
      obtain ⟨q, hq, e⟩ := map_some h; subst e
      obtain ⟨⟨ta, a1, a2⟩, _⟩ := ok.E _ _ _ hq
      exact ⟨⟨_, fun X hX => pes_of (pe_bits (a1 X hX).1 rfl hm2) rfl, se_bits a2⟩, rfl⟩
    · cases h
  · split at h
    · rename_i hm
      obtain ⟨hm1, hm2⟩ := hm
      subst hm1
      obtain ⟨q1, q2, h1, h2, e⟩ := o2_some h; subst e
      obtain ⟨⟨ta, a1, a2⟩, _⟩ := ok.E _ _ _ h1
      obtain ⟨⟨tb, b1, b2⟩, b3⟩ := ok.E _ _ _ h2
      refine ⟨⟨tBM c.W.K "list" (rIndex c.W.K) ta (tCons tb tNil), fun X hX => pes_of ?_ rfl, se_index a2 b2⟩, rfl⟩
      rw [← hX.x.K]
      refine pe_bm PySem.F.plainAttrs_list PySem.F.slot_list_index PySem.F.type_list_index mt_index (a1 X hX).1 (pa_cons (b1 X hX).1 pa_nil (star_cons b3)) rfl ?_ hm2 (star_cons b3) rfl
      rw [star_cons b3]; rfl
    · cases h
  · cases h
theorem stepT_ok (ok : OK c r) {e : Expr} {z : PT'} (h : stepT r b e = some z) : CT c b e z := by
  have tru : ∀ {e : Expr} {z : PT'}, (r.E b e).map tTru = some z → (∀ X : Cx, ∀ whole, isTrue e X.env whole = (do let v ← whole; standAt e.pos; holding [v] (truthy v))) → CT c b e z := fun {e z} h hp => by
    obtain ⟨q, hq, e⟩ := map_some h; subst e
    obtain ⟨⟨ta, a1, a2⟩, _⟩ := ok.E _ _ _ hq
    refine ⟨fun σ H Q => ta σ H fun x H' => ∃ k, TruV c.W.K x H' k ∧ Q k H', fun X hX => ?_, st_tru a2⟩
    rw [← hX.x.K]
    exact pt_truth (a1 X hX).1 (hp X)
  unfold stepT at h
  split at h
  · obtain ⟨q, hq, e⟩ := map_some h; subst e
    obtain ⟨tt, t1, t2⟩ := ok.T _ _ _ hq
    exact ⟨_, fun X hX => pt_not (t1 X hX), st_not t2⟩
  · obtain ⟨tt, t1, t2⟩ := ok.W _ _ _ h
    exact ⟨tt, fun X hX => (t1 X hX).pt, t2⟩
  · obtain ⟨q, hq, e⟩ := map_some h; subst e
    exact cc_t (ok.C _ _ _ _ _ hq)
  · exact tru h fun X whole => rfl
  · exact tru h fun X whole => rfl
  · exact tru h fun X whole => rfl
  · exact tru h fun X whole => rfl
  · cases h
theorem stepW_ok (ok : OK c r) {e : Expr} {z : PT'} (h : stepW r b e = some z) : CW c b e z := by
  unfold stepW at h
  split at h
  · obtain ⟨tt, t1, t2⟩ := ok.T _ _ _ h
    exact ⟨tt, fun X hX => pw_and1 (t1 X hX), t2⟩
  · obtain ⟨tt, t1, t2⟩ := ok.T _ _ _ h
    exact ⟨tt, fun X hX => pw_or1 (t1 X hX), t2⟩
  · obtain ⟨q1, q2, h1, h2, e⟩ := o2_some h; subst e
    obtain ⟨tt, t1, t2⟩ := ok.T _ _ _ h1
    obtain ⟨tu, u1, u2⟩ := ok.W _ _ _ h2
    exact ⟨_, fun X hX => pw_and (t1 X hX) (u1 X hX), st_and t2 u2⟩
  · obtain ⟨q1, q2, h1, h2, e⟩ := o2_some h; subst e
    obtain ⟨tt, t1, t2⟩ := ok.T _ _ _ h1
    obtain ⟨tu, u1, u2⟩ := ok.W _ _ _ h2
    exact ⟨_, fun X hX => pw_or (t1 X hX) (u1 X hX), st_or t2 u2⟩
  · cases h
theorem stepA_ok (ok : OK c r) {es : List Expr} {z : PA'} (h : stepA r b es = some z) : CA c b es z := by
  unfold stepA at h
  split at h
  · cases h; exact ⟨⟨_, fun X _ => pa_nil, sa_nil⟩, rfl⟩
  · obtain ⟨q1, q2, h1, h2, e⟩ := o2_some h; subst e
    obtain ⟨⟨ta, a1, a2⟩, a3⟩ := ok.E _ _ _ h1
    obtain ⟨⟨tr, b1, b2⟩, b3⟩ := ok.A _ _ _ h2
    exact ⟨⟨_, fun X hX => pa_cons (a1 X hX).1 (b1 X hX) (star_cons a3), sa_cons a2 b2⟩, by rw [List.all_cons, a3, b3]; rfl⟩
theorem stepI_ok {cs : List (Str × D)} (g : GOk c p.G cs) (ok : OK c r) {e : Expr} {z : PI'} (h : stepI r b e = some z) : CI c b e z := by
  have lst : ∀ {e : Expr} {z : PI'}, (r.E b e).map iList' = some z → CI c b e z := fun {e z} h => by
    obtain ⟨q, hq, e⟩ := map_some h; subst e
    obtain ⟨⟨ta, a1, a2⟩, a3⟩ := ok.E _ _ _ hq
    refine ⟨⟨iList c.W.K ta, fun X tg hX => ?_, si_list a2⟩, a3⟩
    rw [← hX.x.K]
    exact pi_list (a1 X hX).1
  unfold stepI at h
  split at h
  · split at h
    · rename_i hx; subst hx
      split at h
      · split at h
        · rename_i hg
          obtain ⟨q, hq, e⟩ := map_some h; subst e
          obtain ⟨⟨ta, a1, a2⟩, a3⟩ := ok.E _ _ _ hq
          exact ⟨⟨_, fun X tg hX => pi_range1 (hX.gl hg).1 (by rw [hX.mg]; exact g.blt _ (by decide)) (pa_cons (a1 X hX).1 pa_nil (star_cons a3)) (star_cons a3), si_range a2⟩, rfl⟩
        · cases h
      · cases h
    · exact lst h
  · obtain ⟨q, hq, e⟩ := map_some h; subst e
    obtain ⟨⟨ta, a1, a2⟩, a3⟩ := ok.E _ _ _ hq
    refine ⟨⟨iTup c.W.K ta, fun X tg hX => ?_, si_tup a2⟩, rfl⟩
    rw [← hX.x.K]
    exact pi_tup (a1 X hX).1
  · cases h
  · exact lst h
theorem stepR_ok {cs : List (Str × D)} (hcs : p.cs = cs) (g : GOk c p.G cs) (hN : c.N = p.N) (ok : OK c r) : OK c (stepR p r) where
  E := fun b e z h => stepE_ok hcs g hN ok h
  T := fun b e z h => stepT_ok ok h
  W := fun b e z h => stepW_ok ok h
  C := fun b l op rt z h => stepC_ok ok h
  A := fun b es z h => stepA_ok ok h
  F := fun b e z h => stepF_ok g hN ok h
  FF := fun b e z h => by
    have h' : stepFF p r b e = some z := h
    unfold stepFF at h'
    split at h'
    · exact cCompF_ok ok g.nd hN h'
    · cases h'
  I := fun b e z h => stepI_ok g ok h
theorem fnsN_ok {cs : List (Str × D)} (hcs : p.cs = cs) (g : GOk c p.G cs) (hN : c.N = p.N) : ∀ n, OK c (fnsN p n)
  | 0 => ok0 c
  | n + 1 => stepR_ok hcs g hN (fnsN_ok hcs g hN n)
end
end BB
end
section
set_option maxRecDepth 100000
set_option maxHeartbeats 4000000
/-! comp is sound: statements; a def. -/
namespace BB
open PySem L2 PyProof.Rows
def CS (c : Ctx) (b : Bl) (st : Stmt) (p : PS') : Prop := ∃ ts, (∀ X, In c b X → PS X st ts) ∧ SndS c.W ts p
def CSs (c : Ctx) (b : Bl) (sts : List Stmt) (p : PS') : Prop := ∃ ts, (∀ X, In c b X → PSs X sts ts) ∧ SndS c.W ts p
section
variable {c : Ctx} {b : Bl} {p : Par} {r : Fns}
theorem pe_nm {x : Str} {px : Pos} {i : Nat} (hN : c.N = p.N) (hi : ixOf p.N x = some i) (hv : (visB b x && okNm x) = true) (X : Cx) (hX : In c b X) : PE X (.Name x px) (tVar i) := by
  rw [Bool.and_eq_true] at hv
  exact pe_var (by rw [hX.N, hN]; exact ixOf_get hi) (hX.vis hv.1) (okNm_d hv.2).1 (okNm_d hv.2).2.1
theorem swaps_sole {v t : Expr} {l : Nat} {env : PySem.Env} (h : isLC v = false) : swapsWithSole [t] v l env = pure false := by
  unfold swapsWithSole
  exact swaps_plain h
theorem asg_sub {o i v : Expr} {to ti tv : TE} {ts : TSet} {X : Cx} {ps pos : Pos} (ho : PE X o to) (hi : PE X i ti) (hs : PSet X ts) (hv : PE X v tv) (hl : isLC v = false) (hp : plainE i = true) : PS X (.Assign [.Subscript o i ps] v pos) (tAsg tv (gSub to ti ts)) := by
  refine ps_asg hv (pg_sub ho hi hs ?_) (swaps_sole hl) ?_ rfl
  · intro w
    cases i <;> first | rfl | cases hp
  · cases v <;> rfl
theorem notLC {v e : Expr} (h : ¬ (isLC v || isSlice e) = true) : isLC v = false ∧ isSlice e = false := by
  cases h1 : isLC v <;> cases h2 : isSlice e <;> rw [h1, h2] at h <;> first | exact ⟨rfl, rfl⟩ | exact absurd rfl h
theorem tup_stores {ts : List Expr} {k : Nat} {pt : Pos} {v : Expr} {env : PySem.Env} (h : isTupE v = false) : swappedStores [.Tuple ts k pt] v env = pure none := by
  cases v <;> first | rfl | cases h
theorem par_stores {x y n : Str} {px py pt pn pt2 p2 : Pos} {k k2 : Nat} {l2 r2 : Expr} {op : Operator} {env : PySem.Env} (hk : env.scope.kind = .function) (hx : env.scope.names.lookup x = some .local) (hy : env.scope.names.lookup y = some .local) (hl : (px.line == py.line) = true) (hne : x ≠ y) (hn : okNm n = true) :
    swappedStores [.Tuple [.Name x px, .Name y py] k pt] (.Tuple [.Name n pn, .BinOp l2 op r2 p2] k2 pt2) env = pure (some [x, y]) := by
  have hb : env.blockKind = .function := by unfold PySem.Env.blockKind; rw [hk]; rfl
  have kx : env.kindOf x = some .local := hx
  have ky : env.kindOf y = some .local := hy
  have hl' : px.line = py.line := beq_iff_eq.mp hl
  have hd : (n == ("__debug__" : Str)) = false := (okNm_d hn).1
  unfold swappedStores
  simp only [hb, List.filterMap_cons, kx, ky, List.head?_cons, Option.map_some, Option.getD_some, Expr.pos, beq_self_eq_true, Bool.and_true, if_true, hl', List.filterMap_nil, List.length_cons, List.length_nil]
  have he : [x, y].eraseDups = [x, y] := by
    have ne : ¬ y = x := fun z => hne z.symm
    simp [List.eraseDups_cons, ne]
  have e1 : [Expr.Name n pn, Expr.BinOp l2 op r2 p2].all (foldedForSure 8) = false := rfl
  have e2 : [Expr.Name n pn, Expr.BinOp l2 op r2 p2].all (constantsAlone 8) = false := by
    rw [List.all_cons, show constantsAlone 8 (.Name n pn) = (n == ("__debug__" : Str)) from rfl, hd]; rfl
  rw [he, e1, e2]
  rfl
theorem notTup {v : Expr} (h : ¬ (isLC v || isTupE v) = true) : isLC v = false ∧ isTupE v = false := by
  cases h1 : isLC v <;> cases h2 : isTupE v <;> rw [h1, h2] at h <;> first | exact ⟨rfl, rfl⟩ | exact absurd rfl h
theorem cAsgName_ok {cs : List (Str × D)} (hcs : p.cs = cs) (g : GOk c p.G cs) (hN : c.N = p.N) (ok : OK c r) {y : Str} {py pos : Pos} {v : Expr} {z : PS'} (h : cAsgName p r b y py v = some z) : CS c b (.Assign [.Name y py] v pos) z := by
  unfold cAsgName at h
  split at h
  · rename_i g0 i hg
    obtain ⟨hi, hloc⟩ : ixOf p.N y = some i ∧ (isK (b.sc.names.lookup y) .local || (isK (b.sc.names.lookup y) .cell && b.fn y)) = true := by
      unfold cG at hg
      cases hi : ixOf p.N y with
      | none => simp only [hi] at hg; cases hg
      | some j =>
        simp only [hi] at hg
        split at hg
        · rename_i hc; cases hg; exact ⟨rfl, hc⟩
        · cases hg
    split at h
    · rename_i hl
      have go : ∀ {te : TE}, (∀ X, In c b X → PEs X b v te) → ∀ X, In c b X → PS X (.Assign [.Name y py] v pos) (tAsg te (gName i)) := fun {te} hp X hX => by
        simp only [Bool.or_eq_true, Bool.and_eq_true] at hloc
        refine (hp X hX).2 i y py pos (by rw [hX.N, hN]; exact ixOf_get hi) ?_ ?_ hl (by rw [hX.N]; exact g.nd)
        · show X.env.scope.names.lookup y = _ ∨ X.env.scope.names.lookup y = _
          rw [hX.sc]
          rcases hloc with hc | ⟨hc, _⟩
          · exact .inl (isK_eq hc)
          · exact .inr (isK_eq hc)
        · rw [hX.sc, hX.fn]
          rcases hloc with hc | ⟨_, hc⟩
          · exact .inr (isK_eq hc)
          · exact .inl hc
      split at h
      · split at h
        · rename_i k w pd
          obtain ⟨q1, q2, h1, h2, e⟩ := o2_some h; subst e
          obtain ⟨⟨ta, a1, a2⟩, _⟩ := ok.E _ _ _ h1
          obtain ⟨⟨tb, b1, b2⟩, _⟩ := ok.E _ _ _ h2
          exact ⟨_, go fun X hX => pes_of (pe_dicD hX.x hX.hu (a1 X hX).1 (b1 X hX).1) rfl, ss_ownD a2 b2⟩
        · obtain ⟨q, hq, e⟩ := map_some h; subst e
          obtain ⟨⟨ta, a1, a2⟩, _⟩ := ok.F _ _ _ hq
          exact ⟨_, go a1, ss_own a2⟩
      · split at h
        · obtain ⟨q, hq, e⟩ := map_some h; subst e
          obtain ⟨⟨ta, a1, a2⟩, _⟩ := ok.FF _ _ _ hq
          exact ⟨_, go a1, ss_own2 a2⟩
        · obtain ⟨q, hq, e⟩ := map_some h; subst e
          obtain ⟨⟨ta, a1, a2⟩, _⟩ := ok.E _ _ _ hq
          exact ⟨_, go a1, ss_set a2 sg_name⟩
    · cases h
  · cases h
theorem stepS_ok {cs : List (Str × D)} (hcs : p.cs = cs) (g : GOk c p.G cs) (hN : c.N = p.N) (ok : OK c r) {rS : Bl → List Stmt → Option PS'} (okS : ∀ b sts z, rS b sts = some z → CSs c b sts z) {st : Stmt} {z : PS'} (h : stepS p r rS b st = some z) : CS c b st z := by
  unfold stepS at h
  split at h
  · split at h
    · obtain ⟨q, hq, e⟩ := map_some h; subst e
      obtain ⟨⟨ta, a1, a2⟩, _⟩ := ok.F _ _ _ hq
      exact ⟨_, fun X hX => ps_ret (a1 X hX).1, ss_retF a2⟩
    · obtain ⟨q, hq, e⟩ := map_some h; subst e
      obtain ⟨⟨ta, a1, a2⟩, _⟩ := ok.E _ _ _ hq
      exact ⟨_, fun X hX => ps_ret (a1 X hX).1, ss_ret a2⟩
  · exact cAsgName_ok hcs g hN ok h
  · split at h
    · split at h
      · split at h
        · rename_i i j hi hj
          split at h
          · rename_i hc
            simp only [Bool.and_eq_true, decide_eq_true_eq] at hc
            obtain ⟨⟨⟨hx, hy⟩, hl⟩, hne⟩ := hc
            split at h
            · split at h
              · rename_i hn
                obtain ⟨q, hq, e⟩ := map_some h; subst e
                obtain ⟨⟨ta, a1, a2⟩, a3⟩ := ok.A _ _ _ hq
                refine ⟨_, fun X hX => ?_, ss_par (i := i) (j := j) a2⟩
                have kx := isK_eq hx
                have ky := isK_eq hy
                rw [← hX.sc] at kx ky
                refine ps_par hX.calm (by rw [hX.N]; exact g.nd) (by rw [hX.N, hN]; exact ixOf_get hi) (by rw [hX.N, hN]; exact ixOf_get hj) hne kx ky (a1 X hX) ?_ rfl
                exact par_stores hX.kind kx ky hl (fun e => by subst e; rw [hi] at hj; exact hne (Option.some.inj hj)) hn
              · cases h
            · cases h
          · cases h
        · cases h
      · cases h
    · split at h
      · cases h
      · rename_i hv _ hnot
        split at h
        · rename_i g0 is hg
          obtain ⟨q, hq, e⟩ := map_some h; subst e
          obtain ⟨⟨ta, a1, a2⟩, _⟩ := ok.E _ _ _ hq
          obtain ⟨tg, g1, g2, _⟩ := cT_ok (c := c) hN (hN ▸ g.nd) hg
          have hnot' := notTup hnot
          refine ⟨_, fun X hX => ps_asg (a1 X hX).1 (g1 X hX) (swaps_sole hnot'.1) (tup_stores hnot'.2) rfl, ss_set a2 g2⟩
        · cases h
  · split at h
    · cases h
    · rename_i hnot
      split at h
      · rename_i i hi
        split at h
        · rename_i hv
          obtain ⟨q1, q2, h1, h2, e⟩ := o2_some h; subst e
          obtain ⟨⟨ta, a1, a2⟩, a3⟩ := ok.E _ _ _ h1
          obtain ⟨⟨tb, b1, b2⟩, _⟩ := ok.E _ _ _ h2
          exact ⟨_, fun X hX => asg_sub (pe_nm hN hi hv X hX) (a1 X hX).1 (set_X hX.x hX.hu) (b1 X hX).1 (notLC hnot).1 a3, ss_put b2 a2⟩
        · cases h
      · cases h
  · split at h
    · cases h
    · rename_i hnot
      split at h
      · rename_i i hi
        split at h
        · rename_i hv
          split at h
          · rename_i a c2 d h1 h2 h3
            cases h
            obtain ⟨⟨ta, a1, a2⟩, a3⟩ := ok.E _ _ _ h1
            obtain ⟨⟨tb, b1, b2⟩, b3⟩ := ok.E _ _ _ h2
            obtain ⟨⟨tc, c1, c2⟩, _⟩ := ok.E _ _ _ h3
            refine ⟨_, fun X hX => asg_sub (pe_ix (ix_X hX.x hX.hu) (pe_nm hN hi hv X hX) (a1 X hX).1 (plain_ix a3)) (b1 X hX).1 (set_X hX.x hX.hu) (c1 X hX).1 ?_ b3, ss_put2 c2 a2 b2⟩
            simp only [Bool.or_eq_true, not_or, Bool.not_eq_true] at hnot
            exact hnot.1.1
          · cases h
        · cases h
      · cases h
  · split at h
    · rename_i hm
      obtain ⟨hm1, hm2⟩ := hm
      subst hm1
      split at h
      · rename_i i hi
        split at h
        · rename_i hv
          obtain ⟨q, hq, e⟩ := map_some h; subst e
          obtain ⟨⟨ta, a1, a2⟩, a3⟩ := ok.E _ _ _ hq
          refine ⟨tDrop (tBM c.W.K "list" rAppend (tVar i) (tCons ta tNil)), fun X hX => ps_expr ?_ rfl, ss_app a2⟩
          rw [← hX.x.K]
          refine pe_bm PySem.F.plainAttrs_list PySem.F.slot_list_append PySem.F.type_list_append mt_append (pe_nm hN hi hv X hX) (pa_cons (a1 X hX).1 pa_nil (star_cons a3)) rfl ?_ hm2 (star_cons a3) rfl
          rw [star_cons a3]; rfl
        · cases h
      · cases h
    · cases h
  · split at h
    · rename_i t a c2 h1 h2 h3
      cases h
      obtain ⟨tt, t1, t2⟩ := ok.T _ _ _ h1
      obtain ⟨sa, a1, a2⟩ := okS _ _ _ h2
      obtain ⟨sb, b1, b2⟩ := okS _ _ _ h3
      exact ⟨_, fun X hX => ps_if (t1 X hX) (a1 X hX) (b1 X hX), ss_if t2 a2 b2⟩
    · cases h
  · split at h
    · rename_i g0 is i s h1 h2 h3
      cases h
      obtain ⟨tg, g1, g2, _⟩ := cT_ok (c := c) hN (hN ▸ g.nd) h1
      obtain ⟨⟨ti, i1, i2⟩, i3⟩ := ok.I _ _ _ h2
      obtain ⟨sb, b1, b2⟩ := okS _ _ _ h3
      exact ⟨_, fun X hX => ps_for (by rw [hX.xe]; exact PassesOwn.never) hX.calm (i1 X _ hX) (g1 X hX) (b1 X hX) (plain_set i3 _), ss_for i2 g2 b2⟩
    · cases h
  · obtain ⟨q1, q2, h1, h2, e⟩ := o2_some h; subst e
    obtain ⟨tt, t1, t2⟩ := ok.T _ _ _ h1
    obtain ⟨sb, b1, b2⟩ := okS _ _ _ h2
    exact ⟨_, fun X hX => ps_while (by rw [hX.xe]; exact PassesOwn.never) (t1 X hX) (b1 X hX), ss_while t2 b2⟩
  · cases h

theorem frzs_ok {t : TS} {s : PS'} {W : Wc} (h : SndS W t s) (n : Nat) : ∀ fz : List (Nat × Nat), SndS W t (frzs fz n s)
  | [] => h
  | q :: fz => by
    have ih := frzs_ok h n fz
    unfold frzs
    rw [List.foldr_cons]
    split
    · exact ss_frz q.2 ih
    · exact ih
theorem cSs_ok {cs : List (Str × D)} (hcs : p.cs = cs) (g : GOk c p.G cs) (hN : c.N = p.N) (ok : OK c r) : ∀ n b sts z, cSs p r n b sts = some z → CSs c b sts z
  | 0, _, _, _, h => by unfold cSs at h; cases h
  | n + 1, b, sts, z, h => by
    have ih := cSs_ok hcs g hN ok n
    unfold cSs at h
    split at h
    · cases h; exact ⟨tNext, fun X _ => pss_nil, ss_next⟩
    · split at h
      · rename_i s t h1 h2
        cases h
        obtain ⟨ts, a1, a2⟩ := stepS_ok hcs g hN ok ih h1
        obtain ⟨tt, b1, b2⟩ := ih _ _ _ h2
        exact ⟨_, fun X hX => pss_cons (a1 X hX) (b1 X hX), frzs_ok (ss_seq a2 b2) _ _⟩
      · cases h
theorem comp_ok {cs : List (Str × D)} (hcs : p.cs = cs) (g : GOk c p.G cs) (hN : c.N = p.N) {sc : Scope} {body : List Stmt} {z : PS'} (h : comp p sc body = some z) : CSs c ⟨sc, fun _ => true⟩ body z :=
  cSs_ok hcs g hN (fnsN_ok hcs g hN 40) _ _ _ _ h
end
/-! ### a def -/
def env0 (N : List Str) (ds : List D) : Env := ds.map Sl.sh ++ List.replicate (N.length - ds.length) Sl.no
theorem rep0 {W : Wc} {Ha H : Hp} {ds : List D} {vs : List V} {N : List Str} (he : Ex Ha H) (hi : IsAll W Ha ds vs) : Rep W (fun _ => none) Ha H (start N vs) (env0 N ds) := by
  have hl := hi.length
  refine ⟨?_, he, (fun a i e => by cases e), fun i sl e => ?_⟩
  · unfold L2.start env0
    rw [List.length_append, List.length_append, List.length_map, List.length_map, List.length_replicate, List.length_replicate, hl]
  · unfold env0 at e
    by_cases hi' : i < ds.length
    · rw [List.getElem?_append_left (by rw [List.length_map]; exact hi'), List.getElem?_map] at e
      cases q : ds[i]? with
      | none => rw [q] at e; cases e
      | some d =>
        rw [q] at e
        cases e
        obtain ⟨v, hv, iv⟩ := hi.get q
        refine ⟨v, ?_, iv⟩
        unfold L2.start
        rw [List.getElem?_append_left (by rw [List.length_map, hl]; exact hi'), List.getElem?_map, hv]
        rfl
    · rw [List.getElem?_append_right (by rw [List.length_map]; omega)] at e
      obtain ⟨h1, h2⟩ := List.getElem?_eq_some_iff.mp e
      rw [List.getElem_replicate] at h2
      subst h2
      trivial
theorem go0 {W : Wc} {Ha H : Hp} {ds : List D} {vs : List V} {N : List Str} (he : Ex Ha H) (hi : IsAll W Ha ds vs) : Go W H Ha Ha H (start N vs) (env0 N ds) :=
  ⟨fun _ => none, Ha, rep0 he hi, Ex.refl _, fun a o e => .inl e, (fun a i e => by cases e), Ex.refl _⟩
/-- what a def's body comes to, for a promise -/
def Keeps (N ps : List Str) (s : PS') (S : SpecT) : Prop := ∀ ds k, S ds k → ds.length = ps.length ∧ s { nx := fun _ => k .non, rt := k } (env0 N ds)
/-- the same where a new list of scalars is handed back -/
def KeepsF (N ps : List Str) (s : PS') (S : SpecT) : Prop := ∀ ds k, S ds k → ds.length = ps.length ∧ s { nx := fun _ => False, rt := fun _ => False, rf := fun xs => D.scals xs = true ∧ (∀ x ∈ xs, ∃ i, x = .int i) ∧ k (.lst xs) } (env0 N ds)
section
variable {P : Program} {w : World} {K : PySem.W.Frag} {mg : Str → Option Value} {base : Heap} {C : Addr}
theorem in_def {x qual : Str} {params : Arguments} {body : List Stmt} {sc : Scope} {f : Addr} {fd : FuncData} {N ps : List Str} {k : Nat} {cdv : Value} {A : Around} {outer : List PySem.Env} {s : Shared} {H : Hp} {E : XK} (S : FnScope N ps sc) (hr : Room k (A.deeper (envOfC qual sc s.heap.objs.size f cdv))) :
    In ⟨⟨P, w, K, C⟩, mg, base, N, k⟩ ⟨sc, fun _ => true⟩ (cxOf CX0 P w K mg base N qual sc f cdv A outer s H E).nox :=
  ⟨⟨rfl, rfl, rfl⟩, rfl, rfl, rfl, rfl, S.kind, rfl, rfl, hr, rfl⟩
theorem def_ok {x qual : Str} {params : Arguments} {body : List Stmt} {sc : Scope} {f : Addr} {fd : FuncData} {N ps : List Str} {k : Nat} {sp : SpecT} {p : Par} {z : PS'} (F : FunD K x qual params body sc [] [] f fd) (S : FnScope N ps sc) (hN : p.N = N)
    (g : GOk ⟨⟨P, w, K, C⟩, mg, base, N, k⟩ p.G p.cs) (hz : comp p sc body = some z) (hk : Keeps N ps z sp) : FnOk P w K mg base CX0 (k + 1) f fd ps (spOf ⟨P, w, K, C⟩ sp) := by
  obtain ⟨ts, t1, t2⟩ := comp_ok (c := ⟨⟨P, w, K, C⟩, mg, base, N, k⟩) rfl g hN.symm hz
  refine F.ok S (fun vs H Q E h => ?_) (fun cdv A outer s H vs Q E hr h => ?_)
  · obtain ⟨Ha, ds, k', h1, h2, h3, _⟩ := h
    rw [h2.length]; exact (hk ds k' h3).1
  · obtain ⟨Ha, ds, k', h1, h2, h3, h4⟩ := h
    refine ⟨ts, (t1 _ (in_def (x := x) (params := params) (body := body) (fd := fd) S hr)).nox, ?_⟩
    refine t2 H Ha Ha H _ _ _ _ (go0 h1 h2) (hk ds k' h3).2 (fun σ' H' env' G hk => ?_) (fun v d H' e hi hk => h4 d hk v H' e hi) (fun _ _ _ _ _ _ _ _ hf => hf.elim)
    obtain ⟨O, Hm, G⟩ := G
    exact h4 .non hk .non H' G.ex (by simp only [Is])
theorem def_okF {x qual : Str} {params : Arguments} {body : List Stmt} {sc : Scope} {f : Addr} {fd : FuncData} {N ps : List Str} {k : Nat} {sp : SpecT} {p : Par} {z : PS'} (F : FunD K x qual params body sc [] [] f fd) (S : FnScope N ps sc) (hN : p.N = N)
    (g : GOk ⟨⟨P, w, K, C⟩, mg, base, N, k⟩ p.G p.cs) (hz : comp p sc body = some z) (hk : KeepsF N ps z sp) : FnOk P w K mg base CX0 (k + 1) f fd ps (spFr ⟨P, w, K, C⟩ sp) := by
  obtain ⟨ts, t1, t2⟩ := comp_ok (c := ⟨⟨P, w, K, C⟩, mg, base, N, k⟩) rfl g hN.symm hz
  refine F.ok S (fun vs H Q E h => ?_) (fun cdv A outer s H vs Q E hr h => ?_)
  · obtain ⟨Ha, ds, k', h1, h2, h3, _⟩ := h
    rw [h2.length]; exact (hk ds k' h3).1
  · obtain ⟨Ha, ds, k', h1, h2, h3, h4⟩ := h
    refine ⟨ts, (t1 _ (in_def (x := x) (params := params) (body := body) (fd := fd) S hr)).nox, ?_⟩
    refine t2 H Ha Ha H _ _ _ _ (go0 h1 h2) (hk ds k' h3).2 (fun σ' H' env' G hk => hk.elim) (fun v d H' e hi hk => hk.elim) (fun a xs us H' e ha hl hi ⟨h5, h7, h6⟩ => h4 _ h6 _ H' e ?_)
    simp only [Is]
    refine ⟨a, us, rfl, ?_, ?_⟩
    · unfold join; rw [ha]; exact hl
    · have : ∀ {xs us}, IsAll (⟨P, w, K, C⟩ : Wc) (join Ha H H') xs us → (∀ x ∈ xs, ∃ i, x = .int i) → IsAll (⟨P, w, K, C⟩ : Wc) (join (fun _ => none) H H') xs us := by
        intro xs
        induction xs with
        | nil => intro us h _; simp only [IsAll] at h ⊢; exact h
        | cons x xs ih =>
          intro us h hx
          simp only [IsAll] at h
          obtain ⟨v, r, rfl, q1, q2⟩ := h
          obtain ⟨i, rfl⟩ := hx x (List.mem_cons_self ..)
          exact .cons (by simpa only [Is] using q1) (ih q2 fun y hy => hx y (List.mem_cons_of_mem _ hy))
      exact this hi h7
end
end BB
end
section
set_option maxRecDepth 100000
set_option maxHeartbeats 4000000
/-! Printed by gen.py: the defs' bodies in the pure layer. -/
namespace BB
open PySem L2
def zD : D := .tup [.int 0, .int 1]
def oD : D := .tup [.int 1, .int 1]
/- 0:_law_script 1:_law_place 2:_law_many 3:_law_cell 4:_law_rest 5:_law_row_here 6:_law_k 7:_law_mixed -/
def n__law_row : List Str := ["_law_script", "_law_place", "_law_many", "_law_cell", "_law_rest", "_law_row_here", "_law_k", "_law_mixed"]
def a__law_row : List Str := ["_law_script", "_law_place", "_law_many"]
def p__law_row : Par := ⟨n__law_row, [], [], [5], [], [], false⟩
noncomputable def b__law_row : PS' :=
 (sSeq (sSet (gName' 3) (pAdd (pMul (pC (.int 7919)) (pVar 1)) (pC (.int 5))))
 (sSeq (sIf (tOf (pCmp (fun i j => decide (i < j)) (pVar 1) (pLen (pVar 0))))
 (sSeq (sSet (gName' 3) (pIx (pVar 0) (pVar 1)))
 sNext)
 sNext)
 (sSeq (sSet (gName' 4) (pSub (pVar 3) (pPow (pC (.int 10)) (pC (.int 18)))))
 (sSeq (sOwn 5 (fLst aNil))
 (sSeq (sFor (iRange (pVar 2)) (gName' 6)
 (sSeq (sIf (tOf (pCmp (fun i j => decide (j < i)) (pVar 4) (pC (.int 0))))
 (sSeq (sApp 5 (pMod (pInt (pVar 4)) (pC (.int 1000))))
 (sSeq (sSet (gName' 4) (pDiv (pVar 4) (pC (.int 1000))))
 sNext))
 (sSeq (sSet (gName' 7) (pMod (pInt (pAdd (pAdd (pMul (pVar 3) (pC (.int 48271))) (pMul (pVar 6) (pC (.int 69621)))) (pC (.int 12345)))) (pC (.int 2147483647))))
 (sSeq (sSet (gName' 7) (pMod (pInt (pAdd (pAdd (pMul (pVar 7) (pVar 7)) (pMul (pVar 7) (pC (.int 16807)))) (pMul (pVar 6) (pC (.int 40692))))) (pC (.int 2147483399))))
 (sSeq (sApp 5 (pMod (pDiv (pVar 7) (pC (.int 64))) (pC (.int 1000))))
 sNext))))
 sNext))
 (sSeq (sRet (pVar 5))
 sNext))))))
theorem c__law_row : comp (p__law_row) (defScope (top 75)) (defBody (top 75)) = some (b__law_row) := by kernel_rfl
theorem f__law_row : FnScope n__law_row a__law_row (defScope (top 75)) := C8.fnScope_by (by kernel_rfl)
/- 0:_law_a 1:_law_b 2:_law_k -/
def n__law_gcd : List Str := ["_law_a", "_law_b", "_law_k"]
def a__law_gcd : List Str := ["_law_a", "_law_b"]
def p__law_gcd : Par := ⟨n__law_gcd, [], [], [], [], [], false⟩
noncomputable def b__law_gcd : PS' :=
 (sSeq (sFor (iRange (pAdd (pMul (pC (.int 2)) (pBits (pVar 1))) (pC (.int 2)))) (gName' 2)
 (sSeq (sIf (tOf (pEq (pVar 1) (pC (.int 0))))
 (sSeq (sRet (pVar 0))
 sNext)
 sNext)
 (sSeq (sPar 0 1 (aCons (pVar 1) (aCons (pMod (pInt (pVar 0)) (pVar 1)) aNil)))
 sNext)))
 (sSeq (sRet (pVar 0))
 sNext))
theorem c__law_gcd : comp (p__law_gcd) (defScope (top 77)) (defBody (top 77)) = some (b__law_gcd) := by kernel_rfl
theorem f__law_gcd : FnScope n__law_gcd a__law_gcd (defScope (top 77)) := C8.fnScope_by (by kernel_rfl)
/- 0:_law_p 1:_law_q 2:_law_common -/
def n__law_lowest : List Str := ["_law_p", "_law_q", "_law_common"]
def a__law_lowest : List Str := ["_law_p", "_law_q"]
def p__law_lowest (S__law_gcd : SpecT) : Par := ⟨n__law_lowest, [("_law_gcd", .call S__law_gcd)], [], [], [], [], false⟩
noncomputable def b__law_lowest (S__law_gcd : SpecT) : PS' :=
 (sSeq (sSet (gName' 2) (pCall S__law_gcd (aCons (pAbs (pVar 0)) (aCons (pVar 1) aNil))))
 (sSeq (sRet (pTup (aCons (pDiv (pVar 0) (pVar 2)) (aCons (pDiv (pVar 1) (pVar 2)) aNil))))
 sNext))
theorem c__law_lowest (S__law_gcd : SpecT) : comp (p__law_lowest S__law_gcd) (defScope (top 78)) (defBody (top 78)) = some (b__law_lowest S__law_gcd) := by kernel_rfl
theorem f__law_lowest : FnScope n__law_lowest a__law_lowest (defScope (top 78)) := C8.fnScope_by (by kernel_rfl)
/- 0:_law_row_here 1:_law_start 2:_law_many 3:_law_number 4:_law_k -/
def n__law_long : List Str := ["_law_row_here", "_law_start", "_law_many", "_law_number", "_law_k"]
def a__law_long : List Str := ["_law_row_here", "_law_start", "_law_many"]
def p__law_long : Par := ⟨n__law_long, [], [], [], [], [], false⟩
noncomputable def b__law_long : PS' :=
 (sSeq (sSet (gName' 3) (pC (.int 0)))
 (sSeq (sFor (iRange (pVar 2)) (gName' 4)
 (sSeq (sSet (gName' 3) (pAdd (pMul (pVar 3) (pC (.int 1000))) (pIx (pVar 0) (pAdd (pVar 1) (pVar 4)))))
 sNext))
 (sSeq (sRet (pVar 3))
 sNext)))
theorem c__law_long : comp (p__law_long) (defScope (top 76)) (defBody (top 76)) = some (b__law_long) := by kernel_rfl
theorem f__law_long : FnScope n__law_long a__law_long (defScope (top 76)) := C8.fnScope_by (by kernel_rfl)
/- 0:_law_row_here 1:_law_shape 2:_law_goods 3:_law_kind 4:_law_prices 5:_law_amounts 6:_law_k 7:_law_price 8:_law_amount 9:_law_x -/
def n__law_purchase : List Str := ["_law_row_here", "_law_shape", "_law_goods", "_law_kind", "_law_prices", "_law_amounts", "_law_k", "_law_price", "_law_amount", "_law_x"]
def a__law_purchase : List Str := ["_law_row_here", "_law_shape", "_law_goods", "_law_kind"]
def p__law_purchase (S__law_lowest : SpecT) (S__law_long : SpecT) : Par := ⟨n__law_purchase, [("_law_lowest", .call S__law_lowest), ("_law_long", .call S__law_long)], [], [5, 4], [], [], false⟩
noncomputable def b__law_purchase (S__law_lowest : SpecT) (S__law_long : SpecT) : PS' :=
 (sSeq (sOwn 4 (fLst aNil))
 (sSeq (sOwn 5 (fLst aNil))
 (sSeq (sFor (iRange (pVar 2)) (gName' 6)
 (sSeq (sSet (gName' 7) (pCall S__law_lowest (aCons (pAdd (pC (.int 1)) (pMod (pInt (pIx (pVar 0) (pMul (pC (.int 8)) (pVar 6)))) (pC (.int 12)))) (aCons (pAdd (pC (.int 1)) (pMod (pInt (pIx (pVar 0) (pAdd (pMul (pC (.int 8)) (pVar 6)) (pC (.int 1))))) (pC (.int 5)))) aNil))))
 (sSeq (sSet (gName' 8) (pCall S__law_lowest (aCons (pMod (pInt (pIx (pVar 0) (pAdd (pMul (pC (.int 8)) (pVar 6)) (pC (.int 2))))) (pC (.int 7))) (aCons (pAdd (pC (.int 1)) (pMod (pInt (pIx (pVar 0) (pAdd (pMul (pC (.int 8)) (pVar 6)) (pC (.int 3))))) (pC (.int 4)))) aNil))))
 (sSeq (sIf (tOf (pEq (pVar 3) (pC (.int 0))))
 (sSeq (sSet (gName' 7) (pTup (aCons (pAdd (pC (.int 1)) (pMod (pInt (pIx (pVar 0) (pMul (pC (.int 8)) (pVar 6)))) (pC (.int 3)))) (aCons (pC (.int 1)) aNil))))
 sNext)
 sNext)
 (sSeq (sIf (tOf (pEq (pVar 3) (pC (.int 4))))
 (sSeq (sSet (gName' 7) (pTup (aCons (pAdd (pC (.int 1)) (pMod (pInt (pIx (pVar 1) (pAdd (pC (.int 4)) (pVar 6)))) (pC (.int 3)))) (aCons (pC (.int 1)) aNil))))
 sNext)
 sNext)
 (sSeq (sIf (tOr' (tOf (pEq (pVar 3) (pC (.int 0)))) (tOf (pEq (pVar 3) (pC (.int 4)))))
 (sSeq (sSet (gName' 8) (pTup (aCons (pMod (pInt (pIx (pVar 0) (pAdd (pMul (pC (.int 8)) (pVar 6)) (pC (.int 2))))) (pC (.int 4))) (aCons (pC (.int 1)) aNil))))
 sNext)
 sNext)
 (sSeq (sIf (tOf (pEq (pVar 3) (pC (.int 2))))
 (sSeq (sSet (gName' 8) (pCall S__law_lowest (aCons (pMul (pMul (pAdd (pC (.int 1)) (pMod (pInt (pIx (pVar 1) (pAdd (pC (.int 4)) (pVar 6)))) (pC (.int 5)))) (pAdd (pC (.int 1)) (pMod (pInt (pIx (pVar 0) (pC (.int 32)))) (pC (.int 5))))) (pIx (pVar 7) (pC (.int 1)))) (aCons (pIx (pVar 7) (pC (.int 0))) aNil))))
 sNext)
 sNext)
 (sSeq (sIf (tOf (pEq (pVar 3) (pC (.int 3))))
 (sSeq (sSet (gName' 7) (pCall S__law_lowest (aCons (pAdd (pC (.int 1)) (pCall S__law_long (aCons (pVar 0) (aCons (pMul (pC (.int 8)) (pVar 6)) (aCons (pC (.int 4)) aNil))))) (aCons (pAdd (pC (.int 1)) (pIx (pVar 0) (pAdd (pMul (pC (.int 8)) (pVar 6)) (pC (.int 4))))) aNil))))
 (sSeq (sSet (gName' 8) (pCall S__law_lowest (aCons (pCall S__law_long (aCons (pVar 0) (aCons (pAdd (pMul (pC (.int 8)) (pVar 6)) (pC (.int 4))) (aCons (pC (.int 4)) aNil)))) (aCons (pAdd (pC (.int 1)) (pIx (pVar 0) (pMul (pC (.int 8)) (pVar 6)))) aNil))))
 sNext))
 sNext)
 (sSeq (sApp 4 (pVar 7))
 (sSeq (sApp 5 (pVar 8))
 sNext))))))))))
 (sSeq (sIf (tOf (pEq (pMax (pF (fComp (iList' (pVar 5)) (gName' 9) tYes' (pIx (pVar 9) (pC (.int 0))) [9]))) (pC (.int 0))))
 (sSeq (sPut 5 (pSub (pVar 2) (pC (.int 1))) (pTup (aCons (pC (.int 1)) (aCons (pC (.int 1)) aNil))))
 sNext)
 sNext)
 (sSeq (sRet (pTup (aCons (pVar 4) (aCons (pVar 5) aNil))))
 sNext)))))
theorem c__law_purchase (S__law_lowest : SpecT) (S__law_long : SpecT) : comp (p__law_purchase S__law_lowest S__law_long) (defScope (top 81)) (defBody (top 81)) = some (b__law_purchase S__law_lowest S__law_long) := by kernel_rfl
theorem f__law_purchase : FnScope n__law_purchase a__law_purchase (defScope (top 81)) := C8.fnScope_by (by kernel_rfl)
/- 0:_law_script 1:_law_place 2:_law_most 3:_law_linked 4:_law_shape 5:_law_goods 6:_law_count 7:_law_buys 8:_law_i 9:_law_kind 10:_law_links 11:_law_row_here 12:_law_k -/
def n__law_data : List Str := ["_law_script", "_law_place", "_law_most", "_law_linked", "_law_shape", "_law_goods", "_law_count", "_law_buys", "_law_i", "_law_kind", "_law_links", "_law_row_here", "_law_k"]
def a__law_data : List Str := ["_law_script", "_law_place", "_law_most", "_law_linked"]
def p__law_data (S__law_row : SpecT) (S__law_purchase : SpecT) : Par := ⟨n__law_data, [("_law_row", .call S__law_row), ("_law_purchase", .call S__law_purchase)], [], [7, 10], [], [], false⟩
noncomputable def b__law_data (S__law_row : SpecT) (S__law_purchase : SpecT) : PS' :=
 (sSeq (sSet (gName' 4) (pCall S__law_row (aCons (pVar 0) (aCons (pVar 1) (aCons (pC (.int 9)) aNil)))))
 (sSeq (sSet (gName' 5) (pIx (pF (fLst (aCons (pC (.int 2)) (aCons (pC (.int 1)) (aCons (pC (.int 2)) (aCons (pC (.int 3)) (aCons (pC (.int 3)) (aCons (pC (.int 4)) aNil)))))))) (pMod (pInt (pIx (pVar 4) (pC (.int 0)))) (pC (.int 6)))))
 (sSeq (sSet (gName' 6) (pMod (pInt (pIx (pVar 4) (pC (.int 1)))) (pAdd (pVar 2) (pC (.int 1)))))
 (sSeq (sOwn 7 (fLst aNil))
 (sSeq (sFor (iRange (pVar 6)) (gName' 8)
 (sSeq (sSet (gName' 9) (pIx (pF (fLst (aCons (pC (.int 0)) (aCons (pC (.int 1)) (aCons (pC (.int 2)) (aCons (pC (.int 4)) (aCons (pC (.int 0)) (aCons (pC (.int 1)) (aCons (pC (.int 2)) (aCons (pC (.int 3)) aNil)))))))))) (pMod (pInt (pIx (pVar 4) (pC (.int 2)))) (pC (.int 8)))))
 (sSeq (sApp 7 (pCall S__law_purchase (aCons (pCall S__law_row (aCons (pVar 0) (aCons (pAdd (pAdd (pVar 1) (pC (.int 1))) (pVar 8)) (aCons (pC (.int 33)) aNil)))) (aCons (pVar 4) (aCons (pVar 5) (aCons (pVar 9) aNil))))))
 sNext)))
 (sSeq (sOwn 10 (fLst aNil))
 (sSeq (sSet (gName' 11) (pCall S__law_row (aCons (pVar 0) (aCons (pAdd (pVar 1) (pC (.int 8))) (aCons (pC (.int 18)) aNil)))))
 (sSeq (sIf (tOf (pCmp (fun i j => decide (j < i)) (pVar 6) (pC (.int 0))))
 (sSeq (sFor (iRange (pMod (pInt (pIx (pVar 4) (pC (.int 3)))) (pAdd (pVar 3) (pC (.int 1))))) (gName' 12)
 (sSeq (sApp 10 (pTup (aCons (pMod (pInt (pIx (pVar 11) (pMul (pC (.int 3)) (pVar 12)))) (pVar 6)) (aCons (pMod (pInt (pIx (pVar 11) (pAdd (pMul (pC (.int 3)) (pVar 12)) (pC (.int 1))))) (pVar 6)) (aCons (pEq (pMod (pInt (pIx (pVar 11) (pAdd (pMul (pC (.int 3)) (pVar 12)) (pC (.int 2))))) (pC (.int 2))) (pC (.int 1))) aNil)))))
 sNext))
 sNext)
 sNext)
 (sSeq (sRet (pTup (aCons (pVar 5) (aCons (pVar 7) (aCons (pVar 10) aNil)))))
 sNext)))))))))
theorem c__law_data (S__law_row : SpecT) (S__law_purchase : SpecT) : comp (p__law_data S__law_row S__law_purchase) (defScope (top 82)) (defBody (top 82)) = some (b__law_data S__law_row S__law_purchase) := by kernel_rfl
theorem f__law_data : FnScope n__law_data a__law_data (defScope (top 82)) := C8.fnScope_by (by kernel_rfl)
/- 0:_law_steps_here 1:_law_count 2:_law_table 3:_law_i 4:_law_turn 5:_law_j 6:_law_k -/
def n__law_closure : List Str := ["_law_steps_here", "_law_count", "_law_table", "_law_i", "_law_turn", "_law_j", "_law_k"]
def a__law_closure : List Str := ["_law_steps_here"]
def p__law_closure : Par := ⟨n__law_closure, [], [], [], [2], [], false⟩
noncomputable def b__law_closure : PS' :=
 (sSeq (sSet (gName' 1) (pLen (pVar 0)))
 (sSeq (sOwn2 2 (ffComp (iRange (pVar 1)) (gName' 3) (fComp (iRange (pVar 1)) (gName' 5) tYes' (pC .non) [5]) [3]))
 (sSeq (sFor (iRange (pVar 1)) (gName' 3)
 (sSeq (sPut2 2 (pVar 3) (pVar 3) (pC (.bl false)))
 (sSeq (sFor (iRange (pMul (pC (.int 2)) (pVar 1))) (gName' 4)
 (sSeq (sFor (iRange (pVar 1)) (gName' 5)
 (sSeq (sFor (iRange (pVar 1)) (gName' 6)
 (sSeq (sIf (tAnd' (tOf (pIsN true (pIx (pIx (pVar 2) (pVar 3)) (pVar 5)))) (tAnd' (tOf (pIsN true (pIx (pIx (pVar 0) (pVar 5)) (pVar 6)))) (tOf (pIsT true (pIx (pIx (pVar 2) (pVar 3)) (pVar 6))))))
 (sSeq (sPut2 2 (pVar 3) (pVar 6) (pOr (pIx (pIx (pVar 2) (pVar 3)) (pVar 5)) (pOr (pIx (pIx (pVar 0) (pVar 5)) (pVar 6)) (pIsT false (pIx (pIx (pVar 2) (pVar 3)) (pVar 6))))))
 sNext)
 sNext)
 sNext))
 sNext))
 sNext))
 sNext)))
 (sSeq (sRet (pVar 2))
 sNext))))
theorem c__law_closure : comp (p__law_closure) (defScope (top 88)) (defBody (top 88)) = some (b__law_closure) := by kernel_rfl
theorem f__law_closure : FnScope n__law_closure a__law_closure (defScope (top 88)) := C8.fnScope_by (by kernel_rfl)
/- 0:_law_a 1:_law_b 2:_law_total 3:_law_k 4:_law_q -/
def n__law_dot : List Str := ["_law_a", "_law_b", "_law_total", "_law_k", "_law_q"]
def a__law_dot : List Str := ["_law_a", "_law_b"]
def p__law_dot : Par := ⟨n__law_dot, [], [], [], [], [], false⟩
noncomputable def b__law_dot : PS' :=
 (sSeq (sSet (gName' 2) (pTup (aCons (pC (.int 0)) (aCons (pC (.int 1)) aNil))))
 (sSeq (sFor (iRange (pLen (pVar 0))) (gName' 3)
 (sSeq (sSet (gName' 4) (pMul (pIx (pIx (pVar 0) (pVar 3)) (pC (.int 1))) (pIx (pIx (pVar 1) (pVar 3)) (pC (.int 1)))))
 (sSeq (sSet (gName' 2) (pTup (aCons (pAdd (pMul (pIx (pVar 2) (pC (.int 0))) (pVar 4)) (pMul (pMul (pIx (pIx (pVar 0) (pVar 3)) (pC (.int 0))) (pIx (pIx (pVar 1) (pVar 3)) (pC (.int 0)))) (pIx (pVar 2) (pC (.int 1))))) (aCons (pMul (pIx (pVar 2) (pC (.int 1))) (pVar 4)) aNil))))
 sNext)))
 (sSeq (sRet (pVar 2))
 sNext)))
theorem c__law_dot : comp (p__law_dot) (defScope (top 84)) (defBody (top 84)) = some (b__law_dot) := by kernel_rfl
theorem f__law_dot : FnScope n__law_dot a__law_dot (defScope (top 84)) := C8.fnScope_by (by kernel_rfl)
/- 0:_law_buys 1:_law_i 2:_law_basket 3:_law_price 4:_law_money -/
def n__law_gap : List Str := ["_law_buys", "_law_i", "_law_basket", "_law_price", "_law_money"]
def a__law_gap : List Str := ["_law_buys", "_law_i", "_law_basket"]
def p__law_gap (S__law_dot : SpecT) : Par := ⟨n__law_gap, [("_law_dot", .call S__law_dot)], [], [], [], [], false⟩
noncomputable def b__law_gap (S__law_dot : SpecT) : PS' :=
 (sSeq (sSet (gName' 3) (pCall S__law_dot (aCons (pIx (pIx (pVar 0) (pVar 1)) (pC (.int 0))) (aCons (pVar 2) aNil))))
 (sSeq (sSet (gName' 4) (pCall S__law_dot (aCons (pIx (pIx (pVar 0) (pVar 1)) (pC (.int 0))) (aCons (pIx (pIx (pVar 0) (pVar 1)) (pC (.int 1))) aNil))))
 (sSeq (sRet (pTup (aCons (pSub (pMul (pIx (pVar 3) (pC (.int 0))) (pIx (pVar 4) (pC (.int 1)))) (pMul (pIx (pVar 4) (pC (.int 0))) (pIx (pVar 3) (pC (.int 1))))) (aCons (pMul (pIx (pVar 3) (pC (.int 1))) (pIx (pVar 4) (pC (.int 1)))) aNil))))
 sNext)))
theorem c__law_gap (S__law_dot : SpecT) : comp (p__law_gap S__law_dot) (defScope (top 85)) (defBody (top 85)) = some (b__law_gap S__law_dot) := by kernel_rfl
theorem f__law_gap : FnScope n__law_gap a__law_gap (defScope (top 85)) := C8.fnScope_by (by kernel_rfl)
/- 0:_law_buys 1:_law_links 2:_law_i 3:_law_j 4:_law_found 5:_law_over 6:_law_first 7:_law_second 8:_law_strict -/
def n__law_step : List Str := ["_law_buys", "_law_links", "_law_i", "_law_j", "_law_found", "_law_over", "_law_first", "_law_second", "_law_strict"]
def a__law_step : List Str := ["_law_buys", "_law_links", "_law_i", "_law_j"]
def p__law_step (S__law_gap : SpecT) : Par := ⟨n__law_step, [("_law_gap", .call S__law_gap)], [], [], [], [], false⟩
noncomputable def b__law_step (S__law_gap : SpecT) : PS' :=
 (sSeq (sSet (gName' 4) (pC .non))
 (sSeq (sIf (tOf (pNe (pVar 2) (pVar 3)))
 (sSeq (sSet (gName' 5) (pIx (pCall S__law_gap (aCons (pVar 0) (aCons (pVar 2) (aCons (pIx (pIx (pVar 0) (pVar 3)) (pC (.int 1))) aNil)))) (pC (.int 0))))
 (sSeq (sIf (tOf (pCmp (fun i j => decide (i ≤ j)) (pVar 5) (pC (.int 0))))
 (sSeq (sSet (gName' 4) (pCmp (fun i j => decide (i < j)) (pVar 5) (pC (.int 0))))
 sNext)
 sNext)
 sNext))
 sNext)
 (sSeq (sFor (iList' (pVar 1)) (gTup' 3 (gCons' (gName' 6) (gCons' (gName' 7) (gCons' (gName' 8) gNil'))))
 (sSeq (sIf (tAnd' (tOf (pEq (pVar 6) (pVar 2))) (tOf (pEq (pVar 7) (pVar 3))))
 (sSeq (sSet (gName' 4) (pOr (pVar 8) (pIsT false (pVar 4))))
 sNext)
 sNext)
 sNext))
 (sSeq (sRet (pVar 4))
 sNext))))
theorem c__law_step (S__law_gap : SpecT) : comp (p__law_step S__law_gap) (defScope (top 86)) (defBody (top 86)) = some (b__law_step S__law_gap) := by kernel_rfl
theorem f__law_step : FnScope n__law_step a__law_step (defScope (top 86)) := C8.fnScope_by (by kernel_rfl)
/- 0:_law_buys 1:_law_links 2:_law_i 3:_law_j -/
def n__law_steps : List Str := ["_law_buys", "_law_links", "_law_i", "_law_j"]
def a__law_steps : List Str := ["_law_buys", "_law_links"]
def p__law_steps (S__law_step : SpecT) : Par := ⟨n__law_steps, [("_law_step", .call S__law_step)], [], [], [], [], false⟩
noncomputable def b__law_steps (S__law_step : SpecT) : PS' :=
 (sSeq (sRet (pF (fComp (iRange (pLen (pVar 0))) (gName' 2) tYes' (pF (fComp (iRange (pLen (pVar 0))) (gName' 3) tYes' (pCall S__law_step (aCons (pVar 0) (aCons (pVar 1) (aCons (pVar 2) (aCons (pVar 3) aNil))))) [3])) [2])))
 sNext)
theorem c__law_steps (S__law_step : SpecT) : comp (p__law_steps S__law_step) (defScope (top 87)) (defBody (top 87)) = some (b__law_steps S__law_step) := by kernel_rfl
theorem f__law_steps : FnScope n__law_steps a__law_steps (defScope (top 87)) := C8.fnScope_by (by kernel_rfl)
/- 0:_law_script 1:_law_most 2:_law_goods 3:_law_buys 4:_law_links 5:_law_cut 6:_law_prices 7:_law_amounts 8:_law_kept 9:_law_table 10:_law_x 11:_law_k -/
def n__law_small : List Str := ["_law_script", "_law_most", "_law_goods", "_law_buys", "_law_links", "_law_cut", "_law_prices", "_law_amounts", "_law_kept", "_law_table", "_law_x", "_law_k"]
def a__law_small : List Str := ["_law_script", "_law_most"]
def p__law_small (S__law_data : SpecT) (S__law_closure : SpecT) (S__law_steps : SpecT) : Par := ⟨n__law_small, [("_law_data", .call S__law_data), ("_law_closure", .call S__law_closure), ("_law_steps", .call S__law_steps)], [], [5], [], [(624, 5)], false⟩
noncomputable def b__law_small (S__law_data : SpecT) (S__law_closure : SpecT) (S__law_steps : SpecT) : PS' :=
 (sSeq (sSet (gTup' 3 (gCons' (gName' 2) (gCons' (gName' 3) (gCons' (gName' 4) gNil')))) (pCall S__law_data (aCons (pVar 0) (aCons (pC (.int 0)) (aCons (pVar 1) (aCons (pC (.int 2)) aNil))))))
 (sSeq (sSet (gName' 2) (pMin (pVar 2) (pC (.int 2))))
 (sSeq (sOwn 5 (fLst aNil))
 (sSeq (sFor (iList' (pVar 3)) (gTup' 2 (gCons' (gName' 6) (gCons' (gName' 7) gNil')))
 (sSeq (sSet (gName' 8) (pF (fSl (pVar 7) oNo (oYes (pVar 2)))))
 (sSeq (sIf (tOf (pEq (pMax (pF (fComp (iList' (pVar 8)) (gName' 10) tYes' (pIx (pVar 10) (pC (.int 0))) [10]))) (pC (.int 0))))
 (sSeq (sSet (gName' 8) (pAdd (pF (fSl (pVar 8) oNo (oYes (pNeg (pC (.int 1)))))) (pF (fLst (aCons (pTup (aCons (pC (.int 1)) (aCons (pC (.int 1)) aNil))) aNil)))))
 sNext)
 sNext)
 (sSeq (sApp 5 (pTup (aCons (pF (fSl (pVar 6) oNo (oYes (pVar 2)))) (aCons (pVar 8) aNil))))
 sNext))))
 (sSeq (sFrz 5) (sSeq (sSet (gName' 9) (pCall S__law_closure (aCons (pCall S__law_steps (aCons (pVar 5) (aCons (pVar 4) aNil))) aNil)))
 (sSeq (sIf (tOf (pCmp (fun i j => decide (j < i)) (pLen (pF (fComp (iRange (pLen (pVar 5))) (gName' 11) (tOf (pIsT false (pIx (pIx (pVar 9) (pVar 11)) (pVar 11)))) (pVar 11) [11]))) (pC (.int 0))))
 (sSeq (sOwn 5 (fSl (pVar 5) oNo (oYes (pC (.int 1)))))
 (sSeq (sSet (gName' 4) (pF (fLst aNil)))
 sNext))
 sNext)
 (sSeq (sRet (pTup (aCons (pVar 2) (aCons (pVar 5) (aCons (pVar 4) aNil)))))
 sNext))))))))
theorem c__law_small (S__law_data : SpecT) (S__law_closure : SpecT) (S__law_steps : SpecT) : comp (p__law_small S__law_data S__law_closure S__law_steps) (defScope (top 92)) (defBody (top 92)) = some (b__law_small S__law_data S__law_closure S__law_steps) := by kernel_rfl
theorem f__law_small : FnScope n__law_small a__law_small (defScope (top 92)) := C8.fnScope_by (by kernel_rfl)
/- 0:_law_script 1:_law_goods 2:_law_buys 3:_law_row_here 4:_law_first 5:_law_second 6:_law_k -/
def n__law_two_baskets : List Str := ["_law_script", "_law_goods", "_law_buys", "_law_row_here", "_law_first", "_law_second", "_law_k"]
def a__law_two_baskets : List Str := ["_law_script", "_law_goods", "_law_buys"]
def p__law_two_baskets (S__law_row : SpecT) (S__law_lowest : SpecT) : Par := ⟨n__law_two_baskets, [("_law_row", .call S__law_row), ("_law_lowest", .call S__law_lowest)], [], [], [], [], false⟩
noncomputable def b__law_two_baskets (S__law_row : SpecT) (S__law_lowest : SpecT) : PS' :=
 (sSeq (sSet (gName' 3) (pCall S__law_row (aCons (pVar 0) (aCons (pC (.int 9)) (aCons (pC (.int 12)) aNil)))))
 (sSeq (sSet (gName' 4) (pF (fComp (iRange (pVar 1)) (gName' 6) tYes' (pCall S__law_lowest (aCons (pMod (pInt (pIx (pVar 3) (pMul (pC (.int 2)) (pVar 6)))) (pC (.int 6))) (aCons (pAdd (pC (.int 1)) (pMod (pInt (pIx (pVar 3) (pAdd (pMul (pC (.int 2)) (pVar 6)) (pC (.int 1))))) (pC (.int 3)))) aNil))) [6])))
 (sSeq (sSet (gName' 5) (pF (fComp (iRange (pVar 1)) (gName' 6) tYes' (pCall S__law_lowest (aCons (pMod (pInt (pIx (pVar 3) (pAdd (pC (.int 4)) (pMul (pC (.int 2)) (pVar 6))))) (pC (.int 6))) (aCons (pAdd (pC (.int 1)) (pMod (pInt (pIx (pVar 3) (pAdd (pC (.int 5)) (pMul (pC (.int 2)) (pVar 6))))) (pC (.int 3)))) aNil))) [6])))
 (sSeq (sIf (tAnd' (tTru (pVar 2)) (tOf (pEq (pMod (pInt (pIx (pVar 3) (pC (.int 8)))) (pC (.int 3))) (pC (.int 0)))))
 (sSeq (sSet (gName' 4) (pF (fList (pIx (pIx (pVar 2) (pC (.int 0))) (pC (.int 1))))))
 sNext)
 sNext)
 (sSeq (sIf (tAnd' (tTru (pVar 2)) (tOf (pEq (pMod (pInt (pIx (pVar 3) (pC (.int 9)))) (pC (.int 3))) (pC (.int 0)))))
 (sSeq (sSet (gName' 5) (pF (fList (pIx (pIx (pVar 2) (pSub (pLen (pVar 2)) (pC (.int 1)))) (pC (.int 1))))))
 sNext)
 sNext)
 (sSeq (sRet (pTup (aCons (pVar 4) (aCons (pVar 5) aNil))))
 sNext))))))
theorem c__law_two_baskets (S__law_row : SpecT) (S__law_lowest : SpecT) : comp (p__law_two_baskets S__law_row S__law_lowest) (defScope (top 93)) (defBody (top 93)) = some (b__law_two_baskets S__law_row S__law_lowest) := by kernel_rfl
theorem f__law_two_baskets : FnScope n__law_two_baskets a__law_two_baskets (defScope (top 93)) := C8.fnScope_by (by kernel_rfl)
/- 0:_law_goods 1:_law_buys 2:_law_links 3:_law_one -/
def n__law_made : List Str := ["_law_goods", "_law_buys", "_law_links", "_law_one"]
def a__law_made : List Str := ["_law_goods", "_law_buys", "_law_links"]
def p__law_made (S_Data : SpecT) : Par := ⟨n__law_made, [("Data", .make S_Data)], [], [], [], [], false⟩
noncomputable def b__law_made (S_Data : SpecT) : PS' :=
 (sSeq (sRet (pCall S_Data (aCons (pVar 0) (aCons (pF (fComp (iList' (pVar 1)) (gName' 3) tYes' (pTup (aCons (pF (fList (pIx (pVar 3) (pC (.int 0))))) (aCons (pF (fList (pIx (pVar 3) (pC (.int 1))))) aNil))) [3])) (aCons (pF (fList (pVar 2))) aNil)))))
 sNext)
theorem c__law_made (S_Data : SpecT) : comp (p__law_made S_Data) (defScope (top 83)) (defBody (top 83)) = some (b__law_made S_Data) := by kernel_rfl
theorem f__law_made : FnScope n__law_made a__law_made (defScope (top 83)) := C8.fnScope_by (by kernel_rfl)
/- 0:p 1:q 2:common -/
def n_ratio : List Str := ["p", "q", "common"]
def a_ratio : List Str := ["p", "q"]
def p_ratio : Par := ⟨n_ratio, [], [], [], [], [], false⟩
noncomputable def b_ratio : PS' :=
 (sSeq (sIf (tOf (pCmp (fun i j => decide (i < j)) (pVar 1) (pC (.int 0))))
 (sSeq (sSet (gName' 0) (pNeg (pVar 0)))
 (sSeq (sSet (gName' 1) (pNeg (pVar 1)))
 sNext))
 sNext)
 (sSeq (sSet (gName' 2) (pGcd (pVar 0) (pVar 1)))
 (sSeq (sRet (pTup (aCons (pDiv (pVar 0) (pVar 2)) (aCons (pDiv (pVar 1) (pVar 2)) aNil))))
 sNext)))
theorem c_ratio : comp (p_ratio) (defScope (top 4)) (defBody (top 4)) = some (b_ratio) := by kernel_rfl
theorem f_ratio : FnScope n_ratio a_ratio (defScope (top 4)) := C8.fnScope_by (by kernel_rfl)
/- 0:a 1:b -/
def n_add : List Str := ["a", "b"]
def a_add : List Str := ["a", "b"]
def p_add (S_ratio : SpecT) : Par := ⟨n_add, [("ratio", .call S_ratio)], [], [], [], [], false⟩
noncomputable def b_add (S_ratio : SpecT) : PS' :=
 (sSeq (sRet (pCall S_ratio (aCons (pAdd (pMul (pIx (pVar 0) (pC (.int 0))) (pIx (pVar 1) (pC (.int 1)))) (pMul (pIx (pVar 1) (pC (.int 0))) (pIx (pVar 0) (pC (.int 1))))) (aCons (pMul (pIx (pVar 0) (pC (.int 1))) (pIx (pVar 1) (pC (.int 1)))) aNil))))
 sNext)
theorem c_add (S_ratio : SpecT) : comp (p_add S_ratio) (defScope (top 5)) (defBody (top 5)) = some (b_add S_ratio) := by kernel_rfl
theorem f_add : FnScope n_add a_add (defScope (top 5)) := C8.fnScope_by (by kernel_rfl)
/- 0:a 1:b -/
def n_mul : List Str := ["a", "b"]
def a_mul : List Str := ["a", "b"]
def p_mul (S_ratio : SpecT) : Par := ⟨n_mul, [("ratio", .call S_ratio)], [], [], [], [], false⟩
noncomputable def b_mul (S_ratio : SpecT) : PS' :=
 (sSeq (sRet (pCall S_ratio (aCons (pMul (pIx (pVar 0) (pC (.int 0))) (pIx (pVar 1) (pC (.int 0)))) (aCons (pMul (pIx (pVar 0) (pC (.int 1))) (pIx (pVar 1) (pC (.int 1)))) aNil))))
 sNext)
theorem c_mul (S_ratio : SpecT) : comp (p_mul S_ratio) (defScope (top 7)) (defBody (top 7)) = some (b_mul S_ratio) := by kernel_rfl
theorem f_mul : FnScope n_mul a_mul (defScope (top 7)) := C8.fnScope_by (by kernel_rfl)
/- 0:a 1:b 2:total 3:k -/
def n_dot : List Str := ["a", "b", "total", "k"]
def a_dot : List Str := ["a", "b"]
def p_dot (S_add : SpecT) (S_mul : SpecT) : Par := ⟨n_dot, [("add", .call S_add), ("mul", .call S_mul)], [("ZERO", zD)], [], [], [], false⟩
noncomputable def b_dot (S_add : SpecT) (S_mul : SpecT) : PS' :=
 (sSeq (sSet (gName' 2) (pC zD))
 (sSeq (sFor (iRange (pLen (pVar 0))) (gName' 3)
 (sSeq (sSet (gName' 2) (pCall S_add (aCons (pVar 2) (aCons (pCall S_mul (aCons (pIx (pVar 0) (pVar 3)) (aCons (pIx (pVar 1) (pVar 3)) aNil))) aNil))))
 sNext))
 (sSeq (sRet (pVar 2))
 sNext)))
theorem c_dot (S_add : SpecT) (S_mul : SpecT) : comp (p_dot S_add S_mul) (defScope (top 13)) (defBody (top 13)) = some (b_dot S_add S_mul) := by kernel_rfl
theorem f_dot : FnScope n_dot a_dot (defScope (top 13)) := C8.fnScope_by (by kernel_rfl)
/- 0:prices 1:amounts -/
def n_cost : List Str := ["prices", "amounts"]
def a_cost : List Str := ["prices", "amounts"]
def p_cost (S_dot : SpecT) : Par := ⟨n_cost, [("dot", .call S_dot)], [], [], [], [], false⟩
noncomputable def b_cost (S_dot : SpecT) : PS' :=
 (sSeq (sRet (pCall S_dot (aCons (pVar 0) (aCons (pVar 1) aNil))))
 sNext)
theorem c_cost (S_dot : SpecT) : comp (p_cost S_dot) (defScope (top 16)) (defBody (top 16)) = some (b_cost S_dot) := by kernel_rfl
theorem f_cost : FnScope n_cost a_cost (defScope (top 16)) := C8.fnScope_by (by kernel_rfl)
/- 0:data 1:i 2:prices 3:amounts -/
def n_spent : List Str := ["data", "i", "prices", "amounts"]
def a_spent : List Str := ["data", "i"]
def p_spent (S_dot : SpecT) : Par := ⟨n_spent, [("dot", .call S_dot)], [], [], [], [], false⟩
noncomputable def b_spent (S_dot : SpecT) : PS' :=
 (sSeq (sSet (gTup' 2 (gCons' (gName' 2) (gCons' (gName' 3) gNil'))) (pIx (pFld .buys (pVar 0)) (pVar 1)))
 (sSeq (sRet (pCall S_dot (aCons (pVar 2) (aCons (pVar 3) aNil))))
 sNext))
theorem c_spent (S_dot : SpecT) : comp (p_spent S_dot) (defScope (top 17)) (defBody (top 17)) = some (b_spent S_dot) := by kernel_rfl
theorem f_spent : FnScope n_spent a_spent (defScope (top 17)) := C8.fnScope_by (by kernel_rfl)
/- 0:a 1:b -/
def n_at_most : List Str := ["a", "b"]
def a_at_most : List Str := ["a", "b"]
def p_at_most : Par := ⟨n_at_most, [], [], [], [], [], false⟩
noncomputable def b_at_most : PS' :=
 (sSeq (sRet (pCmp (fun i j => decide (i ≤ j)) (pMul (pIx (pVar 0) (pC (.int 0))) (pIx (pVar 1) (pC (.int 1)))) (pMul (pIx (pVar 1) (pC (.int 0))) (pIx (pVar 0) (pC (.int 1))))))
 sNext)
theorem c_at_most : comp (p_at_most) (defScope (top 11)) (defBody (top 11)) = some (b_at_most) := by kernel_rfl
theorem f_at_most : FnScope n_at_most a_at_most (defScope (top 11)) := C8.fnScope_by (by kernel_rfl)
/- 0:a 1:b -/
def n_less : List Str := ["a", "b"]
def a_less : List Str := ["a", "b"]
def p_less : Par := ⟨n_less, [], [], [], [], [], false⟩
noncomputable def b_less : PS' :=
 (sSeq (sRet (pCmp (fun i j => decide (i < j)) (pMul (pIx (pVar 0) (pC (.int 0))) (pIx (pVar 1) (pC (.int 1)))) (pMul (pIx (pVar 1) (pC (.int 0))) (pIx (pVar 0) (pC (.int 1))))))
 sNext)
theorem c_less : comp (p_less) (defScope (top 10)) (defBody (top 10)) = some (b_less) := by kernel_rfl
theorem f_less : FnScope n_less a_less (defScope (top 10)) := C8.fnScope_by (by kernel_rfl)
/- 0:data 1:i 2:j 3:result 4:price 5:money 6:first 7:second 8:strict -/
def n_step : List Str := ["data", "i", "j", "result", "price", "money", "first", "second", "strict"]
def a_step : List Str := ["data", "i", "j"]
def p_step (S_cost : SpecT) (S_spent : SpecT) (S_at_most : SpecT) (S_less : SpecT) : Par := ⟨n_step, [("cost", .call S_cost), ("spent", .call S_spent), ("at_most", .call S_at_most), ("less", .call S_less)], [], [], [], [], false⟩
noncomputable def b_step (S_cost : SpecT) (S_spent : SpecT) (S_at_most : SpecT) (S_less : SpecT) : PS' :=
 (sSeq (sSet (gName' 3) (pC .non))
 (sSeq (sIf (tOf (pNe (pVar 1) (pVar 2)))
 (sSeq (sSet (gName' 4) (pCall S_cost (aCons (pIx (pIx (pFld .buys (pVar 0)) (pVar 1)) (pC (.int 0))) (aCons (pIx (pIx (pFld .buys (pVar 0)) (pVar 2)) (pC (.int 1))) aNil))))
 (sSeq (sSet (gName' 5) (pCall S_spent (aCons (pVar 0) (aCons (pVar 1) aNil))))
 (sSeq (sIf (tTru (pCall S_at_most (aCons (pVar 4) (aCons (pVar 5) aNil))))
 (sSeq (sSet (gName' 3) (pCall S_less (aCons (pVar 4) (aCons (pVar 5) aNil))))
 sNext)
 sNext)
 sNext)))
 sNext)
 (sSeq (sFor (iList' (pFld .links (pVar 0))) (gTup' 3 (gCons' (gName' 6) (gCons' (gName' 7) (gCons' (gName' 8) gNil'))))
 (sSeq (sIf (tAnd' (tOf (pEq (pVar 6) (pVar 1))) (tOf (pEq (pVar 7) (pVar 2))))
 (sSeq (sSet (gName' 3) (pOr (pIsT false (pVar 3)) (pVar 8)))
 sNext)
 sNext)
 sNext))
 (sSeq (sRet (pVar 3))
 sNext))))
theorem c_step (S_cost : SpecT) (S_spent : SpecT) (S_at_most : SpecT) (S_less : SpecT) : comp (p_step S_cost S_spent S_at_most S_less) (defScope (top 37)) (defBody (top 37)) = some (b_step S_cost S_spent S_at_most S_less) := by kernel_rfl
theorem f_step : FnScope n_step a_step (defScope (top 37)) := C8.fnScope_by (by kernel_rfl)
/- 0:data 1:count 2:i 3:j -/
def n_step_table : List Str := ["data", "count", "i", "j"]
def a_step_table : List Str := ["data"]
def p_step_table (S_step : SpecT) : Par := ⟨n_step_table, [("step", .call S_step)], [], [], [], [], false⟩
noncomputable def b_step_table (S_step : SpecT) : PS' :=
 (sSeq (sSet (gName' 1) (pLen (pFld .buys (pVar 0))))
 (sSeq (sRet (pF (fComp (iRange (pVar 1)) (gName' 2) tYes' (pF (fComp (iRange (pVar 1)) (gName' 3) tYes' (pCall S_step (aCons (pVar 0) (aCons (pVar 2) (aCons (pVar 3) aNil)))) [3])) [2])))
 sNext))
theorem c_step_table (S_step : SpecT) : comp (p_step_table S_step) (defScope (top 38)) (defBody (top 38)) = some (b_step_table S_step) := by kernel_rfl
theorem f_step_table : FnScope n_step_table a_step_table (defScope (top 38)) := C8.fnScope_by (by kernel_rfl)
/- 0:table 1:i 2:found 3:queue 4:at 5:j 6:strict 7:chain 8:k 9:one -/
def n_find_in : List Str := ["table", "i", "found", "queue", "at", "j", "strict", "chain", "k", "one"]
def a_find_in : List Str := ["table", "i"]
def p_find_in : Par := ⟨n_find_in, [], [], [2, 3], [], [], false⟩
noncomputable def b_find_in : PS' :=
 (sSeq (sOwnD 2 (pTup (aCons (pVar 1) (aCons (pC (.bl false)) aNil))) (pF (fLst (aCons (pVar 1) aNil))))
 (sSeq (sOwn 3 (fLst (aCons (pTup (aCons (pVar 1) (aCons (pC (.bl false)) aNil))) aNil)))
 (sSeq (sSet (gName' 4) (pC (.int 0)))
 (sSeq (sWhile (tOf (pCmp (fun i j => decide (i < j)) (pVar 4) (pLen (pVar 3))))
 (sSeq (sSet (gTup' 2 (gCons' (gName' 5) (gCons' (gName' 6) gNil'))) (pIx (pVar 3) (pVar 4)))
 (sSeq (sSet (gName' 7) (pIx (pVar 2) (pTup (aCons (pVar 5) (aCons (pVar 6) aNil)))))
 (sSeq (sFor (iRange (pLen (pVar 0))) (gName' 8)
 (sSeq (sSet (gName' 9) (pIx (pIx (pVar 0) (pVar 5)) (pVar 8)))
 (sSeq (sIf (tAnd' (tOf (pIsN true (pVar 9))) (tOf (pIn true (pTup (aCons (pVar 8) (aCons (pOr (pVar 6) (pVar 9)) aNil))) (pVar 2))))
 (sSeq (sPut 2 (pTup (aCons (pVar 8) (aCons (pOr (pVar 6) (pVar 9)) aNil))) (pAdd (pVar 7) (pF (fLst (aCons (pVar 8) aNil)))))
 (sSeq (sApp 3 (pTup (aCons (pVar 8) (aCons (pOr (pVar 6) (pVar 9)) aNil))))
 sNext))
 sNext)
 sNext)))
 (sSeq (sSet (gName' 4) (pAdd (pVar 4) (pC (.int 1))))
 sNext)))))
 (sSeq (sRet (pVar 2))
 sNext)))))
theorem c_find_in : comp (p_find_in) (defScope (top 39)) (defBody (top 39)) = some (b_find_in) := by kernel_rfl
theorem f_find_in : FnScope n_find_in a_find_in (defScope (top 39)) := C8.fnScope_by (by kernel_rfl)
/- 0:data 1:table 2:count 3:result 4:i 5:found 6:row 7:j -/
def n_leads : List Str := ["data", "table", "count", "result", "i", "found", "row", "j"]
def a_leads : List Str := ["data"]
def p_leads (S_step_table : SpecT) (S_find_in : SpecT) : Par := ⟨n_leads, [("step_table", .call S_step_table), ("find_in", .call S_find_in)], [], [3, 6], [], [(229, 6)], false⟩
noncomputable def b_leads (S_step_table : SpecT) (S_find_in : SpecT) : PS' :=
 (sSeq (sSet (gName' 1) (pCall S_step_table (aCons (pVar 0) aNil)))
 (sSeq (sSet (gName' 2) (pLen (pFld .buys (pVar 0))))
 (sSeq (sOwn 3 (fLst aNil))
 (sSeq (sFor (iRange (pVar 2)) (gName' 4)
 (sSeq (sSet (gName' 5) (pCall S_find_in (aCons (pVar 1) (aCons (pVar 4) aNil))))
 (sSeq (sOwn 6 (fLst aNil))
 (sSeq (sFor (iRange (pVar 2)) (gName' 7)
 (sSeq (sIf (tOf (pIn false (pTup (aCons (pVar 7) (aCons (pC (.bl true)) aNil))) (pVar 5)))
 (sSeq (sApp 6 (pC (.bl true)))
 sNext)
 (sSeq (sIf (tOf (pIn false (pTup (aCons (pVar 7) (aCons (pC (.bl false)) aNil))) (pVar 5)))
 (sSeq (sApp 6 (pC (.bl false)))
 sNext)
 (sSeq (sApp 6 (pC .non))
 sNext))
 sNext))
 sNext))
 (sSeq (sFrz 6) (sSeq (sApp 3 (pVar 6))
 sNext))))))
 (sSeq (sRet (pVar 3))
 sNext)))))
theorem c_leads (S_step_table : SpecT) (S_find_in : SpecT) : comp (p_leads S_step_table S_find_in) (defScope (top 40)) (defBody (top 40)) = some (b_leads S_step_table S_find_in) := by kernel_rfl
theorem f_leads : FnScope n_leads a_leads (defScope (top 40)) := C8.fnScope_by (by kernel_rfl)
/- 0:table 1:done 2:count 3:i 4:free 5:j -/
def n_next_class : List Str := ["table", "done", "count", "i", "free", "j"]
def a_next_class : List Str := ["table", "done"]
def p_next_class : Par := ⟨n_next_class, [], [], [], [], [], true⟩
noncomputable def b_next_class : PS' :=
 (sSeq (sSet (gName' 2) (pLen (pVar 0)))
 (sSeq (sFor (iRange (pVar 2)) (gName' 3)
 (sSeq (sIf (tNot' (tTru (pIx (pVar 1) (pVar 3))))
 (sSeq (sSet (gName' 4) (pC (.bl true)))
 (sSeq (sFor (iRange (pVar 2)) (gName' 5)
 (sSeq (sIf (tAnd' (tNot' (tTru (pIx (pVar 1) (pVar 5)))) (tAnd' (tOf (pIsN true (pIx (pIx (pVar 0) (pVar 5)) (pVar 3)))) (tOf (pIsN false (pIx (pIx (pVar 0) (pVar 3)) (pVar 5))))))
 (sSeq (sSet (gName' 4) (pC (.bl false)))
 sNext)
 sNext)
 sNext))
 (sSeq (sIf (tTru (pVar 4))
 (sSeq (sRetF (fComp (iRange (pVar 2)) (gName' 5) (tAnd' (tOf (pIsN true (pIx (pIx (pVar 0) (pVar 3)) (pVar 5)))) (tOf (pIsN true (pIx (pIx (pVar 0) (pVar 5)) (pVar 3))))) (pVar 5) [5]))
 sNext)
 sNext)
 sNext)))
 sNext)
 sNext))
 (sSeq (sRetF (fLst aNil))
 sNext)))
theorem c_next_class : comp (p_next_class) (defScope (top 46)) (defBody (top 46)) = some (b_next_class) := by kernel_rfl
theorem f_next_class : FnScope n_next_class a_next_class (defScope (top 46)) := C8.fnScope_by (by kernel_rfl)
/- 0:a 1:b -/
def n_sub : List Str := ["a", "b"]
def a_sub : List Str := ["a", "b"]
def p_sub (S_ratio : SpecT) : Par := ⟨n_sub, [("ratio", .call S_ratio)], [], [], [], [], false⟩
noncomputable def b_sub (S_ratio : SpecT) : PS' :=
 (sSeq (sRet (pCall S_ratio (aCons (pSub (pMul (pIx (pVar 0) (pC (.int 0))) (pIx (pVar 1) (pC (.int 1)))) (pMul (pIx (pVar 1) (pC (.int 0))) (pIx (pVar 0) (pC (.int 1))))) (aCons (pMul (pIx (pVar 0) (pC (.int 1))) (pIx (pVar 1) (pC (.int 1)))) aNil))))
 sNext)
theorem c_sub (S_ratio : SpecT) : comp (p_sub S_ratio) (defScope (top 6)) (defBody (top 6)) = some (b_sub S_ratio) := by kernel_rfl
theorem f_sub : FnScope n_sub a_sub (defScope (top 6)) := C8.fnScope_by (by kernel_rfl)
/- 0:data 1:taste 2:i 3:basket 4:numbers 5:weights -/
def n_plane : List Str := ["data", "taste", "i", "basket", "numbers", "weights"]
def a_plane : List Str := ["data", "taste", "i", "basket"]
def p_plane (S_add : SpecT) (S_mul : SpecT) (S_sub : SpecT) (S_spent : SpecT) (S_cost : SpecT) : Par := ⟨n_plane, [("add", .call S_add), ("mul", .call S_mul), ("sub", .call S_sub), ("spent", .call S_spent), ("cost", .call S_cost)], [], [], [], [], false⟩
noncomputable def b_plane (S_add : SpecT) (S_mul : SpecT) (S_sub : SpecT) (S_spent : SpecT) (S_cost : SpecT) : PS' :=
 (sSeq (sSet (gTup' 2 (gCons' (gName' 4) (gCons' (gName' 5) gNil'))) (pVar 1))
 (sSeq (sRet (pCall S_add (aCons (pIx (pVar 4) (pVar 2)) (aCons (pCall S_mul (aCons (pIx (pVar 5) (pVar 2)) (aCons (pCall S_sub (aCons (pCall S_cost (aCons (pIx (pIx (pFld .buys (pVar 0)) (pVar 2)) (pC (.int 0))) (aCons (pVar 3) aNil))) (aCons (pCall S_spent (aCons (pVar 0) (aCons (pVar 2) aNil))) aNil))) aNil))) aNil))))
 sNext))
theorem c_plane (S_add : SpecT) (S_mul : SpecT) (S_sub : SpecT) (S_spent : SpecT) (S_cost : SpecT) : comp (p_plane S_add S_mul S_sub S_spent S_cost) (defScope (top 43)) (defBody (top 43)) = some (b_plane S_add S_mul S_sub S_spent S_cost) := by kernel_rfl
theorem f_plane : FnScope n_plane a_plane (defScope (top 43)) := C8.fnScope_by (by kernel_rfl)
/- 0:data 1:taste 2:done 3:members 4:numbers 5:best 6:k 7:found 8:value 9:j -/
def n_class_number : List Str := ["data", "taste", "done", "members", "numbers", "best", "k", "found", "value", "j"]
def a_class_number : List Str := ["data", "taste", "done", "members"]
def p_class_number (S_plane : SpecT) (S_less : SpecT) (S_sub : SpecT) : Par := ⟨n_class_number, [("plane", .call S_plane), ("less", .call S_less), ("sub", .call S_sub)], [("ZERO", zD), ("ONE", oD)], [], [], [], false⟩
noncomputable def b_class_number (S_plane : SpecT) (S_less : SpecT) (S_sub : SpecT) : PS' :=
 (sSeq (sSet (gName' 4) (pIx (pVar 1) (pC (.int 0))))
 (sSeq (sSet (gName' 5) (pC .non))
 (sSeq (sFor (iRange (pLen (pVar 2))) (gName' 6)
 (sSeq (sIf (tTru (pIx (pVar 2) (pVar 6)))
 (sSeq (sSet (gName' 7) (pAdd (pF (fLst (aCons (pIx (pVar 4) (pVar 6)) aNil))) (pF (fComp (iList' (pVar 3)) (gName' 9) tYes' (pCall S_plane (aCons (pVar 0) (aCons (pVar 1) (aCons (pVar 6) (aCons (pIx (pIx (pFld .buys (pVar 0)) (pVar 9)) (pC (.int 1))) aNil))))) [9]))))
 (sSeq (sFor (iList' (pVar 7)) (gName' 8)
 (sSeq (sIf (tOr' (tOf (pIsN false (pVar 5))) (tTru (pCall S_less (aCons (pVar 8) (aCons (pVar 5) aNil)))))
 (sSeq (sSet (gName' 5) (pVar 8))
 sNext)
 sNext)
 sNext))
 sNext))
 sNext)
 sNext))
 (sSeq (sIf (tOf (pIsN false (pVar 5)))
 (sSeq (sRet (pC zD))
 sNext)
 sNext)
 (sSeq (sRet (pCall S_sub (aCons (pVar 5) (aCons (pC oD) aNil))))
 sNext)))))
theorem c_class_number (S_plane : SpecT) (S_less : SpecT) (S_sub : SpecT) : comp (p_class_number S_plane S_less S_sub) (defScope (top 47)) (defBody (top 47)) = some (b_class_number S_plane S_less S_sub) := by kernel_rfl
theorem f_class_number : FnScope n_class_number a_class_number (defScope (top 47)) := C8.fnScope_by (by kernel_rfl)
/- 0:a 1:b -/
def n_div : List Str := ["a", "b"]
def a_div : List Str := ["a", "b"]
def p_div (S_ratio : SpecT) : Par := ⟨n_div, [("ratio", .call S_ratio)], [], [], [], [], false⟩
noncomputable def b_div (S_ratio : SpecT) : PS' :=
 (sSeq (sRet (pCall S_ratio (aCons (pMul (pIx (pVar 0) (pC (.int 0))) (pIx (pVar 1) (pC (.int 1)))) (aCons (pMul (pIx (pVar 0) (pC (.int 1))) (pIx (pVar 1) (pC (.int 0)))) aNil))))
 sNext)
theorem c_div (S_ratio : SpecT) : comp (p_div S_ratio) (defScope (top 8)) (defBody (top 8)) = some (b_div S_ratio) := by kernel_rfl
theorem f_div : FnScope n_div a_div (defScope (top 8)) := C8.fnScope_by (by kernel_rfl)
/- 0:data 1:numbers 2:done 3:number 4:j 5:best 6:prices 7:money 8:k 9:value -/
def n_member_weight : List Str := ["data", "numbers", "done", "number", "j", "best", "prices", "money", "k", "value"]
def a_member_weight : List Str := ["data", "numbers", "done", "number", "j"]
def p_member_weight (S_spent : SpecT) (S_div : SpecT) (S_sub : SpecT) (S_cost : SpecT) (S_less : SpecT) : Par := ⟨n_member_weight, [("spent", .call S_spent), ("div", .call S_div), ("sub", .call S_sub), ("cost", .call S_cost), ("less", .call S_less)], [("ONE", oD)], [], [], [], false⟩
noncomputable def b_member_weight (S_spent : SpecT) (S_div : SpecT) (S_sub : SpecT) (S_cost : SpecT) (S_less : SpecT) : PS' :=
 (sSeq (sSet (gName' 5) (pC oD))
 (sSeq (sSet (gName' 6) (pIx (pIx (pFld .buys (pVar 0)) (pVar 4)) (pC (.int 0))))
 (sSeq (sSet (gName' 7) (pCall S_spent (aCons (pVar 0) (aCons (pVar 4) aNil))))
 (sSeq (sFor (iRange (pLen (pVar 2))) (gName' 8)
 (sSeq (sIf (tTru (pIx (pVar 2) (pVar 8)))
 (sSeq (sSet (gName' 9) (pCall S_div (aCons (pCall S_sub (aCons (pIx (pVar 1) (pVar 8)) (aCons (pVar 3) aNil))) (aCons (pCall S_sub (aCons (pCall S_cost (aCons (pVar 6) (aCons (pIx (pIx (pFld .buys (pVar 0)) (pVar 8)) (pC (.int 1))) aNil))) (aCons (pVar 7) aNil))) aNil))))
 (sSeq (sIf (tTru (pCall S_less (aCons (pVar 5) (aCons (pVar 9) aNil))))
 (sSeq (sSet (gName' 5) (pVar 9))
 sNext)
 sNext)
 sNext))
 sNext)
 sNext))
 (sSeq (sRet (pVar 5))
 sNext)))))
theorem c_member_weight (S_spent : SpecT) (S_div : SpecT) (S_sub : SpecT) (S_cost : SpecT) (S_less : SpecT) : comp (p_member_weight S_spent S_div S_sub S_cost S_less) (defScope (top 48)) (defBody (top 48)) = some (b_member_weight S_spent S_div S_sub S_cost S_less) := by kernel_rfl
theorem f_member_weight : FnScope n_member_weight a_member_weight (defScope (top 48)) := C8.fnScope_by (by kernel_rfl)
/- 0:data 1:table 2:count 3:numbers 4:weights 5:done 6:_ 7:members 8:number 9:found 10:k 11:j -/
def n_make_taste : List Str := ["data", "table", "count", "numbers", "weights", "done", "_", "members", "number", "found", "k", "j"]
def a_make_taste : List Str := ["data", "table"]
def p_make_taste (S_next_class : SpecT) (S_class_number : SpecT) (S_member_weight : SpecT) : Par := ⟨n_make_taste, [("next_class", .fresh S_next_class), ("class_number", .call S_class_number), ("member_weight", .call S_member_weight)], [("ZERO", zD), ("ONE", oD)], [3, 4, 5], [], [], false⟩
noncomputable def b_make_taste (S_next_class : SpecT) (S_class_number : SpecT) (S_member_weight : SpecT) : PS' :=
 (sSeq (sSet (gName' 2) (pLen (pVar 1)))
 (sSeq (sOwn 3 (fComp (iRange (pVar 2)) (gName' 10) tYes' (pC zD) [10]))
 (sSeq (sOwn 4 (fComp (iRange (pVar 2)) (gName' 10) tYes' (pC oD) [10]))
 (sSeq (sOwn 5 (fComp (iRange (pVar 2)) (gName' 10) tYes' (pC (.bl false)) [10]))
 (sSeq (sFor (iRange (pVar 2)) (gName' 6)
 (sSeq (sSet (gName' 7) (pCallF S_next_class (aCons (pVar 1) (aCons (pVar 5) aNil))))
 (sSeq (sSet (gName' 8) (pCall S_class_number (aCons (pVar 0) (aCons (pTup (aCons (pVar 3) (aCons (pVar 4) aNil))) (aCons (pVar 5) (aCons (pVar 7) aNil))))))
 (sSeq (sSet (gName' 9) (pF (fComp (iList' (pVar 7)) (gName' 11) tYes' (pCall S_member_weight (aCons (pVar 0) (aCons (pVar 3) (aCons (pVar 5) (aCons (pVar 8) (aCons (pVar 11) aNil)))))) [11])))
 (sSeq (sFor (iRange (pLen (pVar 7))) (gName' 10)
 (sSeq (sPut 3 (pIx (pVar 7) (pVar 10)) (pVar 8))
 (sSeq (sPut 4 (pIx (pVar 7) (pVar 10)) (pIx (pVar 9) (pVar 10)))
 (sSeq (sPut 5 (pIx (pVar 7) (pVar 10)) (pC (.bl true)))
 sNext))))
 sNext)))))
 (sSeq (sRet (pTup (aCons (pVar 3) (aCons (pVar 4) aNil))))
 sNext))))))
theorem c_make_taste (S_next_class : SpecT) (S_class_number : SpecT) (S_member_weight : SpecT) : comp (p_make_taste S_next_class S_class_number S_member_weight) (defScope (top 49)) (defBody (top 49)) = some (b_make_taste S_next_class S_class_number S_member_weight) := by kernel_rfl
theorem f_make_taste : FnScope n_make_taste a_make_taste (defScope (top 49)) := C8.fnScope_by (by kernel_rfl)
/- 0:data 1:table 2:i -/
def n_check : List Str := ["data", "table", "i"]
def a_check : List Str := ["data"]
def p_check (S_leads : SpecT) (S_make_taste : SpecT) : Par := ⟨n_check, [("leads", .call S_leads), ("find_chain", .never), ("make_taste", .call S_make_taste)], [], [], [], [], false⟩
noncomputable def b_check (S_leads : SpecT) (S_make_taste : SpecT) : PS' :=
 (sSeq (sSet (gName' 1) (pCall S_leads (aCons (pVar 0) aNil)))
 (sSeq (sFor (iRange (pLen (pVar 1))) (gName' 2)
 (sSeq (sIf (tOf (pIsT false (pIx (pIx (pVar 1) (pVar 2)) (pVar 2))))
 (sSeq (sRet (pTup (aCons (pC (.str "ring")) (aCons (fun _ _ => False) aNil))))
 sNext)
 sNext)
 sNext))
 (sSeq (sRet (pTup (aCons (pC (.str "taste")) (aCons (pCall S_make_taste (aCons (pVar 0) (aCons (pVar 1) aNil))) aNil))))
 sNext)))
theorem c_check (S_leads : SpecT) (S_make_taste : SpecT) : comp (p_check S_leads S_make_taste) (defScope (top 50)) (defBody (top 50)) = some (b_check S_leads S_make_taste) := by kernel_rfl
theorem f_check : FnScope n_check a_check (defScope (top 50)) := C8.fnScope_by (by kernel_rfl)
/- 0:data 1:first 2:second 3:prices 4:amounts -/
def n_points_of : List Str := ["data", "first", "second", "prices", "amounts"]
def a_points_of : List Str := ["data", "first", "second"]
def p_points_of : Par := ⟨n_points_of, [], [], [], [], [], false⟩
noncomputable def b_points_of : PS' :=
 (sSeq (sRet (pAdd (pF (fComp (iList' (pFld .buys (pVar 0))) (gTup' 2 (gCons' (gName' 3) (gCons' (gName' 4) gNil'))) tYes' (pVar 4) [3, 4])) (pF (fLst (aCons (pVar 1) (aCons (pVar 2) aNil))))))
 sNext)
theorem c_points_of : comp (p_points_of) (defScope (top 52)) (defBody (top 52)) = some (b_points_of) := by kernel_rfl
theorem f_points_of : FnScope n_points_of a_points_of (defScope (top 52)) := C8.fnScope_by (by kernel_rfl)
/- 0:a -/
def n_neg : List Str := ["a"]
def a_neg : List Str := ["a"]
def p_neg : Par := ⟨n_neg, [], [], [], [], [], false⟩
noncomputable def b_neg : PS' :=
 (sSeq (sRet (pTup (aCons (pNeg (pIx (pVar 0) (pC (.int 0)))) (aCons (pIx (pVar 0) (pC (.int 1))) aNil))))
 sNext)
theorem c_neg : comp (p_neg) (defScope (top 9)) (defBody (top 9)) = some (b_neg) := by kernel_rfl
theorem f_neg : FnScope n_neg a_neg (defScope (top 9)) := C8.fnScope_by (by kernel_rfl)
/- 0:line 1:entries 2:kind 3:right 4:other 5:x -/
def n_turned : List Str := ["line", "entries", "kind", "right", "other", "x"]
def a_turned : List Str := ["line"]
def p_turned (S_less : SpecT) (S_neg : SpecT) : Par := ⟨n_turned, [("less", .call S_less), ("neg", .call S_neg)], [("ZERO", zD)], [], [], [], false⟩
noncomputable def b_turned (S_less : SpecT) (S_neg : SpecT) : PS' :=
 (sSeq (sSet (gTup' 3 (gCons' (gName' 1) (gCons' (gName' 2) (gCons' (gName' 3) gNil')))) (pVar 0))
 (sSeq (sIf (tAnd' (tNot' (tTru (pCall S_less (aCons (pVar 3) (aCons (pC zD) aNil))))) (tOr' (tOf (pNe (pVar 2) (pC (.str "least")))) (tOf (pNe (pVar 3) (pC zD)))))
 (sSeq (sRet (pTup (aCons (pVar 1) (aCons (pVar 2) (aCons (pVar 3) (aCons (pC (.bl false)) aNil))))))
 sNext)
 sNext)
 (sSeq (sSet (gName' 4) (pVar 2))
 (sSeq (sIf (tOf (pEq (pVar 2) (pC (.str "least"))))
 (sSeq (sSet (gName' 4) (pC (.str "most")))
 sNext)
 (sSeq (sIf (tOf (pEq (pVar 2) (pC (.str "most"))))
 (sSeq (sSet (gName' 4) (pC (.str "least")))
 sNext)
 sNext)
 sNext))
 (sSeq (sRet (pTup (aCons (pF (fComp (iList' (pVar 1)) (gName' 5) tYes' (pCall S_neg (aCons (pVar 5) aNil)) [5])) (aCons (pVar 4) (aCons (pCall S_neg (aCons (pVar 3) aNil)) (aCons (pC (.bl true)) aNil))))))
 sNext)))))
theorem c_turned (S_less : SpecT) (S_neg : SpecT) : comp (p_turned S_less S_neg) (defScope (top 20)) (defBody (top 20)) = some (b_turned S_less S_neg) := by kernel_rfl
theorem f_turned : FnScope n_turned a_turned (defScope (top 20)) := C8.fnScope_by (by kernel_rfl)
/- 0:count 1:lines 2:result 3:column 4:line -/
def n_slack_columns : List Str := ["count", "lines", "result", "column", "line"]
def a_slack_columns : List Str := ["count", "lines"]
def p_slack_columns : Par := ⟨n_slack_columns, [], [], [2], [], [], false⟩
noncomputable def b_slack_columns : PS' :=
 (sSeq (sOwn 2 (fLst aNil))
 (sSeq (sSet (gName' 3) (pVar 0))
 (sSeq (sFor (iList' (pVar 1)) (gName' 4)
 (sSeq (sIf (tOf (pEq (pIx (pVar 4) (pC (.int 1))) (pC (.str "equal"))))
 (sSeq (sApp 2 (pC .non))
 sNext)
 (sSeq (sApp 2 (pVar 3))
 (sSeq (sSet (gName' 3) (pAdd (pVar 3) (pC (.int 1))))
 sNext)))
 sNext))
 (sSeq (sRet (pTup (aCons (pVar 2) (aCons (pVar 3) aNil))))
 sNext))))
theorem c_slack_columns : comp (p_slack_columns) (defScope (top 21)) (defBody (top 21)) = some (b_slack_columns) := by kernel_rfl
theorem f_slack_columns : FnScope n_slack_columns a_slack_columns (defScope (top 21)) := C8.fnScope_by (by kernel_rfl)
/- 0:column 1:lines 2:result 3:line -/
def n_helper_columns : List Str := ["column", "lines", "result", "line"]
def a_helper_columns : List Str := ["column", "lines"]
def p_helper_columns : Par := ⟨n_helper_columns, [], [], [2], [], [], false⟩
noncomputable def b_helper_columns : PS' :=
 (sSeq (sOwn 2 (fLst aNil))
 (sSeq (sFor (iList' (pVar 1)) (gName' 3)
 (sSeq (sIf (tOf (pEq (pIx (pVar 3) (pC (.int 1))) (pC (.str "most"))))
 (sSeq (sApp 2 (pC .non))
 sNext)
 (sSeq (sApp 2 (pVar 0))
 (sSeq (sSet (gName' 0) (pAdd (pVar 0) (pC (.int 1))))
 sNext)))
 sNext))
 (sSeq (sRet (pTup (aCons (pVar 2) (aCons (pVar 0) aNil))))
 sNext)))
theorem c_helper_columns : comp (p_helper_columns) (defScope (top 22)) (defBody (top 22)) = some (b_helper_columns) := by kernel_rfl
theorem f_helper_columns : FnScope n_helper_columns a_helper_columns (defScope (top 22)) := C8.fnScope_by (by kernel_rfl)
/- 0:lines 1:slacks 2:helpers 3:total 4:rows 5:k 6:entries 7:kind 8:right 9:was_turned 10:row 11:c -/
def n_first_rows : List Str := ["lines", "slacks", "helpers", "total", "rows", "k", "entries", "kind", "right", "was_turned", "row", "c"]
def a_first_rows : List Str := ["lines", "slacks", "helpers", "total"]
def p_first_rows (S_neg : SpecT) : Par := ⟨n_first_rows, [("neg", .call S_neg)], [("ZERO", zD), ("ONE", oD)], [10, 4], [], [], false⟩
noncomputable def b_first_rows (S_neg : SpecT) : PS' :=
 (sSeq (sOwn 4 (fLst aNil))
 (sSeq (sFor (iRange (pLen (pVar 0))) (gName' 5)
 (sSeq (sSet (gTup' 4 (gCons' (gName' 6) (gCons' (gName' 7) (gCons' (gName' 8) (gCons' (gName' 9) gNil'))))) (pIx (pVar 0) (pVar 5)))
 (sSeq (sOwn 10 (fCat (pF (fList (pVar 6))) (pF (fComp (iRange (pSub (pVar 3) (pLen (pVar 6)))) (gName' 11) tYes' (pC zD) [11]))))
 (sSeq (sIf (tOf (pIsN true (pIx (pVar 1) (pVar 5))))
 (sSeq (sPut 10 (pIx (pVar 1) (pVar 5)) (pIf (tOf (pEq (pVar 7) (pC (.str "most")))) (pC oD) (pCall S_neg (aCons (pC oD) aNil))))
 sNext)
 sNext)
 (sSeq (sIf (tOf (pIsN true (pIx (pVar 2) (pVar 5))))
 (sSeq (sPut 10 (pIx (pVar 2) (pVar 5)) (pC oD))
 sNext)
 sNext)
 (sSeq (sApp 4 (pAdd (pVar 10) (pF (fLst (aCons (pVar 8) aNil)))))
 sNext))))))
 (sSeq (sRet (pVar 4))
 sNext)))
theorem c_first_rows (S_neg : SpecT) : comp (p_first_rows S_neg) (defScope (top 23)) (defBody (top 23)) = some (b_first_rows S_neg) := by kernel_rfl
theorem f_first_rows : FnScope n_first_rows a_first_rows (defScope (top 23)) := C8.fnScope_by (by kernel_rfl)
/- 0:slacks 1:helpers 2:k -/
def n_first_basis : List Str := ["slacks", "helpers", "k"]
def a_first_basis : List Str := ["slacks", "helpers"]
def p_first_basis : Par := ⟨n_first_basis, [], [], [], [], [], false⟩
noncomputable def b_first_basis : PS' :=
 (sSeq (sRet (pF (fComp (iRange (pLen (pVar 0))) (gName' 2) tYes' (pIf (tOf (pIsN false (pIx (pVar 1) (pVar 2)))) (pIx (pVar 0) (pVar 2)) (pIx (pVar 1) (pVar 2))) [2])))
 sNext)
theorem c_first_basis : comp (p_first_basis) (defScope (top 34)) (defBody (top 34)) = some (b_first_basis) := by kernel_rfl
theorem f_first_basis : FnScope n_first_basis a_first_basis (defScope (top 34)) := C8.fnScope_by (by kernel_rfl)
/- 0:costs 1:width 2:c -/
def n_entering : List Str := ["costs", "width", "c"]
def a_entering : List Str := ["costs", "width"]
def p_entering (S_less : SpecT) : Par := ⟨n_entering, [("less", .call S_less)], [("ZERO", zD)], [], [], [], false⟩
noncomputable def b_entering (S_less : SpecT) : PS' :=
 (sSeq (sFor (iRange (pVar 1)) (gName' 2)
 (sSeq (sIf (tTru (pCall S_less (aCons (pIx (pVar 0) (pVar 2)) (aCons (pC zD) aNil))))
 (sSeq (sRet (pVar 2))
 sNext)
 sNext)
 sNext))
 (sSeq (sRet (pC .non))
 sNext))
theorem c_entering (S_less : SpecT) : comp (p_entering S_less) (defScope (top 27)) (defBody (top 27)) = some (b_entering S_less) := by kernel_rfl
theorem f_entering : FnScope n_entering a_entering (defScope (top 27)) := C8.fnScope_by (by kernel_rfl)
/- 0:rows 1:basis 2:c 3:best 4:quotient 5:k 6:value -/
def n_leaving : List Str := ["rows", "basis", "c", "best", "quotient", "k", "value"]
def a_leaving : List Str := ["rows", "basis", "c"]
def p_leaving (S_less : SpecT) (S_div : SpecT) : Par := ⟨n_leaving, [("less", .call S_less), ("div", .call S_div)], [("ZERO", zD)], [], [], [], false⟩
noncomputable def b_leaving (S_less : SpecT) (S_div : SpecT) : PS' :=
 (sSeq (sSet (gName' 3) (pC .non))
 (sSeq (sSet (gName' 4) (pC zD))
 (sSeq (sFor (iRange (pLen (pVar 1))) (gName' 5)
 (sSeq (sIf (tTru (pCall S_less (aCons (pC zD) (aCons (pIx (pIx (pVar 0) (pVar 5)) (pVar 2)) aNil))))
 (sSeq (sSet (gName' 6) (pCall S_div (aCons (pIx (pIx (pVar 0) (pVar 5)) (pNeg (pC (.int 1)))) (aCons (pIx (pIx (pVar 0) (pVar 5)) (pVar 2)) aNil))))
 (sSeq (sIf (tOr' (tOf (pIsN false (pVar 3))) (tOr' (tTru (pCall S_less (aCons (pVar 6) (aCons (pVar 4) aNil)))) (tAnd' (tOf (pEq (pVar 6) (pVar 4))) (tOf (pCmp (fun i j => decide (i < j)) (pIx (pVar 1) (pVar 5)) (pIx (pVar 1) (pVar 3)))))))
 (sSeq (sSet (gName' 3) (pVar 5))
 (sSeq (sSet (gName' 4) (pVar 6))
 sNext))
 sNext)
 sNext))
 sNext)
 sNext))
 (sSeq (sRet (pVar 3))
 sNext))))
theorem c_leaving (S_less : SpecT) (S_div : SpecT) : comp (p_leaving S_less S_div) (defScope (top 28)) (defBody (top 28)) = some (b_leaving S_less S_div) := by kernel_rfl
theorem f_leaving : FnScope n_leaving a_leaving (defScope (top 28)) := C8.fnScope_by (by kernel_rfl)
/- 0:a 1:times 2:b -/
def n_less_times : List Str := ["a", "times", "b"]
def a_less_times : List Str := ["a", "times", "b"]
def p_less_times (S_sub : SpecT) (S_mul : SpecT) : Par := ⟨n_less_times, [("sub", .call S_sub), ("mul", .call S_mul)], [("ZERO", zD)], [], [], [], false⟩
noncomputable def b_less_times (S_sub : SpecT) (S_mul : SpecT) : PS' :=
 (sSeq (sIf (tOf (pEq (pVar 2) (pC zD)))
 (sSeq (sRet (pVar 0))
 sNext)
 sNext)
 (sSeq (sRet (pCall S_sub (aCons (pVar 0) (aCons (pCall S_mul (aCons (pVar 1) (aCons (pVar 2) aNil))) aNil))))
 sNext))
theorem c_less_times (S_sub : SpecT) (S_mul : SpecT) : comp (p_less_times S_sub S_mul) (defScope (top 24)) (defBody (top 24)) = some (b_less_times S_sub S_mul) := by kernel_rfl
theorem f_less_times : FnScope n_less_times a_less_times (defScope (top 24)) := C8.fnScope_by (by kernel_rfl)
/- 0:rows 1:r 2:c 3:factor 4:row 5:result 6:k 7:times 8:x 9:i -/
def n_pivot : List Str := ["rows", "r", "c", "factor", "row", "result", "k", "times", "x", "i"]
def a_pivot : List Str := ["rows", "r", "c"]
def p_pivot (S_div : SpecT) (S_less_times : SpecT) : Par := ⟨n_pivot, [("div", .call S_div), ("less_times", .call S_less_times)], [("ZERO", zD)], [5], [], [], false⟩
noncomputable def b_pivot (S_div : SpecT) (S_less_times : SpecT) : PS' :=
 (sSeq (sSet (gName' 3) (pIx (pIx (pVar 0) (pVar 1)) (pVar 2)))
 (sSeq (sSet (gName' 4) (pF (fComp (iList' (pIx (pVar 0) (pVar 1))) (gName' 8) tYes' (pCall S_div (aCons (pVar 8) (aCons (pVar 3) aNil))) [8])))
 (sSeq (sOwn 5 (fLst aNil))
 (sSeq (sFor (iRange (pLen (pVar 0))) (gName' 6)
 (sSeq (sIf (tOf (pEq (pVar 6) (pVar 1)))
 (sSeq (sApp 5 (pVar 4))
 sNext)
 (sSeq (sIf (tOf (pEq (pIx (pIx (pVar 0) (pVar 6)) (pVar 2)) (pC zD)))
 (sSeq (sApp 5 (pIx (pVar 0) (pVar 6)))
 sNext)
 (sSeq (sSet (gName' 7) (pIx (pIx (pVar 0) (pVar 6)) (pVar 2)))
 (sSeq (sApp 5 (pF (fComp (iRange (pLen (pVar 4))) (gName' 9) tYes' (pCall S_less_times (aCons (pIx (pIx (pVar 0) (pVar 6)) (pVar 9)) (aCons (pVar 7) (aCons (pIx (pVar 4) (pVar 9)) aNil)))) [9])))
 sNext)))
 sNext))
 sNext))
 (sSeq (sRet (pVar 5))
 sNext)))))
theorem c_pivot (S_div : SpecT) (S_less_times : SpecT) : comp (p_pivot S_div S_less_times) (defScope (top 26)) (defBody (top 26)) = some (b_pivot S_div S_less_times) := by kernel_rfl
theorem f_pivot : FnScope n_pivot a_pivot (defScope (top 26)) := C8.fnScope_by (by kernel_rfl)
/- 0:rows 1:basis 2:width 3:c 4:r -/
def n_descend : List Str := ["rows", "basis", "width", "c", "r"]
def a_descend : List Str := ["rows", "basis", "width"]
def p_descend (S_entering : SpecT) (S_leaving : SpecT) (S_pivot : SpecT) : Par := ⟨n_descend, [("entering", .call S_entering), ("leaving", .call S_leaving), ("pivot", .call S_pivot)], [], [1], [], [], false⟩
noncomputable def b_descend (S_entering : SpecT) (S_leaving : SpecT) (S_pivot : SpecT) : PS' :=
 (sSeq (sOwn 1 (fList (pVar 1)))
 (sSeq (sWhile (tTru (pC (.bl true)))
 (sSeq (sSet (gName' 3) (pCall S_entering (aCons (pIx (pVar 0) (pNeg (pC (.int 1)))) (aCons (pVar 2) aNil))))
 (sSeq (sIf (tOf (pIsN false (pVar 3)))
 (sSeq (sRet (pTup (aCons (pVar 0) (aCons (pVar 1) (aCons (pC .non) aNil)))))
 sNext)
 sNext)
 (sSeq (sSet (gName' 4) (pCall S_leaving (aCons (pVar 0) (aCons (pVar 1) (aCons (pVar 3) aNil)))))
 (sSeq (sIf (tOf (pIsN false (pVar 4)))
 (sSeq (sRet (pTup (aCons (pVar 0) (aCons (pVar 1) (aCons (pVar 3) aNil)))))
 sNext)
 sNext)
 (sSeq (sSet (gName' 0) (pCall S_pivot (aCons (pVar 0) (aCons (pVar 4) (aCons (pVar 3) aNil)))))
 (sSeq (sPut 1 (pVar 4) (pVar 3))
 sNext)))))))
 sNext))
theorem c_descend (S_entering : SpecT) (S_leaving : SpecT) (S_pivot : SpecT) : comp (p_descend S_entering S_leaving S_pivot) (defScope (top 29)) (defBody (top 29)) = some (b_descend S_entering S_leaving S_pivot) := by kernel_rfl
theorem f_descend : FnScope n_descend a_descend (defScope (top 29)) := C8.fnScope_by (by kernel_rfl)
/- 0:costs 1:rows 2:basis 3:result 4:k 5:factor 6:c -/
def n_reduced : List Str := ["costs", "rows", "basis", "result", "k", "factor", "c"]
def a_reduced : List Str := ["costs", "rows", "basis"]
def p_reduced (S_less_times : SpecT) : Par := ⟨n_reduced, [("less_times", .call S_less_times)], [("ZERO", zD)], [], [], [], false⟩
noncomputable def b_reduced (S_less_times : SpecT) : PS' :=
 (sSeq (sSet (gName' 3) (pAdd (pF (fList (pVar 0))) (pF (fLst (aCons (pC zD) aNil)))))
 (sSeq (sFor (iRange (pLen (pVar 1))) (gName' 4)
 (sSeq (sSet (gName' 5) (pIx (pVar 0) (pIx (pVar 2) (pVar 4))))
 (sSeq (sIf (tOf (pNe (pVar 5) (pC zD)))
 (sSeq (sSet (gName' 3) (pF (fComp (iRange (pLen (pVar 3))) (gName' 6) tYes' (pCall S_less_times (aCons (pIx (pVar 3) (pVar 6)) (aCons (pVar 5) (aCons (pIx (pIx (pVar 1) (pVar 4)) (pVar 6)) aNil)))) [6])))
 sNext)
 sNext)
 sNext)))
 (sSeq (sRet (pVar 3))
 sNext)))
theorem c_reduced (S_less_times : SpecT) : comp (p_reduced S_less_times) (defScope (top 25)) (defBody (top 25)) = some (b_reduced S_less_times) := by kernel_rfl
theorem f_reduced : FnScope n_reduced a_reduced (defScope (top 25)) := C8.fnScope_by (by kernel_rfl)
/- 0:costs 1:lines 2:slacks 3:helpers 4:own 5:prices 6:k 7:price -/
def n_prices_of : List Str := ["costs", "lines", "slacks", "helpers", "own", "prices", "k", "price"]
def a_prices_of : List Str := ["costs", "lines", "slacks", "helpers", "own"]
def p_prices_of (S_neg : SpecT) (S_sub : SpecT) : Par := ⟨n_prices_of, [("neg", .call S_neg), ("sub", .call S_sub)], [], [5], [], [], false⟩
noncomputable def b_prices_of (S_neg : SpecT) (S_sub : SpecT) : PS' :=
 (sSeq (sOwn 5 (fLst aNil))
 (sSeq (sFor (iRange (pLen (pVar 1))) (gName' 6)
 (sSeq (sIf (tOf (pIsN false (pIx (pVar 3) (pVar 6))))
 (sSeq (sSet (gName' 7) (pCall S_neg (aCons (pIx (pVar 0) (pIx (pVar 2) (pVar 6))) aNil)))
 sNext)
 (sSeq (sSet (gName' 7) (pCall S_sub (aCons (pVar 4) (aCons (pIx (pVar 0) (pIx (pVar 3) (pVar 6))) aNil))))
 sNext))
 (sSeq (sApp 5 (pIf (tTru (pIx (pIx (pVar 1) (pVar 6)) (pC (.int 3)))) (pCall S_neg (aCons (pVar 7) aNil)) (pVar 7)))
 sNext)))
 (sSeq (sRet (pVar 5))
 sNext)))
theorem c_prices_of (S_neg : SpecT) (S_sub : SpecT) : comp (p_prices_of S_neg S_sub) (defScope (top 33)) (defBody (top 33)) = some (b_prices_of S_neg S_sub) := by kernel_rfl
theorem f_prices_of : FnScope n_prices_of a_prices_of (defScope (top 33)) := C8.fnScope_by (by kernel_rfl)
/- 0:rows 1:basis 2:width 3:k 4:c -/
def n_without_helpers : List Str := ["rows", "basis", "width", "k", "c"]
def a_without_helpers : List Str := ["rows", "basis", "width"]
def p_without_helpers (S_pivot : SpecT) : Par := ⟨n_without_helpers, [("pivot", .call S_pivot)], [("ZERO", zD)], [1], [], [], false⟩
noncomputable def b_without_helpers (S_pivot : SpecT) : PS' :=
 (sSeq (sOwn 1 (fList (pVar 1)))
 (sSeq (sFor (iRange (pLen (pVar 1))) (gName' 3)
 (sSeq (sIf (tOf (pCmp (fun i j => decide (j ≤ i)) (pIx (pVar 1) (pVar 3)) (pVar 2)))
 (sSeq (sFor (iRange (pVar 2)) (gName' 4)
 (sSeq (sIf (tAnd' (tOf (pCmp (fun i j => decide (j ≤ i)) (pIx (pVar 1) (pVar 3)) (pVar 2))) (tOf (pNe (pIx (pIx (pVar 0) (pVar 3)) (pVar 4)) (pC zD))))
 (sSeq (sSet (gName' 0) (pCall S_pivot (aCons (pVar 0) (aCons (pVar 3) (aCons (pVar 4) aNil)))))
 (sSeq (sPut 1 (pVar 3) (pVar 4))
 sNext))
 sNext)
 sNext))
 sNext)
 sNext)
 sNext))
 (sSeq (sRet (pTup (aCons (pVar 0) (aCons (pVar 1) aNil))))
 sNext)))
theorem c_without_helpers (S_pivot : SpecT) : comp (p_without_helpers S_pivot) (defScope (top 30)) (defBody (top 30)) = some (b_without_helpers S_pivot) := by kernel_rfl
theorem f_without_helpers : FnScope n_without_helpers a_without_helpers (defScope (top 30)) := C8.fnScope_by (by kernel_rfl)
/- 0:rows 1:basis 2:count 3:values 4:k -/
def n_values_of : List Str := ["rows", "basis", "count", "values", "k"]
def a_values_of : List Str := ["rows", "basis", "count"]
def p_values_of : Par := ⟨n_values_of, [], [("ZERO", zD)], [3], [], [], false⟩
noncomputable def b_values_of : PS' :=
 (sSeq (sOwn 3 (fComp (iRange (pVar 2)) (gName' 4) tYes' (pC zD) [4]))
 (sSeq (sFor (iRange (pLen (pVar 1))) (gName' 4)
 (sSeq (sIf (tOf (pCmp (fun i j => decide (i < j)) (pIx (pVar 1) (pVar 4)) (pVar 2)))
 (sSeq (sPut 3 (pIx (pVar 1) (pVar 4)) (pIx (pIx (pVar 0) (pVar 4)) (pNeg (pC (.int 1)))))
 sNext)
 sNext)
 sNext))
 (sSeq (sRet (pVar 3))
 sNext)))
theorem c_values_of : comp (p_values_of) (defScope (top 31)) (defBody (top 31)) = some (b_values_of) := by kernel_rfl
theorem f_values_of : FnScope n_values_of a_values_of (defScope (top 31)) := C8.fnScope_by (by kernel_rfl)
/- 0:costs 1:lines 2:count 3:slacks 4:width 5:helpers 6:total 7:rows 8:basis 9:first 10:c 11:second 12:values 13:line 14:k -/
def n_solve : List Str := ["costs", "lines", "count", "slacks", "width", "helpers", "total", "rows", "basis", "first", "c", "second", "values", "line", "k"]
def a_solve : List Str := ["costs", "lines"]
def p_solve (S_turned : SpecT) (S_slack_columns : SpecT) (S_helper_columns : SpecT) (S_first_rows : SpecT) (S_first_basis : SpecT) (S_descend : SpecT) (S_reduced : SpecT) (S_less : SpecT) (S_prices_of : SpecT) (S_without_helpers : SpecT) (S_values_of : SpecT) (S_dot : SpecT) : Par := ⟨n_solve, [("turned", .call S_turned), ("slack_columns", .call S_slack_columns), ("helper_columns", .call S_helper_columns), ("first_rows", .call S_first_rows), ("first_basis", .call S_first_basis), ("descend", .call S_descend), ("reduced", .call S_reduced), ("less", .call S_less), ("prices_of", .call S_prices_of), ("without_helpers", .call S_without_helpers), ("values_of", .call S_values_of), ("ray_of", .never), ("dot", .call S_dot)], [("ZERO", zD), ("ONE", oD)], [], [], [], false⟩
noncomputable def b_solve (S_turned : SpecT) (S_slack_columns : SpecT) (S_helper_columns : SpecT) (S_first_rows : SpecT) (S_first_basis : SpecT) (S_descend : SpecT) (S_reduced : SpecT) (S_less : SpecT) (S_prices_of : SpecT) (S_without_helpers : SpecT) (S_values_of : SpecT) (S_dot : SpecT) : PS' :=
 (sSeq (sSet (gName' 2) (pLen (pVar 0)))
 (sSeq (sSet (gName' 1) (pF (fComp (iList' (pVar 1)) (gName' 13) tYes' (pCall S_turned (aCons (pVar 13) aNil)) [13])))
 (sSeq (sSet (gTup' 2 (gCons' (gName' 3) (gCons' (gName' 4) gNil'))) (pCall S_slack_columns (aCons (pVar 2) (aCons (pVar 1) aNil))))
 (sSeq (sSet (gTup' 2 (gCons' (gName' 5) (gCons' (gName' 6) gNil'))) (pCall S_helper_columns (aCons (pVar 4) (aCons (pVar 1) aNil))))
 (sSeq (sSet (gName' 7) (pCall S_first_rows (aCons (pVar 1) (aCons (pVar 3) (aCons (pVar 5) (aCons (pVar 6) aNil))))))
 (sSeq (sSet (gName' 8) (pCall S_first_basis (aCons (pVar 3) (aCons (pVar 5) aNil))))
 (sSeq (sSet (gName' 9) (pAdd (pF (fComp (iRange (pVar 4)) (gName' 14) tYes' (pC zD) [14])) (pF (fComp (iRange (pSub (pVar 6) (pVar 4))) (gName' 14) tYes' (pC oD) [14]))))
 (sSeq (sSet (gTup' 3 (gCons' (gName' 7) (gCons' (gName' 8) (gCons' (gName' 10) gNil')))) (pCall S_descend (aCons (pAdd (pVar 7) (pF (fLst (aCons (pCall S_reduced (aCons (pVar 9) (aCons (pVar 7) (aCons (pVar 8) aNil)))) aNil)))) (aCons (pVar 8) (aCons (pVar 4) aNil)))))
 (sSeq (sIf (tTru (pCall S_less (aCons (pIx (pIx (pVar 7) (pNeg (pC (.int 1)))) (pNeg (pC (.int 1)))) (aCons (pC zD) aNil))))
 (sSeq (sRet (pTup (aCons (pC (.str "nothing")) (aCons (pCall S_prices_of (aCons (pIx (pVar 7) (pNeg (pC (.int 1)))) (aCons (pVar 1) (aCons (pVar 3) (aCons (pVar 5) (aCons (pC oD) aNil)))))) aNil))))
 sNext)
 sNext)
 (sSeq (sSet (gTup' 2 (gCons' (gName' 7) (gCons' (gName' 8) gNil'))) (pCall S_without_helpers (aCons (pF (fSl (pVar 7) oNo (oYes (pNeg (pC (.int 1)))))) (aCons (pVar 8) (aCons (pVar 4) aNil)))))
 (sSeq (sSet (gName' 11) (pAdd (pF (fList (pVar 0))) (pF (fComp (iRange (pSub (pVar 6) (pVar 2))) (gName' 14) tYes' (pC zD) [14]))))
 (sSeq (sSet (gTup' 3 (gCons' (gName' 7) (gCons' (gName' 8) (gCons' (gName' 10) gNil')))) (pCall S_descend (aCons (pAdd (pVar 7) (pF (fLst (aCons (pCall S_reduced (aCons (pVar 11) (aCons (pVar 7) (aCons (pVar 8) aNil)))) aNil)))) (aCons (pVar 8) (aCons (pVar 4) aNil)))))
 (sSeq (sSet (gName' 12) (pCall S_values_of (aCons (pVar 7) (aCons (pVar 8) (aCons (pVar 2) aNil)))))
 (sSeq (sIf (tOf (pIsN true (pVar 10)))
 (sSeq (sRet (pTup (aCons (pC (.str "falls")) (aCons (pVar 12) (aCons (fun _ _ => False) aNil)))))
 sNext)
 sNext)
 (sSeq (sRet (pTup (aCons (pC (.str "end")) (aCons (pCall S_dot (aCons (pVar 0) (aCons (pVar 12) aNil))) (aCons (pVar 12) (aCons (pCall S_prices_of (aCons (pIx (pVar 7) (pNeg (pC (.int 1)))) (aCons (pVar 1) (aCons (pVar 3) (aCons (pVar 5) (aCons (pC zD) aNil)))))) aNil))))))
 sNext)))))))))))))))
theorem c_solve (S_turned : SpecT) (S_slack_columns : SpecT) (S_helper_columns : SpecT) (S_first_rows : SpecT) (S_first_basis : SpecT) (S_descend : SpecT) (S_reduced : SpecT) (S_less : SpecT) (S_prices_of : SpecT) (S_without_helpers : SpecT) (S_values_of : SpecT) (S_dot : SpecT) : comp (p_solve S_turned S_slack_columns S_helper_columns S_first_rows S_first_basis S_descend S_reduced S_less S_prices_of S_without_helpers S_values_of S_dot) (defScope (top 35)) (defBody (top 35)) = some (b_solve S_turned S_slack_columns S_helper_columns S_first_rows S_first_basis S_descend S_reduced S_less S_prices_of S_without_helpers S_values_of S_dot) := by kernel_rfl
theorem f_solve : FnScope n_solve a_solve (defScope (top 35)) := C8.fnScope_by (by kernel_rfl)
/- 0:data 1:points 2:i 3:j -/
def n_excess : List Str := ["data", "points", "i", "j"]
def a_excess : List Str := ["data", "points", "i", "j"]
def p_excess (S_sub : SpecT) (S_spent : SpecT) (S_cost : SpecT) : Par := ⟨n_excess, [("sub", .call S_sub), ("spent", .call S_spent), ("cost", .call S_cost)], [], [], [], [], false⟩
noncomputable def b_excess (S_sub : SpecT) (S_spent : SpecT) (S_cost : SpecT) : PS' :=
 (sSeq (sRet (pCall S_sub (aCons (pCall S_cost (aCons (pIx (pIx (pFld .buys (pVar 0)) (pVar 2)) (pC (.int 0))) (aCons (pIx (pVar 1) (pVar 3)) aNil))) (aCons (pCall S_spent (aCons (pVar 0) (aCons (pVar 2) aNil))) aNil))))
 sNext)
theorem c_excess (S_sub : SpecT) (S_spent : SpecT) (S_cost : SpecT) : comp (p_excess S_sub S_spent S_cost) (defScope (top 53)) (defBody (top 53)) = some (b_excess S_sub S_spent S_cost) := by kernel_rfl
theorem f_excess : FnScope n_excess a_excess (defScope (top 53)) := C8.fnScope_by (by kernel_rfl)
/- 0:a 1:b 2:k -/
def n_minus : List Str := ["a", "b", "k"]
def a_minus : List Str := ["a", "b"]
def p_minus (S_sub : SpecT) : Par := ⟨n_minus, [("sub", .call S_sub)], [], [], [], [], false⟩
noncomputable def b_minus (S_sub : SpecT) : PS' :=
 (sSeq (sRet (pF (fComp (iRange (pLen (pVar 0))) (gName' 2) tYes' (pCall S_sub (aCons (pIx (pVar 0) (pVar 2)) (aCons (pIx (pVar 1) (pVar 2)) aNil))) [2])))
 sNext)
theorem c_minus (S_sub : SpecT) : comp (p_minus S_sub) (defScope (top 54)) (defBody (top 54)) = some (b_minus S_sub) := by kernel_rfl
theorem f_minus : FnScope n_minus a_minus (defScope (top 54)) := C8.fnScope_by (by kernel_rfl)
/- 0:row 1:total 2:x -/
def n_total_of : List Str := ["row", "total", "x"]
def a_total_of : List Str := ["row"]
def p_total_of (S_add : SpecT) : Par := ⟨n_total_of, [("add", .call S_add)], [("ZERO", zD)], [], [], [], false⟩
noncomputable def b_total_of (S_add : SpecT) : PS' :=
 (sSeq (sSet (gName' 1) (pC zD))
 (sSeq (sFor (iList' (pVar 0)) (gName' 2)
 (sSeq (sSet (gName' 1) (pCall S_add (aCons (pVar 1) (aCons (pVar 2) aNil))))
 sNext))
 (sSeq (sRet (pVar 1))
 sNext)))
theorem c_total_of (S_add : SpecT) : comp (p_total_of S_add) (defScope (top 67)) (defBody (top 67)) = some (b_total_of S_add) := by kernel_rfl
theorem f_total_of : FnScope n_total_of a_total_of (defScope (top 67)) := C8.fnScope_by (by kernel_rfl)
/- 0:count 1:better 2:other 3:entries 4:k -/
def n_number_entries : List Str := ["count", "better", "other", "entries", "k"]
def a_number_entries : List Str := ["count", "better", "other"]
def p_number_entries (S_add : SpecT) (S_sub : SpecT) : Par := ⟨n_number_entries, [("add", .call S_add), ("sub", .call S_sub)], [("ZERO", zD), ("ONE", oD)], [3], [], [], false⟩
noncomputable def b_number_entries (S_add : SpecT) (S_sub : SpecT) : PS' :=
 (sSeq (sOwn 3 (fComp (iRange (pVar 0)) (gName' 4) tYes' (pC zD) [4]))
 (sSeq (sPut 3 (pVar 1) (pCall S_add (aCons (pIx (pVar 3) (pVar 1)) (aCons (pC oD) aNil))))
 (sSeq (sPut 3 (pVar 2) (pCall S_sub (aCons (pIx (pVar 3) (pVar 2)) (aCons (pC oD) aNil))))
 (sSeq (sRet (pVar 3))
 sNext))))
theorem c_number_entries (S_add : SpecT) (S_sub : SpecT) : comp (p_number_entries S_add S_sub) (defScope (top 66)) (defBody (top 66)) = some (b_number_entries S_add S_sub) := by kernel_rfl
theorem f_number_entries : FnScope n_number_entries a_number_entries (defScope (top 66)) := C8.fnScope_by (by kernel_rfl)
/- 0:data 1:points 2:i 3:j 4:count 5:goods 6:weights 7:slopes 8:more 9:entries 10:k -/
def n_pair_line : List Str := ["data", "points", "i", "j", "count", "goods", "weights", "slopes", "more", "entries", "k"]
def a_pair_line : List Str := ["data", "points", "i", "j"]
def p_pair_line (S_excess : SpecT) (S_minus : SpecT) (S_total_of : SpecT) (S_number_entries : SpecT) (S_neg : SpecT) : Par := ⟨n_pair_line, [("excess", .call S_excess), ("minus", .call S_minus), ("total_of", .call S_total_of), ("number_entries", .call S_number_entries), ("neg", .call S_neg)], [("ZERO", zD)], [6, 7], [], [], false⟩
noncomputable def b_pair_line (S_excess : SpecT) (S_minus : SpecT) (S_total_of : SpecT) (S_number_entries : SpecT) (S_neg : SpecT) : PS' :=
 (sSeq (sSet (gName' 4) (pLen (pFld .buys (pVar 0))))
 (sSeq (sSet (gName' 5) (pLen (pIx (pVar 1) (pVar 4))))
 (sSeq (sOwn 6 (fComp (iRange (pVar 4)) (gName' 10) tYes' (pC zD) [10]))
 (sSeq (sOwn 7 (fLst (aCons (pF (fComp (iRange (pVar 5)) (gName' 10) tYes' (pC zD) [10])) (aCons (pF (fComp (iRange (pVar 5)) (gName' 10) tYes' (pC zD) [10])) aNil))))
 (sSeq (sIf (tOf (pCmp (fun i j => decide (i < j)) (pVar 2) (pVar 4)))
 (sSeq (sPut 6 (pVar 2) (pCall S_excess (aCons (pVar 0) (aCons (pVar 1) (aCons (pVar 2) (aCons (pVar 3) aNil))))))
 (sSeq (sSet (gName' 8) (pIx (pVar 6) (pVar 2)))
 sNext))
 (sSeq (sPut 7 (pSub (pVar 2) (pVar 4)) (pCall S_minus (aCons (pIx (pVar 1) (pVar 3)) (aCons (pIx (pVar 1) (pVar 2)) aNil))))
 (sSeq (sSet (gName' 8) (pCall S_total_of (aCons (pIx (pVar 7) (pSub (pVar 2) (pVar 4))) aNil)))
 sNext)))
 (sSeq (sSet (gName' 9) (pAdd (pAdd (pAdd (pCall S_number_entries (aCons (pLen (pVar 1)) (aCons (pVar 2) (aCons (pVar 3) aNil)))) (pVar 6)) (pIx (pVar 7) (pC (.int 0)))) (pIx (pVar 7) (pC (.int 1)))))
 (sSeq (sRet (pTup (aCons (pVar 9) (aCons (pC (.str "least")) (aCons (pCall S_neg (aCons (pVar 8) aNil)) aNil)))))
 sNext)))))))
theorem c_pair_line (S_excess : SpecT) (S_minus : SpecT) (S_total_of : SpecT) (S_number_entries : SpecT) (S_neg : SpecT) : comp (p_pair_line S_excess S_minus S_total_of S_number_entries S_neg) (defScope (top 68)) (defBody (top 68)) = some (b_pair_line S_excess S_minus S_total_of S_number_entries S_neg) := by kernel_rfl
theorem f_pair_line : FnScope n_pair_line a_pair_line (defScope (top 68)) := C8.fnScope_by (by kernel_rfl)
/- 0:count 1:goal -/
def n_goal_pairs : List Str := ["count", "goal"]
def a_goal_pairs : List Str := ["count", "goal"]
def p_goal_pairs : Par := ⟨n_goal_pairs, [], [], [], [], [], false⟩
noncomputable def b_goal_pairs : PS' :=
 (sSeq (sIf (tOf (pEq (pVar 1) (pC (.str "first"))))
 (sSeq (sRet (pF (fLst (aCons (pTup (aCons (pVar 0) (aCons (pAdd (pVar 0) (pC (.int 1))) aNil))) aNil))))
 sNext)
 sNext)
 (sSeq (sIf (tOf (pEq (pVar 1) (pC (.str "second"))))
 (sSeq (sRet (pF (fLst (aCons (pTup (aCons (pAdd (pVar 0) (pC (.int 1))) (aCons (pVar 0) aNil))) aNil))))
 sNext)
 sNext)
 (sSeq (sRet (pF (fLst (aCons (pTup (aCons (pAdd (pVar 0) (pC (.int 1))) (aCons (pVar 0) aNil))) (aCons (pTup (aCons (pVar 0) (aCons (pAdd (pVar 0) (pC (.int 1))) aNil))) aNil)))))
 sNext)))
theorem c_goal_pairs : comp (p_goal_pairs) (defScope (top 60)) (defBody (top 60)) = some (b_goal_pairs) := by kernel_rfl
theorem f_goal_pairs : FnScope n_goal_pairs a_goal_pairs (defScope (top 60)) := C8.fnScope_by (by kernel_rfl)
/- 0:data 1:points 2:goal 3:count 4:rest 5:lines 6:i 7:j 8:strict 9:better 10:other 11:k -/
def n_liking_lines : List Str := ["data", "points", "goal", "count", "rest", "lines", "i", "j", "strict", "better", "other", "k"]
def a_liking_lines : List Str := ["data", "points", "goal"]
def p_liking_lines (S_pair_line : SpecT) (S_number_entries : SpecT) (S_goal_pairs : SpecT) : Par := ⟨n_liking_lines, [("pair_line", .call S_pair_line), ("number_entries", .call S_number_entries), ("goal_pairs", .call S_goal_pairs)], [("ZERO", zD), ("ONE", oD)], [5], [], [], false⟩
noncomputable def b_liking_lines (S_pair_line : SpecT) (S_number_entries : SpecT) (S_goal_pairs : SpecT) : PS' :=
 (sSeq (sSet (gName' 3) (pLen (pVar 1)))
 (sSeq (sSet (gName' 4) (pF (fComp (iRange (pAdd (pLen (pFld .buys (pVar 0))) (pMul (pC (.int 2)) (pLen (pIx (pVar 1) (pNeg (pC (.int 1)))))))) (gName' 11) tYes' (pC zD) [11])))
 (sSeq (sOwn 5 (fLst aNil))
 (sSeq (sFor (iRange (pVar 3)) (gName' 6)
 (sSeq (sFor (iRange (pVar 3)) (gName' 7)
 (sSeq (sIf (tOf (pNe (pVar 6) (pVar 7)))
 (sSeq (sApp 5 (pCall S_pair_line (aCons (pVar 0) (aCons (pVar 1) (aCons (pVar 6) (aCons (pVar 7) aNil))))))
 sNext)
 sNext)
 sNext))
 sNext))
 (sSeq (sFor (iList' (pFld .links (pVar 0))) (gTup' 3 (gCons' (gName' 6) (gCons' (gName' 7) (gCons' (gName' 8) gNil'))))
 (sSeq (sApp 5 (pTup (aCons (pAdd (pCall S_number_entries (aCons (pVar 3) (aCons (pVar 6) (aCons (pVar 7) aNil)))) (pVar 4)) (aCons (pC (.str "least")) (aCons (pIf (tTru (pVar 8)) (pC oD) (pC zD)) aNil)))))
 sNext))
 (sSeq (sFor (iList' (pCall S_goal_pairs (aCons (pLen (pFld .buys (pVar 0))) (aCons (pVar 2) aNil)))) (gTup' 2 (gCons' (gName' 9) (gCons' (gName' 10) gNil')))
 (sSeq (sApp 5 (pTup (aCons (pAdd (pCall S_number_entries (aCons (pVar 3) (aCons (pVar 9) (aCons (pVar 10) aNil)))) (pVar 4)) (aCons (pC (.str "least")) (aCons (pIf (tOf (pEq (pVar 2) (pC (.str "alike")))) (pC zD) (pC oD)) aNil)))))
 sNext))
 (sSeq (sRet (pVar 5))
 sNext)))))))
theorem c_liking_lines (S_pair_line : SpecT) (S_number_entries : SpecT) (S_goal_pairs : SpecT) : comp (p_liking_lines S_pair_line S_number_entries S_goal_pairs) (defScope (top 69)) (defBody (top 69)) = some (b_liking_lines S_pair_line S_number_entries S_goal_pairs) := by kernel_rfl
theorem f_liking_lines : FnScope n_liking_lines a_liking_lines (defScope (top 69)) := C8.fnScope_by (by kernel_rfl)
/- 0:data 1:count 2:prices 3:pairs 4:at 5:i 6:row 7:j -/
def n_refusal_from : List Str := ["data", "count", "prices", "pairs", "at", "i", "row", "j"]
def a_refusal_from : List Str := ["data", "count", "prices"]
def p_refusal_from : Par := ⟨n_refusal_from, [], [("ZERO", zD)], [3, 6], [], [(465, 6)], false⟩
noncomputable def b_refusal_from : PS' :=
 (sSeq (sOwn 3 (fLst aNil))
 (sSeq (sSet (gName' 4) (pC (.int 0)))
 (sSeq (sFor (iRange (pVar 1)) (gName' 5)
 (sSeq (sOwn 6 (fLst aNil))
 (sSeq (sFor (iRange (pVar 1)) (gName' 7)
 (sSeq (sIf (tOf (pEq (pVar 5) (pVar 7)))
 (sSeq (sApp 6 (pC zD))
 sNext)
 (sSeq (sApp 6 (pIx (pVar 2) (pVar 4)))
 (sSeq (sSet (gName' 4) (pAdd (pVar 4) (pC (.int 1))))
 sNext)))
 sNext))
 (sSeq (sFrz 6) (sSeq (sApp 3 (pVar 6))
 sNext)))))
 (sSeq (sRet (pTup (aCons (pVar 3) (aCons (pF (fSl (pVar 2) (oYes (pVar 4)) (oYes (pAdd (pVar 4) (pLen (pFld .links (pVar 0))))))) (aCons (pF (fSl (pVar 2) (oYes (pAdd (pVar 4) (pLen (pFld .links (pVar 0))))) oNo)) aNil)))))
 sNext))))
theorem c_refusal_from : comp (p_refusal_from) (defScope (top 71)) (defBody (top 71)) = some (b_refusal_from) := by kernel_rfl
theorem f_refusal_from : FnScope n_refusal_from a_refusal_from (defScope (top 71)) := C8.fnScope_by (by kernel_rfl)
/- 0:data 1:goods 2:values 3:count 4:above 5:slopes 6:x -/
def n_liking_from : List Str := ["data", "goods", "values", "count", "above", "slopes", "x"]
def a_liking_from : List Str := ["data", "goods", "values"]
def p_liking_from (S_add : SpecT) : Par := ⟨n_liking_from, [("add", .call S_add)], [("ONE", oD)], [], [], [], false⟩
noncomputable def b_liking_from (S_add : SpecT) : PS' :=
 (sSeq (sSet (gName' 3) (pLen (pFld .buys (pVar 0))))
 (sSeq (sSet (gName' 4) (pF (fComp (iList' (pF (fSl (pVar 2) (oYes (pAdd (pVar 3) (pC (.int 2)))) oNo))) (gName' 6) tYes' (pCall S_add (aCons (pVar 6) (aCons (pC oD) aNil))) [6])))
 (sSeq (sSet (gName' 5) (pF (fSl (pVar 4) (oYes (pVar 3)) oNo)))
 (sSeq (sRet (pTup (aCons (pF (fSl (pVar 2) oNo (oYes (pAdd (pVar 3) (pC (.int 2)))))) (aCons (pF (fSl (pVar 4) oNo (oYes (pVar 3)))) (aCons (pF (fLst (aCons (pF (fSl (pVar 5) oNo (oYes (pVar 1)))) (aCons (pF (fSl (pVar 5) (oYes (pVar 1)) oNo)) aNil)))) aNil)))))
 sNext))))
theorem c_liking_from (S_add : SpecT) : comp (p_liking_from S_add) (defScope (top 70)) (defBody (top 70)) = some (b_liking_from S_add) := by kernel_rfl
theorem f_liking_from : FnScope n_liking_from a_liking_from (defScope (top 70)) := C8.fnScope_by (by kernel_rfl)
/- 0:data 1:first 2:second 3:goal 4:found 5:points 6:goods 7:costs 8:k -/
def n_likes : List Str := ["data", "first", "second", "goal", "found", "points", "goods", "costs", "k"]
def a_likes : List Str := ["data", "first", "second", "goal"]
def p_likes (S_check : SpecT) (S_points_of : SpecT) (S_solve : SpecT) (S_liking_lines : SpecT) (S_refusal_from : SpecT) (S_liking_from : SpecT) : Par := ⟨n_likes, [("check", .call S_check), ("points_of", .call S_points_of), ("solve", .call S_solve), ("liking_lines", .call S_liking_lines), ("refusal_from", .call S_refusal_from), ("liking_from", .call S_liking_from)], [("ZERO", zD)], [], [], [], false⟩
noncomputable def b_likes (S_check : SpecT) (S_points_of : SpecT) (S_solve : SpecT) (S_liking_lines : SpecT) (S_refusal_from : SpecT) (S_liking_from : SpecT) : PS' :=
 (sSeq (sSet (gName' 4) (pCall S_check (aCons (pVar 0) aNil)))
 (sSeq (sIf (tOf (pEq (pIx (pVar 4) (pC (.int 0))) (pC (.str "ring"))))
 (sSeq (sRet (pVar 4))
 sNext)
 sNext)
 (sSeq (sSet (gName' 5) (pCall S_points_of (aCons (pVar 0) (aCons (pVar 1) (aCons (pVar 2) aNil)))))
 (sSeq (sSet (gName' 6) (pLen (pVar 1)))
 (sSeq (sSet (gName' 7) (pF (fComp (iRange (pAdd (pAdd (pLen (pVar 5)) (pLen (pFld .buys (pVar 0)))) (pMul (pC (.int 2)) (pVar 6)))) (gName' 8) tYes' (pC zD) [8])))
 (sSeq (sSet (gName' 4) (pCall S_solve (aCons (pVar 7) (aCons (pCall S_liking_lines (aCons (pVar 0) (aCons (pVar 5) (aCons (pVar 3) aNil)))) aNil))))
 (sSeq (sIf (tOf (pEq (pIx (pVar 4) (pC (.int 0))) (pC (.str "nothing"))))
 (sSeq (sRet (pTup (aCons (pC (.str "cannot")) (aCons (pCall S_refusal_from (aCons (pVar 0) (aCons (pLen (pVar 5)) (aCons (pIx (pVar 4) (pC (.int 1))) aNil)))) aNil))))
 sNext)
 sNext)
 (sSeq (sRet (pTup (aCons (pC (.str "can")) (aCons (pCall S_liking_from (aCons (pVar 0) (aCons (pVar 6) (aCons (pIx (pVar 4) (pC (.int 2))) aNil)))) aNil))))
 sNext))))))))
theorem c_likes (S_check : SpecT) (S_points_of : SpecT) (S_solve : SpecT) (S_liking_lines : SpecT) (S_refusal_from : SpecT) (S_liking_from : SpecT) : comp (p_likes S_check S_points_of S_solve S_liking_lines S_refusal_from S_liking_from) (defScope (top 72)) (defBody (top 72)) = some (b_likes S_check S_points_of S_solve S_liking_lines S_refusal_from S_liking_from) := by kernel_rfl
theorem f_likes : FnScope n_likes a_likes (defScope (top 72)) := C8.fnScope_by (by kernel_rfl)
/- 0:_law_x -/
def n__law_is_integer : List Str := ["_law_x"]
def a__law_is_integer : List Str := ["_law_x"]
def p__law_is_integer : Par := ⟨n__law_is_integer, [], [], [], [], [], false⟩
noncomputable def b__law_is_integer : PS' :=
 (sSeq (sRet (pAnd (pIsI (pVar 0) .int) (pNot (pIsI (pVar 0) .bool))))
 sNext)
theorem c__law_is_integer : comp (p__law_is_integer) (defScope (top 74)) (defBody (top 74)) = some (b__law_is_integer) := by kernel_rfl
theorem f__law_is_integer : FnScope n__law_is_integer a__law_is_integer (defScope (top 74)) := C8.fnScope_by (by kernel_rfl)
/- 0:_law_x -/
def n__law_is_fraction : List Str := ["_law_x"]
def a__law_is_fraction : List Str := ["_law_x"]
def p__law_is_fraction (S__law_is_integer : SpecT) (S__law_gcd : SpecT) : Par := ⟨n__law_is_fraction, [("_law_is_integer", .call S__law_is_integer), ("_law_gcd", .call S__law_gcd)], [], [], [], [], false⟩
noncomputable def b__law_is_fraction (S__law_is_integer : SpecT) (S__law_gcd : SpecT) : PS' :=
 (sSeq (sIf (tOr' (tNot' (tTru (pIsI (pVar 0) .tup))) (tOf (pNe (pLen (pVar 0)) (pC (.int 2)))))
 (sSeq (sRet (pC (.bl false)))
 sNext)
 sNext)
 (sSeq (sIf (tOr' (tNot' (tTru (pCall S__law_is_integer (aCons (pIx (pVar 0) (pC (.int 0))) aNil)))) (tOr' (tNot' (tTru (pCall S__law_is_integer (aCons (pIx (pVar 0) (pC (.int 1))) aNil)))) (tOf (pCmp (fun i j => decide (i < j)) (pIx (pVar 0) (pC (.int 1))) (pC (.int 1))))))
 (sSeq (sRet (pC (.bl false)))
 sNext)
 sNext)
 (sSeq (sRet (pEq (pCall S__law_gcd (aCons (pAbs (pIx (pVar 0) (pC (.int 0)))) (aCons (pIx (pVar 0) (pC (.int 1))) aNil))) (pC (.int 1))))
 sNext)))
theorem c__law_is_fraction (S__law_is_integer : SpecT) (S__law_gcd : SpecT) : comp (p__law_is_fraction S__law_is_integer S__law_gcd) (defScope (top 79)) (defBody (top 79)) = some (b__law_is_fraction S__law_is_integer S__law_gcd) := by kernel_rfl
theorem f__law_is_fraction : FnScope n__law_is_fraction a__law_is_fraction (defScope (top 79)) := C8.fnScope_by (by kernel_rfl)
/- 0:_law_xs 1:_law_many 2:_law_x -/
def n__law_are_fractions : List Str := ["_law_xs", "_law_many", "_law_x"]
def a__law_are_fractions : List Str := ["_law_xs", "_law_many"]
def p__law_are_fractions (S__law_is_fraction : SpecT) : Par := ⟨n__law_are_fractions, [("_law_is_fraction", .call S__law_is_fraction)], [], [], [], [], false⟩
noncomputable def b__law_are_fractions (S__law_is_fraction : SpecT) : PS' :=
 (sSeq (sIf (tOr' (tNot' (tTru (pIsI (pVar 0) .lst))) (tOf (pNe (pLen (pVar 0)) (pVar 1))))
 (sSeq (sRet (pC (.bl false)))
 sNext)
 sNext)
 (sSeq (sFor (iList' (pVar 0)) (gName' 2)
 (sSeq (sIf (tNot' (tTru (pCall S__law_is_fraction (aCons (pVar 2) aNil))))
 (sSeq (sRet (pC (.bl false)))
 sNext)
 sNext)
 sNext))
 (sSeq (sRet (pC (.bl true)))
 sNext)))
theorem c__law_are_fractions (S__law_is_fraction : SpecT) : comp (p__law_are_fractions S__law_is_fraction) (defScope (top 80)) (defBody (top 80)) = some (b__law_are_fractions S__law_is_fraction) := by kernel_rfl
theorem f__law_are_fractions : FnScope n__law_are_fractions a__law_are_fractions (defScope (top 80)) := C8.fnScope_by (by kernel_rfl)
/- 0:_law_count 1:_law_goods 2:_law_told -/
def n__law_is_liking : List Str := ["_law_count", "_law_goods", "_law_told"]
def a__law_is_liking : List Str := ["_law_count", "_law_goods", "_law_told"]
def p__law_is_liking (S__law_are_fractions : SpecT) : Par := ⟨n__law_is_liking, [("_law_are_fractions", .call S__law_are_fractions)], [], [], [], [], false⟩
noncomputable def b__law_is_liking (S__law_are_fractions : SpecT) : PS' :=
 (sSeq (sIf (tOr' (tNot' (tTru (pIsI (pVar 2) .tup))) (tOr' (tOf (pNe (pLen (pVar 2)) (pC (.int 3)))) (tOr' (tNot' (tTru (pIsI (pIx (pVar 2) (pC (.int 2))) .lst))) (tOf (pNe (pLen (pIx (pVar 2) (pC (.int 2)))) (pC (.int 2)))))))
 (sSeq (sRet (pC (.bl false)))
 sNext)
 sNext)
 (sSeq (sIf (tOr' (tNot' (tTru (pCall S__law_are_fractions (aCons (pIx (pVar 2) (pC (.int 0))) (aCons (pAdd (pVar 0) (pC (.int 2))) aNil))))) (tNot' (tTru (pCall S__law_are_fractions (aCons (pIx (pVar 2) (pC (.int 1))) (aCons (pVar 0) aNil))))))
 (sSeq (sRet (pC (.bl false)))
 sNext)
 sNext)
 (sSeq (sRet (pAnd (pCall S__law_are_fractions (aCons (pIx (pIx (pVar 2) (pC (.int 2))) (pC (.int 0))) (aCons (pVar 1) aNil))) (pCall S__law_are_fractions (aCons (pIx (pIx (pVar 2) (pC (.int 2))) (pC (.int 1))) (aCons (pVar 1) aNil)))))
 sNext)))
theorem c__law_is_liking (S__law_are_fractions : SpecT) : comp (p__law_is_liking S__law_are_fractions) (defScope (top 94)) (defBody (top 94)) = some (b__law_is_liking S__law_are_fractions) := by kernel_rfl
theorem f__law_is_liking : FnScope n__law_is_liking a__law_is_liking (defScope (top 94)) := C8.fnScope_by (by kernel_rfl)
/- 0:data 1:goods 2:liking 3:numbers 4:weights 5:slopes 6:count -/
def n_right_lengths : List Str := ["data", "goods", "liking", "numbers", "weights", "slopes", "count"]
def a_right_lengths : List Str := ["data", "goods", "liking"]
def p_right_lengths : Par := ⟨n_right_lengths, [], [], [], [], [], false⟩
noncomputable def b_right_lengths : PS' :=
 (sSeq (sSet (gTup' 3 (gCons' (gName' 3) (gCons' (gName' 4) (gCons' (gName' 5) gNil')))) (pVar 2))
 (sSeq (sSet (gName' 6) (pLen (pFld .buys (pVar 0))))
 (sSeq (sIf (tOr' (tOf (pNe (pLen (pVar 3)) (pAdd (pVar 6) (pC (.int 2))))) (tOr' (tOf (pNe (pLen (pVar 4)) (pVar 6))) (tOf (pNe (pLen (pVar 5)) (pC (.int 2))))))
 (sSeq (sRet (pC (.bl false)))
 sNext)
 sNext)
 (sSeq (sRet (pAnd (pEq (pLen (pIx (pVar 5) (pC (.int 0)))) (pVar 1)) (pEq (pLen (pIx (pVar 5) (pC (.int 1)))) (pVar 1))))
 sNext))))
theorem c_right_lengths : comp (p_right_lengths) (defScope (top 58)) (defBody (top 58)) = some (b_right_lengths) := by kernel_rfl
theorem f_right_lengths : FnScope n_right_lengths a_right_lengths (defScope (top 58)) := C8.fnScope_by (by kernel_rfl)
/- 0:row 1:x -/
def n_all_above : List Str := ["row", "x"]
def a_all_above : List Str := ["row"]
def p_all_above (S_at_most : SpecT) : Par := ⟨n_all_above, [("at_most", .call S_at_most)], [("ZERO", zD)], [], [], [], false⟩
noncomputable def b_all_above (S_at_most : SpecT) : PS' :=
 (sSeq (sFor (iList' (pVar 0)) (gName' 1)
 (sSeq (sIf (tTru (pCall S_at_most (aCons (pVar 1) (aCons (pC zD) aNil))))
 (sSeq (sRet (pC (.bl false)))
 sNext)
 sNext)
 sNext))
 (sSeq (sRet (pC (.bl true)))
 sNext))
theorem c_all_above (S_at_most : SpecT) : comp (p_all_above S_at_most) (defScope (top 56)) (defBody (top 56)) = some (b_all_above S_at_most) := by kernel_rfl
theorem f_all_above : FnScope n_all_above a_all_above (defScope (top 56)) := C8.fnScope_by (by kernel_rfl)
/- 0:data 1:points 2:liking 3:i 4:j 5:numbers 6:weights 7:slopes 8:count -/
def n_plane_at : List Str := ["data", "points", "liking", "i", "j", "numbers", "weights", "slopes", "count"]
def a_plane_at : List Str := ["data", "points", "liking", "i", "j"]
def p_plane_at (S_add : SpecT) (S_mul : SpecT) (S_excess : SpecT) (S_dot : SpecT) (S_minus : SpecT) : Par := ⟨n_plane_at, [("add", .call S_add), ("mul", .call S_mul), ("excess", .call S_excess), ("dot", .call S_dot), ("minus", .call S_minus)], [], [], [], [], false⟩
noncomputable def b_plane_at (S_add : SpecT) (S_mul : SpecT) (S_excess : SpecT) (S_dot : SpecT) (S_minus : SpecT) : PS' :=
 (sSeq (sSet (gTup' 3 (gCons' (gName' 5) (gCons' (gName' 6) (gCons' (gName' 7) gNil')))) (pVar 2))
 (sSeq (sSet (gName' 8) (pLen (pFld .buys (pVar 0))))
 (sSeq (sIf (tOf (pCmp (fun i j => decide (i < j)) (pVar 3) (pVar 8)))
 (sSeq (sRet (pCall S_add (aCons (pIx (pVar 5) (pVar 3)) (aCons (pCall S_mul (aCons (pIx (pVar 6) (pVar 3)) (aCons (pCall S_excess (aCons (pVar 0) (aCons (pVar 1) (aCons (pVar 3) (aCons (pVar 4) aNil))))) aNil))) aNil))))
 sNext)
 sNext)
 (sSeq (sRet (pCall S_add (aCons (pIx (pVar 5) (pVar 3)) (aCons (pCall S_dot (aCons (pIx (pVar 7) (pSub (pVar 3) (pVar 8))) (aCons (pCall S_minus (aCons (pIx (pVar 1) (pVar 4)) (aCons (pIx (pVar 1) (pVar 3)) aNil))) aNil))) aNil))))
 sNext))))
theorem c_plane_at (S_add : SpecT) (S_mul : SpecT) (S_excess : SpecT) (S_dot : SpecT) (S_minus : SpecT) : comp (p_plane_at S_add S_mul S_excess S_dot S_minus) (defScope (top 55)) (defBody (top 55)) = some (b_plane_at S_add S_mul S_excess S_dot S_minus) := by kernel_rfl
theorem f_plane_at : FnScope n_plane_at a_plane_at (defScope (top 55)) := C8.fnScope_by (by kernel_rfl)
/- 0:goal 1:first_number 2:second_number -/
def n_goal_holds : List Str := ["goal", "first_number", "second_number"]
def a_goal_holds : List Str := ["goal", "first_number", "second_number"]
def p_goal_holds (S_less : SpecT) : Par := ⟨n_goal_holds, [("less", .call S_less)], [], [], [], [], false⟩
noncomputable def b_goal_holds (S_less : SpecT) : PS' :=
 (sSeq (sIf (tOf (pEq (pVar 0) (pC (.str "first"))))
 (sSeq (sRet (pCall S_less (aCons (pVar 2) (aCons (pVar 1) aNil))))
 sNext)
 sNext)
 (sSeq (sIf (tOf (pEq (pVar 0) (pC (.str "second"))))
 (sSeq (sRet (pCall S_less (aCons (pVar 1) (aCons (pVar 2) aNil))))
 sNext)
 sNext)
 (sSeq (sRet (pEq (pVar 1) (pVar 2)))
 sNext)))
theorem c_goal_holds (S_less : SpecT) : comp (p_goal_holds S_less) (defScope (top 57)) (defBody (top 57)) = some (b_goal_holds S_less) := by kernel_rfl
theorem f_goal_holds : FnScope n_goal_holds a_goal_holds (defScope (top 57)) := C8.fnScope_by (by kernel_rfl)
/- 0:links 1:numbers 2:i 3:j 4:strict -/
def n_links_hold : List Str := ["links", "numbers", "i", "j", "strict"]
def a_links_hold : List Str := ["links", "numbers"]
def p_links_hold (S_less : SpecT) : Par := ⟨n_links_hold, [("less", .call S_less)], [], [], [], [], false⟩
noncomputable def b_links_hold (S_less : SpecT) : PS' :=
 (sSeq (sFor (iList' (pVar 0)) (gTup' 3 (gCons' (gName' 2) (gCons' (gName' 3) (gCons' (gName' 4) gNil'))))
 (sSeq (sIf (tOr' (tTru (pCall S_less (aCons (pIx (pVar 1) (pVar 2)) (aCons (pIx (pVar 1) (pVar 3)) aNil)))) (tAnd' (tTru (pVar 4)) (tOf (pEq (pIx (pVar 1) (pVar 2)) (pIx (pVar 1) (pVar 3))))))
 (sSeq (sRet (pC (.bl false)))
 sNext)
 sNext)
 sNext))
 (sSeq (sRet (pC (.bl true)))
 sNext))
theorem c_links_hold (S_less : SpecT) : comp (p_links_hold S_less) (defScope (top 44)) (defBody (top 44)) = some (b_links_hold S_less) := by kernel_rfl
theorem f_links_hold : FnScope n_links_hold a_links_hold (defScope (top 44)) := C8.fnScope_by (by kernel_rfl)
/- 0:data 1:first 2:second 3:goal 4:liking 5:numbers 6:weights 7:slopes 8:points 9:i 10:j 11:count -/
def n_judge_liking : List Str := ["data", "first", "second", "goal", "liking", "numbers", "weights", "slopes", "points", "i", "j", "count"]
def a_judge_liking : List Str := ["data", "first", "second", "goal", "liking"]
def p_judge_liking (S_right_lengths : SpecT) (S_all_above : SpecT) (S_points_of : SpecT) (S_less : SpecT) (S_plane_at : SpecT) (S_goal_holds : SpecT) (S_links_hold : SpecT) : Par := ⟨n_judge_liking, [("right_lengths", .call S_right_lengths), ("all_above", .call S_all_above), ("points_of", .call S_points_of), ("less", .call S_less), ("plane_at", .call S_plane_at), ("goal_holds", .call S_goal_holds), ("links_hold", .call S_links_hold)], [], [], [], [], false⟩
noncomputable def b_judge_liking (S_right_lengths : SpecT) (S_all_above : SpecT) (S_points_of : SpecT) (S_less : SpecT) (S_plane_at : SpecT) (S_goal_holds : SpecT) (S_links_hold : SpecT) : PS' :=
 (sSeq (sIf (tNot' (tTru (pCall S_right_lengths (aCons (pVar 0) (aCons (pLen (pVar 1)) (aCons (pVar 4) aNil))))))
 (sSeq (sRet (pC (.bl false)))
 sNext)
 sNext)
 (sSeq (sSet (gTup' 3 (gCons' (gName' 5) (gCons' (gName' 6) (gCons' (gName' 7) gNil')))) (pVar 4))
 (sSeq (sIf (tOr' (tNot' (tTru (pCall S_all_above (aCons (pVar 6) aNil)))) (tOr' (tNot' (tTru (pCall S_all_above (aCons (pIx (pVar 7) (pC (.int 0))) aNil)))) (tNot' (tTru (pCall S_all_above (aCons (pIx (pVar 7) (pC (.int 1))) aNil))))))
 (sSeq (sRet (pC (.bl false)))
 sNext)
 sNext)
 (sSeq (sSet (gName' 8) (pCall S_points_of (aCons (pVar 0) (aCons (pVar 1) (aCons (pVar 2) aNil)))))
 (sSeq (sFor (iRange (pLen (pVar 8))) (gName' 9)
 (sSeq (sFor (iRange (pLen (pVar 8))) (gName' 10)
 (sSeq (sIf (tTru (pCall S_less (aCons (pCall S_plane_at (aCons (pVar 0) (aCons (pVar 8) (aCons (pVar 4) (aCons (pVar 9) (aCons (pVar 10) aNil)))))) (aCons (pIx (pVar 5) (pVar 10)) aNil))))
 (sSeq (sRet (pC (.bl false)))
 sNext)
 sNext)
 sNext))
 sNext))
 (sSeq (sSet (gName' 11) (pLen (pFld .buys (pVar 0))))
 (sSeq (sRet (pAnd (pCall S_links_hold (aCons (pFld .links (pVar 0)) (aCons (pVar 5) aNil))) (pCall S_goal_holds (aCons (pVar 3) (aCons (pIx (pVar 5) (pVar 11)) (aCons (pIx (pVar 5) (pAdd (pVar 11) (pC (.int 1)))) aNil))))))
 sNext)))))))
theorem c_judge_liking (S_right_lengths : SpecT) (S_all_above : SpecT) (S_points_of : SpecT) (S_less : SpecT) (S_plane_at : SpecT) (S_goal_holds : SpecT) (S_links_hold : SpecT) : comp (p_judge_liking S_right_lengths S_all_above S_points_of S_less S_plane_at S_goal_holds S_links_hold) (defScope (top 59)) (defBody (top 59)) = some (b_judge_liking S_right_lengths S_all_above S_points_of S_less S_plane_at S_goal_holds S_links_hold) := by kernel_rfl
theorem f_judge_liking : FnScope n_judge_liking a_judge_liking (defScope (top 59)) := C8.fnScope_by (by kernel_rfl)
/- 0:_law_data_here 1:_law_first 2:_law_second 3:_law_goal 4:_law_likings_here 5:_law_numbers 6:_law_weights 7:_law_slopes 8:_law_passed -/
def n__law_one_accepted : List Str := ["_law_data_here", "_law_first", "_law_second", "_law_goal", "_law_likings_here", "_law_numbers", "_law_weights", "_law_slopes", "_law_passed"]
def a__law_one_accepted : List Str := ["_law_data_here", "_law_first", "_law_second", "_law_goal", "_law_likings_here"]
def p__law_one_accepted (S_judge_liking : SpecT) : Par := ⟨n__law_one_accepted, [("judge_liking", .call S_judge_liking)], [], [], [], [], false⟩
noncomputable def b__law_one_accepted (S_judge_liking : SpecT) : PS' :=
 (sSeq (sFor (iList' (pVar 4)) (gTup' 3 (gCons' (gName' 5) (gCons' (gName' 6) (gCons' (gName' 7) gNil'))))
 (sSeq (sSet (gName' 8) (pTup (aCons (pF (fList (pVar 5))) (aCons (pF (fList (pVar 6))) (aCons (pF (fLst (aCons (pF (fList (pIx (pVar 7) (pC (.int 0))))) (aCons (pF (fList (pIx (pVar 7) (pC (.int 1))))) aNil)))) aNil)))))
 (sSeq (sIf (tTru (pCall S_judge_liking (aCons (pVar 0) (aCons (pF (fList (pVar 1))) (aCons (pF (fList (pVar 2))) (aCons (pVar 3) (aCons (pVar 8) aNil)))))))
 (sSeq (sRet (pC (.bl true)))
 sNext)
 sNext)
 sNext)))
 (sSeq (sRet (pC (.bl false)))
 sNext))
theorem c__law_one_accepted (S_judge_liking : SpecT) : comp (p__law_one_accepted S_judge_liking) (defScope (top 101)) (defBody (top 101)) = some (b__law_one_accepted S_judge_liking) := by kernel_rfl
theorem f__law_one_accepted : FnScope n__law_one_accepted a__law_one_accepted (defScope (top 101)) := C8.fnScope_by (by kernel_rfl)
/- 0:_law_a 1:_law_b -/
def n__law_add : List Str := ["_law_a", "_law_b"]
def a__law_add : List Str := ["_law_a", "_law_b"]
def p__law_add : Par := ⟨n__law_add, [], [], [], [], [], false⟩
noncomputable def b__law_add : PS' :=
 (sSeq (sRet (pTup (aCons (pAdd (pMul (pIx (pVar 0) (pC (.int 0))) (pIx (pVar 1) (pC (.int 1)))) (pMul (pIx (pVar 1) (pC (.int 0))) (pIx (pVar 0) (pC (.int 1))))) (aCons (pMul (pIx (pVar 0) (pC (.int 1))) (pIx (pVar 1) (pC (.int 1)))) aNil))))
 sNext)
theorem c__law_add : comp (p__law_add) (defScope (top 89)) (defBody (top 89)) = some (b__law_add) := by kernel_rfl
theorem f__law_add : FnScope n__law_add a__law_add (defScope (top 89)) := C8.fnScope_by (by kernel_rfl)
/- 0:_law_xs 1:_law_at 2:_law_x -/
def n__law_put : List Str := ["_law_xs", "_law_at", "_law_x"]
def a__law_put : List Str := ["_law_xs", "_law_at", "_law_x"]
def p__law_put : Par := ⟨n__law_put, [], [], [], [], [], false⟩
noncomputable def b__law_put : PS' :=
 (sSeq (sRet (pAdd (pAdd (pF (fSl (pVar 0) oNo (oYes (pVar 1)))) (pF (fLst (aCons (pVar 2) aNil)))) (pF (fSl (pVar 0) (oYes (pAdd (pVar 1) (pC (.int 1)))) oNo))))
 sNext)
theorem c__law_put : comp (p__law_put) (defScope (top 96)) (defBody (top 96)) = some (b__law_put) := by kernel_rfl
theorem f__law_put : FnScope n__law_put a__law_put (defScope (top 96)) := C8.fnScope_by (by kernel_rfl)
/- 0:_law_row_here 1:_law_goal 2:_law_told 3:_law_numbers 4:_law_weights 5:_law_slopes 6:_law_count 7:_law_low 8:_law_moved 9:_law_second 10:_law_at 11:_law_other 12:_law_third -/
def n__law_likings : List Str := ["_law_row_here", "_law_goal", "_law_told", "_law_numbers", "_law_weights", "_law_slopes", "_law_count", "_law_low", "_law_moved", "_law_second", "_law_at", "_law_other", "_law_third"]
def a__law_likings : List Str := ["_law_row_here", "_law_goal", "_law_told"]
def p__law_likings (S__law_add : SpecT) (S__law_put : SpecT) (S__law_lowest : SpecT) : Par := ⟨n__law_likings, [("_law_add", .call S__law_add), ("_law_put", .call S__law_put), ("_law_lowest", .call S__law_lowest)], [], [], [], [], false⟩
noncomputable def b__law_likings (S__law_add : SpecT) (S__law_put : SpecT) (S__law_lowest : SpecT) : PS' :=
 (sSeq (sSet (gTup' 3 (gCons' (gName' 3) (gCons' (gName' 4) (gCons' (gName' 5) gNil')))) (pVar 2))
 (sSeq (sSet (gName' 6) (pLen (pVar 4)))
 (sSeq (sSet (gName' 7) (pIx (pVar 3) (pVar 6)))
 (sSeq (sSet (gName' 8) (pCall S__law_add (aCons (pVar 7) (aCons (pTup (aCons (pIx (pF (fLst (aCons (pNeg (pC (.int 1))) (aCons (pC (.int 0)) (aCons (pC (.int 1)) aNil))))) (pIndex (pF (fLst (aCons (pC (.str "first")) (aCons (pC (.str "alike")) (aCons (pC (.str "second")) aNil))))) (pVar 1))) (aCons (pC (.int 1)) aNil))) aNil))))
 (sSeq (sSet (gName' 9) (pCall S__law_put (aCons (pVar 3) (aCons (pAdd (pVar 6) (pC (.int 1))) (aCons (pCall S__law_lowest (aCons (pIx (pVar 8) (pC (.int 0))) (aCons (pIx (pVar 8) (pC (.int 1))) aNil))) aNil)))))
 (sSeq (sSet (gName' 10) (pMod (pInt (pIx (pVar 0) (pC (.int 0)))) (pLen (pVar 3))))
 (sSeq (sSet (gName' 11) (pCall S__law_add (aCons (pIx (pVar 3) (pVar 10)) (aCons (pTup (aCons (pSub (pMod (pInt (pIx (pVar 0) (pC (.int 1)))) (pC (.int 5))) (pC (.int 2))) (aCons (pAdd (pC (.int 1)) (pMod (pInt (pIx (pVar 0) (pC (.int 2)))) (pC (.int 3)))) aNil))) aNil))))
 (sSeq (sSet (gName' 12) (pCall S__law_put (aCons (pVar 3) (aCons (pVar 10) (aCons (pCall S__law_lowest (aCons (pIx (pVar 11) (pC (.int 0))) (aCons (pIx (pVar 11) (pC (.int 1))) aNil))) aNil)))))
 (sSeq (sRet (pF (fLst (aCons (pTup (aCons (pVar 3) (aCons (pVar 4) (aCons (pVar 5) aNil)))) (aCons (pTup (aCons (pVar 9) (aCons (pVar 4) (aCons (pVar 5) aNil)))) (aCons (pTup (aCons (pVar 12) (aCons (pVar 4) (aCons (pVar 5) aNil)))) aNil))))))
 sNext)))))))))
theorem c__law_likings (S__law_add : SpecT) (S__law_put : SpecT) (S__law_lowest : SpecT) : comp (p__law_likings S__law_add S__law_put S__law_lowest) (defScope (top 97)) (defBody (top 97)) = some (b__law_likings S__law_add S__law_put S__law_lowest) := by kernel_rfl
theorem f__law_likings : FnScope n__law_likings a__law_likings (defScope (top 97)) := C8.fnScope_by (by kernel_rfl)
/- 0:_law_count 1:_law_linked 2:_law_goal 3:_law_told 4:_law_one -/
def n__law_is_refusal : List Str := ["_law_count", "_law_linked", "_law_goal", "_law_told", "_law_one"]
def a__law_is_refusal : List Str := ["_law_count", "_law_linked", "_law_goal", "_law_told"]
def p__law_is_refusal (S__law_are_fractions : SpecT) : Par := ⟨n__law_is_refusal, [("_law_are_fractions", .call S__law_are_fractions)], [], [], [], [], false⟩
noncomputable def b__law_is_refusal (S__law_are_fractions : SpecT) : PS' :=
 (sSeq (sIf (tOr' (tNot' (tTru (pIsI (pVar 3) .tup))) (tOr' (tOf (pNe (pLen (pVar 3)) (pC (.int 3)))) (tOr' (tNot' (tTru (pIsI (pIx (pVar 3) (pC (.int 0))) .lst))) (tOf (pNe (pLen (pIx (pVar 3) (pC (.int 0)))) (pAdd (pVar 0) (pC (.int 2))))))))
 (sSeq (sRet (pC (.bl false)))
 sNext)
 sNext)
 (sSeq (sFor (iList' (pIx (pVar 3) (pC (.int 0)))) (gName' 4)
 (sSeq (sIf (tNot' (tTru (pCall S__law_are_fractions (aCons (pVar 4) (aCons (pAdd (pVar 0) (pC (.int 2))) aNil)))))
 (sSeq (sRet (pC (.bl false)))
 sNext)
 sNext)
 sNext))
 (sSeq (sRet (pAnd (pCall S__law_are_fractions (aCons (pIx (pVar 3) (pC (.int 1))) (aCons (pVar 1) aNil))) (pCall S__law_are_fractions (aCons (pIx (pVar 3) (pC (.int 2))) (aCons (pAdd (pC (.int 1)) (pInt (pEq (pVar 2) (pC (.str "alike"))))) aNil)))))
 sNext)))
theorem c__law_is_refusal (S__law_are_fractions : SpecT) : comp (p__law_is_refusal S__law_are_fractions) (defScope (top 95)) (defBody (top 95)) = some (b__law_is_refusal S__law_are_fractions) := by kernel_rfl
theorem f__law_is_refusal : FnScope n__law_is_refusal a__law_is_refusal (defScope (top 95)) := C8.fnScope_by (by kernel_rfl)
/- 0:row 1:x -/
def n_none_below : List Str := ["row", "x"]
def a_none_below : List Str := ["row"]
def p_none_below (S_less : SpecT) : Par := ⟨n_none_below, [("less", .call S_less)], [("ZERO", zD)], [], [], [], false⟩
noncomputable def b_none_below (S_less : SpecT) : PS' :=
 (sSeq (sFor (iList' (pVar 0)) (gName' 1)
 (sSeq (sIf (tTru (pCall S_less (aCons (pVar 1) (aCons (pC zD) aNil))))
 (sSeq (sRet (pC (.bl false)))
 sNext)
 sNext)
 sNext))
 (sSeq (sRet (pC (.bl true)))
 sNext))
theorem c_none_below (S_less : SpecT) : comp (p_none_below S_less) (defScope (top 63)) (defBody (top 63)) = some (b_none_below S_less) := by kernel_rfl
theorem f_none_below : FnScope n_none_below a_none_below (defScope (top 63)) := C8.fnScope_by (by kernel_rfl)
/- 0:data 1:goal 2:refusal 3:pairs 4:link_prices 5:goal_prices 6:count 7:row -/
def n_right_prices : List Str := ["data", "goal", "refusal", "pairs", "link_prices", "goal_prices", "count", "row"]
def a_right_prices : List Str := ["data", "goal", "refusal"]
def p_right_prices (S_goal_pairs : SpecT) (S_none_below : SpecT) : Par := ⟨n_right_prices, [("goal_pairs", .call S_goal_pairs), ("none_below", .call S_none_below)], [], [], [], [], false⟩
noncomputable def b_right_prices (S_goal_pairs : SpecT) (S_none_below : SpecT) : PS' :=
 (sSeq (sSet (gTup' 3 (gCons' (gName' 3) (gCons' (gName' 4) (gCons' (gName' 5) gNil')))) (pVar 2))
 (sSeq (sSet (gName' 6) (pAdd (pLen (pFld .buys (pVar 0))) (pC (.int 2))))
 (sSeq (sIf (tOr' (tOf (pNe (pLen (pVar 3)) (pVar 6))) (tOf (pNe (pLen (pVar 4)) (pLen (pFld .links (pVar 0))))))
 (sSeq (sRet (pC (.bl false)))
 sNext)
 sNext)
 (sSeq (sIf (tOf (pNe (pLen (pVar 5)) (pLen (pCall S_goal_pairs (aCons (pVar 6) (aCons (pVar 1) aNil))))))
 (sSeq (sRet (pC (.bl false)))
 sNext)
 sNext)
 (sSeq (sFor (iList' (pVar 3)) (gName' 7)
 (sSeq (sIf (tOr' (tOf (pNe (pLen (pVar 7)) (pVar 6))) (tNot' (tTru (pCall S_none_below (aCons (pVar 7) aNil)))))
 (sSeq (sRet (pC (.bl false)))
 sNext)
 sNext)
 sNext))
 (sSeq (sRet (pAnd (pCall S_none_below (aCons (pVar 4) aNil)) (pCall S_none_below (aCons (pVar 5) aNil))))
 sNext))))))
theorem c_right_prices (S_goal_pairs : SpecT) (S_none_below : SpecT) : comp (p_right_prices S_goal_pairs S_none_below) (defScope (top 64)) (defBody (top 64)) = some (b_right_prices S_goal_pairs S_none_below) := by kernel_rfl
theorem f_right_prices : FnScope n_right_prices a_right_prices (defScope (top 64)) := C8.fnScope_by (by kernel_rfl)
/- 0:data 1:points 2:goal 3:refusal 4:pairs 5:link_prices 6:goal_prices 7:net 8:i 9:j 10:k 11:strict 12:ends 13:better 14:other 15:point -/
def n_balanced : List Str := ["data", "points", "goal", "refusal", "pairs", "link_prices", "goal_prices", "net", "i", "j", "k", "strict", "ends", "better", "other", "point"]
def a_balanced : List Str := ["data", "points", "goal", "refusal"]
def p_balanced (S_add : SpecT) (S_sub : SpecT) (S_goal_pairs : SpecT) : Par := ⟨n_balanced, [("add", .call S_add), ("sub", .call S_sub), ("goal_pairs", .call S_goal_pairs)], [("ZERO", zD)], [7], [], [], false⟩
noncomputable def b_balanced (S_add : SpecT) (S_sub : SpecT) (S_goal_pairs : SpecT) : PS' :=
 (sSeq (sSet (gTup' 3 (gCons' (gName' 4) (gCons' (gName' 5) (gCons' (gName' 6) gNil')))) (pVar 3))
 (sSeq (sOwn 7 (fComp (iList' (pVar 1)) (gName' 15) tYes' (pC zD) [15]))
 (sSeq (sFor (iRange (pLen (pVar 1))) (gName' 8)
 (sSeq (sFor (iRange (pLen (pVar 1))) (gName' 9)
 (sSeq (sPut 7 (pVar 8) (pCall S_add (aCons (pIx (pVar 7) (pVar 8)) (aCons (pIx (pIx (pVar 4) (pVar 8)) (pVar 9)) aNil))))
 (sSeq (sPut 7 (pVar 9) (pCall S_sub (aCons (pIx (pVar 7) (pVar 9)) (aCons (pIx (pIx (pVar 4) (pVar 8)) (pVar 9)) aNil))))
 sNext)))
 sNext))
 (sSeq (sFor (iRange (pLen (pFld .links (pVar 0)))) (gName' 10)
 (sSeq (sSet (gTup' 3 (gCons' (gName' 8) (gCons' (gName' 9) (gCons' (gName' 11) gNil')))) (pIx (pFld .links (pVar 0)) (pVar 10)))
 (sSeq (sPut 7 (pVar 8) (pCall S_add (aCons (pIx (pVar 7) (pVar 8)) (aCons (pIx (pVar 5) (pVar 10)) aNil))))
 (sSeq (sPut 7 (pVar 9) (pCall S_sub (aCons (pIx (pVar 7) (pVar 9)) (aCons (pIx (pVar 5) (pVar 10)) aNil))))
 sNext))))
 (sSeq (sSet (gName' 12) (pCall S_goal_pairs (aCons (pLen (pFld .buys (pVar 0))) (aCons (pVar 2) aNil))))
 (sSeq (sFor (iRange (pLen (pVar 12))) (gName' 10)
 (sSeq (sSet (gTup' 2 (gCons' (gName' 13) (gCons' (gName' 14) gNil'))) (pIx (pVar 12) (pVar 10)))
 (sSeq (sPut 7 (pVar 13) (pCall S_add (aCons (pIx (pVar 7) (pVar 13)) (aCons (pIx (pVar 6) (pVar 10)) aNil))))
 (sSeq (sPut 7 (pVar 14) (pCall S_sub (aCons (pIx (pVar 7) (pVar 14)) (aCons (pIx (pVar 6) (pVar 10)) aNil))))
 sNext))))
 (sSeq (sRet (pEq (pVar 7) (pF (fComp (iList' (pVar 1)) (gName' 15) tYes' (pC zD) [15]))))
 sNext)))))))
theorem c_balanced (S_add : SpecT) (S_sub : SpecT) (S_goal_pairs : SpecT) : comp (p_balanced S_add S_sub S_goal_pairs) (defScope (top 61)) (defBody (top 61)) = some (b_balanced S_add S_sub S_goal_pairs) := by kernel_rfl
theorem f_balanced : FnScope n_balanced a_balanced (defScope (top 61)) := C8.fnScope_by (by kernel_rfl)
/- 0:data 1:points 2:pairs 3:count 4:result 5:i 6:total 7:j 8:k -/
def n_excesses : List Str := ["data", "points", "pairs", "count", "result", "i", "total", "j", "k"]
def a_excesses : List Str := ["data", "points", "pairs"]
def p_excesses (S_add : SpecT) (S_mul : SpecT) (S_excess : SpecT) (S_sub : SpecT) : Par := ⟨n_excesses, [("add", .call S_add), ("mul", .call S_mul), ("excess", .call S_excess), ("sub", .call S_sub)], [("ZERO", zD)], [4], [], [], false⟩
noncomputable def b_excesses (S_add : SpecT) (S_mul : SpecT) (S_excess : SpecT) (S_sub : SpecT) : PS' :=
 (sSeq (sSet (gName' 3) (pLen (pFld .buys (pVar 0))))
 (sSeq (sOwn 4 (fLst aNil))
 (sSeq (sFor (iRange (pVar 3)) (gName' 5)
 (sSeq (sSet (gName' 6) (pC zD))
 (sSeq (sFor (iRange (pLen (pVar 1))) (gName' 7)
 (sSeq (sSet (gName' 6) (pCall S_add (aCons (pVar 6) (aCons (pCall S_mul (aCons (pIx (pIx (pVar 2) (pVar 5)) (pVar 7)) (aCons (pCall S_excess (aCons (pVar 0) (aCons (pVar 1) (aCons (pVar 5) (aCons (pVar 7) aNil))))) aNil))) aNil))))
 sNext))
 (sSeq (sApp 4 (pVar 6))
 sNext))))
 (sSeq (sFor (iTup' (pTup (aCons (pVar 3) (aCons (pAdd (pVar 3) (pC (.int 1))) aNil)))) (gName' 5)
 (sSeq (sFor (iRange (pLen (pIx (pVar 1) (pVar 5)))) (gName' 8)
 (sSeq (sSet (gName' 6) (pC zD))
 (sSeq (sFor (iRange (pLen (pVar 1))) (gName' 7)
 (sSeq (sSet (gName' 6) (pCall S_add (aCons (pVar 6) (aCons (pCall S_mul (aCons (pIx (pIx (pVar 2) (pVar 5)) (pVar 7)) (aCons (pCall S_sub (aCons (pIx (pIx (pVar 1) (pVar 7)) (pVar 8)) (aCons (pIx (pIx (pVar 1) (pVar 5)) (pVar 8)) aNil))) aNil))) aNil))))
 sNext))
 (sSeq (sApp 4 (pVar 6))
 sNext))))
 sNext))
 (sSeq (sRet (pVar 4))
 sNext)))))
theorem c_excesses (S_add : SpecT) (S_mul : SpecT) (S_excess : SpecT) (S_sub : SpecT) : comp (p_excesses S_add S_mul S_excess S_sub) (defScope (top 62)) (defBody (top 62)) = some (b_excesses S_add S_mul S_excess S_sub) := by kernel_rfl
theorem f_excesses : FnScope n_excesses a_excesses (defScope (top 62)) := C8.fnScope_by (by kernel_rfl)
/- 0:data 1:first 2:second 3:goal 4:refusal 5:pairs 6:link_prices 7:goal_prices 8:points 9:some 10:x 11:k -/
def n_judge_refusal : List Str := ["data", "first", "second", "goal", "refusal", "pairs", "link_prices", "goal_prices", "points", "some", "x", "k"]
def a_judge_refusal : List Str := ["data", "first", "second", "goal", "refusal"]
def p_judge_refusal (S_right_prices : SpecT) (S_points_of : SpecT) (S_balanced : SpecT) (S_less : SpecT) (S_excesses : SpecT) : Par := ⟨n_judge_refusal, [("right_prices", .call S_right_prices), ("points_of", .call S_points_of), ("balanced", .call S_balanced), ("less", .call S_less), ("excesses", .call S_excesses)], [("ZERO", zD)], [], [], [], false⟩
noncomputable def b_judge_refusal (S_right_prices : SpecT) (S_points_of : SpecT) (S_balanced : SpecT) (S_less : SpecT) (S_excesses : SpecT) : PS' :=
 (sSeq (sIf (tNot' (tTru (pCall S_right_prices (aCons (pVar 0) (aCons (pVar 3) (aCons (pVar 4) aNil))))))
 (sSeq (sRet (pC (.bl false)))
 sNext)
 sNext)
 (sSeq (sSet (gTup' 3 (gCons' (gName' 5) (gCons' (gName' 6) (gCons' (gName' 7) gNil')))) (pVar 4))
 (sSeq (sSet (gName' 8) (pCall S_points_of (aCons (pVar 0) (aCons (pVar 1) (aCons (pVar 2) aNil)))))
 (sSeq (sIf (tNot' (tTru (pCall S_balanced (aCons (pVar 0) (aCons (pVar 8) (aCons (pVar 3) (aCons (pVar 4) aNil)))))))
 (sSeq (sRet (pC (.bl false)))
 sNext)
 sNext)
 (sSeq (sSet (gName' 9) (pAnd (pNe (pVar 3) (pC (.str "alike"))) (pCall S_less (aCons (pC zD) (aCons (pIx (pVar 7) (pC (.int 0))) aNil)))))
 (sSeq (sFor (iList' (pCall S_excesses (aCons (pVar 0) (aCons (pVar 8) (aCons (pVar 5) aNil))))) (gName' 10)
 (sSeq (sIf (tTru (pCall S_less (aCons (pC zD) (aCons (pVar 10) aNil))))
 (sSeq (sRet (pC (.bl false)))
 sNext)
 sNext)
 (sSeq (sSet (gName' 9) (pOr (pVar 9) (pCall S_less (aCons (pVar 10) (aCons (pC zD) aNil)))))
 sNext)))
 (sSeq (sFor (iRange (pLen (pFld .links (pVar 0)))) (gName' 11)
 (sSeq (sSet (gName' 9) (pOr (pVar 9) (pAnd (pIx (pIx (pFld .links (pVar 0)) (pVar 11)) (pC (.int 2))) (pCall S_less (aCons (pC zD) (aCons (pIx (pVar 6) (pVar 11)) aNil))))))
 sNext))
 (sSeq (sRet (pVar 9))
 sNext))))))))
theorem c_judge_refusal (S_right_prices : SpecT) (S_points_of : SpecT) (S_balanced : SpecT) (S_less : SpecT) (S_excesses : SpecT) : comp (p_judge_refusal S_right_prices S_points_of S_balanced S_less S_excesses) (defScope (top 65)) (defBody (top 65)) = some (b_judge_refusal S_right_prices S_points_of S_balanced S_less S_excesses) := by kernel_rfl
theorem f_judge_refusal : FnScope n_judge_refusal a_judge_refusal (defScope (top 65)) := C8.fnScope_by (by kernel_rfl)
/- 0:_law_refusal 1:_law_one -/
def n__law_copy : List Str := ["_law_refusal", "_law_one"]
def a__law_copy : List Str := ["_law_refusal"]
def p__law_copy : Par := ⟨n__law_copy, [], [], [], [], [], false⟩
noncomputable def b__law_copy : PS' :=
 (sSeq (sRet (pTup (aCons (pF (fComp (iList' (pIx (pVar 0) (pC (.int 0)))) (gName' 1) tYes' (pF (fList (pVar 1))) [1])) (aCons (pF (fList (pIx (pVar 0) (pC (.int 1))))) (aCons (pF (fList (pIx (pVar 0) (pC (.int 2))))) aNil)))))
 sNext)
theorem c__law_copy : comp (p__law_copy) (defScope (top 100)) (defBody (top 100)) = some (b__law_copy) := by kernel_rfl
theorem f__law_copy : FnScope n__law_copy a__law_copy (defScope (top 100)) := C8.fnScope_by (by kernel_rfl)
/- 0:_law_data_here 1:_law_first 2:_law_second 3:_law_goal 4:_law_refusals_here 5:_law_refusal -/
def n__law_one_refused : List Str := ["_law_data_here", "_law_first", "_law_second", "_law_goal", "_law_refusals_here", "_law_refusal"]
def a__law_one_refused : List Str := ["_law_data_here", "_law_first", "_law_second", "_law_goal", "_law_refusals_here"]
def p__law_one_refused (S_judge_refusal : SpecT) (S__law_copy : SpecT) : Par := ⟨n__law_one_refused, [("judge_refusal", .call S_judge_refusal), ("_law_copy", .call S__law_copy)], [], [], [], [], false⟩
noncomputable def b__law_one_refused (S_judge_refusal : SpecT) (S__law_copy : SpecT) : PS' :=
 (sSeq (sFor (iList' (pVar 4)) (gName' 5)
 (sSeq (sIf (tTru (pCall S_judge_refusal (aCons (pVar 0) (aCons (pF (fList (pVar 1))) (aCons (pF (fList (pVar 2))) (aCons (pVar 3) (aCons (pCall S__law_copy (aCons (pVar 5) aNil)) aNil)))))))
 (sSeq (sRet (pC (.bl true)))
 sNext)
 sNext)
 sNext))
 (sSeq (sRet (pC (.bl false)))
 sNext))
theorem c__law_one_refused (S_judge_refusal : SpecT) (S__law_copy : SpecT) : comp (p__law_one_refused S_judge_refusal S__law_copy) (defScope (top 102)) (defBody (top 102)) = some (b__law_one_refused S_judge_refusal S__law_copy) := by kernel_rfl
theorem f__law_one_refused : FnScope n__law_one_refused a__law_one_refused (defScope (top 102)) := C8.fnScope_by (by kernel_rfl)
/- 0:_law_row_here 1:_law_count 2:_law_linked 3:_law_goal 4:_law_better 5:_law_pairs 6:_law_at 7:_law_k 8:_law_goal_prices 9:_law_i 10:_law_j -/
def n__law_around : List Str := ["_law_row_here", "_law_count", "_law_linked", "_law_goal", "_law_better", "_law_pairs", "_law_at", "_law_k", "_law_goal_prices", "_law_i", "_law_j"]
def a__law_around : List Str := ["_law_row_here", "_law_count", "_law_linked", "_law_goal"]
def p__law_around : Par := ⟨n__law_around, [], [], [], [5], [], false⟩
noncomputable def b__law_around : PS' :=
 (sSeq (sSet (gName' 4) (pAdd (pVar 1) (pInt (pEq (pVar 3) (pC (.str "second"))))))
 (sSeq (sIf (tOf (pEq (pVar 3) (pC (.str "alike"))))
 (sSeq (sSet (gName' 4) (pAdd (pVar 1) (pMod (pInt (pIx (pVar 0) (pC (.int 5)))) (pC (.int 2)))))
 sNext)
 sNext)
 (sSeq (sOwn2 5 (ffComp (iRange (pAdd (pVar 1) (pC (.int 2)))) (gName' 9) (fComp (iRange (pAdd (pVar 1) (pC (.int 2)))) (gName' 10) tYes' (pTup (aCons (pC (.int 0)) (aCons (pC (.int 1)) aNil))) [10]) [9]))
 (sSeq (sSet (gName' 6) (pSub (pAdd (pVar 1) (pC (.int 1))) (pSub (pVar 4) (pVar 1))))
 (sSeq (sFor (iRange (pMod (pInt (pIx (pVar 0) (pC (.int 0)))) (pC (.int 3)))) (gName' 7)
 (sSeq (sPut2 5 (pVar 6) (pMod (pInt (pIx (pVar 0) (pAdd (pC (.int 1)) (pVar 7)))) (pAdd (pVar 1) (pC (.int 2)))) (pTup (aCons (pC (.int 1)) (aCons (pC (.int 1)) aNil))))
 (sSeq (sSet (gName' 6) (pMod (pInt (pIx (pVar 0) (pAdd (pC (.int 1)) (pVar 7)))) (pAdd (pVar 1) (pC (.int 2)))))
 sNext)))
 (sSeq (sPut2 5 (pVar 6) (pVar 4) (pTup (aCons (pC (.int 1)) (aCons (pC (.int 1)) aNil))))
 (sSeq (sSet (gName' 8) (pF (fLst (aCons (pTup (aCons (pC (.int 1)) (aCons (pC (.int 1)) aNil))) aNil))))
 (sSeq (sIf (tOf (pEq (pVar 3) (pC (.str "alike"))))
 (sSeq (sSet (gName' 8) (pF (fLst (aCons (pTup (aCons (pInt (pEq (pVar 4) (pAdd (pVar 1) (pC (.int 1))))) (aCons (pC (.int 1)) aNil))) (aCons (pTup (aCons (pInt (pEq (pVar 4) (pVar 1))) (aCons (pC (.int 1)) aNil))) aNil)))))
 sNext)
 sNext)
 (sSeq (sRet (pTup (aCons (pVar 5) (aCons (pF (fComp (iRange (pVar 2)) (gName' 7) tYes' (pTup (aCons (pC (.int 0)) (aCons (pC (.int 1)) aNil))) [7])) (aCons (pVar 8) aNil)))))
 sNext)))))))))
theorem c__law_around : comp (p__law_around) (defScope (top 98)) (defBody (top 98)) = some (b__law_around) := by kernel_rfl
theorem f__law_around : FnScope n__law_around a__law_around (defScope (top 98)) := C8.fnScope_by (by kernel_rfl)
/- 0:_law_script 1:_law_count 2:_law_linked 3:_law_goal 4:_law_told 5:_law_need 6:_law_nothing 7:_law_found 8:_law_place 9:_law_one 10:_law_prices 11:_law_i 12:_law_j 13:_law_k -/
def n__law_refusals : List Str := ["_law_script", "_law_count", "_law_linked", "_law_goal", "_law_told", "_law_need", "_law_nothing", "_law_found", "_law_place", "_law_one", "_law_prices", "_law_i", "_law_j", "_law_k"]
def a__law_refusals : List Str := ["_law_script", "_law_count", "_law_linked", "_law_goal", "_law_told"]
def p__law_refusals (S__law_around : SpecT) (S__law_row : SpecT) : Par := ⟨n__law_refusals, [("_law_around", .call S__law_around), ("_law_row", .call S__law_row)], [], [7], [], [], false⟩
noncomputable def b__law_refusals (S__law_around : SpecT) (S__law_row : SpecT) : PS' :=
 (sSeq (sSet (gName' 5) (pAdd (pC (.int 1)) (pInt (pEq (pVar 3) (pC (.str "alike"))))))
 (sSeq (sSet (gName' 6) (pF (fComp (iRange (pAdd (pVar 1) (pC (.int 2)))) (gName' 11) tYes' (pF (fComp (iRange (pAdd (pVar 1) (pC (.int 2)))) (gName' 12) tYes' (pTup (aCons (pC (.int 0)) (aCons (pC (.int 1)) aNil))) [12])) [11])))
 (sSeq (sOwn 7 (fLst (aCons (pTup (aCons (pVar 6) (aCons (pF (fComp (iRange (pVar 2)) (gName' 13) tYes' (pTup (aCons (pC (.int 0)) (aCons (pC (.int 1)) aNil))) [13])) (aCons (pF (fComp (iRange (pVar 5)) (gName' 13) tYes' (pTup (aCons (pC (.int 0)) (aCons (pC (.int 1)) aNil))) [13])) aNil)))) aNil)))
 (sSeq (sFor (iTup' (pTup (aCons (pC (.int 11)) (aCons (pC (.int 12)) (aCons (pC (.int 13)) aNil))))) (gName' 8)
 (sSeq (sApp 7 (pCall S__law_around (aCons (pCall S__law_row (aCons (pVar 0) (aCons (pVar 8) (aCons (pC (.int 6)) aNil)))) (aCons (pVar 1) (aCons (pVar 2) (aCons (pVar 3) aNil))))))
 sNext))
 (sSeq (sFor (iList' (pVar 4)) (gName' 9)
 (sSeq (sSet (gName' 10) (pAdd (pF (fList (pIx (pVar 9) (pC (.int 2))))) (pF (fLst (aCons (pTup (aCons (pC (.int 0)) (aCons (pC (.int 1)) aNil))) aNil)))))
 (sSeq (sApp 7 (pTup (aCons (pIx (pVar 9) (pC (.int 0))) (aCons (pIx (pVar 9) (pC (.int 1))) (aCons (pF (fSl (pVar 10) oNo (oYes (pVar 5)))) aNil)))))
 (sSeq (sApp 7 (pTup (aCons (pIx (pVar 9) (pC (.int 0))) (aCons (pIx (pVar 9) (pC (.int 1))) (aCons (pF (fSl (pF (fRev (pVar 10))) oNo (oYes (pVar 5)))) aNil)))))
 sNext))))
 (sSeq (sRet (pVar 7))
 sNext))))))
theorem c__law_refusals (S__law_around : SpecT) (S__law_row : SpecT) : comp (p__law_refusals S__law_around S__law_row) (defScope (top 99)) (defBody (top 99)) = some (b__law_refusals S__law_around S__law_row) := by kernel_rfl
theorem f__law_refusals : FnScope n__law_refusals a__law_refusals (defScope (top 99)) := C8.fnScope_by (by kernel_rfl)
/- 0:_law_actual 1:_law_due 2:_law_k -/
def n__law_same : List Str := ["_law_actual", "_law_due", "_law_k"]
def a__law_same : List Str := ["_law_actual", "_law_due"]
def p__law_same (S__law_same : SpecT) (S__law_is_integer : SpecT) : Par := ⟨n__law_same, [("_law_same", .call S__law_same), ("_law_is_integer", .call S__law_is_integer)], [], [], [], [], false⟩
noncomputable def b__law_same (S__law_same : SpecT) (S__law_is_integer : SpecT) : PS' :=
 (sSeq (sIf (tOr' (tTru (pIsI (pVar 1) .lst)) (tTru (pIsI (pVar 1) .tup)))
 (sSeq (sIf (tOr' (tOf (pNe (pIsI (pVar 0) .lst) (pIsI (pVar 1) .lst))) (tOf (pNe (pIsI (pVar 0) .tup) (pIsI (pVar 1) .tup))))
 (sSeq (sRet (pC (.bl false)))
 sNext)
 sNext)
 (sSeq (sIf (tOf (pNe (pLen (pVar 0)) (pLen (pVar 1))))
 (sSeq (sRet (pC (.bl false)))
 sNext)
 sNext)
 (sSeq (sFor (iRange (pLen (pVar 1))) (gName' 2)
 (sSeq (sIf (tNot' (tTru (pCall S__law_same (aCons (pIx (pVar 0) (pVar 2)) (aCons (pIx (pVar 1) (pVar 2)) aNil)))))
 (sSeq (sRet (pC (.bl false)))
 sNext)
 sNext)
 sNext))
 (sSeq (sRet (pC (.bl true)))
 sNext))))
 sNext)
 (sSeq (sIf (tTru (pIsI (pVar 1) .bool))
 (sSeq (sRet (pAnd (pIsI (pVar 0) .bool) (pEq (pVar 0) (pVar 1))))
 sNext)
 sNext)
 (sSeq (sIf (tTru (pIsI (pVar 1) .int))
 (sSeq (sRet (pAnd (pCall S__law_is_integer (aCons (pVar 0) aNil)) (pEq (pVar 0) (pVar 1))))
 sNext)
 sNext)
 (sSeq (sRet (pAnd (pIsI (pVar 0) .str) (pEq (pVar 0) (pVar 1))))
 sNext))))
theorem c__law_same (S__law_same : SpecT) (S__law_is_integer : SpecT) : comp (p__law_same S__law_same S__law_is_integer) (defScope (top 90)) (defBody (top 90)) = some (b__law_same S__law_same S__law_is_integer) := by kernel_rfl
theorem f__law_same : FnScope n__law_same a__law_same (defScope (top 90)) := C8.fnScope_by (by kernel_rfl)
/- 0:_law_data_here 1:_law_goods 2:_law_buys 3:_law_links -/
def n__law_unchanged : List Str := ["_law_data_here", "_law_goods", "_law_buys", "_law_links"]
def a__law_unchanged : List Str := ["_law_data_here", "_law_goods", "_law_buys", "_law_links"]
def p__law_unchanged (S__law_same : SpecT) : Par := ⟨n__law_unchanged, [("_law_same", .call S__law_same)], [], [], [], [], false⟩
noncomputable def b__law_unchanged (S__law_same : SpecT) : PS' :=
 (sSeq (sIf (tOr' (tNot' (tTru (pCall S__law_same (aCons (pFld .goods (pVar 0)) (aCons (pVar 1) aNil))))) (tNot' (tTru (pCall S__law_same (aCons (pFld .links (pVar 0)) (aCons (pVar 3) aNil))))))
 (sSeq (sRet (pC (.bl false)))
 sNext)
 sNext)
 (sSeq (sRet (pCall S__law_same (aCons (pFld .buys (pVar 0)) (aCons (pVar 2) aNil))))
 sNext))
theorem c__law_unchanged (S__law_same : SpecT) : comp (p__law_unchanged S__law_same) (defScope (top 91)) (defBody (top 91)) = some (b__law_unchanged S__law_same) := by kernel_rfl
theorem f__law_unchanged : FnScope n__law_unchanged a__law_unchanged (defScope (top 91)) := C8.fnScope_by (by kernel_rfl)
/- 0:_law_script 1:_law_goods 2:_law_buys 3:_law_links 4:_law_first 5:_law_second 6:_law_data_here 7:_law_row_here 8:_law_goals 9:_law_turn 10:_law_likings_here 11:_law_told 12:_law_k 13:_law_goal 14:_law_found 15:_law_refusals_here 16:_law_can 17:_law_cannot -/
def n_law : List Str := ["_law_script", "_law_goods", "_law_buys", "_law_links", "_law_first", "_law_second", "_law_data_here", "_law_row_here", "_law_goals", "_law_turn", "_law_likings_here", "_law_told", "_law_k", "_law_goal", "_law_found", "_law_refusals_here", "_law_can", "_law_cannot"]
def a_law : List Str := ["_law_script"]
def p_law (S__law_small : SpecT) (S__law_two_baskets : SpecT) (S__law_made : SpecT) (S__law_row : SpecT) (S_likes : SpecT) (S__law_is_liking : SpecT) (S__law_one_accepted : SpecT) (S__law_likings : SpecT) (S__law_is_refusal : SpecT) (S__law_one_refused : SpecT) (S__law_refusals : SpecT) (S__law_unchanged : SpecT) : Par := ⟨n_law, [("_law_small", .call S__law_small), ("_law_two_baskets", .call S__law_two_baskets), ("_law_made", .call S__law_made), ("_law_row", .call S__law_row), ("likes", .call S_likes), ("_law_is_liking", .call S__law_is_liking), ("_law_one_accepted", .call S__law_one_accepted), ("_law_likings", .call S__law_likings), ("_law_is_refusal", .call S__law_is_refusal), ("_law_one_refused", .call S__law_one_refused), ("_law_refusals", .call S__law_refusals), ("_law_unchanged", .call S__law_unchanged)], [], [11], [], [(725, 11)], false⟩
noncomputable def b_law (S__law_small : SpecT) (S__law_two_baskets : SpecT) (S__law_made : SpecT) (S__law_row : SpecT) (S_likes : SpecT) (S__law_is_liking : SpecT) (S__law_one_accepted : SpecT) (S__law_likings : SpecT) (S__law_is_refusal : SpecT) (S__law_one_refused : SpecT) (S__law_refusals : SpecT) (S__law_unchanged : SpecT) : PS' :=
 (sSeq (sSet (gTup' 3 (gCons' (gName' 1) (gCons' (gName' 2) (gCons' (gName' 3) gNil')))) (pCall S__law_small (aCons (pVar 0) (aCons (pC (.int 2)) aNil))))
 (sSeq (sSet (gTup' 2 (gCons' (gName' 4) (gCons' (gName' 5) gNil'))) (pCall S__law_two_baskets (aCons (pVar 0) (aCons (pVar 1) (aCons (pVar 2) aNil)))))
 (sSeq (sSet (gName' 6) (pCall S__law_made (aCons (pVar 1) (aCons (pVar 2) (aCons (pVar 3) aNil)))))
 (sSeq (sSet (gName' 7) (pCall S__law_row (aCons (pVar 0) (aCons (pC (.int 10)) (aCons (pC (.int 6)) aNil)))))
 (sSeq (sSet (gName' 8) (pF (fLst (aCons (pC (.str "first")) (aCons (pC (.str "alike")) (aCons (pC (.str "second")) aNil))))))
 (sSeq (sSet (gName' 9) (pMod (pInt (pIx (pVar 7) (pC (.int 3)))) (pC (.int 3))))
 (sSeq (sSet (gName' 10) (pF (fLst aNil)))
 (sSeq (sOwn 11 (fLst aNil))
 (sSeq (sFor (iRange (pC (.int 2))) (gName' 12)
 (sSeq (sSet (gName' 13) (pIx (pVar 8) (pMod (pInt (pAdd (pVar 9) (pMul (pVar 12) (pAdd (pC (.int 1)) (pMod (pInt (pIx (pVar 7) (pC (.int 4)))) (pC (.int 2))))))) (pC (.int 3)))))
 (sSeq (sSet (gName' 14) (pCall S_likes (aCons (pVar 6) (aCons (pF (fList (pVar 4))) (aCons (pF (fList (pVar 5))) (aCons (pVar 13) aNil))))))
 (sSeq (sIf (tOr' (tNot' (tTru (pIsI (pVar 14) .tup))) (tOf (pNe (pLen (pVar 14)) (pC (.int 2)))))
 (sSeq (sRet (pC (.bl false)))
 sNext)
 sNext)
 (sSeq (sIf (tAnd' (tOf (pEq (pIx (pVar 14) (pC (.int 0))) (pC (.str "can")))) (tTru (pCall S__law_is_liking (aCons (pLen (pVar 2)) (aCons (pVar 1) (aCons (pIx (pVar 14) (pC (.int 1))) aNil))))))
 (sSeq (sIf (tAnd' (tOf (pEq (pVar 12) (pC (.int 0)))) (tNot' (tTru (pCall S__law_one_accepted (aCons (pVar 6) (aCons (pVar 4) (aCons (pVar 5) (aCons (pVar 13) (aCons (pF (fLst (aCons (pIx (pVar 14) (pC (.int 1))) aNil))) aNil)))))))))
 (sSeq (sRet (pC (.bl false)))
 sNext)
 sNext)
 (sSeq (sSet (gName' 10) (pAdd (pVar 10) (pCall S__law_likings (aCons (pVar 7) (aCons (pIx (pVar 8) (pVar 9)) (aCons (pIx (pVar 14) (pC (.int 1))) aNil))))))
 sNext))
 (sSeq (sIf (tAnd' (tOf (pEq (pIx (pVar 14) (pC (.int 0))) (pC (.str "cannot")))) (tTru (pCall S__law_is_refusal (aCons (pLen (pVar 2)) (aCons (pLen (pVar 3)) (aCons (pVar 13) (aCons (pIx (pVar 14) (pC (.int 1))) aNil)))))))
 (sSeq (sIf (tAnd' (tOf (pEq (pVar 12) (pC (.int 0)))) (tNot' (tTru (pCall S__law_one_refused (aCons (pVar 6) (aCons (pVar 4) (aCons (pVar 5) (aCons (pVar 13) (aCons (pF (fLst (aCons (pIx (pVar 14) (pC (.int 1))) aNil))) aNil)))))))))
 (sSeq (sRet (pC (.bl false)))
 sNext)
 sNext)
 (sSeq (sApp 11 (pIx (pVar 14) (pC (.int 1))))
 sNext))
 (sSeq (sRet (pC (.bl false)))
 sNext))
 sNext))
 sNext)))))
 (sSeq (sFrz 11) (sSeq (sSet (gName' 15) (pCall S__law_refusals (aCons (pVar 0) (aCons (pLen (pVar 2)) (aCons (pLen (pVar 3)) (aCons (pIx (pVar 8) (pVar 9)) (aCons (pVar 11) aNil)))))))
 (sSeq (sSet (gName' 16) (pCall S__law_one_accepted (aCons (pVar 6) (aCons (pVar 4) (aCons (pVar 5) (aCons (pIx (pVar 8) (pVar 9)) (aCons (pVar 10) aNil)))))))
 (sSeq (sSet (gName' 17) (pCall S__law_one_refused (aCons (pVar 6) (aCons (pVar 4) (aCons (pVar 5) (aCons (pIx (pVar 8) (pVar 9)) (aCons (pVar 15) aNil)))))))
 (sSeq (sRet (pAnd (pNot (pAnd (pVar 16) (pVar 17))) (pCall S__law_unchanged (aCons (pVar 6) (aCons (pVar 1) (aCons (pVar 2) (aCons (pVar 3) aNil)))))))
 sNext))))))))))))))
theorem c_law (S__law_small : SpecT) (S__law_two_baskets : SpecT) (S__law_made : SpecT) (S__law_row : SpecT) (S_likes : SpecT) (S__law_is_liking : SpecT) (S__law_one_accepted : SpecT) (S__law_likings : SpecT) (S__law_is_refusal : SpecT) (S__law_one_refused : SpecT) (S__law_refusals : SpecT) (S__law_unchanged : SpecT) : comp (p_law S__law_small S__law_two_baskets S__law_made S__law_row S_likes S__law_is_liking S__law_one_accepted S__law_likings S__law_is_refusal S__law_one_refused S__law_refusals S__law_unchanged) (defScope (top 103)) (defBody (top 103)) = some (b_law S__law_small S__law_two_baskets S__law_made S__law_row S_likes S__law_is_liking S__law_one_accepted S__law_likings S__law_is_refusal S__law_one_refused S__law_refusals S__law_unchanged) := by kernel_rfl
theorem f_law : FnScope n_law a_law (defScope (top 103)) := C8.fnScope_by (by kernel_rfl)
end BB
end
section
set_option maxRecDepth 100000
set_option maxHeartbeats 4000000
/-! Fractions as data; lists as functions; loops. -/
namespace BB
open PySem L2 MA
def fr (r : Rat) : D := .tup [.int r.num, .int r.den]
def rg {α : Type} (n : Nat) (f : Nat → α) : List α := (List.range n).map f
def vec (n : Nat) (a : Nat → Rat) : D := .lst (rg n fun i => fr (a i))
def mat (m n : Nat) (A : Nat → Nat → Rat) : D := .lst (rg m fun i => vec n (A i))
def bsD (m : Nat) (β : Nat → Nat) : D := .lst (rg m fun k => .int ((β k : Nat) : Int))
theorem zD_eq : zD = fr 0 := rfl
theorem oD_eq : oD = fr 1 := rfl
theorem fr_scal (r : Rat) : (fr r).scal = true := rfl
theorem fr_inj {a b : Rat} : fr a = fr b ↔ a = b := by
  constructor
  · intro h
    unfold fr at h
    injection h with h
    injection h with h1 h
    injection h with h2 _
    injection h1 with h1
    injection h2 with h2
    exact Rat.ext h1 (by omega)
  · intro h; rw [h]
theorem ix_fr0 (ka : Kd) (r : Rat) (k : Kd → D → Prop) : ixD ka (fr r) (.int 0) k = k .s (.int r.num) := by
  unfold fr ixD
  apply propext
  have : atI [D.int r.num, D.int r.den] 0 = some (.int r.num) := rfl
  dsimp only
  rw [this]
  constructor
  · rintro ⟨d, e, h⟩; cases e; cases ka <;> exact h
  · intro h; exact ⟨_, rfl, by cases ka <;> exact h⟩
theorem ix_fr1 (ka : Kd) (r : Rat) (k : Kd → D → Prop) : ixD ka (fr r) (.int 1) k = k .s (.int r.den) := by
  unfold fr ixD
  apply propext
  have : atI [D.int r.num, D.int r.den] 1 = some (.int r.den) := rfl
  dsimp only
  rw [this]
  constructor
  · rintro ⟨d, e, h⟩; cases e; cases ka <;> exact h
  · intro h; exact ⟨_, rfl, by cases ka <;> exact h⟩
theorem atI_nat {α : Type} (xs : List α) (j : Nat) : atI xs (j : Int) = xs[j]? := by
  unfold atI ixN
  rw [if_pos (by omega)]
  by_cases h : j < xs.length
  · rw [if_pos (by omega)]; simp
  · rw [if_neg (by omega), List.getElem?_eq_none (by omega)]; rfl
theorem ix_go {ka : Kd} {x : D} {i : Int} {k : Kd → D → Prop} {d : D} {ds : List D} (hx : x = .lst ds ∨ x = .tup ds) (h : atI ds i = some d) : ixD ka x (.int i) k = k (kI ka d) d := by
  apply propext
  rcases hx with rfl | rfl <;> unfold ixD <;> dsimp only <;> rw [h] <;>
  exact ⟨fun ⟨d', e, h'⟩ => by cases e; exact h', fun h' => ⟨_, rfl, h'⟩⟩
theorem ix_hd (ka : Kd) (d : D) (ds : List D) (k : Kd → D → Prop) : ixD ka (.tup (d :: ds)) (.int 0) k = k (kI ka d) d := ix_go (.inr rfl) (by rw [show (0 : Int) = ((0 : Nat) : Int) from rfl, atI_nat]; rfl)
theorem ix_t1 (ka : Kd) (d0 d : D) (ds : List D) (k : Kd → D → Prop) : ixD ka (.tup (d0 :: d :: ds)) (.int 1) k = k (kI ka d) d := ix_go (.inr rfl) (by rw [show (1 : Int) = ((1 : Nat) : Int) from rfl, atI_nat]; rfl)
theorem ix_t2 (ka : Kd) (d0 d1 d : D) (ds : List D) (k : Kd → D → Prop) : ixD ka (.tup (d0 :: d1 :: d :: ds)) (.int 2) k = k (kI ka d) d := ix_go (.inr rfl) (by rw [show (2 : Int) = ((2 : Nat) : Int) from rfl, atI_nat]; rfl)
theorem ix_t3 (ka : Kd) (d0 d1 d2 d : D) (ds : List D) (k : Kd → D → Prop) : ixD ka (.tup (d0 :: d1 :: d2 :: d :: ds)) (.int 3) k = k (kI ka d) d := ix_go (.inr rfl) (by rw [show (3 : Int) = ((3 : Nat) : Int) from rfl, atI_nat]; rfl)
theorem rg_len {α : Type} (n : Nat) (f : Nat → α) : (rg n f).length = n := by simp [rg]
theorem rg_get {α : Type} {n : Nat} (f : Nat → α) {j : Nat} (h : j < n) : (rg n f)[j]? = some (f j) := by simp [rg, h]
theorem ix_rg {n j : Nat} (h : j < n) (ka : Kd) (f : Nat → D) (k : Kd → D → Prop) : ixD ka (.lst (rg n f)) (.int (j : Int)) k = k (kI ka (f j)) (f j) := ix_go (.inl rfl) (by rw [atI_nat, rg_get f h])
theorem ix_last {n : Nat} (h : 0 < n) (ka : Kd) (f : Nat → D) (k : Kd → D → Prop) : ixD ka (.lst (rg n f)) (.int (-1)) k = k (kI ka (f (n - 1))) (f (n - 1)) := ix_go (.inl rfl) (by
  unfold atI ixN
  rw [if_neg (by omega), rg_len, if_pos (by omega)]
  show (rg n f)[(-1 + (n : Int)).toNat]? = _
  rw [show (-1 + (n : Int)).toNat = n - 1 by omega, rg_get f (by omega)])
theorem eq_fr (a b : Rat) (k : Bool → Prop) : eqD (fr a) (fr b) k = k (decide (a = b)) := by
  apply propext
  unfold fr eqD
  dsimp only
  have h1 : ([D.int a.num, D.int a.den] = [D.int b.num, D.int b.den]) ↔ a = b := by
    have := @fr_inj a b
    unfold fr at this
    rw [← this]
    constructor
    · intro h; rw [h]
    · intro h; injection h
  have h2 : ∀ i j, D.intss [D.int i, D.int j] = true := fun i j => rfl
  have h3 : ∀ i j, D.deps [D.int i, D.int j] ≤ 60 := fun i j => by simp [D.deps, D.dep]
  have h4 : ∀ i : Decidable ([D.int a.num, D.int a.den] = [D.int b.num, D.int b.den]), @decide ([D.int a.num, D.int a.den] = [D.int b.num, D.int b.den]) i = decide (a = b) := by
    intro i
    by_cases e : a = b
    · rw [decide_eq_true (h1.mpr e), decide_eq_true e]
    · rw [decide_eq_false fun q => e (h1.mp q), decide_eq_false e]
  constructor
  · rintro ⟨_, _, _, _, h⟩; rwa [h4] at h
  · intro h; refine ⟨h2 _ _, h2 _ _, h3 _ _, h3 _ _, ?_⟩; rwa [h4]
theorem eq_str (a b : Str) (k : Bool → Prop) : eqD (.str a) (.str b) k = k (decide (a = b)) := by
  unfold eqD; dsimp only
theorem eq_bool (a b : Bool) (k : Bool → Prop) : eqD (.bl a) (.bl b) k = k (decide (a = b)) := by
  unfold eqD; dsimp only
theorem eq_int (a b : Int) (k : Bool → Prop) : eqD (.int a) (.int b) k = k (decide (a = b)) := by
  unfold eqD; dsimp only
theorem rg_congr {α : Type} {n : Nat} {f g : Nat → α} (h : ∀ i, i < n → f i = g i) : rg n f = rg n g := by
  unfold rg; exact List.map_congr_left fun i hi => h i (List.mem_range.mp hi)
theorem rg_ext {α : Type} {n : Nat} {f : Nat → α} {xs : List α} (hl : xs.length = n) (h : ∀ i, i < n → xs[i]? = some (f i)) : xs = rg n f := by
  apply List.ext_getElem?
  intro i
  by_cases q : i < n
  · rw [h i q, rg_get f q]
  · rw [List.getElem?_eq_none (by omega), List.getElem?_eq_none (by rw [rg_len]; omega)]
theorem rg_app {α : Type} (n m : Nat) (f g : Nat → α) : rg n f ++ rg m g = rg (n + m) fun i => if i < n then f i else g (i - n) := by
  refine rg_ext (by rw [List.length_append, rg_len, rg_len]) fun i hi => ?_
  by_cases q : i < n
  · rw [List.getElem?_append_left (by rw [rg_len]; exact q), rg_get f q, if_pos q]
  · rw [List.getElem?_append_right (by rw [rg_len]; omega), rg_len, rg_get g (by omega), if_neg q]
theorem rg_snoc {α : Type} (n : Nat) (f : Nat → α) (d : α) : rg n f ++ [d] = rg (n + 1) fun i => if i < n then f i else d := by
  refine rg_ext (by rw [List.length_append, rg_len]; rfl) fun i hi => ?_
  by_cases q : i < n
  · rw [List.getElem?_append_left (by rw [rg_len]; exact q), rg_get f q, if_pos q]
  · rw [List.getElem?_append_right (by rw [rg_len]; omega), rg_len, if_neg q, show i - n = 0 by omega]; rfl
theorem rg_succ {α : Type} (n : Nat) (f : Nat → α) : rg n f ++ [f n] = rg (n + 1) f := by unfold rg; rw [List.range_succ, List.map_append]; rfl
theorem rg_zero {α : Type} (f : Nat → α) : rg 0 f = [] := rfl
theorem rg_set {α : Type} (n : Nat) (f : Nat → α) (j : Nat) (d : α) : (rg n f).set j d = rg n fun i => if i = j then d else f i := by
  refine rg_ext (by rw [List.length_set, rg_len]) fun i hi => ?_
  rw [List.getElem?_set]
  by_cases q : j = i
  · rw [if_pos q, if_pos (by rw [rg_len]; omega), if_pos q.symm]
  · rw [if_neg q, rg_get f hi, if_neg (Ne.symm q)]
theorem rg_take {α : Type} (n k : Nat) (f : Nat → α) : (rg n f).take k = rg (min k n) f := by
  refine rg_ext (by rw [List.length_take, rg_len]) fun i hi => ?_
  rw [List.getElem?_take, if_pos (by omega), rg_get f (by omega)]
theorem rg_drop {α : Type} (n k : Nat) (f : Nat → α) : (rg n f).drop k = rg (n - k) fun i => f (k + i) := by
  refine rg_ext (by rw [List.length_drop, rg_len]) fun i hi => ?_
  rw [List.getElem?_drop, rg_get f (by omega)]
theorem cut_rg {n : Nat} {f : Nat → D} {lo hi : Option Int} {l h : Nat} (h1 : HT.sIx n 0 lo = l) (h2 : HT.sIx n n hi = h) (hn : h ≤ n) : cut (rg n f) lo hi = rg (h - l) fun i => f (l + i) := by
  unfold cut
  rw [rg_len, h1, h2, rg_drop, rg_take]
  rw [show min (h - l) (n - l) = h - l by omega]
theorem rg_map {α β : Type} (n : Nat) (f : Nat → α) (g : α → β) : (rg n f).map g = rg n fun i => g (f i) := by unfold rg; rw [List.map_map]; rfl
theorem mem_rg {α : Type} {n : Nat} {f : Nat → α} {x : α} : x ∈ rg n f ↔ ∃ i, i < n ∧ f i = x := by
  unfold rg; rw [List.mem_map]
  exact ⟨fun ⟨i, h, e⟩ => ⟨i, List.mem_range.mp h, e⟩, fun ⟨i, h, e⟩ => ⟨i, List.mem_range.mpr h, e⟩⟩
theorem scals_rg {n : Nat} {f : Nat → D} (h : ∀ i, i < n → (f i).scal = true) : D.scals (rg n f) = true := by
  have : ∀ xs : List D, (∀ x ∈ xs, x.scal = true) → D.scals xs = true := by
    intro xs
    induction xs with
    | nil => intro _; rfl
    | cons x xs ih => intro h; unfold D.scals; rw [h x (List.mem_cons_self ..), ih fun y hy => h y (List.mem_cons_of_mem _ hy)]; rfl
  exact this _ fun x hx => by obtain ⟨i, hi, e⟩ := mem_rg.mp hx; rw [← e]; exact h i hi
/-- a loop over the items of a list -/
theorem for_rg {g : PG'} {body : PS'} {Z : Post} {f : Nat → D} (I : Nat → Env → Prop) {n : Nat} {env : Env} (h0 : I 0 env)
    (hs : ∀ i env (K : Env → Prop), i < n → I i env → (∀ e, I (i + 1) e → K e) → g (f i) env fun e => body { Z with nx := K } e) (hn : ∀ e, I n e → Z.nx e) : forGo g body (rg n f) Z env := by
  have : ∀ d i env, i + d = n → I i env → forGo g body ((List.range' i d).map f) Z env := by
    intro d
    induction d with
    | zero => intro i env e h; unfold List.range' List.map forGo; exact hn env (by rw [← e]; exact h)
    | succ d ih =>
      intro i env e h
      rw [List.range'_succ, List.map_cons]
      unfold forGo
      exact hs i env _ (by omega) h fun e' he' => ih (i + 1) e' (by omega) he'
  have h := this n 0 env (by omega) h0
  rwa [← List.range_eq_range'] at h
/-- a comprehension without a test -/
theorem comp_rg {g : PG'} {e : PE'} {env : Env} {k : List D → Prop} {n : Nat} {f : Nat → D} (r : Nat → D) (hs : ∀ i (K : Kd → D → Prop), i < n → K .s (r i) → g (f i) env fun e' => e e' K) (hk : k (rg n r)) : compGo g tYes' e env (rg n f) [] k := by
  have : ∀ d i acc, i + d = n → acc = rg i r → compGo g tYes' e env ((List.range' i d).map f) acc k := by
    intro d
    induction d with
    | zero => intro i acc e h; unfold List.range' List.map compGo; rw [h, show i = n by omega]; exact hk
    | succ d ih =>
      intro i acc e h
      rw [List.range'_succ, List.map_cons]
      unfold compGo
      exact hs i _ (by omega) ⟨rfl, ih (i + 1) _ (by omega) (by rw [h, rg_succ])⟩
  have h := this n 0 [] (by omega) rfl
  rwa [← List.range_eq_range'] at h
/-- lists of lists -/
theorem compF_rg {g : PG'} {e : PF'} {env : Env} {k : List (List D) → Prop} {n : Nat} {f : Nat → D} (r : Nat → List D) (hs : ∀ i (K : List D → Prop), i < n → K (r i) → g (f i) env fun e' => e e' K) (hk : k (rg n r)) : compGoF g e env (rg n f) [] k := by
  have : ∀ d i acc, i + d = n → acc = rg i r → compGoF g e env ((List.range' i d).map f) acc k := by
    intro d
    induction d with
    | zero => intro i acc e h; unfold List.range' List.map compGoF; rw [h, show i = n by omega]; exact hk
    | succ d ih =>
      intro i acc e h
      rw [List.range'_succ, List.map_cons]
      unfold compGoF
      exact hs i _ (by omega) (ih (i + 1) _ (by omega) (by rw [h, rg_succ]))
  have h := this n 0 [] (by omega) rfl
  rwa [← List.range_eq_range'] at h
theorem range_rg (n : Nat) : ((List.range n).map fun i : Nat => D.int (i : Int)) = rg n fun i => D.int (i : Int) := rfl
theorem sPut_go {i : Nat} {e v : PE'} {Z : Post} {env : Env} {n : Nat} {f : Nat → D} (h : env[i]? = some (.ow (rg n f))) (j : Nat) (d : D) (hv : ∀ K : Kd → D → Prop, K .s d → v env K) (he : ∀ K : Kd → D → Prop, (∀ kd, K kd (.int (j : Int))) → e env K) (hj : j < n) (hk : Z.nx (env.set i (.ow (rg n fun l => if l = j then d else f l)))) : sPut i e v Z env := by
  unfold sPut
  rw [h]
  refine hv _ ⟨rfl, he _ fun kd => ⟨j, ?_, ?_⟩⟩
  · unfold ixN; rw [if_pos (by omega), rg_len, if_pos (by omega)]; simp
  · rw [rg_set]; exact hk

/-! ### the fractions' defs -/
def S_ratio : SpecT := fun ds k => ∃ p q : Int, ds = [.int p, .int q] ∧ q ≠ 0 ∧ q.natAbs.log2 < 9000 ∧ k (fr (Rat.divInt p q))
theorem ratio_pos {p q : Int} (hq : 0 < q) : fr (Rat.divInt p q) = .tup [.int (p / (Nat.gcd p.natAbs q.natAbs : Nat)), .int (q / (Nat.gcd p.natAbs q.natAbs : Nat))] := by
  unfold fr
  rw [Rat.num_divInt, Rat.den_divInt, Int.sign_eq_one_of_pos hq, if_neg (by omega), Int.one_mul]
  have hg : q.gcd p = Nat.gcd p.natAbs q.natAbs := by show Nat.gcd _ _ = _; exact Nat.gcd_comm _ _
  rw [hg]
  congr 3
  rw [Int.natCast_ediv]
  congr 1
  congr 1; omega
theorem log2_lt_of {n e : Nat} (h : n < 2 ^ e) (he : 0 < e) : n.log2 < e := by
  by_cases q : n = 0
  · rw [q, Nat.log2_zero]; exact he
  · exact (Nat.log2_lt q).mpr h
theorem gcd_divOk {p q : Int} (hq : 0 < q) (h : q.natAbs.log2 < 9000) : divOk ((Nat.gcd p.natAbs q.natAbs : Nat) : Int) := by
  have h1 : 0 < Nat.gcd p.natAbs q.natAbs := Nat.gcd_pos_of_pos_right _ (by omega)
  refine ⟨by omega, ?_⟩
  have h2 : Nat.gcd p.natAbs q.natAbs ≤ q.natAbs := Nat.gcd_le_right _ (by omega)
  rw [Int.natAbs_natCast]
  have := (Nat.log2_lt (n := q.natAbs) (k := 9000) (by omega)).mp h
  exact (Nat.log2_lt (by omega)).mpr (by omega)
end BB
end
local macro_rules | `(tactic| push_cast [$xs,*]) => `(tactic| (try simp (maxSteps := 2000000) only [BB.sSeq, BB.sSet, BB.sNext, BB.sRet, BB.sRetF, BB.sIf, BB.gName', BB.gTup', BB.gCons', BB.gNil', BB.pVar, BB.pC, BB.pAdd, BB.pSub, BB.pMul, BB.pDiv, BB.pMod, BB.pPow, BB.pNeg, BB.pCmp, BB.onI, BB.addD, BB.pIsN, BB.pIsT, BB.isNon, BB.truD, BB.pAnd, BB.pOr, BB.pNot, BB.pIf, BB.pIx, BB.pTup, BB.aCons, BB.aNil, BB.pCall, BB.pCallF, BB.pF, BB.fLst, BB.fList, BB.fSl, BB.fCat, BB.fRev, BB.oNo, BB.oYes, BB.pFld, BB.pLen, BB.lenD, BB.pAbs, BB.pMin, BB.pInt, BB.pIsI, BB.isiD, BB.pGcd, BB.pBits, BB.tOf, BB.tTru, BB.tNot', BB.tAnd', BB.tOr', BB.tYes', BB.iRange, BB.iList', BB.iTup', BB.sFor, BB.sOwn, BB.sOwn2, BB.sApp, BB.sFrz, BB.sPar, BB.fComp, BB.ffComp, BB.wipe', BB.env0, BB.pEq, BB.pNe, BB.kN, BB.kI, BB.kB, BB.kOf, BB.elOk, BB.isS, List.map_cons, List.map_nil, List.length_cons, List.length_nil, List.getElem?_cons_zero, List.getElem?_cons_succ, List.set_cons_zero, List.set_cons_succ, List.replicate_succ, List.replicate_zero, List.cons_append, List.nil_append, Nat.reduceAdd, Nat.reduceSub, Nat.reduceLeDiff, Nat.reduceMul, Bool.and_true, Bool.true_and, Bool.and_self, Bool.and_false, Bool.false_and, Bool.not_true, Bool.not_false, true_and, and_true, decide_true, decide_false, Bool.false_eq_true, Bool.bne_false, Bool.bne_true, BB.D.scal, BB.D.scals, BB.zD_eq, BB.oD_eq, BB.fr_scal, BB.ix_fr0, BB.ix_fr1, BB.ix_hd, BB.ix_t1, BB.ix_t2, BB.ix_t3, BB.eq_fr, BB.eq_str, BB.eq_bool, BB.eq_int, BB.rg_len, BB.ix_rg, Bool.true_eq_false, if_true, if_false, ite_true, ite_false, Bool.true_or, Bool.false_or, Bool.or_true, Bool.or_false, Bool.true_bne, Bool.false_bne, Bool.xor_false, Bool.xor_true, Bool.false_xor, Bool.true_xor, Int.natCast_inj, Int.ofNat_lt, Int.ofNat_le, Int.toNat_natCast, BB.range_rg, BB.vec, BB.mat, BB.bsD, not_true_eq_false, not_false_eq_true, List.length_append, and_self, implies_true, ge_iff_le, eq_self, or_self, or_true, true_or, false_or, or_false, bne_self_eq_false, $xs,*]))
local macro_rules | `(tactic| dsimp! [$xs,*]) => `(tactic| (try simp (maxSteps := 2000000) (disch := omega) only [BB.sSeq, BB.sSet, BB.sNext, BB.sRet, BB.sRetF, BB.sIf, BB.gName', BB.gTup', BB.gCons', BB.gNil', BB.pVar, BB.pC, BB.pAdd, BB.pSub, BB.pMul, BB.pDiv, BB.pMod, BB.pPow, BB.pNeg, BB.pCmp, BB.onI, BB.addD, BB.pIsN, BB.pIsT, BB.isNon, BB.truD, BB.pAnd, BB.pOr, BB.pNot, BB.pIf, BB.pIx, BB.pTup, BB.aCons, BB.aNil, BB.pCall, BB.pCallF, BB.pF, BB.fLst, BB.fList, BB.fSl, BB.fCat, BB.fRev, BB.oNo, BB.oYes, BB.pFld, BB.pLen, BB.lenD, BB.pAbs, BB.pMin, BB.pInt, BB.pIsI, BB.isiD, BB.pGcd, BB.pBits, BB.tOf, BB.tTru, BB.tNot', BB.tAnd', BB.tOr', BB.tYes', BB.iRange, BB.iList', BB.iTup', BB.sFor, BB.sOwn, BB.sOwn2, BB.sApp, BB.sFrz, BB.sPar, BB.fComp, BB.ffComp, BB.wipe', BB.env0, BB.pEq, BB.pNe, BB.kN, BB.kI, BB.kB, BB.kOf, BB.elOk, BB.isS, List.map_cons, List.map_nil, List.length_cons, List.length_nil, List.getElem?_cons_zero, List.getElem?_cons_succ, List.set_cons_zero, List.set_cons_succ, List.replicate_succ, List.replicate_zero, List.cons_append, List.nil_append, Nat.reduceAdd, Nat.reduceSub, Nat.reduceLeDiff, Nat.reduceMul, Bool.and_true, Bool.true_and, Bool.and_self, Bool.and_false, Bool.false_and, Bool.not_true, Bool.not_false, true_and, and_true, decide_true, decide_false, Bool.false_eq_true, Bool.bne_false, Bool.bne_true, BB.D.scal, BB.D.scals, BB.zD_eq, BB.oD_eq, BB.fr_scal, BB.ix_fr0, BB.ix_fr1, BB.ix_hd, BB.ix_t1, BB.ix_t2, BB.ix_t3, BB.eq_fr, BB.eq_str, BB.eq_bool, BB.eq_int, BB.rg_len, BB.ix_rg, Bool.true_eq_false, if_true, if_false, ite_true, ite_false, Bool.true_or, Bool.false_or, Bool.or_true, Bool.or_false, Bool.true_bne, Bool.false_bne, Bool.xor_false, Bool.xor_true, Bool.false_xor, Bool.true_xor, Int.natCast_inj, Int.ofNat_lt, Int.ofNat_le, Int.toNat_natCast, BB.range_rg, BB.vec, BB.mat, BB.bsD, not_true_eq_false, not_false_eq_true, List.length_append, and_self, implies_true, ge_iff_le, eq_self, or_self, or_true, true_or, false_or, or_false, bne_self_eq_false, $xs,*]))
section
set_option maxRecDepth 100000
set_option maxHeartbeats 4000000
namespace BB
open PySem L2 MA
theorem k_ratio : Keeps n_ratio a_ratio b_ratio S_ratio := by
  rintro ds k ⟨p, q, rfl, hq, hs, hk⟩
  refine ⟨rfl, ?_⟩
  push_cast [b_ratio, n_ratio]
  by_cases h : q < 0
  · push_cast [h]
    have hg := gcd_divOk (p := -p) (q := -q) (by omega) (by rw [Int.natAbs_neg]; exact hs)
    refine ⟨hg, hg, ?_⟩
    rw [← ratio_pos (by omega), Rat.neg_divInt_neg]; exact hk
  · push_cast [h]
    have hg := gcd_divOk (p := p) (q := q) (by omega) hs
    refine ⟨hg, hg, ?_⟩
    rw [← ratio_pos (by omega)]; exact hk
end BB
end
section
set_option maxRecDepth 100000
set_option exponentiation.threshold 100
set_option maxHeartbeats 4000000
/-! add sub mul div neg less at_most dot. -/
namespace BB
open PySem L2 MA
def S_add : SpecT := fun ds k => ∃ (a b : Rat) (e f : Nat), ds = [fr a, fr b] ∧ sz e a ∧ sz f b ∧ e + f ≤ 9000 ∧ k (fr (a + b))
def S_sub : SpecT := fun ds k => ∃ (a b : Rat) (e f : Nat), ds = [fr a, fr b] ∧ sz e a ∧ sz f b ∧ e + f ≤ 9000 ∧ k (fr (a - b))
def S_mul : SpecT := fun ds k => ∃ (a b : Rat) (e f : Nat), ds = [fr a, fr b] ∧ sz e a ∧ sz f b ∧ e + f ≤ 9000 ∧ k (fr (a * b))
def S_div : SpecT := fun ds k => ∃ (a b : Rat) (e f : Nat), ds = [fr a, fr b] ∧ sz e a ∧ sz f b ∧ e + f ≤ 9000 ∧ b ≠ 0 ∧ k (fr (a / b))
def S_neg : SpecT := fun ds k => ∃ a : Rat, ds = [fr a] ∧ k (fr (-a))
def S_less : SpecT := fun ds k => ∃ (a b : Rat) (e f : Nat), ds = [fr a, fr b] ∧ sz e a ∧ sz f b ∧ e + f ≤ 90000 ∧ k (.bl (decide (a < b)))
def S_at_most : SpecT := fun ds k => ∃ (a b : Rat) (e f : Nat), ds = [fr a, fr b] ∧ sz e a ∧ sz f b ∧ e + f ≤ 90000 ∧ k (.bl (decide (a ≤ b)))
theorem log2_le_of {n e : Nat} (h : n < 2 ^ e) : n.log2 ≤ e := by
  by_cases q : n = 0
  · rw [q, Nat.log2_zero]; omega
  · exact Nat.le_of_lt ((Nat.log2_lt q).mpr h)
theorem sz_mulOk {e f : Nat} {i j : Int} (h : i.natAbs < 2 ^ e) (h' : j.natAbs < 2 ^ f) (he : e + f ≤ 90000) : mulOk i j := by
  have := log2_le_of h
  have := log2_le_of h'
  exact .inr (by omega)
theorem den_log {a b : Rat} {e f : Nat} (h : sz e a) (h' : sz f b) (he : e + f ≤ 9000) : ((a.den : Int) * (b.den : Int)).natAbs.log2 < 9000 := by
  have h1 : a.den * b.den < 2 ^ 9000 := by
    have := Nat.mul_lt_mul'' h.2 h'.2
    rw [← Nat.pow_add] at this
    exact Nat.lt_of_lt_of_le this (Nat.pow_le_pow_right (by omega) he)
  rw [Int.natAbs_mul, Int.natAbs_natCast, Int.natAbs_natCast]
  exact log2_lt_of h1 (by omega)
theorem den_nz (a : Rat) : (a.den : Int) ≠ 0 := by have := a.den_nz; omega
theorem k_add : Keeps n_add a_add (b_add S_ratio) S_add := by
  rintro ds k ⟨a, b, e, f, rfl, ha, hb, he, hk⟩
  refine ⟨rfl, ?_⟩
  push_cast [b_add, n_add]
  have hm : ∀ {i j : Int} {e f : Nat}, i.natAbs < 2 ^ e → j.natAbs < 2 ^ f → e + f ≤ 9000 → mulOk i j := fun h h' q => sz_mulOk h h' (by omega)
  refine ⟨hm ha.1 hb.2 he, hm hb.1 ha.2 (by omega), hm ha.2 hb.2 he, _, _, rfl, ?_, den_log ha hb he, ?_⟩
  · exact Int.mul_ne_zero (den_nz a) (den_nz b)
  · rw [← Rat.divInt_add_divInt _ _ (den_nz a) (den_nz b), Rat.num_divInt_den, Rat.num_divInt_den]; exact hk
theorem k_sub : Keeps n_sub a_sub (b_sub S_ratio) S_sub := by
  rintro ds k ⟨a, b, e, f, rfl, ha, hb, he, hk⟩
  refine ⟨rfl, ?_⟩
  push_cast [b_sub, n_sub]
  have hm : ∀ {i j : Int} {e f : Nat}, i.natAbs < 2 ^ e → j.natAbs < 2 ^ f → e + f ≤ 9000 → mulOk i j := fun h h' q => sz_mulOk h h' (by omega)
  refine ⟨hm ha.1 hb.2 he, hm hb.1 ha.2 (by omega), hm ha.2 hb.2 he, _, _, rfl, ?_, den_log ha hb he, ?_⟩
  · exact Int.mul_ne_zero (den_nz a) (den_nz b)
  · rw [← Rat.divInt_sub_divInt _ _ (den_nz a) (den_nz b), Rat.num_divInt_den, Rat.num_divInt_den]; exact hk
theorem k_mul : Keeps n_mul a_mul (b_mul S_ratio) S_mul := by
  rintro ds k ⟨a, b, e, f, rfl, ha, hb, he, hk⟩
  refine ⟨rfl, ?_⟩
  push_cast [b_mul, n_mul]
  refine ⟨sz_mulOk ha.1 hb.1 (by omega), sz_mulOk ha.2 hb.2 (by omega), _, _, rfl, ?_, den_log ha hb he, ?_⟩
  · exact Int.mul_ne_zero (den_nz a) (den_nz b)
  · rw [← Rat.divInt_mul_divInt, Rat.num_divInt_den, Rat.num_divInt_den]; exact hk
theorem num_ne {b : Rat} (h : b ≠ 0) : b.num ≠ 0 := fun e => h (Rat.num_eq_zero.mp e)
theorem k_div : Keeps n_div a_div (b_div S_ratio) S_div := by
  rintro ds k ⟨a, b, e, f, rfl, ha, hb, he, h0, hk⟩
  refine ⟨rfl, ?_⟩
  push_cast [b_div, n_div]
  refine ⟨sz_mulOk ha.1 hb.2 (by omega), sz_mulOk ha.2 hb.1 (by omega), _, _, rfl, ?_, ?_, ?_⟩
  · exact Int.mul_ne_zero (den_nz a) (num_ne h0)
  · have h1 : a.den * b.num.natAbs < 2 ^ 9000 := by
      have := Nat.mul_lt_mul'' ha.2 hb.1
      rw [← Nat.pow_add] at this
      exact Nat.lt_of_lt_of_le this (Nat.pow_le_pow_right (by omega) he)
    rw [Int.natAbs_mul, Int.natAbs_natCast]
    exact log2_lt_of h1 (by omega)
  · rw [← Rat.divInt_mul_divInt, Rat.num_divInt_den, ← Rat.inv_divInt, Rat.num_divInt_den, ← Rat.div_def]; exact hk
theorem k_neg : Keeps n_neg a_neg b_neg S_neg := by
  rintro ds k ⟨a, rfl, hk⟩
  refine ⟨rfl, ?_⟩
  push_cast [b_neg, n_neg]
  exact hk
theorem k_less : Keeps n_less a_less b_less S_less := by
  rintro ds k ⟨a, b, e, f, rfl, ha, hb, he, hk⟩
  refine ⟨rfl, ?_⟩
  push_cast [b_less, n_less]
  refine ⟨sz_mulOk ha.1 hb.2 he, sz_mulOk hb.1 ha.2 (by omega), ?_⟩
  rw [decide_eq_decide.mpr (Rat.lt_iff a b).symm]; exact hk
theorem k_at_most : Keeps n_at_most a_at_most b_at_most S_at_most := by
  rintro ds k ⟨a, b, e, f, rfl, ha, hb, he, hk⟩
  refine ⟨rfl, ?_⟩
  push_cast [b_at_most, n_at_most]
  refine ⟨sz_mulOk ha.1 hb.2 he, sz_mulOk hb.1 ha.2 (by omega), ?_⟩
  rw [decide_eq_decide.mpr (Rat.le_iff a b).symm]; exact hk
theorem add_go {a b : Rat} {k : D → Prop} (e f : Nat) (ha : sz e a) (hb : sz f b) (h : e + f ≤ 9000 := by omega) (hk : k (fr (a + b))) : S_add [fr a, fr b] k := ⟨a, b, e, f, rfl, ha, hb, h, hk⟩
theorem sub_go {a b : Rat} {k : D → Prop} (e f : Nat) (ha : sz e a) (hb : sz f b) (h : e + f ≤ 9000 := by omega) (hk : k (fr (a - b))) : S_sub [fr a, fr b] k := ⟨a, b, e, f, rfl, ha, hb, h, hk⟩
theorem mul_go {a b : Rat} {k : D → Prop} (e f : Nat) (ha : sz e a) (hb : sz f b) (h : e + f ≤ 9000 := by omega) (hk : k (fr (a * b))) : S_mul [fr a, fr b] k := ⟨a, b, e, f, rfl, ha, hb, h, hk⟩
theorem div_go {a b : Rat} {k : D → Prop} (e f : Nat) (ha : sz e a) (hb : sz f b) (h0 : b ≠ 0) (h : e + f ≤ 9000 := by omega) (hk : k (fr (a / b))) : S_div [fr a, fr b] k := ⟨a, b, e, f, rfl, ha, hb, h, h0, hk⟩
theorem less_go {a b : Rat} {k : D → Prop} (e f : Nat) (ha : sz e a) (hb : sz f b) (h : e + f ≤ 90000 := by omega) (hk : k (.bl (decide (a < b)))) : S_less [fr a, fr b] k := ⟨a, b, e, f, rfl, ha, hb, h, hk⟩
theorem at_most_go {a b : Rat} {k : D → Prop} (e f : Nat) (ha : sz e a) (hb : sz f b) (h : e + f ≤ 90000 := by omega) (hk : k (.bl (decide (a ≤ b)))) : S_at_most [fr a, fr b] k := ⟨a, b, e, f, rfl, ha, hb, h, hk⟩
theorem neg_go {a : Rat} {k : D → Prop} (hk : k (fr (-a))) : S_neg [fr a] k := ⟨a, rfl, hk⟩
theorem sz0 (e : Nat) (he : 0 < e) : sz e 0 := by
  have : 1 < 2 ^ e := Nat.one_lt_two_pow (by omega)
  exact ⟨by show 0 < _; omega, this⟩
theorem sz1 (e : Nat) (he : 0 < e) : sz e 1 := by
  have : 1 < 2 ^ e := Nat.one_lt_two_pow (by omega)
  exact ⟨this, this⟩
/-- a scalar product whose partial sums stay small -/
def S_dot : SpecT := fun ds k => ∃ (n : Nat) (a b : Nat → Rat), ds = [vec n a, vec n b] ∧ n ≤ 1000 ∧ (∀ i, i < n → sz 2500 (a i) ∧ sz 2500 (b i) ∧ sz 4600 (a i * b i)) ∧ (∀ i, i ≤ n → sz 4400 (sm i fun l => a l * b l)) ∧ k (fr (sm n fun l => a l * b l))
theorem k_dot : Keeps n_dot a_dot (b_dot S_add S_mul) S_dot := by
  rintro ds k ⟨n, a, b, rfl, hn, h1, h2, hk⟩
  refine ⟨rfl, ?_⟩
  push_cast [b_dot, n_dot, vec, Int.toNat_natCast, range_rg]
  refine ⟨by omega, for_rg (fun i env => ∃ s, env = [.sh (vec n a), .sh (vec n b), .sh (fr (sm i fun l => a l * b l)), s]) ⟨_, rfl⟩ ?_ ?_⟩
  · rintro i env K hi ⟨s, rfl⟩ hK
    obtain ⟨q1, q2, q3⟩ := h1 i hi
    dsimp! [vec]
    refine mul_go 2500 2500 q1 q2 (hk := ?_)
    push_cast [rg_len]
    refine add_go 4400 4600 (h2 i (by omega)) q3 (hk := ?_)
    push_cast [rg_len]
    exact hK _ ⟨_, by rw [sm_s]; rfl⟩
  · rintro env ⟨s, rfl⟩
    push_cast [rg_len]
    exact hk
end BB
end
section
set_option maxRecDepth 100000
set_option exponentiation.threshold 100
set_option maxHeartbeats 4000000
/-! The simplex defs: turned .. values_of. -/
namespace BB
open PySem L2 MA
theorem sz_mul {e f : Nat} {a b : Rat} (ha : sz e a) (hb : sz f b) : sz (e + f) (a * b) := by
  have h := ((Zs.self a).mul (Zs.self b)).le (Nat.mul_pos a.den_pos b.den_pos)
  have h1 := Nat.mul_lt_mul'' ha.1 hb.1
  have h2 := Nat.mul_lt_mul'' ha.2 hb.2
  rw [← Nat.pow_add] at h1 h2
  exact ⟨by omega, by omega⟩
def lineD (N : Nat) (a : Nat → Nat → Rat) (b : Nat → Rat) (i : Nat) : D := .tup [vec N (a i), .str "least", fr (b i)]
def tlD (N : Nat) (a : Nat → Nat → Rat) (b : Nat → Rat) (i : Nat) : D := .tup [vec N fun j => sgm b i * a i j, .str (if 0 < b i then "least" else "most"), fr (sgm b i * b i), .bl (!decide (0 < b i))]
def slD (m N : Nat) : D := .lst (rg m fun i => .int ((N + i : Nat) : Int))
def hlD (m N : Nat) (b : Nat → Rat) : D := .lst (rg m fun i => if 0 < b i then .int ((N + m + hc b i : Nat) : Int) else .non)
def tlsD (m N : Nat) (a : Nat → Nat → Rat) (b : Nat → Rat) : D := .lst (rg m fun i => tlD N a b i)
def linesD (m N : Nat) (a : Nat → Nat → Rat) (b : Nat → Rat) : D := .lst (rg m fun i => lineD N a b i)
def S_turned : SpecT := fun ds k => ∃ (N : Nat) (a : Nat → Nat → Rat) (b : Nat → Rat) (i : Nat), ds = [lineD N a b i] ∧ N ≤ 1000 ∧ sz 2200 (b i) ∧ k (tlD N a b i)
theorem k_turned : Keeps n_turned a_turned (b_turned S_less S_neg) S_turned := by
  rintro ds k ⟨N, a, b, i, rfl, hN, hs, hk⟩
  refine ⟨rfl, ?_⟩
  unfold tlD at hk
  push_cast [b_turned, n_turned, lineD]
  refine less_go 2200 2200 hs (sz0 _ (by omega)) (hk := ?_)
  by_cases h1 : b i < 0
  · have h2 : ¬ 0 < b i := by grind
    have h3 : sgm b i = -1 := by unfold sgm; rw [if_neg h2]
    simp only [h2, h3, if_neg, decide_false, Bool.not_false, not_false_eq_true] at hk
    push_cast [h1]
    refine ⟨by omega, comp_rg (fun j => fr (-1 * a i j)) (fun j K hj hK => ?_) ?_⟩
    · push_cast [rg_len]
      refine neg_go ?_
      rw [show -a i j = -1 * a i j by grind]; push_cast [rg_len]; exact hK
    · refine neg_go ?_
      rw [show -b i = -1 * b i by grind]; push_cast [rg_len]; exact hk
  · by_cases h0 : b i = 0
    · have h2 : ¬ 0 < b i := by grind
      have h3 : sgm b i = -1 := by unfold sgm; rw [if_neg h2]
      simp only [h2, h3, if_neg, decide_false, Bool.not_false, not_false_eq_true] at hk
      push_cast [h1, h0]
      rw [h0] at hk
      simp only [show ¬ (0 : Rat) < 0 by grind]
      push_cast [rg_len]
      refine ⟨by omega, comp_rg (fun j => fr (-1 * a i j)) (fun j K hj hK => ?_) ?_⟩
      · push_cast [rg_len]
        refine neg_go ?_
        rw [show -a i j = -1 * a i j by grind]; push_cast [rg_len]; exact hK
      · refine neg_go ?_
        rw [show -(0 : Rat) = -1 * 0 by grind]; push_cast [rg_len]; exact hk
    · have h2 : 0 < b i := by grind
      have h3 : sgm b i = 1 := by unfold sgm; rw [if_pos h2]
      simp only [h2, h3, if_true, decide_true, Bool.not_true] at hk
      push_cast [h1, h0]
      rw [show (fun j => fr (a i j)) = fun j => fr (1 * a i j) from funext fun j => by rw [Rat.one_mul], show fr (b i) = fr (1 * b i) by rw [Rat.one_mul]]
      exact hk
def S_slack_columns : SpecT := fun ds k => ∃ (m N : Nat) (a : Nat → Nat → Rat) (b : Nat → Rat), ds = [.int (N : Nat), tlsD m N a b] ∧ m ≤ 1000 ∧ k (.tup [slD m N, .int ((N + m : Nat) : Int)])
theorem k_slack_columns : Keeps n_slack_columns a_slack_columns b_slack_columns S_slack_columns := by
  rintro ds k ⟨m, N, a, b, rfl, hm, hk⟩
  refine ⟨rfl, ?_⟩
  push_cast [b_slack_columns, n_slack_columns, tlsD]
  refine for_rg (fun i env => ∃ s, env = [.sh (.int (N : Nat)), .sh (tlsD m N a b), .ow (rg i fun i => .int ((N + i : Nat) : Int)), .sh (.int ((N + i : Nat) : Int)), s]) ⟨_, rfl⟩ ?_ ?_
  · rintro i env K hi ⟨s, rfl⟩ hK
    have hs : ¬ (if 0 < b i then ("least" : Str) else "most") = "equal" := by split <;> decide
    push_cast [tlD, hs]
    refine ⟨by omega, hK _ ⟨_, by rw [rg_succ i fun i => D.int ((N + i : Nat) : Int)]; rfl⟩⟩
  · rintro env ⟨s, rfl⟩
    push_cast [rg_len]
    exact hk
def S_helper_columns : SpecT := fun ds k => ∃ (m N : Nat) (a : Nat → Nat → Rat) (b : Nat → Rat), ds = [.int ((N + m : Nat) : Int), tlsD m N a b] ∧ m ≤ 1000 ∧ k (.tup [hlD m N b, .int ((tot m N b : Nat) : Int)])
theorem k_helper_columns : Keeps n_helper_columns a_helper_columns b_helper_columns S_helper_columns := by
  rintro ds k ⟨m, N, a, b, rfl, hm, hk⟩
  refine ⟨rfl, ?_⟩
  push_cast [b_helper_columns, n_helper_columns, tlsD]
  refine for_rg (fun i env => ∃ s, env = [.sh (.int ((N + m + hc b i : Nat) : Int)), .sh (tlsD m N a b), .ow (rg i fun i => if 0 < b i then .int ((N + m + hc b i : Nat) : Int) else .non), s]) ⟨_, rfl⟩ ?_ ?_
  · rintro i env K hi ⟨s, rfl⟩ hK
    by_cases h : 0 < b i
    · have hs : ¬ (("least" : Str) = "most") := by decide
      push_cast [tlD, h, hs]
      refine ⟨by omega, hK _ ⟨_, by rw [← rg_succ i fun i => if 0 < b i then D.int ((N + m + hc b i : Nat) : Int) else .non, if_pos h, show hc b (i + 1) = hc b i + 1 by show _ + _ = _; rw [if_pos h]]; rfl⟩⟩
    · push_cast [tlD, h]
      refine ⟨by omega, hK _ ⟨_, by rw [← rg_succ i fun i => if 0 < b i then D.int ((N + m + hc b i : Nat) : Int) else .non, if_neg h, show hc b (i + 1) = hc b i by show _ + _ = _; rw [if_neg h]; rfl]⟩⟩
  · rintro env ⟨s, rfl⟩
    push_cast [rg_len]
    exact hk
def S_first_basis : SpecT := fun ds k => ∃ (m N : Nat) (b : Nat → Rat), ds = [slD m N, hlD m N b] ∧ m ≤ 1000 ∧ k (bsD m (B0 m N b))
theorem k_first_basis : Keeps n_first_basis a_first_basis b_first_basis S_first_basis := by
  rintro ds k ⟨m, N, b, rfl, hm, hk⟩
  refine ⟨rfl, ?_⟩
  push_cast [b_first_basis, n_first_basis, slD, hlD]
  refine ⟨⟨by omega, by omega⟩, by omega, comp_rg (fun k => .int ((B0 m N b k : Nat) : Int)) (fun j K hj hK => ?_) hk⟩
  by_cases h : 0 < b j
  · dsimp! [h]
    unfold B0 at hK; rw [if_pos h] at hK; exact hK
  · dsimp! [h]
    unfold B0 at hK; rw [if_neg h] at hK; exact hK
def S_entering : SpecT := fun ds k => ∃ (C w : Nat) (z : Nat → Rat), ds = [vec C z, .int (w : Nat)] ∧ w ≤ C ∧ C ≤ 1000 ∧ (∀ j, j < C → sz 2200 (z j)) ∧ (∀ c, c < w → z c < 0 → (∀ j, j < c → ¬ z j < 0) → k (.int (c : Nat))) ∧ ((∀ j, j < w → ¬ z j < 0) → k .non)
theorem k_entering : Keeps n_entering a_entering (b_entering S_less) S_entering := by
  rintro ds k ⟨C, w, z, rfl, hw, hC, hs, h1, h2⟩
  refine ⟨rfl, ?_⟩
  push_cast [b_entering, n_entering]
  refine ⟨⟨by omega, by omega⟩, for_rg (fun i env => (∀ j, j < i → ¬ z j < 0) ∧ ∃ s, env = [.sh (vec C z), .sh (.int (w : Nat)), s]) ⟨fun j hj => by omega, _, rfl⟩ ?_ ?_⟩
  · rintro i env K hi ⟨hn, s, rfl⟩ hK
    dsimp! [rg_len]
    refine less_go 2200 2200 (hs i (by omega)) (sz0 _ (by omega)) (hk := ?_)
    by_cases h : z i < 0
    · push_cast [h]
      exact h1 i hi h hn
    · push_cast [h]
      refine hK _ ⟨fun j hj => ?_, _, rfl⟩
      by_cases e : j = i
      · rw [e]; exact h
      · exact hn j (by omega)
  · rintro env ⟨hn, s, rfl⟩
    push_cast [rg_len]
    exact h2 hn
def S_less_times : SpecT := fun ds k => ∃ (a t b : Rat), ds = [fr a, fr t, fr b] ∧ sz 2200 a ∧ sz 2200 t ∧ sz 2200 b ∧ k (fr (a - t * b))
theorem k_less_times : Keeps n_less_times a_less_times (b_less_times S_sub S_mul) S_less_times := by
  rintro ds k ⟨a, t, b, rfl, ha, ht, hb, hk⟩
  refine ⟨rfl, ?_⟩
  push_cast [b_less_times, n_less_times]
  by_cases h : b = 0
  · push_cast [h]
    rw [h, show a - t * 0 = a by grind] at hk; exact hk
  · push_cast [h]
    refine mul_go 2200 2200 ht hb (hk := ?_)
    push_cast [rg_len]
    refine sub_go 2200 4400 ha (sz_mul ht hb) (hk := ?_)
    push_cast [rg_len]
    exact hk
theorem less_times_go {a t b : Rat} {k : D → Prop} (ha : sz 2200 a) (ht : sz 2200 t) (hb : sz 2200 b) (hk : k (fr (a - t * b))) : S_less_times [fr a, fr t, fr b] k := ⟨a, t, b, rfl, ha, ht, hb, hk⟩
def S_pivot : SpecT := fun ds k => ∃ (R C r c : Nat) (T : Nat → Nat → Rat), ds = [mat R C T, .int (r : Nat), .int (c : Nat)] ∧ R ≤ 1000 ∧ C ≤ 1000 ∧ r < R ∧ c < C ∧ T r c ≠ 0 ∧ (∀ k j, k < R → j < C → sz 2200 (T k j)) ∧ (∀ j, j < C → sz 2200 (T r j / T r c)) ∧ k (mat R C (pv T r c))
theorem k_pivot : Keeps n_pivot a_pivot (b_pivot S_div S_less_times) S_pivot := by
  rintro ds k ⟨R, C, r, c, T, rfl, hR, hC, hr, hc, h0, h1, h2, hk⟩
  refine ⟨rfl, ?_⟩
  dsimp! [b_pivot, n_pivot]
  refine ⟨by omega, comp_rg (fun j => fr (T r j / T r c)) (fun j K hj hK => ?_) ?_⟩
  · push_cast [rg_len]
    refine div_go 2200 2200 (h1 r j hr hj) (h1 r c hr hc) h0 (hk := ?_)
    push_cast [rg_len]
    exact hK
  · push_cast [rg_len]
    refine ⟨⟨by omega, by omega⟩, for_rg (fun i env => ∃ s t, env = [.sh (mat R C T), .sh (.int (r : Nat)), .sh (.int (c : Nat)), .sh (fr (T r c)), .sh (vec C fun j => T r j / T r c), .ow (rg i fun i => vec C (pv T r c i)), s, t, .no, .no]) ⟨_, _, rfl⟩ ?_ ?_⟩
    · rintro i env K hi ⟨s, t, rfl⟩ hK
      push_cast [rg_len]
      by_cases e : i = r
      · subst e
        push_cast [rg_len]
        refine ⟨by omega, hK _ ⟨_, _, by rw [← rg_succ i fun i_1 => vec C (pv T i c i_1), show vec C (pv T i c i) = vec C fun j => T i j / T i c by congr 1; funext j; unfold MA.pv; rw [if_pos rfl]]; rfl⟩⟩
      · dsimp! [e]
        by_cases e2 : T i c = 0
        · push_cast [e2]
          refine ⟨by omega, hK _ ⟨_, _, by rw [← rg_succ i fun i_1 => vec C (pv T r c i_1), show vec C (pv T r c i) = vec C (T i) by congr 1; funext j; unfold MA.pv; rw [if_neg e, e2]; grind]; rfl⟩⟩
        · push_cast [e2]
          refine ⟨⟨by omega, by omega⟩, by omega, comp_rg (fun j => fr (T i j - T i c * (T r j / T r c))) (fun j K hj hK => ?_) ?_⟩
          · dsimp! [rg_len]
            refine less_times_go (h1 i j hi hj) (h1 i c hi hc) (h2 j hj) ?_
            push_cast [rg_len]
            exact hK
          · push_cast [rg_len]
            refine ⟨by omega, hK _ ⟨_, _, by rw [← rg_succ i fun i_1 => vec C (pv T r c i_1), show vec C (pv T r c i) = vec C (fun j => T i j - T i c * (T r j / T r c)) by congr 1; funext j; unfold MA.pv; rw [if_neg e]]; rfl⟩⟩
    · rintro env ⟨s, t, rfl⟩
      push_cast [rg_len]
      exact hk
theorem pivot_go {R C r c : Nat} {T : Nat → Nat → Rat} {k : D → Prop} (hR : R ≤ 1000) (hC : C ≤ 1000) (hr : r < R) (hc : c < C) (h0 : T r c ≠ 0) (h1 : ∀ k j, k < R → j < C → sz 2200 (T k j)) (h2 : ∀ j, j < C → sz 2200 (T r j / T r c)) (hk : k (mat R C (pv T r c))) : S_pivot [mat R C T, .int (r : Nat), .int (c : Nat)] k :=
  ⟨R, C, r, c, T, rfl, hR, hC, hr, hc, h0, h1, h2, hk⟩
end BB
end
section
set_option maxRecDepth 100000
set_option exponentiation.threshold 100
set_option maxHeartbeats 4000000
/-! The simplex defs: leaving .. values_of. -/
namespace BB
open PySem L2 MA
theorem neg1 : (-1 : Int) = -1 := rfl
def S_leaving : SpecT := fun ds k => ∃ (R C m c : Nat) (T : Nat → Nat → Rat) (β : Nat → Nat), ds = [mat R (C + 1) T, bsD m β, .int (c : Nat)] ∧ m ≤ R ∧ R ≤ 1000 ∧ c < C ∧ (∀ k j, k < R → j < C + 1 → sz 2200 (T k j)) ∧
  (∀ k l, k < m → l < m → β k = β l → k = l) ∧
  (∀ r, r < m → 0 < T r c → (∀ k, k < m → 0 < T k c → T r C / T r c ≤ T k C / T k c) → (∀ k, k < m → 0 < T k c → T r C / T r c = T k C / T k c → k ≠ r → β r < β k) → k (.int (r : Nat))) ∧ ((∀ k, k < m → ¬ 0 < T k c) → k .non)
/-- the best row among the first i -/
def Best (i C c : Nat) (T : Nat → Nat → Rat) (β : Nat → Nat) (best : D) (q : Rat) : Prop :=
  (best = .non ∧ q = 0 ∧ ∀ k, k < i → ¬ 0 < T k c) ∨ ∃ r, best = .int ((r : Nat) : Int) ∧ r < i ∧ q = T r C / T r c ∧ 0 < T r c ∧ (∀ k, k < i → 0 < T k c → T r C / T r c ≤ T k C / T k c) ∧ (∀ k, k < i → 0 < T k c → T r C / T r c = T k C / T k c → k ≠ r → β r < β k)
theorem sz_inv {e : Nat} {a : Rat} (h : sz e a) (he : 0 < e) : sz e a⁻¹ := by
  have h1 : 1 < 2 ^ e := Nat.one_lt_two_pow (by omega)
  by_cases h0 : a = 0
  · rw [h0, Rat.inv_zero]; exact sz0 e he
  · have hz : Zs a.num.natAbs a.den a⁻¹ := by
      have hn := num_ne h0
      have e1 := num_den a
      have e2 := den_ne a
      rcases Int.natAbs_eq a.num with q | q
      · refine ⟨a.den, ?_, by omega⟩
        rw [← Rat.intCast_natCast, ← q, Rat.intCast_natCast]
        generalize (a.den : Rat) = v at *
        generalize (a.num : Rat) = u at *
        grind
      · refine ⟨-a.den, ?_, by omega⟩
        rw [← Rat.intCast_natCast, show (a.num.natAbs : Int) = -a.num by omega, Rat.intCast_neg, Rat.intCast_neg, Rat.intCast_natCast]
        generalize (a.den : Rat) = v at *
        generalize (a.num : Rat) = u at *
        grind
    have := hz.le (by have := num_ne h0; omega)
    exact ⟨by have := h.2; omega, by have := h.1; omega⟩
theorem sz_div {e f : Nat} {a b : Rat} (ha : sz e a) (hb : sz f b) (hf : 0 < f) : sz (e + f) (a / b) := by
  rw [Rat.div_def]; exact sz_mul ha (sz_inv hb hf)
theorem k_leaving : Keeps n_leaving a_leaving (b_leaving S_less S_div) S_leaving := by
  rintro ds k ⟨R, C, m, c, T, β, rfl, hm, hR, hc, hs, hinj, h1, h2⟩
  refine ⟨rfl, ?_⟩
  dsimp! [b_leaving, n_leaving, bsD]
  refine ⟨⟨by omega, by omega⟩, for_rg (fun i env => ∃ best q s t, Best i C c T β best q ∧ env = [.sh (mat R (C + 1) T), .sh (bsD m β), .sh (.int (c : Nat)), .sh best, .sh (fr q), s, t]) ⟨_, _, _, _, .inl ⟨rfl, rfl, fun k hk => by omega⟩, rfl⟩ ?_ ?_⟩
  · rintro i env K hi ⟨best, q, s, t, hb, rfl⟩ hK
    dsimp! [rg_len]
    have hz := hs i c (by omega) (by omega)
    refine less_go 2200 2200 (sz0 _ (by omega)) hz (hk := ?_)
    by_cases hp : 0 < T i c
    · push_cast [hp]
      rw [ix_last (by omega)]
      push_cast [rg_len]
      rw [show C + 1 - 1 = C by omega]
      have hzC := hs i C (by omega) (by omega)
      refine div_go 2200 2200 hzC hz (by grind) (hk := ?_)
      push_cast [rg_len]
      rcases hb with ⟨rfl, rfl, hn⟩ | ⟨r, rfl, hr, rfl, hrp, hr1, hr2⟩
      · push_cast [rg_len]
        refine hK _ ⟨_, _, _, _, .inr ⟨i, rfl, by omega, rfl, hp, fun k hk hkp => ?_, fun k hk hkp _ hne => ?_⟩, rfl⟩
        · by_cases e : k = i
          · rw [e]; exact Rat.le_refl
          · exact absurd hkp (hn k (by omega))
        · exact absurd hkp (hn k (by omega))
      · push_cast [rg_len]
        refine less_go 4400 4400 (sz_div hzC hz (by omega)) (sz_div (hs r C (by omega) (by omega)) (hs r c (by omega) (by omega)) (by omega)) (hk := ?_)
        by_cases hl : T i C / T i c < T r C / T r c
        · push_cast [hl]
          refine hK _ ⟨_, _, _, _, .inr ⟨i, rfl, by omega, rfl, hp, fun k hk hkp => ?_, fun k hk hkp he hne => ?_⟩, rfl⟩
          · by_cases e : k = i
            · rw [e]; exact Rat.le_refl
            · have := hr1 k (by omega) hkp; grind
          · have := hr1 k (by omega) hkp; grind
        · push_cast [hl]
          by_cases he : T i C / T i c = T r C / T r c
          · dsimp! [he]
            by_cases hbb : β i < β r
            · push_cast [hbb]
              refine hK _ ⟨_, _, _, _, .inr ⟨i, rfl, by omega, rfl, hp, fun k hk hkp => ?_, fun k hk hkp he' hne => ?_⟩, by rw [he]; rfl⟩
              · by_cases e : k = i
                · rw [e]; exact Rat.le_refl
                · have := hr1 k (by omega) hkp; grind
              · by_cases e : k = r
                · rw [e]; exact hbb
                · have := hr2 k (by omega) hkp (by grind) e; omega
            · push_cast [hbb]
              refine hK _ ⟨_, _, _, _, .inr ⟨r, rfl, by omega, rfl, hrp, fun k hk hkp => ?_, fun k hk hkp he' hne => ?_⟩, rfl⟩
              · by_cases e : k = i
                · rw [e, he]; exact Rat.le_refl
                · exact hr1 k (by omega) hkp
              · by_cases e : k = i
                · rw [e]
                  have : β i ≠ β r := fun q => by have := hinj i r (by omega) (by omega) q; omega
                  omega
                · exact hr2 k (by omega) hkp he' hne
          · push_cast [he]
            refine hK _ ⟨_, _, _, _, .inr ⟨r, rfl, by omega, rfl, hrp, fun k hk hkp => ?_, fun k hk hkp he' hne => ?_⟩, rfl⟩
            · by_cases e : k = i
              · rw [e]; grind
              · exact hr1 k (by omega) hkp
            · by_cases e : k = i
              · rw [e] at he'; exact absurd he'.symm he
              · exact hr2 k (by omega) hkp he' hne
    · push_cast [hp]
      refine hK _ ⟨best, q, _, _, ?_, rfl⟩
      rcases hb with ⟨e1, e2, hn⟩ | ⟨r, e1, hr, e2, hrp, hr1, hr2⟩
      · refine .inl ⟨e1, e2, fun k hk => ?_⟩
        by_cases e : k = i
        · rw [e]; exact hp
        · exact hn k (by omega)
      · refine .inr ⟨r, e1, by omega, e2, hrp, fun k hk hkp => ?_, fun k hk hkp he hne => ?_⟩
        · by_cases e : k = i
          · rw [e] at hkp; exact absurd hkp hp
          · exact hr1 k (by omega) hkp
        · by_cases e : k = i
          · rw [e] at hkp; exact absurd hkp hp
          · exact hr2 k (by omega) hkp he hne
  · rintro env ⟨best, q, s, t, hb, rfl⟩
    push_cast [rg_len]
    rcases hb with ⟨e1, e2, hn⟩ | ⟨r, e1, hr, e2, hrp, hr1, hr2⟩
    · rw [e1]; exact h2 hn
    · rw [e1]; exact h1 r hr hrp hr1 hr2
/-- costs over the rows -/
def redF (n : Nat) (cst : Nat → Rat) (T : Nat → Nat → Rat) (β : Nat → Nat) (i j : Nat) : Rat := (if j < n then cst j else 0) - sm i fun k => cst (β k) * T k j
def S_reduced : SpecT := fun ds k => ∃ (n m : Nat) (cst : Nat → Rat) (T : Nat → Nat → Rat) (β : Nat → Nat), ds = [vec n cst, mat m (n + 1) T, bsD m β] ∧ n ≤ 900 ∧ m ≤ 900 ∧ (∀ k, k < m → β k < n) ∧ (∀ j, j < n → sz 2200 (cst j)) ∧ (∀ k j, k < m → j ≤ n → sz 2200 (T k j)) ∧
  (∀ i j, i ≤ m → j ≤ n → sz 2200 (redF n cst T β i j)) ∧ k (vec (n + 1) (redF n cst T β m))
theorem k_reduced : Keeps n_reduced a_reduced (b_reduced S_less_times) S_reduced := by
  rintro ds k ⟨n, m, cst, T, β, rfl, hn, hm, hβ, h1, h2, h3, hk⟩
  refine ⟨rfl, ?_⟩
  push_cast [b_reduced, n_reduced, bsD]
  refine ⟨by omega, by omega, for_rg (fun i env => ∃ s t, env = [.sh (vec n cst), .sh (mat m (n + 1) T), .sh (bsD m β), .sh (vec (n + 1) (redF n cst T β i)), s, t, .no]) ⟨.no, .no, ?_⟩ ?_ ?_⟩
  · have : (rg n fun i => fr (cst i)) ++ [fr 0] = rg (n + 1) fun j => fr (redF n cst T β 0 j) := by
      rw [rg_snoc]
      refine rg_congr fun j hj => ?_
      unfold redF
      rw [sm_0]
      by_cases e : j < n
      · rw [if_pos e, if_pos e]; congr 1; grind
      · rw [if_neg e, if_neg e]; congr 1; grind
    rw [this]; rfl
  · rintro i env K hi ⟨s, t, rfl⟩ hK
    have hb := hβ i hi
    dsimp! [bsD]
    by_cases e : cst (β i) = 0
    · push_cast [e]
      exact hK _ ⟨_, _, by rw [show redF n cst T β (i + 1) = redF n cst T β i from funext fun j => by unfold redF; rw [sm_s, e]; grind]; rfl⟩
    · push_cast [e]
      refine ⟨⟨by omega, by omega⟩, by omega, comp_rg (fun j => fr (redF n cst T β (i + 1) j)) (fun j K hj hK => ?_) ?_⟩
      · dsimp! [rg_len]
        refine less_times_go (h3 i j (by omega) (by omega)) (h1 _ hb) (h2 i j hi (by omega)) ?_
        push_cast [rg_len]
        rw [show redF n cst T β i j - cst (β i) * T i j = redF n cst T β (i + 1) j by unfold redF; rw [sm_s]; grind]
        exact hK
      · push_cast [rg_len]
        exact hK _ ⟨_, _, rfl⟩
  · rintro env ⟨s, t, rfl⟩
    push_cast [rg_len]
    exact hk
def S_descend : SpecT := fun ds k => ∃ (m n w : Nat) (T : Nat → Nat → Rat) (β : Nat → Nat) (Good : (Nat → Nat → Rat) → (Nat → Nat) → Prop), ds = [mat (m + 1) (n + 1) T, bsD m β, .int (w : Nat)] ∧ m ≤ 900 ∧ n ≤ 900 ∧ w ≤ n ∧ Good T β ∧
  (∀ T β, Good T β → (∀ k j, k < m + 1 → j < n + 1 → sz 2200 (T k j)) ∧ (∀ k l, k < m → l < m → β k = β l → k = l) ∧ (∀ c, c < w → T m c < 0 → ∃ k, k < m ∧ 0 < T k c) ∧ (∀ r c, Stp m n w T β r c → Good (MA.pv T r c) (up β r c)) ∧ ((∀ j, j < w → ¬ T m j < 0) → k (.tup [mat (m + 1) (n + 1) T, bsD m β, .non]))) ∧
  (∀ (T : Nat → Nat → Nat → Rat) (β : Nat → Nat → Nat) (r c : Nat → Nat), (∀ p, Good (T p) (β p)) → (∀ p, Stp m n w (T p) (β p) (r p) (c p)) → (∀ p, T (p + 1) = MA.pv (T p) (r p) (c p)) → (∀ p, β (p + 1) = up (β p) (r p) (c p)) → False)
theorem k_descend : Keeps n_descend a_descend (b_descend S_entering S_leaving S_pivot) S_descend := by
  rintro ds k ⟨m, n, w, T, β, Good, rfl, hm, hn, hw, g0, hg, hno⟩
  refine ⟨rfl, ?_⟩
  push_cast [b_descend, n_descend, bsD]
  unfold sWhile
  refine by_steps (S := (Nat → Nat → Rat) × (Nat → Nat) × Sl × Sl) (Good := fun s => Good s.1 s.2.1) (Step := fun s s' => ∃ r c, Stp m n w s.1 s.2.1 r c ∧ s'.1 = MA.pv s.1 r c ∧ s'.2.1 = up s.2.1 r c)
    (P := fun s => ∃ n_1, whGo _ _ _ n_1 [.sh (mat (m + 1) (n + 1) s.1), .ow (rg m fun k => .int ((s.2.1 k : Nat) : Int)), .sh (.int (w : Nat)), s.2.2.1, s.2.2.2]) ?_ ?_ (T, β, .no, .no) g0
  · rintro ⟨T, β, s1, s2⟩ g
    obtain ⟨q1, q2, q3, q4, q5⟩ := hg T β g
    dsimp only at g q1 q2 q3 q4 q5 ⊢
    by_cases hc : ∀ j, j < w → ¬ T m j < 0
    · refine .inl ⟨1, ?_⟩
      unfold whGo
      dsimp! [rg_len]
      rw [show (-1 : Int) = -1 from rfl, ix_last (by omega)]
      push_cast [rg_len]
      refine ⟨n + 1, w, T m, by rw [show m + 1 - 1 = m by omega]; rfl, by omega, by omega, fun j hj => q1 m j (by omega) hj, fun c hcw hneg _ => absurd hneg (hc c hcw), fun _ => ?_⟩
      push_cast [rg_len]
      exact q5 hc
    · have hex : ∃ c, c < w ∧ T m c < 0 ∧ ∀ j, j < c → ¬ T m j < 0 := by
        have : ∀ d, (∃ c, c < d ∧ T m c < 0) → ∃ c, c < d ∧ T m c < 0 ∧ ∀ j, j < c → ¬ T m j < 0 := by
          intro d
          induction d with
          | zero => rintro ⟨c, h, _⟩; omega
          | succ d ih =>
            intro h
            by_cases q : ∃ c, c < d ∧ T m c < 0
            · obtain ⟨c, a, b, e⟩ := ih q; exact ⟨c, by omega, b, e⟩
            · obtain ⟨c, a, b⟩ := h
              refine ⟨c, a, b, fun j hj hjn => q ⟨j, by omega, hjn⟩⟩
        refine this w (Classical.byContradiction fun q => hc fun j hj hn => q ⟨j, hj, hn⟩)
      obtain ⟨c, hcw, hneg, hfst⟩ := hex
      have hst : ∃ r, Stp m n w T β r c ∧ ∀ k : D → Prop, k (.int (r : Nat)) → S_leaving [mat (m + 1) (n + 1) T, bsD m β, .int (c : Nat)] k := by
        obtain ⟨l, hl, hlp⟩ := q3 c hcw hneg
        have : ∀ i, i ≤ m → (∃ k, k < i ∧ 0 < T k c) → ∃ r, r < i ∧ 0 < T r c ∧ (∀ k, k < i → 0 < T k c → T r n / T r c ≤ T k n / T k c) ∧ (∀ k, k < i → 0 < T k c → T r n / T r c = T k n / T k c → k ≠ r → β r < β k) := by
          intro i
          induction i with
          | zero => rintro _ ⟨k, h, _⟩; omega
          | succ i ih =>
            intro him h
            by_cases q : ∃ k, k < i ∧ 0 < T k c
            · obtain ⟨r, a1, a2, a3, a4⟩ := ih (by omega) q
              by_cases p : 0 < T i c
              · by_cases l1 : T i n / T i c < T r n / T r c ∨ (T i n / T i c = T r n / T r c ∧ β i < β r)
                · refine ⟨i, by omega, p, fun k hk hp => ?_, fun k hk hp he hne => ?_⟩
                  · by_cases e : k = i
                    · rw [e]; exact Rat.le_refl
                    · have := a3 k (by omega) hp; grind
                  · have h3 := a3 k (by omega) hp
                    rcases l1 with l1 | ⟨l1, l2⟩
                    · grind
                    · by_cases e : k = r
                      · rw [e]; exact l2
                      · have := a4 k (by omega) hp (by grind) e; omega
                · refine ⟨r, by omega, a2, fun k hk hp => ?_, fun k hk hp he hne => ?_⟩
                  · by_cases e : k = i
                    · rw [e]; grind
                    · exact a3 k (by omega) hp
                  · by_cases e : k = i
                    · rw [e] at he ⊢
                      have : β i ≠ β r := fun q => by have := q2 i r (by omega) (by omega) q; omega
                      have : ¬ β i < β r := fun q => l1 (.inr ⟨he.symm, q⟩)
                      omega
                    · exact a4 k (by omega) hp he hne
              · refine ⟨r, by omega, a2, fun k hk hp => ?_, fun k hk hp he hne => ?_⟩
                · by_cases e : k = i
                  · rw [e] at hp; exact absurd hp p
                  · exact a3 k (by omega) hp
                · by_cases e : k = i
                  · rw [e] at hp; exact absurd hp p
                  · exact a4 k (by omega) hp he hne
            · obtain ⟨k, hk, hp⟩ := h
              have hki : k = i := by
                by_cases e : k = i
                · exact e
                · exact absurd ⟨k, by omega, hp⟩ q
              subst hki
              refine ⟨k, by omega, hp, fun l hl hlp => ?_, fun l hl hlp _ hne => ?_⟩
              · by_cases e : l = k
                · rw [e]; exact Rat.le_refl
                · exact absurd ⟨l, by omega, hlp⟩ q
              · exact absurd ⟨l, by omega, hlp⟩ q
        obtain ⟨r, a1, a2, a3, a4⟩ := this m (by omega) ⟨l, hl, hlp⟩
        refine ⟨r, ⟨hcw, hneg, hfst, a1, a2, a3, a4⟩, fun k hk => ⟨m + 1, n, m, c, T, β, rfl, by omega, by omega, by omega, q1, q2, fun r' b1 b2 b3 b4 => ?_, fun q => absurd hlp (q l hl)⟩⟩
        have : r' = r := by
          by_cases e : r' = r
          · exact e
          · have h1 := a3 r' b1 b2
            have h2 := b3 r a1 a2
            have h3 : T r n / T r c = T r' n / T r' c := by grind
            have h4 := a4 r' b1 b2 h3 e
            have h5 := b4 r a1 a2 h3.symm (Ne.symm e)
            omega
        rw [this]; exact hk
      obtain ⟨r, st, hlv⟩ := hst
      have hrm := st.rm
      have gn := (hg _ _ (q4 r c st)).1
      refine .inr ⟨(MA.pv T r c, up β r c, .sh (.int (c : Nat)), .sh (.int (r : Nat))), q4 r c st, ⟨r, c, st, rfl, rfl⟩, ?_⟩
      rintro ⟨N, hN⟩
      refine ⟨N + 1, ?_⟩
      unfold whGo
      dsimp! [rg_len]
      rw [ix_last (by omega)]
      push_cast [rg_len]
      refine ⟨n + 1, w, T m, by rw [show m + 1 - 1 = m by omega]; rfl, by omega, by omega, fun j hj => q1 m j (by omega) hj, fun c' a1 a2 a3 => ?_, fun q => absurd hneg (q c hcw)⟩
      have hcc : c' = c := by
        rcases Nat.lt_trichotomy c' c with h | h | h
        · exact absurd a2 (hfst _ h)
        · exact h
        · exact absurd hneg (a3 _ h)
      subst hcc
      push_cast [rg_len]
      refine hlv _ ?_
      push_cast [rg_len]
      refine pivot_go (by omega) (by omega) (by omega) (by omega) (by have := st.pos; grind) q1 (fun j hj => ?_) ?_
      · have := gn r j (by omega) hj
        unfold MA.pv at this
        rwa [if_pos rfl] at this
      · push_cast [rg_len]
        refine sPut_go (n := m) (f := fun k => .int ((β k : Nat) : Int)) rfl r (.int (c' : Nat)) (fun K h => by push_cast [rg_len]; exact h) (fun K h => by push_cast [rg_len]; exact h _) (by omega) ?_
        push_cast [rg_len]
        have e : (fun l => if l = r then D.int ((c' : Nat) : Int) else .int ((β l : Nat) : Int)) = fun l => .int ((up β r c' l : Nat) : Int) := funext fun l => by unfold up; split <;> rfl
        rw [e]
        exact hN
  · intro f hf hs
    have h1 : ∀ p, ∃ r c, Stp m n w (f p).1 (f p).2.1 r c ∧ (f (p + 1)).1 = MA.pv (f p).1 r c ∧ (f (p + 1)).2.1 = up (f p).2.1 r c := hs
    exact hno (fun p => (f p).1) (fun p => (f p).2.1) (fun p => Classical.choose (h1 p)) (fun p => Classical.choose (Classical.choose_spec (h1 p))) hf
      (fun p => (Classical.choose_spec (Classical.choose_spec (h1 p))).1) (fun p => (Classical.choose_spec (Classical.choose_spec (h1 p))).2.1) fun p => (Classical.choose_spec (Classical.choose_spec (h1 p))).2.2
end BB
end
section
set_option maxRecDepth 100000
set_option exponentiation.threshold 100
set_option maxHeartbeats 4000000
/-! first_rows, prices_of, without_helpers, values_of. -/
namespace BB
open PySem L2 MA
def S_first_rows : SpecT := fun ds k => ∃ (m N : Nat) (a : Nat → Nat → Rat) (b : Nat → Rat), ds = [tlsD m N a b, slD m N, hlD m N b, .int ((tot m N b : Nat) : Int)] ∧ m ≤ 900 ∧ N ≤ 900 ∧ tot m N b ≤ 1900 ∧ k (mat m (tot m N b + 1) (A0 m N a b))
theorem hc_lt' {b : Nat → Rat} {l k : Nat} (h : l < k) (hb : 0 < b l) : hc b l < hc b k := hc_lt h hb
theorem k_first_rows : Keeps n_first_rows a_first_rows (b_first_rows S_neg) S_first_rows := by
  rintro ds k ⟨m, N, a, b, rfl, hm, hN, ht, hk⟩
  refine ⟨rfl, ?_⟩
  push_cast [b_first_rows, n_first_rows]
  unfold tlsD
  push_cast [rg_len]
  have hcm := hc_le (b := b) (Nat.zero_le m)
  refine ⟨⟨by omega, by omega⟩, for_rg (fun i env => ∃ s5 s6 s7 s8 s9 s10, env = [.sh (tlsD m N a b), .sh (slD m N), .sh (hlD m N b), .sh (.int ((tot m N b : Nat) : Int)), .ow (rg i fun i => vec (tot m N b + 1) (A0 m N a b i)), s5, s6, s7, s8, s9, s10, .no]) ⟨_, _, _, _, _, _, rfl⟩ ?_ ?_⟩
  · rintro i env K hi ⟨s5, s6, s7, s8, s9, s10, rfl⟩ hK
    have htn : ((tot m N b : Nat) : Int) - (N : Int) = ((m + hc b m : Nat) : Int) := by unfold tot; omega
    unfold tlsD slD hlD
    dsimp! [tlD]
    rw [htn]
    push_cast [rg_len]
    have fin : ∀ f : Nat → D, (∀ j, j < tot m N b → f j = fr (A0 m N a b i j)) → rg (tot m N b) f ++ [fr (sgm b i * b i)] = rg (tot m N b + 1) fun j => fr (A0 m N a b i j) := fun f hf => by
      rw [rg_snoc]
      refine rg_congr fun j hj => ?_
      by_cases e : j < tot m N b
      · rw [if_pos e]; exact hf j e
      · rw [if_neg e]; unfold A0; unfold tot at *; rw [if_neg (by omega), if_neg (by omega), if_neg (by omega)]
    have fin2 : K [.sh (tlsD m N a b), .sh (slD m N), .sh (hlD m N b), .sh (.int ((tot m N b : Nat) : Int)), .ow (rg (i + 1) fun i => vec (tot m N b + 1) (A0 m N a b i)), .no, .no, .no, .no, .no, .no, .no] → True := fun _ => trivial
    refine ⟨⟨by unfold tot at *; omega, by unfold tot at *; omega⟩, by unfold tot at *; omega, comp_rg (fun _ => fr 0) (fun j K' hj hK' => by push_cast [rg_len]; exact hK') ?_⟩
    rw [rg_app, show N + (m + hc b m) = tot m N b by unfold tot; omega]
    refine ⟨by rw [rg_len]; unfold tot at *; omega, ?_⟩
    have hput : ∀ (Z : Post) (e v : PE') (f : Nat → D) (j : Nat) (d : D) (l6 l7 l8 l9 : Sl), j < tot m N b →
        Z.nx [.sh (tlsD m N a b), .sh (slD m N), .sh (hlD m N b), .sh (.int ((tot m N b : Nat) : Int)), .ow (rg i fun i => vec (tot m N b + 1) (A0 m N a b i)), .sh (.int (i : Nat)), l6, l7, l8, l9, .ow (rg (tot m N b) fun l => if l = j then d else f l), .no] →
        (∀ K' : Kd → D → Prop, K' .s d → v [.sh (tlsD m N a b), .sh (slD m N), .sh (hlD m N b), .sh (.int ((tot m N b : Nat) : Int)), .ow (rg i fun i => vec (tot m N b + 1) (A0 m N a b i)), .sh (.int (i : Nat)), l6, l7, l8, l9, .ow (rg (tot m N b) f), .no] K') →
        (∀ K' : Kd → D → Prop, (∀ kd, K' kd (.int (j : Nat))) → e [.sh (tlsD m N a b), .sh (slD m N), .sh (hlD m N b), .sh (.int ((tot m N b : Nat) : Int)), .ow (rg i fun i => vec (tot m N b + 1) (A0 m N a b i)), .sh (.int (i : Nat)), l6, l7, l8, l9, .ow (rg (tot m N b) f), .no] K') →
        sPut 10 e v Z [.sh (tlsD m N a b), .sh (slD m N), .sh (hlD m N b), .sh (.int ((tot m N b : Nat) : Int)), .ow (rg i fun i => vec (tot m N b + 1) (A0 m N a b i)), .sh (.int (i : Nat)), l6, l7, l8, l9, .ow (rg (tot m N b) f), .no] :=
      fun Z e v f j d l6 l7 l8 l9 hj hZ hv he => sPut_go (n := tot m N b) (f := f) rfl j d hv he hj hZ
    by_cases h : 0 < b i
    · have hlt := hc_lt' hi h
      push_cast [h]
      refine hput _ _ _ _ (N + i) (fr (-1)) _ _ _ _ (by unfold tot; omega) ?_ ?_ ?_
      · dsimp! [h]
        unfold hlD
        dsimp! [h]
        refine hput _ _ _ _ (N + m + hc b i) (fr 1) _ _ _ _ (by unfold tot; omega) ?_ ?_ ?_
        · push_cast [rg_len]
          refine ⟨by unfold tot at *; omega, by omega, ?_⟩
          rw [fin _ fun j hj => ?_]
          · exact hK _ ⟨_, _, _, _, _, _, by rw [← rg_succ i fun i => vec (tot m N b + 1) (A0 m N a b i)]; rfl⟩
          · unfold A0
            unfold tot at hj
            have hs : sgm b i = 1 := by unfold sgm; rw [if_pos h]
            by_cases e1 : j = N + m + hc b i
            · rw [if_pos e1, if_neg (by omega), if_neg (by omega), if_pos (by omega), if_pos ⟨h, e1⟩]
            · rw [if_neg e1]
              by_cases e2 : j = N + i
              · rw [if_pos e2, if_neg (by omega), if_pos (by omega), if_pos e2, hs]
              · rw [if_neg e2]
                by_cases e3 : j < N
                · rw [if_pos e3, if_pos e3]
                · rw [if_neg e3, if_neg e3]
                  by_cases e4 : j < N + m
                  · rw [if_pos e4, if_neg e2]
                  · rw [if_neg e4, if_pos (by omega), if_neg fun q => e1 q.2]
        · intro K' h'; push_cast [rg_len]; exact h'
        · intro K' h'; unfold hlD; dsimp! [h]; exact h' _
      · intro K' h'
        have : ¬ (("least" : Str) = "most") := by decide
        push_cast [this]
        refine neg_go ?_
        push_cast [rg_len]; exact h'
      · intro K' h'; unfold slD; dsimp! [rg_len]; exact h' _
    · push_cast [h]
      refine hput _ _ _ _ (N + i) (fr 1) _ _ _ _ (by unfold tot; omega) ?_ ?_ ?_
      · unfold hlD
        dsimp! [h]
        refine ⟨by unfold tot at *; omega, by omega, ?_⟩
        rw [fin _ fun j hj => ?_]
        · exact hK _ ⟨_, _, _, _, _, _, by rw [← rg_succ i fun i => vec (tot m N b + 1) (A0 m N a b i)]; rfl⟩
        · unfold A0
          unfold tot at hj
          have hs : sgm b i = -1 := by unfold sgm; rw [if_neg h]
          by_cases e2 : j = N + i
          · rw [if_pos e2, if_neg (by omega), if_pos (by omega), if_pos e2, hs]; congr 1
          · rw [if_neg e2]
            by_cases e3 : j < N
            · rw [if_pos e3, if_pos e3]
            · rw [if_neg e3, if_neg e3]
              by_cases e4 : j < N + m
              · rw [if_pos e4, if_neg e2]
              · rw [if_neg e4, if_pos (by omega), if_neg fun q => h q.1]
      · intro K' h'; push_cast [rg_len]; exact h'
      · intro K' h'; unfold slD; dsimp! [rg_len]; exact h' _
  · rintro env ⟨s5, s6, s7, s8, s9, s10, rfl⟩
    push_cast [rg_len]
    exact hk
def S_prices_of : SpecT := fun ds k => ∃ (m N n : Nat) (a : Nat → Nat → Rat) (b : Nat → Rat) (z : Nat → Rat) (own : Rat), ds = [vec (n + 1) z, tlsD m N a b, slD m N, hlD m N b, fr own] ∧ n = tot m N b ∧ m ≤ 900 ∧ sz 2200 own ∧ (∀ j, j < n + 1 → sz 2200 (z j)) ∧
  k (vec m fun l => sgm b l * if 0 < b l then own - z (N + m + hc b l) else - z (N + l))
theorem k_prices_of : Keeps n_prices_of a_prices_of (b_prices_of S_neg S_sub) S_prices_of := by
  rintro ds k ⟨m, N, n, a, b, z, own, rfl, hn, hm, ho, hs, hk⟩
  refine ⟨rfl, ?_⟩
  push_cast [b_prices_of, n_prices_of]
  unfold tlsD
  push_cast [rg_len]
  refine ⟨⟨by omega, by omega⟩, for_rg (fun i env => ∃ s t, env = [.sh (vec (n + 1) z), .sh (tlsD m N a b), .sh (slD m N), .sh (hlD m N b), .sh (fr own), .ow (rg i fun l => fr (sgm b l * if 0 < b l then own - z (N + m + hc b l) else - z (N + l))), s, t]) ⟨_, _, rfl⟩ ?_ ?_⟩
  · rintro i env K hi ⟨s, t, rfl⟩ hK
    unfold tlsD slD hlD
    unfold tot at hn
    by_cases h : 0 < b i
    · have hlt := hc_lt' hi h
      dsimp! [h, tlD]
      refine sub_go 2200 2200 ho (hs _ (by omega)) (hk := ?_)
      push_cast [rg_len]
      refine ⟨by omega, hK _ ⟨_, _, by rw [← rg_succ i fun l => fr (sgm b l * if 0 < b l then own - z (N + m + hc b l) else - z (N + l)), if_pos h, show sgm b i = 1 by unfold sgm; rw [if_pos h], Rat.one_mul]; rfl⟩⟩
    · dsimp! [h, tlD]
      refine neg_go ?_
      push_cast [rg_len]
      refine neg_go ?_
      push_cast [rg_len]
      refine ⟨by omega, hK _ ⟨_, _, by rw [← rg_succ i fun l => fr (sgm b l * if 0 < b l then own - z (N + m + hc b l) else - z (N + l)), if_neg h, show sgm b i = -1 by unfold sgm; rw [if_neg h], show (-1 : Rat) * -z (N + i) = - -z (N + i) by grind]; rfl⟩⟩
  · rintro env ⟨s, t, rfl⟩
    push_cast [rg_len]
    exact hk
def xg (m n : Nat) (T : Nat → Nat → Rat) (β : Nat → Nat) (j : Nat) : Rat := sm m fun k => if β k = j then T k n else 0
def S_values_of : SpecT := fun ds k => ∃ (R m n N : Nat) (T : Nat → Nat → Rat) (β : Nat → Nat), ds = [mat R (n + 1) T, bsD m β, .int (N : Nat)] ∧ m ≤ R ∧ R ≤ 900 ∧ N ≤ 900 ∧ (∀ k l, k < m → l < m → β k = β l → k = l) ∧ k (vec N (xg m n T β))
theorem k_values_of : Keeps n_values_of a_values_of b_values_of S_values_of := by
  rintro ds k ⟨R, m, n, N, T, β, rfl, hm, hR, hN, hinj, hk⟩
  refine ⟨rfl, ?_⟩
  push_cast [b_values_of, n_values_of]
  refine ⟨⟨by omega, by omega⟩, by omega, comp_rg (fun _ => fr 0) (fun j K hj hK => by push_cast [rg_len]; exact hK) ?_⟩
  refine ⟨⟨by omega, by omega⟩, for_rg (fun i env => ∃ s, env = [.sh (mat R (n + 1) T), .sh (bsD m β), .sh (.int (N : Nat)), .ow (rg N fun j => fr (xg i n T β j)), s]) ⟨_, rfl⟩ ?_ ?_⟩
  · rintro i env K hi ⟨s, rfl⟩ hK
    dsimp! [rg_len]
    by_cases h : β i < N
    · push_cast [h]
      refine sPut_go (n := N) (f := fun j => fr (xg i n T β j)) rfl (β i) (fr (T i n)) (fun K' h' => ?_) (fun K' h' => ?_) h ?_
      · dsimp! [rg_len]
        rw [ix_last (by omega)]
        push_cast [rg_len]
        rw [show n + 1 - 1 = n by omega]
        exact h'
      · dsimp! [rg_len]
        exact h' _
      · push_cast [rg_len]
        have e : (rg N fun l => if l = β i then fr (T i n) else fr (xg i n T β l)) = rg N fun j => fr (xg (i + 1) n T β j) := rg_congr fun j hj => by
          unfold xg
          rw [sm_s]
          by_cases e : j = β i
          · rw [if_pos e, if_pos e.symm, sm_zero fun l hl => ?_]
            · congr 1; grind
            · rw [if_neg fun q => by have := hinj l i (by omega) hi (by rw [q, e]); omega]
          · rw [if_neg e, if_neg (Ne.symm e)]; congr 1; grind
        rw [e]
        exact hK _ ⟨_, rfl⟩
    · push_cast [h]
      have e : (rg N fun j => fr (xg i n T β j)) = rg N fun j => fr (xg (i + 1) n T β j) := rg_congr fun j hj => by
        unfold xg
        rw [sm_s, if_neg (by omega)]; congr 1; grind
      rw [e]
      exact hK _ ⟨_, rfl⟩
  · rintro env ⟨s, rfl⟩
    push_cast [rg_len]
    exact hk
def S_without_helpers : SpecT := fun ds k => ∃ (m n w : Nat) (T : Nat → Nat → Rat) (β : Nat → Nat) (Good : (Nat → Nat → Rat) → (Nat → Nat) → Prop), ds = [mat m (n + 1) T, bsD m β, .int (w : Nat)] ∧ m ≤ 900 ∧ n ≤ 900 ∧ w ≤ n ∧ Good T β ∧
  (∀ T β, Good T β → (∀ k j, k < m → j < n + 1 → sz 2200 (T k j)) ∧ (∀ r c, r < m → c < w → w ≤ β r → T r c ≠ 0 → Good (MA.pv T r c) (up β r c)) ∧ k (.tup [mat m (n + 1) T, bsD m β]))
theorem k_without_helpers : Keeps n_without_helpers a_without_helpers (b_without_helpers S_pivot) S_without_helpers := by
  rintro ds k ⟨m, n, w, T, β, Good, rfl, hm, hn, hw, g0, hg⟩
  refine ⟨rfl, ?_⟩
  push_cast [b_without_helpers, n_without_helpers]
  refine ⟨⟨by omega, by omega⟩, for_rg (fun i env => ∃ T β s t, Good T β ∧ env = [.sh (mat m (n + 1) T), .ow (rg m fun k => .int ((β k : Nat) : Int)), .sh (.int (w : Nat)), s, t]) ⟨_, _, _, _, g0, rfl⟩ ?_ ?_⟩
  · rintro i env K hi ⟨T, β, s, t, g, rfl⟩ hK
    dsimp! [rg_len]
    by_cases h : w ≤ β i
    · push_cast [h]
      refine ⟨⟨by omega, by omega⟩, for_rg (fun j env => ∃ T β t, Good T β ∧ env = [.sh (mat m (n + 1) T), .ow (rg m fun k => .int ((β k : Nat) : Int)), .sh (.int (w : Nat)), .sh (.int (i : Nat)), t]) ⟨_, _, _, g, rfl⟩ ?_ ?_⟩
      · rintro j env K' hj ⟨T, β, t, g, rfl⟩ hK'
        obtain ⟨q1, q2, _⟩ := hg T β g
        dsimp! [rg_len]
        by_cases h : w ≤ β i
        · push_cast [h]
          by_cases h0 : T i j = 0
          · push_cast [h0]
            exact hK' _ ⟨_, _, _, g, rfl⟩
          · push_cast [h0]
            have g' := q2 i j hi hj h h0
            refine pivot_go (by omega) (by omega) (by omega) (by omega) h0 q1 (fun l hl => ?_) ?_
            · have := (hg _ _ g').1 i l hi hl
              unfold MA.pv at this
              rwa [if_pos rfl] at this
            · push_cast [rg_len]
              refine sPut_go (n := m) (f := fun k => .int ((β k : Nat) : Int)) rfl i (.int (j : Nat)) (fun K h => by push_cast [rg_len]; exact h) (fun K h => by push_cast [rg_len]; exact h _) (by omega) ?_
              push_cast [rg_len]
              have e : (fun l => if l = i then D.int ((j : Nat) : Int) else .int ((β l : Nat) : Int)) = fun l => .int ((up β i j l : Nat) : Int) := funext fun l => by unfold up; split <;> rfl
              rw [e]
              exact hK' _ ⟨_, _, _, g', rfl⟩
        · push_cast [h]
          exact hK' _ ⟨_, _, _, g, rfl⟩
      · rintro env ⟨T, β, t, g, rfl⟩
        exact hK _ ⟨_, _, _, _, g, rfl⟩
    · push_cast [h]
      exact hK _ ⟨_, _, _, _, g, rfl⟩
  · rintro env ⟨T, β, s, t, g, rfl⟩
    push_cast [rg_len]
    exact (hg T β g).2.2
end BB
end
section
set_option maxRecDepth 100000
set_option exponentiation.threshold 100
set_option maxHeartbeats 4000000
/-! solve. -/
namespace BB
open PySem L2 MA
def S_solve : SpecT := fun ds k => ∃ (m N : Nat) (a : Nat → Nat → Rat) (b : Nat → Rat) (L : Nat → Nat), ds = [vec N (fun _ => 0), linesD m N a b] ∧ m ≤ 16 ∧ N ≤ 100 ∧ LPz m N a b L ∧
  (∀ (p : Nat → Rat) (d : Nat), 0 < d → d ≤ 2 ^ 2016 → (∀ l, l < m → Zs d (2 ^ 2022) (p l)) → (∀ l, l < m → 0 ≤ p l) → (∀ j, j < N → sm m (fun l => p l * a l j) ≤ 0) → 0 < sm m (fun l => p l * b l) → k (.tup [.str "nothing", vec m p])) ∧
  (∀ (x : Nat → Rat) (d : Nat) (v p : D), 0 < d → d ≤ 2 ^ 2016 → (∀ j, j < N → Zs d (2 ^ 2025) (x j)) → (∀ j, 0 ≤ x j) → (∀ i, i < m → b i ≤ sm N fun j => a i j * x j) → k (.tup [.str "end", v, vec N x, p]))
theorem hc_le_m (b : Nat → Rat) : ∀ m, hc b m ≤ m
  | 0 => Nat.le_refl _
  | m + 1 => by
    have := hc_le_m b m
    show hc b m + _ ≤ _
    split <;> omega
/-- the phases' state -/
def GoodI (m N : Nat) (a : Nat → Nat → Rat) (b : Nat → Rat) (L : Nat → Nat) (T : Nat → Nat → Rat) (β : Nat → Nat) : Prop :=
  Inv m (tot m N b) (A0 m N a b) (c0 m N b) T β ∧ DetOk m (A0 m N a b) (fun i => (L i : Rat)) β ∧ ∀ k, k < m → 0 ≤ T k (tot m N b)
theorem k_solve : Keeps n_solve a_solve (b_solve S_turned S_slack_columns S_helper_columns S_first_rows S_first_basis S_descend S_reduced S_less S_prices_of S_without_helpers S_values_of S_dot) S_solve := by
  rintro ds k ⟨m, N, a, b, L, rfl, hm, hN, hL, hk1, hk2⟩
  have hh := hc_le_m b m
  have htot : tot m N b = N + m + hc b m := rfl
  refine ⟨rfl, ?_⟩
  unfold linesD
  push_cast [b_solve, n_solve]
  refine ⟨by omega, comp_rg (fun i => tlD N a b i) (fun i K hi hK => ?_) ?_⟩
  · push_cast [rg_len]
    exact ⟨N, a, b, i, rfl, by omega, (hL i hi).2.2.2.sz (hL i hi).1 (Nat.lt_of_le_of_lt (hL i hi).2.1 (Nat.pow_lt_pow_right (by omega) (by omega))) (Nat.pow_lt_pow_right (by omega) (by omega)), by push_cast [rg_len]; exact hK⟩
  push_cast [rg_len]
  refine ⟨m, N, a, b, rfl, by omega, ?_⟩
  push_cast [rg_len]
  refine ⟨m, N, a, b, rfl, by omega, ?_⟩
  push_cast [rg_len]
  refine ⟨m, N, a, b, rfl, by omega, by omega, by omega, ?_⟩
  push_cast [rg_len]
  refine ⟨m, N, b, rfl, by omega, ?_⟩
  push_cast [rg_len]
  refine ⟨⟨by omega, by omega⟩, by omega, comp_rg (fun _ => fr 0) (fun j K hj hK => by push_cast [rg_len]; exact hK) ?_⟩
  rw [show ((tot m N b : Nat) : Int) - ((N + m : Nat) : Int) = ((hc b m : Nat) : Int) by omega]
  push_cast [rg_len]
  refine ⟨⟨by omega, by omega⟩, by omega, comp_rg (fun _ => fr 1) (fun j K hj hK => by push_cast [rg_len]; exact hK) ?_⟩
  rw [rg_app]
  have hfirst : (rg (N + m + hc b m) fun i => if i < N + m then fr 0 else fr 1) = rg (tot m N b) fun i => fr (c0 m N b i) := by
    refine rg_congr fun j hj => ?_
    unfold c0
    by_cases e : j < N + m
    · rw [if_pos e, if_neg (by omega)]
    · rw [if_neg e, if_pos (by omega)]
  rw [hfirst]
  refine ⟨by rw [rg_len]; omega, ?_⟩
  push_cast [rg_len]
  refine ⟨tot m N b, m, c0 m N b, A0 m N a b, B0 m N b, rfl, by omega, by omega, fun k hk => B0_lt hk, fun j _ => ?_, fun k j hk _ => ?_, fun i j hi _ => ?_, ?_⟩
  · rcases @c0_01 m N b j with e | e <;> rw [e]
    · exact sz0 _ (by omega)
    · exact sz1 _ (by omega)
  · exact (A0_Zs hL hk).sz (hL k hk).1 (Nat.lt_of_le_of_lt (hL k hk).2.1 (Nat.pow_lt_pow_right (by omega) (by omega))) (Nat.pow_lt_pow_right (by omega) (by omega))
  · unfold redF
    refine red_sz hL hm (fun k => c0_01 _) ?_ j hi
    split
    · exact c0_01 _
    · exact .inl rfl
  push_cast [rg_len]
  refine ⟨by omega, ?_⟩
  have hT0 : (rg m fun i => vec (tot m N b + 1) (A0 m N a b i)) ++ [vec (tot m N b + 1) (redF (tot m N b) (c0 m N b) (A0 m N a b) (B0 m N b) m)] = rg (m + 1) fun i => vec (tot m N b + 1) (T0 m N a b i) := by
    rw [rg_snoc]
    refine rg_congr fun i hi => ?_
    by_cases e : i < m
    · rw [if_pos e]; congr 1; funext j; unfold T0; rw [if_pos e]
    · rw [if_neg e]
      unfold vec
      congr 1
      refine rg_congr fun j hj => ?_
      congr 1
      unfold redF T0
      rw [if_neg e]
      congr 1
      by_cases q : j < tot m N b
      · rw [if_pos q]
      · rw [if_neg q, show j = tot m N b by omega, c0_n]
  unfold vec at hT0
  rw [hT0]
  refine ⟨m, tot m N b, N + m, T0 m N a b, B0 m N b, GoodI m N a b L, rfl, by omega, by omega, by omega, ⟨start_inv, start_det fun i hi => natCast_ne (hL i hi).1, start_feas⟩, fun T β g => ?_, fun T β r c g s h1 h2 => ?_⟩
  rotate_left
  · exact no_run ⟨by omega, fun p => (g p).1, fun p => (g p).2.2, s, h1, h2⟩
  obtain ⟨gi, gd, gf⟩ := g
  have gs := good_sz hL hm gi gd
  refine ⟨gs, fun k l hk hl e => gi.inj hk hl e, fun c hc hneg => leave_ex gi (by omega) hneg, fun r c st => ⟨gi.pv st.rm (by have := st.cw; omega) (by have := st.pos; grind), gd.pv gi st.rm (by have := st.cw; omega) (by have := st.pos; grind), feas_pv st gf⟩, fun hopt => ?_⟩
  push_cast [rg_len]
  rw [ix_last (by omega)]
  push_cast [rg_len]
  rw [show m + 1 - 1 = m by omega, ix_last (by omega)]
  push_cast [rg_len]
  rw [show tot m N b + 1 - 1 = tot m N b by omega]
  obtain ⟨d, hd0, hd1, hds⟩ := good_size hL hm gi gd
  refine less_go 2200 2200 (gs m _ (by omega) (by omega)) (sz0 _ (by omega)) (hk := ?_)
  by_cases hneg : T m (tot m N b) < 0
  · push_cast [hneg]
    rw [ix_last (by omega)]
    push_cast [rg_len]
    rw [show m + 1 - 1 = m by omega]
    refine ⟨m, N, tot m N b, a, b, T m, 1, rfl, rfl, by omega, sz1 _ (by omega), fun j hj => gs m j (by omega) hj, ?_⟩
    push_cast [rg_len]
    obtain ⟨f1, f2, f3⟩ := farkas gi (fun j hj => by have := hopt j hj; grind) hneg
    have e : (rg m fun l => fr (sgm b l * if 0 < b l then 1 - T m (N + m + hc b l) else -T m (N + l))) = rg m fun l => fr (pof m N b T l) := by
      refine rg_congr fun l hl => ?_
      unfold pof yof B0
      by_cases q : 0 < b l
      · have := hc_lt' hl q
        rw [if_pos q, if_pos q, show c0 m N b (N + m + hc b l) = 1 by unfold c0; rw [if_pos (by omega)]]
      · rw [if_neg q, if_neg q, c0_w (by omega), show 0 - T m (N + l) = -T m (N + l) by grind]
    rw [e]
    refine hk1 (pof m N b T) d hd0 hd1 (fun l hl => ?_) f1 f2 f3
    unfold pof
    refine Zs.sgm _ _ ?_
    unfold yof
    have h1 : Zs d d (c0 m N b (B0 m N b l)) := by
      rcases @c0_01 m N b (B0 m N b l) with e | e <;> rw [e]
      · exact Zs.zero
      · exact Zs.one (Nat.le_refl _)
    have h2 := hds m (B0 m N b l) (by omega) (Nat.le_of_lt (B0_lt hl))
    refine (h1.sub h2).mono ?_
    calc d + 2 ^ 2021 ≤ 2 ^ 2021 + 2 ^ 2021 := Nat.add_le_add_right (Nat.le_trans hd1 (Nat.pow_le_pow_right (by omega) (by omega))) _
      _ = 2 ^ 2022 := by rw [Nat.pow_succ 2 2021, Nat.mul_two]
  · push_cast [hneg]
    have hz := hz_of gi gf hneg
    have hcut : cut (rg (m + 1) fun i => vec (tot m N b + 1) (T i)) none (some (-1)) = rg m fun i => vec (tot m N b + 1) (T i) := by
      rw [cut_rg (l := 0) (h := m) rfl ?_ (by omega)]
      · exact rg_congr fun i hi => by rw [Nat.zero_add]
      · show (if (-1 : Int) < 0 then (-1 + ((m + 1 : Nat) : Int)).toNat else min (-1 : Int).toNat (m + 1)) = m
        rw [if_pos (by omega)]; omega
    unfold vec at hcut
    rw [hcut]
    refine ⟨m, tot m N b, N + m, T, β, fun T β => GoodI m N a b L T β ∧ HZ m N b T β, rfl, by omega, by omega, by omega, ⟨⟨gi, gd, gf⟩, hz⟩, fun T β g => ?_⟩
    obtain ⟨⟨gi, gd, gf⟩, hz⟩ := g
    have gs := good_sz hL hm gi gd
    refine ⟨fun k j hk hj => gs k j (by omega) hj, fun r c hr hc hw h0 => ?_, ?_⟩
    · have hr0 := hz r hr hw
      refine ⟨⟨gi.pv hr (by omega) h0, gd.pv gi hr (by omega) h0, fun k hk => by rw [rhs_pv hr0]; exact gf k hk⟩, fun k hk hkw => ?_⟩
      rw [rhs_pv hr0]
      unfold up at hkw
      by_cases e : k = r
      · rw [if_pos e] at hkw; omega
      · rw [if_neg e] at hkw; exact hz k hk hkw
    · push_cast [rg_len]
      rw [show ((tot m N b : Nat) : Int) - (N : Int) = ((m + hc b m : Nat) : Int) by omega]
      push_cast [rg_len]
      refine ⟨⟨by omega, by omega⟩, by omega, comp_rg (fun _ => fr 0) (fun j K hj hK => by push_cast [rg_len]; exact hK) ?_⟩
      rw [rg_app]
      have hsec : (rg (N + (m + hc b m)) fun i => if i < N then fr 0 else fr 0) = rg (tot m N b) fun i => fr ((fun _ => 0) i) := by
        rw [show N + (m + hc b m) = tot m N b by omega]
        refine rg_congr fun j hj => by split <;> rfl
      rw [hsec]
      refine ⟨by rw [rg_len]; omega, ?_⟩
      push_cast [rg_len]
      have hred : ∀ i j, redF (tot m N b) (fun _ => 0) T β i j = 0 := fun i j => by
        unfold redF
        rw [sm_zero fun l _ => Rat.zero_mul _]
        split <;> grind
      refine ⟨tot m N b, m, fun _ => 0, T, β, rfl, by omega, by omega, fun k hk => gi.lt k hk, fun j _ => sz0 _ (by omega), fun k j hk hj => gs k j (by omega) (by omega), fun i j _ _ => by rw [hred]; exact sz0 _ (by omega), ?_⟩
      push_cast [rg_len]
      refine ⟨by omega, ?_⟩
      let T2 : Nat → Nat → Rat := fun k j => if k < m then T k j else 0
      have hT2 : (rg m fun i => vec (tot m N b + 1) (T i)) ++ [vec (tot m N b + 1) (redF (tot m N b) (fun _ => 0) T β m)] = rg (m + 1) fun i => vec (tot m N b + 1) (T2 i) := by
        rw [rg_snoc]
        refine rg_congr fun i hi => ?_
        by_cases e : i < m
        · rw [if_pos e]; congr 1; funext j; show _ = if i < m then _ else _; rw [if_pos e]
        · rw [if_neg e]; congr 1; funext j; show _ = if i < m then _ else _; rw [if_neg e]; exact hred m j
      unfold vec at hT2
      rw [hT2]
      have h2m : ∀ j, T2 m j = 0 := fun j => by show (if m < m then _ else _) = _; rw [if_neg (by omega)]
      have h2k : ∀ k j, k < m → T2 k j = T k j := fun k j hk => by show (if k < m then _ else _) = _; rw [if_pos hk]
      refine ⟨m, tot m N b, N + m, T2, β, fun T' β' => T' = T2 ∧ β' = β, rfl, by omega, by omega, by omega, ⟨rfl, rfl⟩, ?_, fun T' β' r c g s h1 h2 => ?_⟩
      rotate_left
      · have hneg := (s 0).neg
        rw [(g 0).1, h2m] at hneg; grind
      rintro T' β' ⟨e1, e2⟩
      rw [e1, e2]
      refine ⟨fun k j hk hj => ?_, fun k l hk hl e => gi.inj hk hl e, fun c hc hneg => by rw [h2m] at hneg; grind, fun r c st => by have := st.neg; rw [h2m] at this; grind, fun _ => ?_⟩
      · by_cases e : k < m
        · rw [h2k k j e]; exact gs k j hk hj
        · rw [show k = m by omega, h2m]; exact sz0 _ (by omega)
      push_cast [rg_len]
      refine ⟨m + 1, m, tot m N b, N, T2, β, rfl, by omega, by omega, by omega, fun k l hk hl e => gi.inj hk hl e, ?_⟩
      push_cast [rg_len]
      have hx : ∀ j, xg m (tot m N b) T2 β j = xof m N b T β j := fun j => by
        unfold xg xof
        exact sm_congr fun k hk => by rw [h2k k _ hk]
      rw [show (fun i => fr (xg m (tot m N b) T2 β i)) = fun i => fr (xof m N b T β i) from funext fun i => by rw [hx]]
      obtain ⟨d, hd0, hd1, hds⟩ := good_size hL hm gi gd
      have hxs : ∀ j, Zs d (2 ^ 2025) (xof m N b T β j) := fun j => by
        unfold xof
        have h := Zs.sm (d := d) (M := 2 ^ 2021) (n := m) (f := fun k => if β k = j then T k (tot m N b) else 0) fun k hk => by
          split
          · exact hds k _ (by omega) (by omega)
          · exact Zs.zero
        refine h.mono ?_
        calc m * 2 ^ 2021 ≤ 2 ^ 4 * 2 ^ 2021 := Nat.mul_le_mul_right _ (by omega)
          _ = 2 ^ 2025 := by rw [← Nat.pow_add]
      have hxz : ∀ j, sz 2200 (xof m N b T β j) := fun j => (hxs j).sz hd0 (Nat.lt_of_le_of_lt hd1 (Nat.pow_lt_pow_right (by omega) (by omega))) (Nat.pow_lt_pow_right (by omega) (by omega))
      have hdz : ∀ i, (sm i fun l => (fun _ => (0 : Rat)) l * xof m N b T β l) = 0 := fun i => sm_zero fun l _ => Rat.zero_mul _
      refine ⟨N, fun _ => 0, xof m N b T β, rfl, by omega, fun i hi => ⟨sz0 _ (by omega), (hxz i).mono (by omega), ?_⟩, fun i _ => by rw [hdz]; exact sz0 _ (by omega), ?_⟩
      · rw [Rat.zero_mul]; exact sz0 _ (by omega)
      push_cast [rg_len]
      rw [ix_last (by omega)]
      push_cast [rg_len]
      rw [show m + 1 - 1 = m by omega]
      refine ⟨m, N, tot m N b, a, b, T2 m, 0, rfl, rfl, by omega, sz0 _ (by omega), fun j _ => by rw [h2m]; exact sz0 _ (by omega), ?_⟩
      push_cast [rg_len]
      exact hk2 (xof m N b T β) d _ _ hd0 hd1 (fun j _ => hxs j) (fun j => xof_nn gf j) fun i hi => values_ok gi gf hz hi
end BB
end
section
set_option maxRecDepth 100000
set_option exponentiation.threshold 100
set_option maxHeartbeats 4000000
/-! Data, points, excess, the lines. -/
namespace BB
open PySem L2 MA
structure Dt where
  g : Nat
  n : Nat
  nl : Nat
  P : Nat → Nat → Rat
  Am : Nat → Nat → Rat
  li : Nat → Nat
  lj : Nat → Nat
  ls : Nat → Bool
def buysD (t : Dt) : D := .lst (rg t.n fun i => .tup [vec t.g (t.P i), vec t.g (t.Am i)])
def linkD (t : Dt) (k : Nat) : D := .tup [.int (t.li k : Nat), .int (t.lj k : Nat), .bl (t.ls k)]
def linksD (t : Dt) : D := .lst (rg t.nl (linkD t))
def dataD (t : Dt) : D := .dat (.int (t.g : Nat)) (buysD t) (linksD t)
/-- a number of the data -/
def sn (r : Rat) : Prop := r.num.natAbs ≤ 2 ^ 40 ∧ r.den ≤ 2 ^ 10
structure Dt.Ok (t : Dt) : Prop where
  g1 : 1 ≤ t.g
  g2 : t.g ≤ 2
  n2 : t.n ≤ 2
  nl2 : t.nl ≤ 2
  li : ∀ k, k < t.nl → t.li k < t.n
  lj : ∀ k, k < t.nl → t.lj k < t.n
  P : ∀ i k, sn (t.P i k)
  Am : ∀ i k, sn (t.Am i k)
theorem sn.sz {r : Rat} (h : sn r) : sz 41 r := ⟨Nat.lt_of_le_of_lt h.1 (Nat.pow_lt_pow_right (by omega) (by omega)), Nat.lt_of_le_of_lt h.2 (Nat.pow_lt_pow_right (by omega) (by omega))⟩
theorem sz_add {e f : Nat} {a b : Rat} (ha : sz e a) (hb : sz f b) : sz (e + f + 1) (a + b) := by
  have h := (((Zs.self a).up b.den).add (by rw [Nat.mul_comm a.den]; exact (Zs.self b).up a.den)).le (Nat.mul_pos a.den_pos b.den_pos)
  have h1 := Nat.mul_lt_mul'' ha.1 hb.2
  have h2 := Nat.mul_lt_mul'' hb.1 ha.2
  have h3 := Nat.mul_lt_mul'' ha.2 hb.2
  rw [← Nat.pow_add] at h1 h2 h3
  rw [Nat.add_comm f e] at h2
  refine ⟨?_, ?_⟩
  · rw [Nat.pow_succ]; omega
  · rw [Nat.pow_succ]; omega
theorem sz_neg {e : Nat} {a : Rat} (h : sz e a) : sz e (-a) := by
  refine ⟨?_, h.2⟩
  rw [Rat.neg_num, Int.natAbs_neg]; exact h.1
theorem sz_sub {e f : Nat} {a b : Rat} (ha : sz e a) (hb : sz f b) : sz (e + f + 1) (a - b) := by
  rw [Rat.sub_eq_add_neg]; exact sz_add ha (sz_neg hb)
theorem sm_sz2 {e n : Nat} {f : Nat → Rat} (hn : n ≤ 2) (he : 0 < e) (h : ∀ i, i < n → sz e (f i)) : sz (2 * e + 1) (sm n f) := by
  match n, hn, h with
  | 0, _, _ => rw [sm_0]; exact sz0 _ (by omega)
  | 1, _, h => rw [sm_s, sm_0, Rat.zero_add]; exact (h 0 (by omega)).mono (by omega)
  | 2, _, h => rw [sm_s, sm_s, sm_0, Rat.zero_add]; exact (sz_add (h 0 (by omega)) (h 1 (by omega))).mono (by omega)
/-- a scalar product of at most two goods -/
theorem dot_go {n e f : Nat} {a b : Nat → Rat} {k : D → Prop} (hn : n ≤ 2) (he : 0 < e) (hf : 0 < f) (hef : 2 * (e + f) + 1 ≤ 4400) (h1 : ∀ i, i < n → sz e (a i)) (h2 : ∀ i, i < n → sz f (b i)) (hk : k (fr (sm n fun l => a l * b l))) : S_dot [vec n a, vec n b] k :=
  ⟨n, a, b, rfl, by omega, fun i hi => ⟨(h1 i hi).mono (by omega), (h2 i hi).mono (by omega), (sz_mul (h1 i hi) (h2 i hi)).mono (by omega)⟩, fun i hi => (sm_sz2 (e := e + f) (by omega) (by omega) fun l hl => sz_mul (h1 l (by omega)) (h2 l (by omega))).mono (by omega), hk⟩
def S_cost : SpecT := fun ds k => ∃ (n e f : Nat) (a b : Nat → Rat), ds = [vec n a, vec n b] ∧ n ≤ 2 ∧ 0 < e ∧ 0 < f ∧ 2 * (e + f) + 1 ≤ 4400 ∧ (∀ i, i < n → sz e (a i)) ∧ (∀ i, i < n → sz f (b i)) ∧ k (fr (sm n fun l => a l * b l))
theorem k_cost : Keeps n_cost a_cost (b_cost S_dot) S_cost := by
  rintro ds k ⟨n, e, f, a, b, rfl, hn, he, hf, hef, h1, h2, hk⟩
  refine ⟨rfl, ?_⟩
  push_cast [b_cost, n_cost]
  exact dot_go hn he hf hef h1 h2 (by push_cast [rg_len]; exact hk)
def spn (t : Dt) (i : Nat) : Rat := sm t.g fun l => t.P i l * t.Am i l
def S_spent : SpecT := fun ds k => ∃ (t : Dt) (i : Nat), ds = [dataD t, .int (i : Nat)] ∧ t.Ok ∧ i < t.n ∧ k (fr (spn t i))
theorem k_spent : Keeps n_spent a_spent (b_spent S_dot) S_spent := by
  rintro ds k ⟨t, i, rfl, ht, hi, hk⟩
  refine ⟨rfl, ?_⟩
  dsimp! [b_spent, n_spent, dataD, buysD]
  exact dot_go (e := 41) (f := 41) ht.g2 (by omega) (by omega) (by omega) (fun k _ => (ht.P i k).sz) (fun k _ => (ht.Am i k).sz) (by push_cast [rg_len]; exact hk)
def pt (t : Dt) (F S : Nat → Rat) (j : Nat) : Nat → Rat := if j < t.n then t.Am j else if j = t.n then F else S
def ptsD (t : Dt) (F S : Nat → Rat) : D := .lst (rg (t.n + 2) fun j => vec t.g (pt t F S j))
def S_points_of : SpecT := fun ds k => ∃ (t : Dt) (F S : Nat → Rat), ds = [dataD t, vec t.g F, vec t.g S] ∧ t.Ok ∧ k (ptsD t F S)
theorem k_points_of : Keeps n_points_of a_points_of b_points_of S_points_of := by
  rintro ds k ⟨t, F, S, rfl, ht, hk⟩
  have hn2 := ht.n2
  refine ⟨rfl, ?_⟩
  push_cast [b_points_of, n_points_of, dataD, buysD]
  refine ⟨by omega, comp_rg (fun i => vec t.g (t.Am i)) (fun i K hi hK => by push_cast [rg_len]; exact hK) ?_⟩
  refine ⟨by rw [rg_len]; omega, ?_⟩
  unfold ptsD at hk
  have : (rg t.n fun i => vec t.g (t.Am i)) ++ [vec t.g F, vec t.g S] = rg (t.n + 2) fun j => vec t.g (pt t F S j) := by
    rw [show [vec t.g F, vec t.g S] = [vec t.g F] ++ [vec t.g S] from rfl, ← List.append_assoc, rg_snoc, rg_snoc]
    refine rg_congr fun i hi => ?_
    unfold pt
    by_cases e : i < t.n
    · rw [if_pos (by omega), if_pos e, if_pos e]
    · by_cases e2 : i = t.n
      · rw [if_pos (by omega), if_neg e, if_neg e, if_pos e2]
      · rw [if_neg (by omega), if_neg e, if_neg e2]
  rw [← this] at hk
  unfold vec at hk
  exact hk
/-- the two baskets -/
structure Bk (F S : Nat → Rat) : Prop where
  F : ∀ k, sn (F k)
  S : ∀ k, sn (S k)
theorem pt_sn {t : Dt} {F S : Nat → Rat} (ht : t.Ok) (hb : Bk F S) (j k : Nat) : sn (pt t F S j k) := by
  unfold pt
  split
  · exact ht.Am j k
  · split
    · exact hb.F k
    · exact hb.S k
def exc (t : Dt) (F S : Nat → Rat) (i j : Nat) : Rat := (sm t.g fun l => t.P i l * pt t F S j l) - spn t i
theorem dot_sz {n : Nat} {a b : Nat → Rat} (hn : n ≤ 2) (h1 : ∀ k, sn (a k)) (h2 : ∀ k, sn (b k)) : sz 165 (sm n fun l => a l * b l) := (sm_sz2 (e := 82) hn (by omega) fun l _ => sz_mul (h1 l).sz (h2 l).sz).mono (by omega)
theorem exc_sz {t : Dt} {F S : Nat → Rat} (ht : t.Ok) (hb : Bk F S) (i j : Nat) : sz 331 (exc t F S i j) := by
  unfold exc spn
  exact sz_sub (dot_sz ht.g2 (ht.P i) (pt_sn ht hb j)) (dot_sz ht.g2 (ht.P i) (ht.Am i))
def S_excess : SpecT := fun ds k => ∃ (t : Dt) (F S : Nat → Rat) (i j : Nat), ds = [dataD t, ptsD t F S, .int (i : Nat), .int (j : Nat)] ∧ t.Ok ∧ Bk F S ∧ i < t.n ∧ j < t.n + 2 ∧ k (fr (exc t F S i j))
theorem k_excess : Keeps n_excess a_excess (b_excess S_sub S_spent S_cost) S_excess := by
  rintro ds k ⟨t, F, S, i, j, rfl, ht, hb, hi, hj, hk⟩
  refine ⟨rfl, ?_⟩
  dsimp! [b_excess, n_excess, dataD, buysD, ptsD]
  refine ⟨t.g, 41, 41, t.P i, pt t F S j, rfl, ht.g2, by omega, by omega, by omega, fun k _ => (ht.P i k).sz, fun k _ => (pt_sn ht hb j k).sz, ?_⟩
  push_cast [rg_len]
  refine ⟨t, i, rfl, ht, hi, ?_⟩
  push_cast [rg_len]
  refine sub_go 165 165 (dot_sz ht.g2 (ht.P i) (pt_sn ht hb j)) (dot_sz ht.g2 (ht.P i) (ht.Am i)) (hk := ?_)
  push_cast [rg_len]
  exact hk
def S_minus : SpecT := fun ds k => ∃ (n : Nat) (a b : Nat → Rat), ds = [vec n a, vec n b] ∧ n ≤ 2 ∧ (∀ i, sn (a i)) ∧ (∀ i, sn (b i)) ∧ k (vec n fun l => a l - b l)
theorem k_minus : Keeps n_minus a_minus (b_minus S_sub) S_minus := by
  rintro ds k ⟨n, a, b, rfl, hn, h1, h2, hk⟩
  refine ⟨rfl, ?_⟩
  push_cast [b_minus, n_minus]
  refine ⟨⟨by omega, by omega⟩, by omega, comp_rg (fun l => fr (a l - b l)) (fun i K hi hK => ?_) hk⟩
  dsimp! [rg_len]
  refine sub_go 41 41 (h1 i).sz (h2 i).sz (hk := ?_)
  push_cast [rg_len]
  exact hK
def S_total_of : SpecT := fun ds k => ∃ (n : Nat) (a : Nat → Rat), ds = [vec n a] ∧ n ≤ 2 ∧ (∀ i, i < n → sz 100 (a i)) ∧ k (fr (sm n a))
theorem k_total_of : Keeps n_total_of a_total_of (b_total_of S_add) S_total_of := by
  rintro ds k ⟨n, a, rfl, hn, h1, hk⟩
  refine ⟨rfl, ?_⟩
  push_cast [b_total_of, n_total_of]
  refine for_rg (fun i env => ∃ s, env = [.sh (vec n a), .sh (fr (sm i a)), s]) ⟨_, rfl⟩ ?_ ?_
  · rintro i env K hi ⟨s, rfl⟩ hK
    push_cast [rg_len]
    refine add_go 201 100 (sm_sz2 (by omega) (by omega) fun l hl => h1 l (by omega)) (h1 i hi) (hk := ?_)
    push_cast [rg_len]
    exact hK _ ⟨_, rfl⟩
  · rintro env ⟨s, rfl⟩
    push_cast [rg_len]
    exact hk
def nmA (i j v : Nat) : Rat := (if v = i then 1 else 0) - (if v = j then 1 else 0)
def S_number_entries : SpecT := fun ds k => ∃ (c i j : Nat), ds = [.int (c : Nat), .int (i : Nat), .int (j : Nat)] ∧ i < c ∧ j < c ∧ c ≤ 100 ∧ k (vec c (nmA i j))
theorem k_number_entries : Keeps n_number_entries a_number_entries (b_number_entries S_add S_sub) S_number_entries := by
  rintro ds k ⟨c, i, j, rfl, hi, hj, hc, hk⟩
  refine ⟨rfl, ?_⟩
  push_cast [b_number_entries, n_number_entries]
  refine ⟨⟨by omega, by omega⟩, by omega, comp_rg (fun _ => fr 0) (fun j K hj hK => by push_cast [rg_len]; exact hK) ?_⟩
  refine sPut_go (n := c) (f := fun _ => fr 0) rfl i (fr (0 + 1)) (fun K h => ?_) (fun K h => by push_cast [rg_len]; exact h _) hi ?_
  · dsimp! [rg_len]
    exact add_go 1 1 (sz0 _ (by omega)) (sz1 _ (by omega)) (hk := by push_cast [rg_len]; exact h)
  push_cast [rg_len]
  have e : ∀ v, (if v = i then fr (0 + 1) else fr 0) = fr (if v = i then 1 else 0) := fun v => by split <;> (congr 1; try grind)
  refine sPut_go (n := c) (f := fun v => if v = i then fr (0 + 1) else fr 0) rfl j (fr ((if j = i then 1 else 0) - 1)) (fun K h => ?_) (fun K h => by push_cast [rg_len]; exact h _) hj ?_
  · dsimp! [rg_len]
    rw [e]
    refine sub_go 1 1 ?_ (sz1 _ (by omega)) (hk := by push_cast [rg_len]; exact h)
    split
    · exact sz1 _ (by omega)
    · exact sz0 _ (by omega)
  push_cast [rg_len]
  have : (rg c fun l => if l = j then fr ((if j = i then 1 else 0) - 1) else if l = i then fr (0 + 1) else fr 0) = rg c fun l => fr (nmA i j l) := rg_congr fun l _ => by
    unfold nmA
    by_cases q : l = j
    · rw [if_pos q, if_pos q, q]
    · rw [if_neg q, if_neg q, e]; congr 1; grind
  rw [this]
  exact hk
def NN (t : Dt) : Nat := t.n + 2 + t.n + t.g + t.g
def pA (t : Dt) (F S : Nat → Rat) (i j v : Nat) : Rat :=
  if v < t.n + 2 then nmA i j v else if v < t.n + 2 + t.n then (if i < t.n ∧ v = t.n + 2 + i then exc t F S i j else 0)
  else if v < t.n + 2 + t.n + t.g then (if i = t.n then pt t F S j (v - (t.n + 2 + t.n)) - pt t F S i (v - (t.n + 2 + t.n)) else 0)
  else if i = t.n + 1 then pt t F S j (v - (t.n + 2 + t.n + t.g)) - pt t F S i (v - (t.n + 2 + t.n + t.g)) else 0
def pM (t : Dt) (F S : Nat → Rat) (i j : Nat) : Rat := if i < t.n then exc t F S i j else sm t.g fun l => pt t F S j l - pt t F S i l
def S_pair_line : SpecT := fun ds k => ∃ (t : Dt) (F S : Nat → Rat) (i j : Nat), ds = [dataD t, ptsD t F S, .int (i : Nat), .int (j : Nat)] ∧ t.Ok ∧ Bk F S ∧ i < t.n + 2 ∧ j < t.n + 2 ∧ k (.tup [vec (NN t) (pA t F S i j), .str "least", fr (-pM t F S i j)])
theorem k_pair_line : Keeps n_pair_line a_pair_line (b_pair_line S_excess S_minus S_total_of S_number_entries S_neg) S_pair_line := by
  rintro ds k ⟨t, F, S, i, j, rfl, ht, hb, hi, hj, hk⟩
  have hg1 := ht.g1
  have hg2 := ht.g2
  have hn2 := ht.n2
  refine ⟨rfl, ?_⟩
  dsimp! [b_pair_line, n_pair_line]
  unfold dataD buysD ptsD
  dsimp! [rg_len]
  refine ⟨⟨by omega, by omega⟩, by omega, comp_rg (fun _ => fr 0) (fun j K hj hK => by push_cast [rg_len]; exact hK) ?_⟩
  refine ⟨⟨by omega, by omega⟩, by omega, comp_rg (fun _ => fr 0) (fun j K hj hK => by push_cast [rg_len]; exact hK) ?_⟩
  refine ⟨⟨by omega, by omega⟩, by omega, comp_rg (fun _ => fr 0) (fun j K hj hK => by push_cast [rg_len]; exact hK) ?_⟩
  push_cast [rg_len]
  have fin : ∀ (w s0 s1 : Nat → Rat), (∀ v, v < t.n + 2 → True) →
      (∀ l, l < t.n → w l = if i < t.n ∧ l = i then exc t F S i j else 0) → (∀ l, l < t.g → s0 l = if i = t.n then pt t F S j l - pt t F S i l else 0) → (∀ l, l < t.g → s1 l = if i = t.n + 1 then pt t F S j l - pt t F S i l else 0) →
      (((rg (t.n + 2) fun v => fr (nmA i j v)) ++ rg t.n fun l => fr (w l)) ++ rg t.g fun l => fr (s0 l)) ++ (rg t.g fun l => fr (s1 l)) = rg (NN t) fun v => fr (pA t F S i j v) := by
    intro w s0 s1 _ h1 h2 h3
    rw [rg_app, rg_app, rg_app]
    refine rg_congr fun v hv => ?_
    unfold NN at hv
    unfold pA
    by_cases e1 : v < t.n + 2
    · rw [if_pos (by omega), if_pos (by omega), if_pos e1, if_pos e1]
    · by_cases e2 : v < t.n + 2 + t.n
      · rw [if_pos (by omega), if_pos e2, if_neg e1, if_neg e1, if_pos e2, h1 _ (by omega)]
        congr 1
        by_cases q : i < t.n ∧ v = t.n + 2 + i
        · rw [if_pos q, if_pos ⟨q.1, by omega⟩]
        · rw [if_neg q, if_neg fun q' => q ⟨q'.1, by omega⟩]
      · by_cases e3 : v < t.n + 2 + t.n + t.g
        · rw [if_pos e3, if_neg e2, if_neg e1, if_neg e2, if_pos e3, h2 _ (by omega)]
        · rw [if_neg e3, if_neg e1, if_neg e2, if_neg e3, h3 _ (by omega)]
  have hsp : ∀ i' : Nat, ((i' : Nat) : Int) < (t.n : Nat) ↔ i' < t.n := fun i' => by omega
  by_cases h : i < t.n
  · push_cast [h]
    refine sPut_go (n := t.n) (f := fun _ => fr 0) rfl i (fr (exc t F S i j)) (fun K h' => ?_) (fun K h => by push_cast [rg_len]; exact h _) h ?_
    · push_cast [rg_len]
      exact ⟨t, F, S, i, j, rfl, ht, hb, h, hj, by push_cast [rg_len]; exact h'⟩
    dsimp! [rg_len]
    refine ⟨t.n + 2, i, j, rfl, by omega, by omega, by omega, ?_⟩
    push_cast [rg_len]
    rw [ix_go (d := .lst (rg t.g fun _ => fr 0)) (.inl rfl) rfl, ]
    push_cast [rg_len]
    rw [ix_go (d := .lst (rg t.g fun _ => fr 0)) (.inl rfl) rfl, ]
    push_cast [rg_len]
    refine ⟨by omega, by omega, by omega, ?_⟩
    rw [show (fun l => if l = i then fr (exc t F S i j) else fr 0) = fun l => fr (if l = i then exc t F S i j else 0) from funext fun l => by split <;> rfl]
    have hw : ∀ l, l < t.n → (if l = i then exc t F S i j else 0) = if i < t.n ∧ l = i then exc t F S i j else 0 := fun l hl => by
      by_cases q : l = i
      · rw [if_pos q, if_pos ⟨h, q⟩]
      · rw [if_neg q, if_neg fun q' => q q'.2]
    rw [fin (fun l => if l = i then exc t F S i j else 0) (fun _ => 0) (fun _ => 0) (fun _ _ => trivial) hw (fun l hl => by rw [if_neg (by omega)]) (fun l hl => by rw [if_neg (by omega)])]
    dsimp! [rg_len]
    refine neg_go ?_
    push_cast [rg_len]
    unfold pM at hk
    rw [if_pos h] at hk
    exact hk
  · push_cast [h]
    have hd : ((i : Nat) : Int) - ((t.n : Nat) : Int) = ((i - t.n : Nat) : Int) := by omega
    have hl2 : ∀ f : Nat → D, [f 0, f 1] = rg 2 f := fun f => rfl
    rw [show [D.lst (rg t.g fun x => fr 0), D.lst (rg t.g fun x => fr 0)] = rg 2 fun _ => D.lst (rg t.g fun x => fr 0) from rfl]
    refine sPut_go (n := 2) (f := fun _ => .lst (rg t.g fun _ => fr 0)) rfl (i - t.n) (vec t.g fun l => pt t F S j l - pt t F S i l) (fun K h' => ?_) (fun K h => by push_cast [rg_len]; rw [hd]; exact h _) (by omega) ?_
    · dsimp! [rg_len]
      exact ⟨t.g, pt t F S j, pt t F S i, rfl, hg2, pt_sn ht hb j, pt_sn ht hb i, by push_cast [rg_len]; exact h'⟩
    dsimp! [rg_len]
    rw [hd]
    dsimp! [rg_len]
    refine ⟨t.g, fun l => pt t F S j l - pt t F S i l, rfl, hg2, fun l _ => (sz_sub (pt_sn ht hb j l).sz (pt_sn ht hb i l).sz).mono (by omega), ?_⟩
    push_cast [rg_len]
    refine ⟨t.n + 2, i, j, rfl, by omega, by omega, by omega, ?_⟩
    push_cast [rg_len]
    rw [show (0 : Int) = ((0 : Nat) : Int) from rfl, show (1 : Int) = ((1 : Nat) : Int) from rfl]
    dsimp! [rg_len]
    rw [show (if (0 : Nat) = i - t.n then D.lst (rg t.g fun l => fr (pt t F S j l - pt t F S i l)) else .lst (rg t.g fun _ => fr 0)) = .lst (rg t.g fun l => fr (if i = t.n then pt t F S j l - pt t F S i l else 0)) by
      by_cases q : i = t.n
      · rw [if_pos (by omega)]; congr 1; exact rg_congr fun l _ => by rw [if_pos q]
      · rw [if_neg (by omega)]; congr 1; exact rg_congr fun l _ => by rw [if_neg q]]
    rw [show (if (1 : Nat) = i - t.n then D.lst (rg t.g fun l => fr (pt t F S j l - pt t F S i l)) else .lst (rg t.g fun _ => fr 0)) = .lst (rg t.g fun l => fr (if i = t.n + 1 then pt t F S j l - pt t F S i l else 0)) by
      by_cases q : i = t.n + 1
      · rw [if_pos (by omega)]; congr 1; exact rg_congr fun l _ => by rw [if_pos q]
      · rw [if_neg (by omega)]; congr 1; exact rg_congr fun l _ => by rw [if_neg q]]
    push_cast [rg_len]
    refine ⟨by omega, by omega, by omega, ?_⟩
    rw [fin (fun _ => 0) (fun l => if i = t.n then pt t F S j l - pt t F S i l else 0) (fun l => if i = t.n + 1 then pt t F S j l - pt t F S i l else 0) (fun _ _ => trivial) (fun l hl => by rw [if_neg (by omega)]) (fun l hl => rfl) (fun l hl => rfl)]
    refine neg_go ?_
    push_cast [rg_len]
    unfold pM at hk
    rw [if_neg h] at hk
    exact hk
end BB
end
section
set_option maxRecDepth 100000
set_option exponentiation.threshold 100
set_option maxHeartbeats 4000000
/-! goal_pairs, liking_lines, refusal_from, liking_from. -/
namespace BB
open PySem L2 MA
inductive Gl where
  | fi | al | se
deriving DecidableEq
def Gl.s : Gl → Str
  | .fi => "first"
  | .al => "alike"
  | .se => "second"
def ng : Gl → Nat
  | .fi => 1
  | .al => 2
  | .se => 1
def gb (n : Nat) : Gl → Nat → Nat
  | .fi, _ => n
  | .se, _ => n + 1
  | .al, 0 => n + 1
  | .al, _ + 1 => n
def gw (n : Nat) : Gl → Nat → Nat
  | .fi, _ => n + 1
  | .se, _ => n
  | .al, 0 => n
  | .al, _ + 1 => n + 1
def gpD (n : Nat) (go : Gl) : D := .lst (rg (ng go) fun k => .tup [.int (gb n go k : Nat), .int (gw n go k : Nat)])
def S_goal_pairs : SpecT := fun ds k => ∃ (n : Nat) (go : Gl), ds = [.int (n : Nat), .str go.s] ∧ k (gpD n go)
theorem k_goal_pairs : Keeps n_goal_pairs a_goal_pairs b_goal_pairs S_goal_pairs := by
  rintro ds k ⟨n, go, rfl, hk⟩
  refine ⟨rfl, ?_⟩
  cases go
  · push_cast [b_goal_pairs, n_goal_pairs, Gl.s]
    exact hk
  · have h1 : ¬ (("alike" : Str) = "first") := by decide
    have h2 : ¬ (("alike" : Str) = "second") := by decide
    push_cast [b_goal_pairs, n_goal_pairs, Gl.s, h1, h2]
    exact hk
  · have h1 : ¬ (("second" : Str) = "first") := by decide
    push_cast [b_goal_pairs, n_goal_pairs, Gl.s, h1]
    exact hk
def nmE (t : Dt) (i j v : Nat) : Rat := if v < t.n + 2 then nmA i j v else 0
def qq (t : Dt) : Nat := (t.n + 2) * (t.n + 1)
def mm (t : Dt) (go : Gl) : Nat := qq t + t.nl + ng go
def aF (t : Dt) (F S : Nat → Rat) (go : Gl) (l v : Nat) : Rat :=
  if l < qq t then pA t F S (l / (t.n + 1)) (sk (l / (t.n + 1)) (l % (t.n + 1))) v
  else if l < qq t + t.nl then nmE t (t.li (l - qq t)) (t.lj (l - qq t)) v
  else nmE t (gb t.n go (l - (qq t + t.nl))) (gw t.n go (l - (qq t + t.nl))) v
def bF (t : Dt) (F S : Nat → Rat) (go : Gl) (l : Nat) : Rat :=
  if l < qq t then - pM t F S (l / (t.n + 1)) (sk (l / (t.n + 1)) (l % (t.n + 1)))
  else if l < qq t + t.nl then (if t.ls (l - qq t) then 1 else 0)
  else if go = .al then 0 else 1
theorem un_lt {n i j : Nat} (hi : i < n + 2) (hj : j < n + 2) (h : j ≠ i) : un i j < n + 1 := by unfold un; split <;> omega
theorem sk_un' {i j : Nat} (h : j ≠ i) : sk i (un i j) = j := (sk_un h).mpr rfl
theorem ix_div {n i u : Nat} (h : u < n + 1) : (i * (n + 1) + u) / (n + 1) = i := by
  rw [Nat.mul_comm, Nat.mul_add_div (by omega), Nat.div_eq_of_lt h, Nat.add_zero]
theorem ix_mod {n i u : Nat} (h : u < n + 1) : (i * (n + 1) + u) % (n + 1) = u := by
  rw [Nat.mul_comm, Nat.mul_add_mod, Nat.mod_eq_of_lt h]
theorem ix_lt {t : Dt} {i u : Nat} (hi : i < t.n + 2) (h : u < t.n + 1) : i * (t.n + 1) + u < qq t := by
  unfold qq
  have := Nat.mul_le_mul_right (t.n + 1) (show i + 1 ≤ t.n + 2 by omega)
  rw [Nat.succ_mul] at this
  omega
theorem gb_lt (n : Nat) (go : Gl) (k : Nat) : gb n go k < n + 2 := by
  cases go <;> cases k <;> simp only [gb] <;> omega
theorem gw_lt (n : Nat) (go : Gl) (k : Nat) : gw n go k < n + 2 := by
  cases go <;> cases k <;> simp only [gw] <;> omega
theorem ng_le (go : Gl) : ng go ≤ 2 := by cases go <;> simp only [ng] <;> omega
theorem qq_le {t : Dt} (ht : t.Ok) : qq t ≤ 12 := by
  unfold qq
  have := Nat.mul_le_mul (show t.n + 2 ≤ 4 by have := ht.n2; omega) (show t.n + 1 ≤ 3 by have := ht.n2; omega)
  omega
theorem mm_le {t : Dt} (ht : t.Ok) (go : Gl) : mm t go ≤ 16 := by
  have := qq_le ht
  have := ng_le go
  have := ht.nl2
  unfold mm; omega
def LF (t : Dt) (F S : Nat → Rat) (go : Gl) (l : Nat) : D := lineD (NN t) (aF t F S go) (bF t F S go) l
def S_liking_lines : SpecT := fun ds k => ∃ (t : Dt) (F S : Nat → Rat) (go : Gl), ds = [dataD t, ptsD t F S, .str go.s] ∧ t.Ok ∧ Bk F S ∧ k (linesD (mm t go) (NN t) (aF t F S go) (bF t F S go))
theorem nm_app (t : Dt) (i j : Nat) : ((rg (t.n + 2) fun v => fr (nmA i j v)) ++ rg (t.n + t.g + t.g) fun _ => fr 0) = rg (NN t) fun v => fr (nmE t i j v) := by
  rw [rg_app, show t.n + 2 + (t.n + t.g + t.g) = NN t by unfold NN; omega]
  refine rg_congr fun v _ => ?_
  unfold nmE
  by_cases e : v < t.n + 2
  · rw [if_pos e, if_pos e]
  · rw [if_neg e, if_neg e]
theorem k_liking_lines : Keeps n_liking_lines a_liking_lines (b_liking_lines S_pair_line S_number_entries S_goal_pairs) S_liking_lines := by
  rintro ds k ⟨t, F, S, go, rfl, ht, hb, hk⟩
  have hg1 := ht.g1
  have hg2 := ht.g2
  have hn2 := ht.n2
  have hl2 := ht.nl2
  have hqq := qq_le ht
  have hng := ng_le go
  refine ⟨rfl, ?_⟩
  push_cast [b_liking_lines, n_liking_lines]
  unfold dataD ptsD
  push_cast [rg_len]
  unfold buysD
  push_cast [rg_len]
  rw [ix_last (by omega)]
  push_cast [rg_len]
  refine ⟨.inl (.inl (by decide)), ?_⟩
  rw [show ((t.n : Nat) : Int) + 2 * ((t.g : Nat) : Int) = ((t.n + t.g + t.g : Nat) : Int) by omega]
  push_cast [rg_len]
  refine ⟨⟨by omega, by omega⟩, by omega, comp_rg (fun _ => fr 0) (fun j K hj hK => by push_cast [rg_len]; exact hK) ?_⟩
  refine ⟨⟨by omega, by omega⟩, for_rg (fun i env => ∃ s6 s7 s8 s9 s10, env = [.sh (dataD t), .sh (ptsD t F S), .sh (.str go.s), .sh (.int (t.n + 2 : Nat)), .sh (.lst (rg (t.n + t.g + t.g) fun _ => fr 0)), .ow (rg (i * (t.n + 1)) (LF t F S go)), s6, s7, s8, s9, s10, .no]) ⟨.no, .no, .no, .no, .no, by rw [Nat.zero_mul]; rfl⟩ ?_ ?_⟩
  · rintro i env K hi ⟨s6, s7, s8, s9, s10, rfl⟩ hK
    push_cast [rg_len]
    refine ⟨⟨by omega, by omega⟩, for_rg (fun j env => ∃ s7, env = [.sh (dataD t), .sh (ptsD t F S), .sh (.str go.s), .sh (.int (t.n + 2 : Nat)), .sh (.lst (rg (t.n + t.g + t.g) fun _ => fr 0)), .ow (rg (i * (t.n + 1) + if j ≤ i then j else j - 1) (LF t F S go)), .sh (.int (i : Nat)), s7, s8, s9, s10, .no]) ⟨s7, by rw [if_pos (by omega)]; rfl⟩ ?_ ?_⟩
    · rintro j env K' hj ⟨s7, rfl⟩ hK'
      push_cast [rg_len]
      by_cases e : i = j
      · subst e
        push_cast [rg_len]
        refine hK' _ ⟨_, by rw [if_pos (by omega), if_neg (by omega)]; rfl⟩
      · push_cast [e]
        refine ⟨t, F, S, i, j, rfl, ht, hb, hi, hj, ?_⟩
        have hu := un_lt hi hj (Ne.symm e)
        have hlt := ix_lt (t := t) hi hu
        have e1 : (if j ≤ i then j else j - 1) = un i j := by unfold un; split <;> split <;> omega
        have e2 : (if j + 1 ≤ i then j + 1 else j + 1 - 1) = un i j + 1 := by unfold un; split <;> split <;> omega
        push_cast [rg_len]
        have hl : LF t F S go (i * (t.n + 1) + un i j) = .tup [.lst (rg (NN t) fun v => fr (pA t F S i j v)), .str "least", fr (-pM t F S i j)] := by
          unfold LF lineD bF
          rw [if_pos hlt, ix_div hu, ix_mod hu, sk_un' (Ne.symm e)]
          congr 2
          unfold vec
          congr 1
          refine rg_congr fun v _ => ?_
          unfold aF
          rw [if_pos hlt, ix_div hu, ix_mod hu, sk_un' (Ne.symm e)]
        refine ⟨by rw [e1]; omega, hK' _ ⟨_, by rw [e1, e2, ← Nat.add_assoc, ← rg_succ, hl]⟩⟩
    · rintro env ⟨s7, rfl⟩
      refine hK _ ⟨_, _, _, _, _, by rw [if_neg (by omega), show i * (t.n + 1) + (t.n + 2 - 1) = (i + 1) * (t.n + 1) by rw [Nat.succ_mul]; rfl]⟩
  · rintro env ⟨s6, s7, s8, s9, s10, rfl⟩
    push_cast [rg_len]
    unfold dataD linksD
    push_cast [rg_len]
    refine for_rg (fun i env => ∃ s6 s7 s8 s9 s10, env = [.sh (dataD t), .sh (ptsD t F S), .sh (.str go.s), .sh (.int (t.n + 2 : Nat)), .sh (.lst (rg (t.n + t.g + t.g) fun _ => fr 0)), .ow (rg (qq t + i) (LF t F S go)), s6, s7, s8, s9, s10, .no]) ⟨_, _, _, _, _, rfl⟩ ?_ ?_
    · rintro i env K hi ⟨s6, s7, s8, s9, s10, rfl⟩ hK
      push_cast [linkD]
      refine ⟨t.n + 2, t.li i, t.lj i, rfl, by have := ht.li i hi; omega, by have := ht.lj i hi; omega, by omega, ?_⟩
      push_cast [rg_len]
      rw [nm_app]
      have hl : LF t F S go (qq t + i) = .tup [.lst (rg (NN t) fun v => fr (nmE t (t.li i) (t.lj i) v)), .str "least", fr (if t.ls i then 1 else 0)] := by
        unfold LF lineD bF
        rw [if_neg (by omega), if_pos (by omega), show qq t + i - qq t = i by omega]
        congr 2
        unfold vec
        congr 1
        refine rg_congr fun v _ => ?_
        unfold aF
        rw [if_neg (by omega), if_pos (by omega), show qq t + i - qq t = i by omega]
      refine ⟨by omega, ?_⟩
      cases hls : t.ls i
      · push_cast [rg_len]
        refine ⟨by omega, hK _ ⟨_, _, _, _, _, by rw [← Nat.add_assoc, ← rg_succ, hl, hls]; rfl⟩⟩
      · push_cast [rg_len]
        refine ⟨by omega, hK _ ⟨_, _, _, _, _, by rw [← Nat.add_assoc, ← rg_succ, hl, hls]; rfl⟩⟩
    · rintro env ⟨s6, s7, s8, s9, s10, rfl⟩
      push_cast [rg_len]
      unfold dataD buysD
      push_cast [rg_len]
      refine ⟨t.n, go, rfl, ?_⟩
      unfold gpD
      push_cast [rg_len]
      refine for_rg (fun i env => ∃ s6 s7 s8 s9 s10, env = [.sh (dataD t), .sh (ptsD t F S), .sh (.str go.s), .sh (.int (t.n + 2 : Nat)), .sh (.lst (rg (t.n + t.g + t.g) fun _ => fr 0)), .ow (rg (qq t + t.nl + i) (LF t F S go)), s6, s7, s8, s9, s10, .no]) ⟨_, _, _, _, _, rfl⟩ ?_ ?_
      · rintro i env K hi ⟨s6, s7, s8, s9, s10, rfl⟩ hK
        push_cast [rg_len]
        refine ⟨t.n + 2, gb t.n go i, gw t.n go i, rfl, gb_lt _ _ _, gw_lt _ _ _, by omega, ?_⟩
        push_cast [rg_len]
        rw [nm_app]
        have hl : LF t F S go (qq t + t.nl + i) = .tup [.lst (rg (NN t) fun v => fr (nmE t (gb t.n go i) (gw t.n go i) v)), .str "least", fr (if go = .al then 0 else 1)] := by
          unfold LF lineD bF
          rw [if_neg (by omega), if_neg (by omega)]
          congr 2
          unfold vec
          congr 1
          refine rg_congr fun v _ => ?_
          unfold aF
          rw [if_neg (by omega), if_neg (by omega), show qq t + t.nl + i - (qq t + t.nl) = i by omega]
        refine ⟨by omega, ?_⟩
        cases hgo : go
        · have h1 : ¬ (("first" : Str) = "alike") := by decide
          push_cast [Gl.s, h1]
          refine ⟨by omega, hK _ ⟨_, _, _, _, _, by rw [← Nat.add_assoc, ← rg_succ, hl, hgo]; rfl⟩⟩
        · push_cast [Gl.s]
          refine ⟨by omega, hK _ ⟨_, _, _, _, _, by rw [← Nat.add_assoc, ← rg_succ, hl, hgo]; rfl⟩⟩
        · have h1 : ¬ (("second" : Str) = "alike") := by decide
          push_cast [Gl.s, h1]
          refine ⟨by omega, hK _ ⟨_, _, _, _, _, by rw [← Nat.add_assoc, ← rg_succ, hl, hgo]; rfl⟩⟩
      · rintro env ⟨s6, s7, s8, s9, s10, rfl⟩
        push_cast [rg_len]
        exact hk
def Pof (t : Dt) (p : Nat → Rat) (i j : Nat) : Rat := if i = j then 0 else p (i * (t.n + 1) + un i j)
def refD (t : Dt) (ngo : Nat) (P : Nat → Nat → Rat) (Q G : Nat → Rat) : D := .tup [mat (t.n + 2) (t.n + 2) P, vec t.nl Q, vec ngo G]
def S_refusal_from : SpecT := fun ds k => ∃ (t : Dt) (go : Gl) (p : Nat → Rat), ds = [dataD t, .int (t.n + 2 : Nat), vec (mm t go) p] ∧ t.Ok ∧ k (refD t (ng go) (Pof t p) (fun l => p (qq t + l)) (fun l => p (qq t + t.nl + l)))
theorem sIx_yes (n d k : Nat) : HT.sIx n d (some (k : Int)) = min k n := HT.sIx_nat n d k
theorem k_refusal_from : Keeps n_refusal_from a_refusal_from b_refusal_from S_refusal_from := by
  rintro ds k ⟨t, go, p, rfl, ht, hk⟩
  have hn2 := ht.n2
  have hqq := qq_le ht
  have hmm : mm t go = qq t + t.nl + ng go := rfl
  refine ⟨rfl, ?_⟩
  push_cast [b_refusal_from, n_refusal_from]
  refine ⟨⟨by omega, by omega⟩, for_rg (fun i env => ∃ s5 s6 s7, env = [.sh (dataD t), .sh (.int (t.n + 2 : Nat)), .sh (vec (mm t go) p), .ow (rg i fun i => vec (t.n + 2) (Pof t p i)), .sh (.int ((i * (t.n + 1) : Nat) : Int)), s5, s6, s7]) ⟨.no, .no, .no, by rw [Nat.zero_mul]; rfl⟩ ?_ ?_⟩
  · rintro i env K hi ⟨s5, s6, s7, rfl⟩ hK
    push_cast [rg_len]
    refine ⟨⟨by omega, by omega⟩, for_rg (fun j env => ∃ s7, env = [.sh (dataD t), .sh (.int (t.n + 2 : Nat)), .sh (vec (mm t go) p), .ow (rg i fun i => vec (t.n + 2) (Pof t p i)), .sh (.int ((i * (t.n + 1) + (if j ≤ i then j else j - 1) : Nat) : Int)), .sh (.int (i : Nat)), .ow (rg j fun j => fr (Pof t p i j)), s7]) ⟨s7, by rw [if_pos (by omega)]; rfl⟩ ?_ ?_⟩
    · rintro j env K' hj ⟨s7, rfl⟩ hK'
      push_cast [rg_len]
      by_cases e : i = j
      · subst e
        push_cast [rg_len]
        refine ⟨by omega, hK' _ ⟨_, by rw [if_pos (by omega), if_neg (by omega), ← rg_succ, show Pof t p i i = 0 by unfold Pof; rw [if_pos rfl]]; rfl⟩⟩
      · have hu := un_lt hi hj (Ne.symm e)
        have hlt := ix_lt (t := t) hi hu
        have e1 : (if j ≤ i then j else j - 1) = un i j := by unfold un; split <;> split <;> omega
        have e2 : (if j + 1 ≤ i then j + 1 else j + 1 - 1) = un i j + 1 := by unfold un; split <;> split <;> omega
        rw [e1]
        dsimp! [e]
        refine ⟨by omega, hK' _ ⟨_, by rw [e2, ← rg_succ, show Pof t p i j = p (i * (t.n + 1) + un i j) by unfold Pof; rw [if_neg e]]; rfl⟩⟩
    · rintro env ⟨s7, rfl⟩
      push_cast [rg_len]
      refine ⟨by omega, hK _ ⟨_, _, _, by rw [if_neg (by omega), ← rg_succ i, Nat.succ_mul]; rfl⟩⟩
  · rintro env ⟨s5, s6, s7, rfl⟩
    push_cast [rg_len]
    unfold dataD linksD
    push_cast [rg_len]
    rw [← Int.natCast_add]
    rw [cut_rg (l := qq t) (h := qq t + t.nl) (by rw [sIx_yes]; show min (qq t) _ = _; omega) (by rw [sIx_yes]; show min (qq t + t.nl) _ = _; omega) (by omega),
      cut_rg (l := qq t + t.nl) (h := mm t go) (by rw [sIx_yes]; show min (qq t + t.nl) _ = _; omega) rfl (by omega)]
    rw [show qq t + t.nl - qq t = t.nl by omega, show mm t go - (qq t + t.nl) = ng go by omega]
    exact hk
def likD (t : Dt) (U W : Nat → Rat) (Sl : Nat → Nat → Rat) : D := .tup [vec (t.n + 2) U, vec t.n W, .lst [vec t.g (Sl 0), vec t.g (Sl 1)]]
def S_liking_from : SpecT := fun ds k => ∃ (t : Dt) (x : Nat → Rat), ds = [dataD t, .int (t.g : Nat), vec (NN t) x] ∧ t.Ok ∧ (∀ j, j < NN t → sz 2200 (x j)) ∧
  k (likD t x (fun i => x (t.n + 2 + i) + 1) (fun b l => x (t.n + 2 + t.n + b * t.g + l) + 1))
theorem k_liking_from : Keeps n_liking_from a_liking_from (b_liking_from S_add) S_liking_from := by
  rintro ds k ⟨t, x, rfl, ht, hx, hk⟩
  have hn2 := ht.n2
  have hg2 := ht.g2
  have hN : NN t = t.n + 2 + t.n + t.g + t.g := rfl
  refine ⟨rfl, ?_⟩
  push_cast [b_liking_from, n_liking_from]
  unfold dataD buysD
  push_cast [rg_len]
  rw [show ((t.n : Nat) : Int) + 2 = ((t.n + 2 : Nat) : Int) by omega]
  rw [cut_rg (l := t.n + 2) (h := NN t) (by rw [sIx_yes]; omega) rfl (by omega)]
  push_cast [rg_len]
  refine ⟨by omega, comp_rg (fun i => fr (x (t.n + 2 + i) + 1)) (fun i K hi hK => ?_) ?_⟩
  · push_cast [rg_len]
    exact add_go 2200 1 (hx _ (by omega)) (sz1 _ (by omega)) (hk := by push_cast [rg_len]; exact hK)
  · have c1 : cut (rg (NN t - (t.n + 2)) fun i => fr (x (t.n + 2 + i) + 1)) (some ((t.n : Nat) : Int)) none = _ := cut_rg (l := t.n) (h := NN t - (t.n + 2)) (by rw [sIx_yes]; omega) rfl (by omega)
    have c2 : cut (rg (NN t) fun i => fr (x i)) none (some ((t.n + 2 : Nat) : Int)) = _ := cut_rg (l := 0) (h := t.n + 2) rfl (by rw [sIx_yes]; omega) (by omega)
    have c3 : cut (rg (NN t - (t.n + 2)) fun i => fr (x (t.n + 2 + i) + 1)) none (some ((t.n : Nat) : Int)) = _ := cut_rg (l := 0) (h := t.n) rfl (by rw [sIx_yes]; omega) (by omega)
    rw [c1, c2, c3, cut_rg (l := 0) (h := t.g) rfl (by rw [sIx_yes]; omega) (by omega), cut_rg (l := t.g) (h := NN t - (t.n + 2) - t.n) (by rw [sIx_yes]; omega) rfl (by omega)]
    have e1 : (rg (t.n + 2 - 0) fun i => fr (x (0 + i))) = rg (t.n + 2) fun i => fr (x i) := by rw [Nat.sub_zero]; exact rg_congr fun i _ => by rw [Nat.zero_add]
    have e2 : (rg (t.n - 0) fun i => fr (x (t.n + 2 + (0 + i)) + 1)) = rg t.n fun i => fr (x (t.n + 2 + i) + 1) := by rw [Nat.sub_zero]; exact rg_congr fun i _ => by rw [Nat.zero_add]
    have e3 : (rg (t.g - 0) fun i => fr (x (t.n + 2 + (t.n + (0 + i))) + 1)) = rg t.g fun l => fr (x (t.n + 2 + t.n + 0 * t.g + l) + 1) := by rw [Nat.sub_zero]; exact rg_congr fun i _ => by congr 3; omega
    have e4 : (rg (NN t - (t.n + 2) - t.n - t.g) fun i => fr (x (t.n + 2 + (t.n + (t.g + i))) + 1)) = rg t.g fun l => fr (x (t.n + 2 + t.n + 1 * t.g + l) + 1) := by
      rw [show NN t - (t.n + 2) - t.n - t.g = t.g by omega]; exact rg_congr fun i _ => by congr 3; omega
    rw [e1, e2, e3, e4]
    exact hk
end BB
end
section
set_option maxRecDepth 100000
set_option exponentiation.threshold 100
set_option maxHeartbeats 4000000
/-! The plain law: values make a liking, prices make a refusal, and never both. -/
namespace BB
open PySem L2 MA
section
variable (t : Dt) (F S : Nat → Rat) (go : Gl)
/-- a point against another, without the number -/
def slp (W : Nat → Rat) (Sl : Nat → Nat → Rat) (i j : Nat) : Rat := if i < t.n then W i * exc t F S i j else sm t.g fun k => Sl (i - t.n) k * (pt t F S j k - pt t F S i k)
structure LikOK (U W : Nat → Rat) (Sl : Nat → Nat → Rat) : Prop where
  w : ∀ i, i < t.n → 0 < W i
  s : ∀ b k, b < 2 → k < t.g → 0 < Sl b k
  pl : ∀ i j, i < t.n + 2 → j < t.n + 2 → U j ≤ U i + slp t F S W Sl i j
  ln : ∀ k, k < t.nl → U (t.lj k) ≤ U (t.li k) ∧ (t.ls k = true → U (t.lj k) < U (t.li k))
  gl : if go = .al then U t.n = U (t.n + 1) else U (gw t.n go 0) < U (gb t.n go 0)
def netv (P : Nat → Nat → Rat) (Q G : Nat → Rat) (v : Nat) : Rat :=
  (sm (t.n + 2) fun i => sm (t.n + 2) fun j => P i j * nmA i j v) + (sm t.nl fun k => Q k * nmA (t.li k) (t.lj k) v) + sm (ng go) fun k => G k * nmA (gb t.n go k) (gw t.n go k) v
def E1 (P : Nat → Nat → Rat) (i : Nat) : Rat := sm (t.n + 2) fun j => P i j * exc t F S i j
def E2 (P : Nat → Nat → Rat) (b k : Nat) : Rat := sm (t.n + 2) fun j => P (t.n + b) j * (pt t F S j k - pt t F S (t.n + b) k)
structure RefOK (P : Nat → Nat → Rat) (Q G : Nat → Rat) : Prop where
  p : ∀ i j, i < t.n + 2 → j < t.n + 2 → 0 ≤ P i j
  q : ∀ k, k < t.nl → 0 ≤ Q k
  g : ∀ k, k < ng go → 0 ≤ G k
  net : ∀ v, v < t.n + 2 → netv t go P Q G v = 0
  e1 : ∀ i, i < t.n → E1 t F S P i ≤ 0
  e2 : ∀ b k, b < 2 → k < t.g → E2 t F S P b k ≤ 0
  some : (go ≠ .al ∧ 0 < G 0) ∨ (∃ i, i < t.n ∧ E1 t F S P i < 0) ∨ (∃ b k, b < 2 ∧ k < t.g ∧ E2 t F S P b k < 0) ∨ ∃ k, k < t.nl ∧ t.ls k = true ∧ 0 < Q k
end
section
variable {t : Dt} {F S : Nat → Rat} {go : Gl}
theorem nm_dot {c i j : Nat} (hi : i < c) (hj : j < c) (U : Nat → Rat) : (sm c fun v => nmA i j v * U v) = U i - U j := by
  unfold nmA
  rw [show (fun v => ((if v = i then (1 : Rat) else 0) - if v = j then 1 else 0) * U v) = fun v => (if v = i then U v else 0) - (if v = j then U v else 0) from funext fun v => by split <;> split <;> grind, sm_sub,
    sm_one hi fun k _ hn => by rw [if_neg hn], sm_one hj fun k _ hn => by rw [if_neg hn], if_pos rfl, if_pos rfl]
theorem net_dot (ht : t.Ok) (P : Nat → Nat → Rat) (Q G U : Nat → Rat) : (sm (t.n + 2) fun v => netv t go P Q G v * U v) = (sm (t.n + 2) fun i => sm (t.n + 2) fun j => P i j * (U i - U j)) + (sm t.nl fun k => Q k * (U (t.li k) - U (t.lj k))) + sm (ng go) fun k => G k * (U (gb t.n go k) - U (gw t.n go k)) := by
  unfold netv
  have e : ∀ v, ((sm (t.n + 2) fun i => sm (t.n + 2) fun j => P i j * nmA i j v) + (sm t.nl fun k => Q k * nmA (t.li k) (t.lj k) v) + sm (ng go) fun k => G k * nmA (gb t.n go k) (gw t.n go k) v) * U v
      = (sm (t.n + 2) fun i => sm (t.n + 2) fun j => P i j * (nmA i j v * U v)) + (sm t.nl fun k => Q k * (nmA (t.li k) (t.lj k) v * U v)) + sm (ng go) fun k => G k * (nmA (gb t.n go k) (gw t.n go k) v * U v) := fun v => by
    rw [Rat.add_mul, Rat.add_mul, ← sm_mulr, ← sm_mulr, ← sm_mulr]
    congr 1
    · congr 1
      · refine sm_congr fun i _ => ?_
        rw [← sm_mulr]; exact sm_congr fun j _ => by grind
      · exact sm_congr fun j _ => by grind
    · exact sm_congr fun j _ => by grind
  rw [sm_congr fun v _ => e v, sm_add, sm_add]
  congr 1
  · congr 1
    · rw [sm_swap]
      refine sm_congr fun i hi => ?_
      rw [sm_swap]
      refine sm_congr fun j hj => ?_
      rw [sm_mul, nm_dot hi hj]
    · rw [sm_swap]
      refine sm_congr fun k hk => ?_
      rw [sm_mul, nm_dot (by have := ht.li k hk; omega) (by have := ht.lj k hk; omega)]
  · rw [sm_swap]
    refine sm_congr fun k hk => ?_
    rw [sm_mul, nm_dot (gb_lt _ _ _) (gw_lt _ _ _)]
theorem slp_sum (P : Nat → Nat → Rat) (W : Nat → Rat) (Sl : Nat → Nat → Rat) : (sm (t.n + 2) fun i => sm (t.n + 2) fun j => P i j * slp t F S W Sl i j) = (sm t.n fun i => W i * E1 t F S P i) + (sm t.g fun k => Sl 0 k * E2 t F S P 0 k) + sm t.g fun k => Sl 1 k * E2 t F S P 1 k := by
  have hb : ∀ b, (sm (t.n + 2) fun j => P (t.n + b) j * slp t F S W Sl (t.n + b) j) = sm t.g fun k => Sl b k * E2 t F S P b k := fun b => by
    rw [sm_congr (g := fun j => sm t.g fun k => Sl b k * (P (t.n + b) j * (pt t F S j k - pt t F S (t.n + b) k))) fun j _ => ?_, sm_swap]
    · refine sm_congr fun k _ => ?_
      rw [sm_mul]; rfl
    · unfold slp
      rw [if_neg (by omega), ← sm_mul, show t.n + b - t.n = b by omega]
      exact sm_congr fun k _ => by grind
  rw [sm_s, sm_s]
  have h0 : (sm (t.n + 2) fun j => P t.n j * slp t F S W Sl t.n j) = _ := hb 0
  have h1 := hb 1
  rw [h0, h1]
  congr 2
  refine sm_congr fun i hi => ?_
  unfold E1
  rw [← sm_mul]
  refine sm_congr fun j _ => ?_
  unfold slp
  rw [if_pos hi]; grind
/-- never both -/
theorem never_both (ht : t.Ok) {U W : Nat → Rat} {Sl P : Nat → Nat → Rat} {Q G : Nat → Rat} (hl : LikOK t F S go U W Sl) (hr : RefOK t F S go P Q G) : False := by
  have a1 : (sm (t.n + 2) fun v => netv t go P Q G v * U v) = 0 := sm_zero fun v hv => by rw [hr.net v hv]; grind
  rw [net_dot ht] at a1
  have a2 := slp_sum (t := t) (F := F) (S := S) P W Sl
  have a3 : (sm (t.n + 2) fun i => sm (t.n + 2) fun j => P i j * (U i + slp t F S W Sl i j - U j)) = (sm (t.n + 2) fun i => sm (t.n + 2) fun j => P i j * (U i - U j)) + sm (t.n + 2) fun i => sm (t.n + 2) fun j => P i j * slp t F S W Sl i j := by
    rw [← sm_add]
    refine sm_congr fun i _ => ?_
    rw [← sm_add]
    exact sm_congr fun j _ => by grind
  have b1 : 0 ≤ sm (t.n + 2) fun i => sm (t.n + 2) fun j => P i j * (U i + slp t F S W Sl i j - U j) := sm_nonneg fun i hi => sm_nonneg fun j hj => Rat.mul_nonneg (hr.p i j hi hj) (by have := hl.pl i j hi hj; grind)
  have b2 : 0 ≤ sm t.nl fun k => Q k * (U (t.li k) - U (t.lj k)) := sm_nonneg fun k hk => Rat.mul_nonneg (hr.q k hk) (by have := (hl.ln k hk).1; grind)
  have hgU : ∀ k, k < ng go → 0 ≤ U (gb t.n go k) - U (gw t.n go k) := fun k hk => by
    have hg := hl.gl
    cases go
    · rw [if_neg (by decide)] at hg; unfold gb gw at *; grind
    · rw [if_pos rfl] at hg
      cases k <;> simp only [gb, gw] <;> grind
    · rw [if_neg (by decide)] at hg; unfold gb gw at *; grind
  have b3 : 0 ≤ sm (ng go) fun k => G k * (U (gb t.n go k) - U (gw t.n go k)) := sm_nonneg fun k hk => Rat.mul_nonneg (hr.g k hk) (hgU k hk)
  have neg : ∀ {n : Nat} {f h : Nat → Rat}, (∀ i, i < n → 0 < f i) → (∀ i, i < n → h i ≤ 0) → (sm n fun i => f i * h i) ≤ 0 ∧ ∀ i, i < n → h i < 0 → (sm n fun i => f i * h i) < 0 := by
    intro n f h h1 h2
    have e : (sm n fun i => f i * (-h i)) = -(sm n fun i => f i * h i) := by
      rw [show (fun i => f i * (-h i)) = fun i => (-1) * (f i * h i) from funext fun i => by grind, sm_mul]; grind
    have h3 : 0 ≤ sm n fun i => f i * (-h i) := sm_nonneg fun i hi => Rat.mul_nonneg (Rat.le_of_lt (h1 i hi)) (by have := h2 i hi; grind)
    refine ⟨by grind, fun i hi hn => ?_⟩
    have : 0 < sm n fun i => f i * (-h i) := sm_pos (fun i hi => Rat.mul_nonneg (Rat.le_of_lt (h1 i hi)) (by have := h2 i hi; grind)) hi (Rat.mul_pos (h1 i hi) (by grind))
    grind
  have c1 := neg (n := t.n) (f := W) (h := E1 t F S P) hl.w hr.e1
  have c2 := neg (n := t.g) (f := Sl 0) (h := E2 t F S P 0) (fun k hk => hl.s 0 k (by omega) hk) fun k hk => hr.e2 0 k (by omega) hk
  have c3 := neg (n := t.g) (f := Sl 1) (h := E2 t F S P 1) (fun k hk => hl.s 1 k (by omega) hk) fun k hk => hr.e2 1 k (by omega) hk
  have d1 := c1.1
  have d2 := c2.1
  have d3 := c3.1
  rcases hr.some with ⟨hg, h⟩ | ⟨i, hi, h⟩ | ⟨b, k, hb, hk, h⟩ | ⟨k, hk, hs, h⟩
  · have hn : 0 < ng go := by cases go <;> simp only [ng] <;> omega
    have := sm_pos (n := ng go) (f := fun k => G k * (U (gb t.n go k) - U (gw t.n go k))) (fun k hk => Rat.mul_nonneg (hr.g k hk) (hgU k hk)) hn (Rat.mul_pos h (by have := hl.gl; rw [if_neg hg] at this; grind))
    grind
  · have := c1.2 i hi h; grind
  · match b, hb, h with
    | 0, _, h => have := c2.2 k hk h; grind
    | 1, _, h => have := c3.2 k hk h; grind
  · have := sm_pos (n := t.nl) (f := fun k => Q k * (U (t.li k) - U (t.lj k))) (fun k hk => Rat.mul_nonneg (hr.q k hk) (by have := (hl.ln k hk).1; grind)) hk (Rat.mul_pos h (by have := (hl.ln k hk).2 hs; grind))
    grind
/-! sums over the lines -/
theorem sm_blocks (d : Nat) (f : Nat → Rat) : ∀ c, sm (c * d) f = sm c fun i => sm d fun j => f (i * d + j)
  | 0 => by rw [Nat.zero_mul]; rfl
  | c + 1 => by rw [Nat.succ_mul, sm_split, sm_blocks d f c, sm_s]
theorem sm_skip (h : Nat → Rat) : ∀ {d i : Nat}, i < d + 1 → h i = 0 → (sm d fun j => h (sk i j)) = sm (d + 1) h
  | 0, i, hi, h0 => by
    rw [show i = 0 by omega] at h0
    rw [sm_0, sm_s, sm_0, h0]; grind
  | d + 1, i, hi, h0 => by
    by_cases e : i = d + 1
    · subst e
      rw [sm_s (d + 1) h, h0, sm_congr (g := h) fun j hj => by rw [show sk (d + 1) j = j by unfold sk; rw [if_pos hj]]]; grind
    · rw [sm_s d, sm_skip h (d := d) (i := i) (by omega) h0, sm_s (d + 1) h, show sk i d = d + 1 by unfold sk; rw [if_neg (by omega)]]
theorem pair_sum (X : Nat → Nat → Rat) (p : Nat → Rat) : (sm (qq t) fun l => p l * X (l / (t.n + 1)) (sk (l / (t.n + 1)) (l % (t.n + 1)))) = sm (t.n + 2) fun i => sm (t.n + 2) fun j => Pof t p i j * X i j := by
  unfold qq
  rw [sm_blocks]
  refine sm_congr fun i hi => ?_
  rw [← sm_skip (fun j => Pof t p i j * X i j) (d := t.n + 1) (i := i) hi (by unfold Pof; rw [if_pos rfl]; grind)]
  refine sm_congr fun j hj => ?_
  rw [ix_div hj, ix_mod hj]
  unfold Pof
  rw [if_neg (by have := @sk_ne i j; omega), show un i (sk i j) = j from (sk_un sk_ne).mp rfl |>.symm]
theorem lines_sum (X : Nat → Nat → Rat) (Y Z p : Nat → Rat) (f : Nat → Rat) (h1 : ∀ l, l < qq t → f l = X (l / (t.n + 1)) (sk (l / (t.n + 1)) (l % (t.n + 1)))) (h2 : ∀ l, l < t.nl → f (qq t + l) = Y l) (h3 : ∀ l, l < ng go → f (qq t + t.nl + l) = Z l) :
    (sm (mm t go) fun l => p l * f l) = (sm (t.n + 2) fun i => sm (t.n + 2) fun j => Pof t p i j * X i j) + (sm t.nl fun l => p (qq t + l) * Y l) + sm (ng go) fun l => p (qq t + t.nl + l) * Z l := by
  unfold mm
  rw [sm_split, sm_split, ← pair_sum]
  congr 1
  · congr 1
    · exact sm_congr fun l hl => by rw [h1 l hl]
    · exact sm_congr fun l hl => by rw [h2 l hl]
  · exact sm_congr fun l hl => by rw [h3 l hl]
theorem aF_sum (p : Nat → Rat) (v : Nat) : (sm (mm t go) fun l => p l * aF t F S go l v) = (sm (t.n + 2) fun i => sm (t.n + 2) fun j => Pof t p i j * pA t F S i j v) + (sm t.nl fun l => p (qq t + l) * nmE t (t.li l) (t.lj l) v) + sm (ng go) fun l => p (qq t + t.nl + l) * nmE t (gb t.n go l) (gw t.n go l) v :=
  lines_sum (fun i j => pA t F S i j v) (fun l => nmE t (t.li l) (t.lj l) v) (fun l => nmE t (gb t.n go l) (gw t.n go l) v) p _ (fun l hl => by unfold aF; rw [if_pos hl]) (fun l hl => by unfold aF; rw [if_neg (by omega), if_pos (by omega), show qq t + l - qq t = l by omega]) fun l hl => by
    unfold aF; rw [if_neg (by omega), if_neg (by omega), show qq t + t.nl + l - (qq t + t.nl) = l by omega]
theorem bF_sum (p : Nat → Rat) : (sm (mm t go) fun l => p l * bF t F S go l) = (sm (t.n + 2) fun i => sm (t.n + 2) fun j => Pof t p i j * -pM t F S i j) + (sm t.nl fun l => p (qq t + l) * if t.ls l then 1 else 0) + sm (ng go) fun l => p (qq t + t.nl + l) * if go = .al then 0 else 1 :=
  lines_sum (fun i j => -pM t F S i j) (fun l => if t.ls l then 1 else 0) (fun l => if go = .al then 0 else 1) p _ (fun l hl => by unfold bF; rw [if_pos hl]) (fun l hl => by unfold bF; rw [if_neg (by omega), if_pos (by omega), show qq t + l - qq t = l by omega]) fun l hl => by
    unfold bF; rw [if_neg (by omega), if_neg (by omega)]
/-- prices make a refusal -/
theorem ref_of (ht : t.Ok) {p : Nat → Rat} (h1 : ∀ l, l < mm t go → 0 ≤ p l) (h2 : ∀ j, j < NN t → (sm (mm t go) fun l => p l * aF t F S go l j) ≤ 0) (h3 : 0 < sm (mm t go) fun l => p l * bF t F S go l) : RefOK t F S go (Pof t p) (fun l => p (qq t + l)) (fun l => p (qq t + t.nl + l)) := by
  have hp : ∀ i j, i < t.n + 2 → j < t.n + 2 → 0 ≤ Pof t p i j := fun i j hi hj => by
    unfold Pof
    by_cases e : i = j
    · rw [if_pos e]; exact Rat.le_refl
    · rw [if_neg e]
      have := ix_lt (t := t) hi (un_lt hi hj (Ne.symm e))
      exact h1 _ (by unfold mm; omega)
  have hnet : ∀ v, v < t.n + 2 → netv t go (Pof t p) (fun l => p (qq t + l)) (fun l => p (qq t + t.nl + l)) v ≤ 0 := fun v hv => by
    have := h2 v (by unfold NN; omega)
    rw [aF_sum] at this
    have e : netv t go (Pof t p) (fun l => p (qq t + l)) (fun l => p (qq t + t.nl + l)) v = (sm (t.n + 2) fun i => sm (t.n + 2) fun j => Pof t p i j * pA t F S i j v) + (sm t.nl fun l => p (qq t + l) * nmE t (t.li l) (t.lj l) v) + sm (ng go) fun l => p (qq t + t.nl + l) * nmE t (gb t.n go l) (gw t.n go l) v := by
      unfold netv
      congr 1
      · congr 1
        · exact sm_congr fun i _ => sm_congr fun j _ => by unfold pA; rw [if_pos hv]
        · exact sm_congr fun l _ => by unfold nmE; rw [if_pos hv]
      · exact sm_congr fun l _ => by unfold nmE; rw [if_pos hv]
    rw [e]; exact this
  have hsum : (sm (t.n + 2) fun v => netv t go (Pof t p) (fun l => p (qq t + l)) (fun l => p (qq t + t.nl + l)) v * (fun _ => (1 : Rat)) v) = 0 := by
    rw [net_dot ht, sm_zero fun i _ => sm_zero fun j _ => by grind, sm_zero fun k _ => by grind, sm_zero fun k _ => by grind]; grind
  have hneg : (sm (t.n + 2) fun v => -netv t go (Pof t p) (fun l => p (qq t + l)) (fun l => p (qq t + t.nl + l)) v) = 0 := by
    rw [show (fun v => -netv t go (Pof t p) (fun l => p (qq t + l)) (fun l => p (qq t + t.nl + l)) v) = fun v => (-1) * (netv t go (Pof t p) (fun l => p (qq t + l)) (fun l => p (qq t + t.nl + l)) v * (fun _ => (1 : Rat)) v) from funext fun v => by grind, sm_mul, hsum]; grind
  have z2 : ∀ (v : Nat) (w : Nat → Rat) (ii jj : Nat → Nat) (n : Nat), ¬ v < t.n + 2 → (sm n fun l => w l * nmE t (ii l) (jj l) v) = 0 := fun v w ii jj n hv => sm_zero fun l _ => by unfold nmE; rw [if_neg hv]; grind
  have he1 : ∀ i, i < t.n → E1 t F S (Pof t p) i ≤ 0 := fun i hi => by
    have := h2 (t.n + 2 + i) (by unfold NN; omega)
    rw [aF_sum, z2 _ _ _ _ _ (by omega), z2 _ _ _ _ _ (by omega), sm_one (r := i) (by omega) fun k hk hn => sm_zero fun j _ => by
      unfold pA; rw [if_neg (by omega), if_pos (by omega), if_neg (by omega)]; grind] at this
    unfold E1
    rw [sm_congr (g := fun j => Pof t p i j * pA t F S i j (t.n + 2 + i)) fun j _ => by unfold pA; rw [if_neg (by omega), if_pos (by omega), if_pos ⟨hi, rfl⟩]]
    grind
  have he2 : ∀ b k, b < 2 → k < t.g → E2 t F S (Pof t p) b k ≤ 0 := fun b k hb hk => by
    have hv : t.n + 2 + t.n + b * t.g + k < NN t := by
      unfold NN
      match b, hb with
      | 0, _ => omega
      | 1, _ => omega
    have := h2 _ hv
    rw [aF_sum, z2 _ _ _ _ _ (by omega), z2 _ _ _ _ _ (by omega)] at this
    have hz : ∀ i, i < t.n + 2 → i ≠ t.n + b → ∀ j, pA t F S i j (t.n + 2 + t.n + b * t.g + k) = 0 := fun i hi hn j => by
      unfold pA
      rw [if_neg (by omega), if_neg (by omega)]
      match b, hb with
      | 0, _ => rw [if_pos (by omega), if_neg (by omega)]
      | 1, _ => rw [if_neg (by omega), if_neg (by omega)]
    have hz2 : ∀ j, pA t F S (t.n + b) j (t.n + 2 + t.n + b * t.g + k) = pt t F S j k - pt t F S (t.n + b) k := fun j => by
      unfold pA
      rw [if_neg (by omega), if_neg (by omega)]
      match b, hb with
      | 0, _ => rw [if_pos (by omega), if_pos (by omega), show t.n + 2 + t.n + 0 * t.g + k - (t.n + 2 + t.n) = k by omega]
      | 1, _ => rw [if_neg (by omega), if_pos (by omega), show t.n + 2 + t.n + 1 * t.g + k - (t.n + 2 + t.n + t.g) = k by omega]
    rw [sm_one (r := t.n + b) (by omega) fun i hi hn => sm_zero fun j _ => by rw [hz i hi hn]; grind] at this
    unfold E2
    rw [sm_congr (g := fun j => Pof t p (t.n + b) j * pA t F S (t.n + b) j (t.n + 2 + t.n + b * t.g + k)) fun j _ => by rw [hz2]]
    grind
  refine ⟨hp, fun k hk => h1 _ (by unfold mm; omega), fun k hk => h1 _ (by unfold mm; omega), fun v hv => ?_, he1, he2, ?_⟩
  · have := sm_zero_of (n := t.n + 2) (f := fun v => -netv t go (Pof t p) (fun l => p (qq t + l)) (fun l => p (qq t + t.nl + l)) v) (fun v hv => by have := hnet v hv; grind) (by rw [hneg]; exact Rat.le_refl) v hv
    grind
  · rw [bF_sum] at h3
    apply Classical.byContradiction
    intro hn
    have n1 : ∀ i, i < t.n → ¬ E1 t F S (Pof t p) i < 0 := fun i hi h => hn (.inr (.inl ⟨i, hi, h⟩))
    have n2 : ∀ b k, b < 2 → k < t.g → ¬ E2 t F S (Pof t p) b k < 0 := fun b k hb hk h => hn (.inr (.inr (.inl ⟨b, k, hb, hk, h⟩)))
    have e1 : (sm (t.n + 2) fun i => sm (t.n + 2) fun j => Pof t p i j * -pM t F S i j) = -((sm t.n fun i => 1 * E1 t F S (Pof t p) i) + (sm t.g fun k => 1 * E2 t F S (Pof t p) 0 k) + sm t.g fun k => 1 * E2 t F S (Pof t p) 1 k) := by
      have := slp_sum (t := t) (F := F) (S := S) (Pof t p) (fun _ => 1) (fun _ _ => 1)
      rw [← this, show (fun i => sm (t.n + 2) fun j => Pof t p i j * -pM t F S i j) = fun i => (-1) * sm (t.n + 2) fun j => Pof t p i j * slp t F S (fun _ => 1) (fun _ _ => 1) i j from funext fun i => ?_, sm_mul]
      · grind
      · rw [← sm_mul]
        refine sm_congr fun j _ => ?_
        unfold pM slp
        split
        · grind
        · rw [sm_congr (g := fun k => (1 : Rat) * (pt t F S j k - pt t F S i k)) fun k _ => by grind]; grind
    have s1 : (sm t.n fun i => 1 * E1 t F S (Pof t p) i) = 0 := sm_zero fun i hi => by have := n1 i hi; have := he1 i hi; grind
    have s2 : (sm t.g fun k => 1 * E2 t F S (Pof t p) 0 k) = 0 := sm_zero fun k hk => by have := n2 0 k (by omega) hk; have := he2 0 k (by omega) hk; grind
    have s3 : (sm t.g fun k => 1 * E2 t F S (Pof t p) 1 k) = 0 := sm_zero fun k hk => by have := n2 1 k (by omega) hk; have := he2 1 k (by omega) hk; grind
    have s4 : (sm t.nl fun l => p (qq t + l) * if t.ls l then 1 else 0) = 0 := sm_zero fun l hl => by
      cases hs : t.ls l
      · rw [if_neg (by decide)]; grind
      · have : ¬ 0 < p (qq t + l) := fun q => hn (.inr (.inr (.inr ⟨l, hl, hs, q⟩)))
        have := h1 (qq t + l) (by unfold mm; omega)
        grind
    have s5 : (sm (ng go) fun l => p (qq t + t.nl + l) * if go = .al then 0 else 1) = 0 := sm_zero fun l hl => by
      by_cases hg : go = .al
      · rw [if_pos hg]; grind
      · have hl0 : l = 0 := by cases go <;> simp only [ng] at hl <;> first | omega | exact absurd rfl hg
        subst hl0
        have : ¬ 0 < p (qq t + t.nl + 0) := fun q => hn (.inl ⟨hg, q⟩)
        have := h1 (qq t + t.nl + 0) (by unfold mm; omega)
        grind
    rw [e1, s1, s2, s3, s4, s5] at h3
    grind
/-- values make a liking -/
theorem lik_of (ht : t.Ok) {x : Nat → Rat} (h1 : ∀ j, 0 ≤ x j) (h2 : ∀ l, l < mm t go → bF t F S go l ≤ sm (NN t) fun j => aF t F S go l j * x j) : LikOK t F S go x (fun i => x (t.n + 2 + i) + 1) (fun b l => x (t.n + 2 + t.n + b * t.g + l) + 1) := by
  have hnm : ∀ i j, i < t.n + 2 → j < t.n + 2 → (sm (NN t) fun v => nmE t i j v * x v) = x i - x j := fun i j hi hj => by
    unfold NN
    rw [sm_split, sm_split, sm_split, sm_congr (g := fun v => nmA i j v * x v) fun v hv => by unfold nmE; rw [if_pos hv], nm_dot hi hj, sm_zero fun v _ => by unfold nmE; rw [if_neg (by omega)]; grind,
      sm_zero fun v _ => by unfold nmE; rw [if_neg (by omega)]; grind, sm_zero fun v _ => by unfold nmE; rw [if_neg (by omega)]; grind]
    grind
  refine ⟨fun i _ => by have := h1 (t.n + 2 + i); grind, fun b k _ _ => by have := h1 (t.n + 2 + t.n + b * t.g + k); grind, fun i j hi hj => ?_, fun k hk => ?_, ?_⟩
  · by_cases e : j = i
    · subst e
      have : slp t F S (fun i => x (t.n + 2 + i) + 1) (fun b l => x (t.n + 2 + t.n + b * t.g + l) + 1) j j = 0 := by
        unfold slp
        by_cases q : j < t.n
        · rw [if_pos q, show exc t F S j j = 0 by unfold exc spn pt; rw [if_pos q]; grind]; grind
        · rw [if_neg q]; exact sm_zero fun k _ => by grind
      rw [this]; grind
    · have hu := un_lt hi hj e
      have hlt := ix_lt (t := t) hi hu
      have h := h2 _ (show i * (t.n + 1) + un i j < mm t go by unfold mm; omega)
      unfold bF at h
      rw [if_pos hlt, sm_congr (g := fun v => pA t F S i j v * x v) fun v _ => by unfold aF; rw [if_pos hlt, ix_div hu, ix_mod hu, sk_un' e], ix_div hu, ix_mod hu, sk_un' e] at h
      unfold NN at h
      rw [sm_split, sm_split, sm_split, sm_congr (n := t.n + 2) (g := fun v => nmA i j v * x v) fun v hv => by unfold pA; rw [if_pos hv], nm_dot hi hj] at h
      unfold slp
      unfold pM at h
      by_cases q : i < t.n
      · rw [if_pos q] at h ⊢
        rw [sm_one (n := t.n) (r := i) q fun v hv hn => by unfold pA; rw [if_neg (by omega), if_pos (by omega), if_neg (by omega)]; grind,
          sm_zero fun v hv => by unfold pA; rw [if_neg (by omega), if_neg (by omega), if_pos (by omega), if_neg (by omega)]; grind,
          sm_zero fun v hv => by unfold pA; rw [if_neg (by omega), if_neg (by omega), if_neg (by omega), if_neg (by omega)]; grind] at h
        unfold pA at h
        rw [if_neg (by omega), if_pos (by omega), if_pos ⟨q, rfl⟩] at h
        grind
      · rw [if_neg q] at h ⊢
        rw [sm_zero (n := t.n) fun v hv => by unfold pA; rw [if_neg (by omega), if_pos (by omega), if_neg (by omega)]; grind] at h
        have e3 : (sm t.g fun k => (x (t.n + 2 + t.n + (i - t.n) * t.g + k) + 1) * (pt t F S j k - pt t F S i k)) = (sm t.g fun k => (pt t F S j k - pt t F S i k) * x (t.n + 2 + t.n + (i - t.n) * t.g + k)) + sm t.g fun k => pt t F S j k - pt t F S i k := by
          rw [← sm_add]; exact sm_congr fun k _ => by grind
        rw [e3]
        rcases (show i = t.n ∨ i = t.n + 1 by omega) with q' | q'
        · rw [sm_congr (n := t.g) (f := fun v => pA t F S i j (t.n + 2 + t.n + v) * x (t.n + 2 + t.n + v)) (g := fun k => (pt t F S j k - pt t F S i k) * x (t.n + 2 + t.n + (i - t.n) * t.g + k)) fun v hv => by
              unfold pA; rw [if_neg (by omega), if_neg (by omega), if_pos (by omega), if_pos q', show t.n + 2 + t.n + v - (t.n + 2 + t.n) = v by omega, show t.n + 2 + t.n + (i - t.n) * t.g + v = t.n + 2 + t.n + v by rw [show i - t.n = 0 by omega]; omega],
            sm_zero (n := t.g) (f := fun v => pA t F S i j (t.n + 2 + t.n + t.g + v) * x (t.n + 2 + t.n + t.g + v)) fun v hv => by unfold pA; rw [if_neg (by omega), if_neg (by omega), if_neg (by omega), if_neg (by omega)]; grind] at h
          grind
        · rw [sm_zero (n := t.g) (f := fun v => pA t F S i j (t.n + 2 + t.n + v) * x (t.n + 2 + t.n + v)) fun v hv => by unfold pA; rw [if_neg (by omega), if_neg (by omega), if_pos (by omega), if_neg (by omega)]; grind,
            sm_congr (n := t.g) (f := fun v => pA t F S i j (t.n + 2 + t.n + t.g + v) * x (t.n + 2 + t.n + t.g + v)) (g := fun k => (pt t F S j k - pt t F S i k) * x (t.n + 2 + t.n + (i - t.n) * t.g + k)) fun v hv => by
              unfold pA; rw [if_neg (by omega), if_neg (by omega), if_neg (by omega), if_pos q', show t.n + 2 + t.n + t.g + v - (t.n + 2 + t.n + t.g) = v by omega, show t.n + 2 + t.n + (i - t.n) * t.g + v = t.n + 2 + t.n + t.g + v by rw [show i - t.n = 1 by omega]; omega]] at h
          grind
  · have h := h2 (qq t + k) (by unfold mm; omega)
    unfold bF at h
    rw [if_neg (by omega), if_pos (by omega), sm_congr (g := fun v => nmE t (t.li k) (t.lj k) v * x v) fun v _ => by unfold aF; rw [if_neg (by omega), if_pos (by omega), show qq t + k - qq t = k by omega], hnm _ _ (by have := ht.li k hk; omega) (by have := ht.lj k hk; omega), show qq t + k - qq t = k by omega] at h
    cases hs : t.ls k
    · rw [hs, if_neg (by decide)] at h
      exact ⟨by grind, fun q => by cases q⟩
    · rw [hs, if_pos rfl] at h
      exact ⟨by grind, fun _ => by grind⟩
  · have hg : ∀ k, k < ng go → (if go = .al then (0 : Rat) else 1) ≤ x (gb t.n go k) - x (gw t.n go k) := fun k hk => by
      have h := h2 (qq t + t.nl + k) (by unfold mm; omega)
      unfold bF at h
      rwa [if_neg (by omega), if_neg (by omega), sm_congr (g := fun v => nmE t (gb t.n go k) (gw t.n go k) v * x v) fun v _ => by unfold aF; rw [if_neg (by omega), if_neg (by omega), show qq t + t.nl + k - (qq t + t.nl) = k by omega], hnm _ _ (gb_lt _ _ _) (gw_lt _ _ _)] at h
    cases go
    · have := hg 0 (by simp only [ng]; omega); rw [if_neg (by decide)] at this ⊢; grind
    · have a := hg 0 (by simp only [ng]; omega)
      have b := hg 1 (by simp only [ng]; omega)
      rw [if_pos rfl] at a b ⊢
      simp only [gb, gw] at a b
      grind
    · have := hg 0 (by simp only [ng]; omega); rw [if_neg (by decide)] at this ⊢; grind
end
end BB
end
section
set_option maxRecDepth 100000
set_option exponentiation.threshold 100
set_option maxHeartbeats 4000000
/-! Sizes of the lines; likes; judge_liking. -/
namespace BB
open PySem L2 MA
section
variable {t : Dt} {F S : Nat → Rat} {go : Gl}
theorem sn.Zs {r : Rat} (h : sn r) : Zs r.den (2 ^ 40) r := (MA.Zs.self r).mono h.1
theorem common2 {g D M : Nat} {f : Nat → Rat} (hg : g ≤ 2) (hD : 0 < D) (h : ∀ l, l < g → ∃ d, 0 < d ∧ d ≤ D ∧ Zs d M (f l)) : ∃ d, 0 < d ∧ d ≤ D * D ∧ ∀ l, l < g → Zs d (M * D) (f l) := by
  match g, hg, h with
  | 0, _, _ => exact ⟨1, by omega, Nat.mul_pos hD hD, fun l hl => by omega⟩
  | 1, _, h =>
    obtain ⟨d, h1, h2, h3⟩ := h 0 (by omega)
    refine ⟨d, h1, Nat.le_trans h2 (Nat.le_mul_of_pos_right _ hD), fun l hl => ?_⟩
    rw [show l = 0 by omega]
    exact h3.mono (Nat.le_mul_of_pos_right _ hD)
  | 2, _, h =>
    obtain ⟨d, h1, h2, h3⟩ := h 0 (by omega)
    obtain ⟨e, h4, h5, h6⟩ := h 1 (by omega)
    refine ⟨d * e, Nat.mul_pos h1 h4, Nat.mul_le_mul h2 h5, fun l hl => ?_⟩
    rcases (show l = 0 ∨ l = 1 by omega) with q | q
    · rw [q]; exact (h3.up e).mono (Nat.mul_le_mul_left _ h5)
    · rw [q, Nat.mul_comm d]; exact (h6.up d).mono (Nat.mul_le_mul_left _ h2)
theorem diff_Zs {a b : Rat} (ha : sn a) (hb : sn b) : ∃ d, 0 < d ∧ d ≤ 2 ^ 20 ∧ Zs d (2 ^ 51) (a - b) := by
  refine ⟨a.den * b.den, Nat.mul_pos a.den_pos b.den_pos, ?_, ?_⟩
  · rw [show (20 : Nat) = 10 + 10 from rfl, Nat.pow_add]; exact Nat.mul_le_mul ha.2 hb.2
  · have h1 := ha.Zs.up b.den
    have h2 := hb.Zs.up a.den
    rw [Nat.mul_comm b.den] at h2
    refine (h1.sub h2).mono ?_
    have h3 : 2 ^ 40 * b.den ≤ 2 ^ 50 := by rw [show (50 : Nat) = 40 + 10 from rfl, Nat.pow_add]; exact Nat.mul_le_mul_left _ hb.2
    have h4 : 2 ^ 40 * a.den ≤ 2 ^ 50 := by rw [show (50 : Nat) = 40 + 10 from rfl, Nat.pow_add]; exact Nat.mul_le_mul_left _ ha.2
    calc _ ≤ 2 ^ 50 + 2 ^ 50 := Nat.add_le_add h3 h4
      _ = 2 ^ 51 := by rw [Nat.pow_succ 2 50, Nat.mul_two]
theorem exc_Zs (ht : t.Ok) (hb : Bk F S) (i j : Nat) : ∃ d, 0 < d ∧ d ≤ 2 ^ 60 ∧ Zs d (2 ^ 122) (exc t F S i j) := by
  have e : exc t F S i j = sm t.g fun l => t.P i l * (pt t F S j l - t.Am i l) := by
    unfold exc spn
    rw [← sm_sub]; exact sm_congr fun l _ => by grind
  obtain ⟨d, h1, h2, h3⟩ := common2 (D := 2 ^ 30) (M := 2 ^ 91) (f := fun l => t.P i l * (pt t F S j l - t.Am i l)) ht.g2 (Nat.two_pow_pos _) fun l _ => by
    obtain ⟨d, h1, h2, h3⟩ := diff_Zs (pt_sn ht hb j l) (ht.Am i l)
    refine ⟨(t.P i l).den * d, Nat.mul_pos (t.P i l).den_pos h1, ?_, ?_⟩
    · rw [show (30 : Nat) = 10 + 20 from rfl, Nat.pow_add]; exact Nat.mul_le_mul (ht.P i l).2 h2
    · have := (ht.P i l).Zs.mul h3
      rwa [← Nat.pow_add] at this
  rw [← Nat.pow_add] at h2
  rw [← Nat.pow_add] at h3
  refine ⟨d, h1, h2, ?_⟩
  rw [e]
  refine (Zs.sm h3).mono ?_
  calc t.g * 2 ^ (91 + 30) ≤ 2 ^ 1 * 2 ^ 121 := Nat.mul_le_mul_right _ ht.g2
    _ = 2 ^ 122 := by rw [← Nat.pow_add]
theorem nmA_Zs {d M : Nat} (h : 2 * d ≤ M) (i j v : Nat) : Zs d M (nmA i j v) := by
  unfold nmA
  have h1 : ∀ p : Prop, [Decidable p] → Zs d d (if p then 1 else 0) := fun p _ => by
    split
    · exact Zs.one (Nat.le_refl _)
    · exact Zs.zero
  exact ((h1 (v = i)).sub (h1 (v = j))).mono (by omega)
theorem row_size (ht : t.Ok) (hb : Bk F S) (go : Gl) (l : Nat) : ∃ d, 0 < d ∧ d ≤ 2 ^ 60 ∧ (∀ j, j < NN t → Zs d (2 ^ 122) (aF t F S go l j)) ∧ Zs d (2 ^ 122) (bF t F S go l) := by
  have p61 : ∀ {d : Nat}, d ≤ 2 ^ 60 → 2 * d ≤ 2 ^ 122 := fun {d} h => by
    have : (2 : Nat) ^ 61 ≤ 2 ^ 122 := Nat.pow_le_pow_right (by omega) (by omega)
    rw [Nat.pow_succ] at this; omega
  have p60 : ∀ {d : Nat}, d ≤ 2 ^ 60 → d ≤ 2 ^ 122 := fun h => by have := p61 h; omega
  by_cases hl : l < qq t
  · unfold aF bF
    simp only [if_pos hl]
    generalize l / (t.n + 1) = i
    generalize sk i (l % (t.n + 1)) = j
    by_cases hi : i < t.n
    · obtain ⟨d, h1, h2, h3⟩ := exc_Zs ht hb i j
      refine ⟨d, h1, h2, fun v hv => ?_, ?_⟩
      · unfold pA
        split
        · exact nmA_Zs (p61 h2) _ _ _
        · split
          · split
            · exact h3
            · exact Zs.zero
          · split
            · rw [if_neg (by omega)]; exact Zs.zero
            · rw [if_neg (by omega)]; exact Zs.zero
      · unfold pM; rw [if_pos hi]; exact h3.neg
    · obtain ⟨d, h1, h2, h3⟩ := common2 (D := 2 ^ 20) (M := 2 ^ 51) (f := fun l => pt t F S j l - pt t F S i l) ht.g2 (Nat.two_pow_pos _) fun l _ => diff_Zs (pt_sn ht hb j l) (pt_sn ht hb i l)
      rw [← Nat.pow_add] at h2
      rw [← Nat.pow_add] at h3
      have h2' : d ≤ 2 ^ 60 := Nat.le_trans h2 (Nat.pow_le_pow_right (by omega) (by omega))
      have h3' : ∀ l, l < t.g → Zs d (2 ^ 122) (pt t F S j l - pt t F S i l) := fun l hl => (h3 l hl).mono (Nat.pow_le_pow_right (by omega) (by omega))
      refine ⟨d, h1, h2', fun v hv => ?_, ?_⟩
      · unfold NN at hv
        unfold pA
        split
        · exact nmA_Zs (p61 h2') _ _ _
        · split
          · rw [if_neg (by omega)]; exact Zs.zero
          · split
            · split
              · exact h3' _ (by omega)
              · exact Zs.zero
            · split
              · exact h3' _ (by omega)
              · exact Zs.zero
      · unfold pM; rw [if_neg hi]
        refine (Zs.sm h3).neg.mono ?_
        calc t.g * 2 ^ (51 + 20) ≤ 2 ^ 1 * 2 ^ 71 := Nat.mul_le_mul_right _ ht.g2
          _ = 2 ^ 72 := by rw [← Nat.pow_add]
          _ ≤ 2 ^ 122 := Nat.pow_le_pow_right (by omega) (by omega)
  · refine ⟨1, by omega, Nat.one_le_two_pow, fun v _ => ?_, ?_⟩
    · unfold aF
      rw [if_neg hl]
      have h1 : ∀ i j, Zs 1 (2 ^ 122) (nmE t i j v) := fun i j => by
        unfold nmE
        split
        · exact nmA_Zs (p61 Nat.one_le_two_pow) _ _ _
        · exact Zs.zero
      split <;> exact h1 _ _
    · unfold bF
      rw [if_neg hl]
      have h1 : Zs 1 (2 ^ 122) 1 := Zs.one (p60 Nat.one_le_two_pow)
      split
      · split
        · exact h1
        · exact Zs.zero
      · split
        · exact Zs.zero
        · exact h1
theorem lines_size (ht : t.Ok) (hb : Bk F S) (go : Gl) : ∃ L, LPz (mm t go) (NN t) (aF t F S go) (bF t F S go) L :=
  ⟨fun l => Classical.choose (row_size ht hb go l), fun l _ => Classical.choose_spec (row_size ht hb go l)⟩
end
/-- what check is asked -/
def S_check' (R : Dt → Prop) : SpecT := fun ds k => ∃ t : Dt, ds = [dataD t] ∧ t.Ok ∧ R t ∧ ∀ d, k (.tup [.str "taste", d])
/-- a liking's size -/
structure LikZ (t : Dt) (U W : Nat → Rat) (Sl : Nat → Nat → Rat) : Prop where
  u : ∃ d, 0 < d ∧ d ≤ 2 ^ 2016 ∧ ∀ i, i < t.n + 2 → Zs d (2 ^ 2025) (U i)
  w : ∀ i, i < t.n → sz 2100 (W i)
  s : ∀ b k, b < 2 → k < t.g → sz 2100 (Sl b k)
structure RefZ (t : Dt) (ngo : Nat) (P : Nat → Nat → Rat) (Q G : Nat → Rat) : Prop where
  ex : ∃ d, 0 < d ∧ d ≤ 2 ^ 2016 ∧ (∀ i j, i < t.n + 2 → j < t.n + 2 → Zs d (2 ^ 2022) (P i j)) ∧ (∀ k, k < t.nl → Zs d (2 ^ 2022) (Q k)) ∧ ∀ k, k < ngo → Zs d (2 ^ 2022) (G k)
def S_likes' (R : Dt → Prop) : SpecT := fun ds k => ∃ (t : Dt) (F S : Nat → Rat) (go : Gl), ds = [dataD t, vec t.g F, vec t.g S, .str go.s] ∧ t.Ok ∧ Bk F S ∧ R t ∧
  (∀ U W Sl, LikZ t U W Sl → LikOK t F S go U W Sl → k (.tup [.str "can", likD t U W Sl])) ∧
  (∀ P Q G, RefZ t (ng go) P Q G → RefOK t F S go P Q G → k (.tup [.str "cannot", refD t (ng go) P Q G]))
theorem k_likes' (R : Dt → Prop) : Keeps n_likes a_likes (b_likes (S_check' R) S_points_of S_solve S_liking_lines S_refusal_from S_liking_from) (S_likes' R) := by
  rintro ds k ⟨t, F, S, go, rfl, ht, hb, hR, hk1, hk2⟩
  have hn2 := ht.n2
  have hg2 := ht.g2
  obtain ⟨L, hL⟩ := lines_size ht hb go
  have hN : NN t = t.n + 2 + t.n + t.g + t.g := rfl
  have hmm : mm t go = qq t + t.nl + ng go := rfl
  refine ⟨rfl, ?_⟩
  push_cast [b_likes, n_likes]
  refine ⟨t, rfl, ht, hR, fun d => ?_⟩
  have h1 : ¬ (("taste" : Str) = "ring") := by decide
  push_cast [h1]
  refine ⟨t, F, S, rfl, ht, ?_⟩
  unfold ptsD dataD buysD
  push_cast [rg_len]
  refine ⟨.inl (.inl (by decide)), ?_⟩
  rw [show ((t.n + 2 : Nat) : Int) + ((t.n : Nat) : Int) + 2 * ((t.g : Nat) : Int) = ((NN t : Nat) : Int) by omega]
  push_cast [rg_len]
  refine ⟨⟨by omega, by omega⟩, by omega, comp_rg (fun _ => fr 0) (fun j K hj hK => by push_cast [rg_len]; exact hK) ?_⟩
  refine ⟨t, F, S, go, rfl, ht, hb, ?_⟩
  push_cast [rg_len]
  refine ⟨mm t go, NN t, aF t F S go, bF t F S go, L, rfl, mm_le ht go, by omega, hL, fun p d hd0 hd1 hdp hp0 hp1 hp2 => ?_, fun x d v p hd0 hd1 hdx hx0 hx1 => ?_⟩
  · push_cast [rg_len]
    refine ⟨t, go, p, rfl, ht, ?_⟩
    push_cast [rg_len]
    refine hk2 _ _ _ ⟨d, hd0, hd1, fun i j hi hj => ?_, fun k hk => hdp _ (by omega), fun k hk => hdp _ (by omega)⟩ (ref_of ht hp0 hp1 hp2)
    unfold Pof
    by_cases e : i = j
    · rw [if_pos e]; exact Zs.zero
    · rw [if_neg e]
      have := ix_lt (t := t) hi (un_lt hi hj (Ne.symm e))
      exact hdp _ (by omega)
  · have h2 : ¬ (("end" : Str) = "nothing") := by decide
    have hsz : ∀ j, j < NN t → sz 2026 (x j) := fun j hj => (hdx j hj).sz hd0 (Nat.lt_of_le_of_lt hd1 (Nat.pow_lt_pow_right (by omega) (by omega))) (Nat.pow_lt_pow_right (by omega) (by omega))
    have hs1 : ∀ j, j < NN t → sz 2100 (x j + 1) := fun j hj => (sz_add (hsz j hj) (sz1 1 (by omega))).mono (by omega)
    push_cast [h2]
    refine ⟨t, x, rfl, ht, fun j hj => (hsz j hj).mono (by omega), ?_⟩
    push_cast [rg_len]
    refine hk1 _ _ _ ⟨⟨d, hd0, hd1, fun i hi => hdx i (by omega)⟩, fun i hi => hs1 _ (by omega), fun b k hb hk => hs1 _ ?_⟩ (lik_of ht hx0 hx1)
    match b, hb with
    | 0, _ => omega
    | 1, _ => omega
/-! ### the judge of a liking -/
theorem ix_l0 (ka : Kd) (d : D) (ds : List D) (k : Kd → D → Prop) : ixD ka (.lst (d :: ds)) (.int 0) k = k (kI ka d) d := ix_go (.inl rfl) (by rw [show (0 : Int) = ((0 : Nat) : Int) from rfl, atI_nat]; rfl)
theorem ix_l1 (ka : Kd) (d0 d : D) (ds : List D) (k : Kd → D → Prop) : ixD ka (.lst (d0 :: d :: ds)) (.int 1) k = k (kI ka d) d := ix_go (.inl rfl) (by rw [show (1 : Int) = ((1 : Nat) : Int) from rfl, atI_nat]; rfl)
def S_right_lengths : SpecT := fun ds k => ∃ (t : Dt) (U W : Nat → Rat) (Sl : Nat → Nat → Rat), ds = [dataD t, .int (t.g : Nat), likD t U W Sl] ∧ k (.bl true)
theorem k_right_lengths : Keeps n_right_lengths a_right_lengths b_right_lengths S_right_lengths := by
  rintro ds k ⟨t, U, W, Sl, rfl, hk⟩
  refine ⟨rfl, ?_⟩
  unfold likD dataD buysD
  push_cast [b_right_lengths, n_right_lengths, ix_l0, ix_l1]
  have e : decide (((t.n + 2 : Nat) : Int) = ((t.n : Nat) : Int) + 2) = true := decide_eq_true (by omega)
  rw [e]
  push_cast [ix_l0, ix_l1]
  exact hk
def S_all_above : SpecT := fun ds k => ∃ (n : Nat) (a : Nat → Rat), ds = [vec n a] ∧ (∀ i, i < n → sz 2100 (a i)) ∧ ∀ b : Bool, (b = true ↔ ∀ i, i < n → 0 < a i) → k (.bl b)
theorem k_all_above : Keeps n_all_above a_all_above (b_all_above S_at_most) S_all_above := by
  rintro ds k ⟨n, a, rfl, hs, hk⟩
  refine ⟨rfl, ?_⟩
  push_cast [b_all_above, n_all_above]
  refine for_rg (fun i env => (∀ l, l < i → 0 < a l) ∧ ∃ s, env = [.sh (vec n a), s]) ⟨fun l hl => by omega, _, rfl⟩ ?_ ?_
  · rintro i env K hi ⟨hp, s, rfl⟩ hK
    push_cast [rg_len]
    refine at_most_go 2100 1 (hs i hi) (sz0 _ (by omega)) (hk := ?_)
    by_cases h : a i ≤ 0
    · push_cast [h]
      refine hk false ⟨fun q => (by cases q), fun q => absurd (q i hi) (by grind)⟩
    · push_cast [h]
      refine hK _ ⟨fun l hl => ?_, _, rfl⟩
      by_cases e : l = i
      · rw [e]; grind
      · exact hp l (by omega)
  · rintro env ⟨hp, s, rfl⟩
    push_cast [rg_len]
    exact hk true ⟨fun _ => hp, fun _ => rfl⟩
def S_plane_at : SpecT := fun ds k => ∃ (t : Dt) (F S U W : Nat → Rat) (Sl : Nat → Nat → Rat) (i j : Nat), ds = [dataD t, ptsD t F S, likD t U W Sl, .int (i : Nat), .int (j : Nat)] ∧ t.Ok ∧ Bk F S ∧ i < t.n + 2 ∧ j < t.n + 2 ∧ (∀ i, i < t.n + 2 → sz 2100 (U i)) ∧ (∀ i, i < t.n → sz 2100 (W i)) ∧ (∀ b k, b < 2 → k < t.g → sz 2100 (Sl b k)) ∧
  k (fr (U i + slp t F S W Sl i j))
theorem k_plane_at : Keeps n_plane_at a_plane_at (b_plane_at S_add S_mul S_excess S_dot S_minus) S_plane_at := by
  rintro ds k ⟨t, F, S, U, W, Sl, i, j, rfl, ht, hb, hi, hj, hU, hW, hS, hk⟩
  have hn2 := ht.n2
  have hg2 := ht.g2
  refine ⟨rfl, ?_⟩
  unfold likD
  push_cast [b_plane_at, n_plane_at]
  unfold dataD buysD
  push_cast [rg_len]
  unfold slp at hk
  by_cases h : i < t.n
  · rw [if_pos h] at hk
    dsimp! [h]
    refine ⟨t, F, S, i, j, rfl, ht, hb, h, hj, ?_⟩
    push_cast [rg_len]
    refine mul_go 2100 331 (hW i h) (exc_sz ht hb i j) (hk := ?_)
    push_cast [rg_len]
    refine add_go 2100 2431 (hU i hi) (sz_mul (hW i h) (exc_sz ht hb i j)) (hk := ?_)
    push_cast [rg_len]
    exact hk
  · rw [if_neg h] at hk
    dsimp! [h]
    rw [show ((i : Nat) : Int) - ((t.n : Nat) : Int) = ((i - t.n : Nat) : Int) by omega, show [D.lst (rg t.g fun i => fr (Sl 0 i)), D.lst (rg t.g fun i => fr (Sl 1 i))] = rg 2 fun b => D.lst (rg t.g fun i => fr (Sl b i)) from rfl]
    unfold ptsD
    dsimp! [rg_len]
    refine ⟨t.g, pt t F S j, pt t F S i, rfl, hg2, pt_sn ht hb j, pt_sn ht hb i, ?_⟩
    push_cast [rg_len]
    have hm : ∀ l, sz 83 (pt t F S j l - pt t F S i l) := fun l => sz_sub (pt_sn ht hb j l).sz (pt_sn ht hb i l).sz
    refine dot_go (e := 2100) (f := 83) hg2 (by omega) (by omega) (by omega) (fun l hl => hS _ l (by omega) hl) (fun l _ => hm l) ?_
    push_cast [rg_len]
    refine add_go 2100 4400 (hU i hi) ((sm_sz2 (e := 2183) hg2 (by omega) fun l hl => sz_mul (hS _ l (by omega) hl) (hm l)).mono (by omega)) (hk := ?_)
    push_cast [rg_len]
    exact hk
theorem slp_sz {t : Dt} {F S W : Nat → Rat} {Sl : Nat → Nat → Rat} (ht : t.Ok) (hb : Bk F S) (hW : ∀ i, i < t.n → sz 2100 (W i)) (hS : ∀ b k, b < 2 → k < t.g → sz 2100 (Sl b k)) {i j : Nat} (hi : i < t.n + 2) : sz 4400 (slp t F S W Sl i j) := by
  unfold slp
  by_cases h : i < t.n
  · rw [if_pos h]; exact (sz_mul (hW i h) (exc_sz ht hb i j)).mono (by omega)
  · rw [if_neg h]
    have hm : ∀ l, sz 83 (pt t F S j l - pt t F S i l) := fun l => sz_sub (pt_sn ht hb j l).sz (pt_sn ht hb i l).sz
    exact (sm_sz2 (e := 2183) ht.g2 (by omega) fun l hl => sz_mul (hS _ l (by omega) hl) (hm l)).mono (by omega)
def S_goal_holds : SpecT := fun ds k => ∃ (go : Gl) (a b : Rat), ds = [.str go.s, fr a, fr b] ∧ sz 2100 a ∧ sz 2100 b ∧ ∀ r : Bool, (r = true ↔ match go with | .fi => b < a | .al => a = b | .se => a < b) → k (.bl r)
theorem k_goal_holds : Keeps n_goal_holds a_goal_holds (b_goal_holds S_less) S_goal_holds := by
  rintro ds k ⟨go, a, b, rfl, ha, hb, hk⟩
  refine ⟨rfl, ?_⟩
  cases go
  · push_cast [b_goal_holds, n_goal_holds, Gl.s]
    refine less_go 2100 2100 hb ha (hk := ?_)
    push_cast [rg_len]
    exact hk _ decide_eq_true_iff
  · have h1 : ¬ (("alike" : Str) = "first") := by decide
    have h2 : ¬ (("alike" : Str) = "second") := by decide
    push_cast [b_goal_holds, n_goal_holds, Gl.s, h1, h2]
    exact hk _ decide_eq_true_iff
  · have h1 : ¬ (("second" : Str) = "first") := by decide
    push_cast [b_goal_holds, n_goal_holds, Gl.s, h1]
    refine less_go 2100 2100 ha hb (hk := ?_)
    push_cast [rg_len]
    exact hk _ decide_eq_true_iff
def S_links_hold : SpecT := fun ds k => ∃ (t : Dt) (U : Nat → Rat), ds = [linksD t, vec (t.n + 2) U] ∧ t.Ok ∧ (∀ i, i < t.n + 2 → sz 2100 (U i)) ∧ ∀ r : Bool, (r = true ↔ ∀ k, k < t.nl → U (t.lj k) ≤ U (t.li k) ∧ (t.ls k = true → U (t.lj k) < U (t.li k))) → k (.bl r)
theorem k_links_hold : Keeps n_links_hold a_links_hold (b_links_hold S_less) S_links_hold := by
  rintro ds k ⟨t, U, rfl, ht, hU, hk⟩
  refine ⟨rfl, ?_⟩
  unfold linksD
  push_cast [b_links_hold, n_links_hold]
  refine for_rg (fun i env => (∀ k, k < i → U (t.lj k) ≤ U (t.li k) ∧ (t.ls k = true → U (t.lj k) < U (t.li k))) ∧ ∃ s2 s3 s4, env = [.sh (linksD t), .sh (vec (t.n + 2) U), s2, s3, s4]) ⟨fun l hl => by omega, _, _, _, rfl⟩ ?_ ?_
  · rintro i env K hi ⟨hp, s2, s3, s4, rfl⟩ hK
    have h1 := ht.li i hi
    have h2 := ht.lj i hi
    dsimp! [linkD]
    refine less_go 2100 2100 (hU _ (by omega)) (hU _ (by omega)) (hk := ?_)
    by_cases h : U (t.li i) < U (t.lj i)
    · push_cast [h]
      exact hk false ⟨fun q => (by cases q), fun q => absurd (q i hi).1 (by grind)⟩
    · push_cast [h]
      have fin : (t.ls i = true → U (t.lj i) < U (t.li i)) → ∀ k, k < i + 1 → U (t.lj k) ≤ U (t.li k) ∧ (t.ls k = true → U (t.lj k) < U (t.li k)) := fun q l hl => by
        by_cases e : l = i
        · rw [e]; exact ⟨by grind, q⟩
        · exact hp l (by omega)
      cases hs : t.ls i
      · push_cast [rg_len]
        exact hK _ ⟨fin fun q => (by rw [hs] at q; cases q), _, _, _, rfl⟩
      · by_cases h3 : U (t.li i) = U (t.lj i)
        · dsimp! [h3]
          exact hk false ⟨fun q => (by cases q), fun q => absurd ((q i hi).2 hs) (by grind)⟩
        · dsimp! [h3]
          exact hK _ ⟨fin fun _ => by grind, _, _, _, rfl⟩
  · rintro env ⟨hp, s2, s3, s4, rfl⟩
    push_cast [rg_len]
    exact hk true ⟨fun _ => hp, fun _ => rfl⟩
def S_judge_liking : SpecT := fun ds k => ∃ (t : Dt) (F S : Nat → Rat) (go : Gl) (U W : Nat → Rat) (Sl : Nat → Nat → Rat), ds = [dataD t, vec t.g F, vec t.g S, .str go.s, likD t U W Sl] ∧ t.Ok ∧ Bk F S ∧ (∀ i, i < t.n + 2 → sz 2100 (U i)) ∧ (∀ i, i < t.n → sz 2100 (W i)) ∧ (∀ b k, b < 2 → k < t.g → sz 2100 (Sl b k)) ∧
  ∀ r : Bool, (r = true ↔ LikOK t F S go U W Sl) → k (.bl r)
theorem k_judge_liking : Keeps n_judge_liking a_judge_liking (b_judge_liking S_right_lengths S_all_above S_points_of S_less S_plane_at S_goal_holds S_links_hold) S_judge_liking := by
  rintro ds k ⟨t, F, S, go, U, W, Sl, rfl, ht, hb, hU, hW, hS, hk⟩
  have hn2 := ht.n2
  have hg2 := ht.g2
  have no : ¬ LikOK t F S go U W Sl → k (.bl false) := fun q => hk false ⟨fun h => (by cases h), fun h => absurd h q⟩
  refine ⟨rfl, ?_⟩
  push_cast [b_judge_liking, n_judge_liking]
  refine ⟨t, U, W, Sl, rfl, ?_⟩
  unfold likD
  push_cast [ix_l0, ix_l1]
  refine ⟨t.n, W, rfl, hW, fun b1 hb1 => ?_⟩
  cases b1
  · push_cast [rg_len]
    exact no fun q => absurd (hb1.mpr q.w) (by decide)
  push_cast [ix_l0, ix_l1]
  refine ⟨t.g, Sl 0, rfl, fun k hk => hS 0 k (by omega) hk, fun b2 hb2 => ?_⟩
  cases b2
  · push_cast [rg_len]
    exact no fun q => absurd (hb2.mpr fun k hk => q.s 0 k (by omega) hk) (by decide)
  push_cast [ix_l0, ix_l1]
  refine ⟨t.g, Sl 1, rfl, fun k hk => hS 1 k (by omega) hk, fun b3 hb3 => ?_⟩
  cases b3
  · push_cast [rg_len]
    exact no fun q => absurd (hb3.mpr fun k hk => q.s 1 k (by omega) hk) (by decide)
  push_cast [rg_len]
  refine ⟨t, F, S, rfl, ht, ?_⟩
  push_cast [rg_len]
  unfold ptsD
  push_cast [rg_len]
  refine ⟨⟨by omega, by omega⟩, for_rg (fun i env => (∀ i' j', i' < i → j' < t.n + 2 → U j' ≤ U i' + slp t F S W Sl i' j') ∧ ∃ s9 s10, env = [.sh (dataD t), .sh (vec t.g F), .sh (vec t.g S), .sh (.str go.s), .sh (likD t U W Sl), .sh (vec (t.n + 2) U), .sh (vec t.n W), .sh (.lst [vec t.g (Sl 0), vec t.g (Sl 1)]), .sh (ptsD t F S), s9, s10, .no]) ⟨fun _ _ h => by omega, _, _, rfl⟩ ?_ ?_⟩
  · rintro i env K hi ⟨hp, s9, s10, rfl⟩ hK
    push_cast [rg_len]
    unfold ptsD
    push_cast [rg_len]
    refine ⟨⟨by omega, by omega⟩, for_rg (fun j env => (∀ j', j' < j → U j' ≤ U i + slp t F S W Sl i j') ∧ ∃ s10, env = [.sh (dataD t), .sh (vec t.g F), .sh (vec t.g S), .sh (.str go.s), .sh (likD t U W Sl), .sh (vec (t.n + 2) U), .sh (vec t.n W), .sh (.lst [vec t.g (Sl 0), vec t.g (Sl 1)]), .sh (ptsD t F S), .sh (.int (i : Nat)), s10, .no]) ⟨fun _ h => by omega, _, rfl⟩ ?_ ?_⟩
    · rintro j env K' hj ⟨hp', s10, rfl⟩ hK'
      dsimp! [rg_len]
      refine ⟨t, F, S, U, W, Sl, i, j, rfl, ht, hb, hi, hj, hU, hW, hS, ?_⟩
      dsimp! [rg_len]
      refine less_go 6501 2100 (sz_add (hU i hi) (slp_sz ht hb hW hS hi)) (hU j hj) (hk := ?_)
      by_cases h : U i + slp t F S W Sl i j < U j
      · push_cast [h]
        exact no fun q => absurd (q.pl i j hi hj) (by grind)
      · push_cast [h]
        refine hK' _ ⟨fun j' hj' => ?_, _, rfl⟩
        by_cases e : j' = j
        · rw [e]; grind
        · exact hp' j' (by omega)
    · rintro env ⟨hp', s10, rfl⟩
      refine hK _ ⟨fun i' j' hi' hj' => ?_, _, _, rfl⟩
      by_cases e : i' = i
      · rw [e]; exact hp' j' hj'
      · exact hp i' j' (by omega) hj'
  · rintro env ⟨hp, s9, s10, rfl⟩
    push_cast [rg_len]
    unfold dataD buysD
    push_cast [rg_len]
    refine ⟨t, U, rfl, ht, hU, fun b4 hb4 => ?_⟩
    cases b4
    · push_cast [rg_len]
      exact no fun q => absurd (hb4.mpr q.ln) (by decide)
    rw [show ((t.n : Nat) : Int) + 1 = ((t.n + 1 : Nat) : Int) by omega]
    dsimp! [rg_len]
    refine ⟨go, U t.n, U (t.n + 1), rfl, hU _ (by omega), hU _ (by omega), fun r hr => ?_⟩
    push_cast [rg_len]
    refine hk r (hr.trans ⟨fun q => ⟨hb1.mp rfl, fun b k hb hk => ?_, fun i j hi hj => hp i j hi hj, hb4.mp rfl, ?_⟩, fun q => ?_⟩)
    · match b, hb with
      | 0, _ => exact hb2.mp rfl k hk
      | 1, _ => exact hb3.mp rfl k hk
    · cases go <;> simpa [gb, gw] using q
    · have := q.gl
      cases go <;> simpa [gb, gw] using this
end BB
end
section
set_option maxRecDepth 100000
set_option exponentiation.threshold 100
set_option maxHeartbeats 4000000
/-! The judge of a refusal. -/
namespace BB
open PySem L2 MA
theorem dec_iff {p : Prop} (i : Decidable p) : (@decide p i = true) ↔ p := @decide_eq_true_iff p i
theorem ints_fr (r : Rat) : (fr r).ints = true := rfl
theorem dep_fr (r : Rat) : (fr r).dep ≤ 3 := by simp [fr, D.dep, D.deps]
theorem intss_of {xs : List D} (h : ∀ x ∈ xs, x.ints = true) : D.intss xs = true := by
  induction xs with
  | nil => rfl
  | cons x xs ih => unfold D.intss; rw [h x (List.mem_cons_self ..), ih fun y hy => h y (List.mem_cons_of_mem _ hy)]; rfl
theorem deps_of {xs : List D} {n : Nat} (h : ∀ x ∈ xs, x.dep ≤ n) : D.deps xs ≤ n := by
  induction xs with
  | nil => exact Nat.zero_le _
  | cons x xs ih => unfold D.deps; exact Nat.max_le.mpr ⟨h x (List.mem_cons_self ..), ih fun y hy => h y (List.mem_cons_of_mem _ hy)⟩
theorem rg_eq {n : Nat} {a b : Nat → Rat} : (rg n fun i => fr (a i)) = (rg n fun i => fr (b i)) ↔ ∀ i, i < n → a i = b i := by
  constructor
  · intro h i hi
    have := congrArg (fun l => l[i]?) h
    simp only [rg_get _ hi] at this
    injection this with this
    exact fr_inj.mp this
  · exact fun h => rg_congr fun i hi => by rw [h i hi]
theorem eq_vec {n : Nat} {a b : Nat → Rat} {k : Bool → Prop} (hk : ∀ r : Bool, (r = true ↔ ∀ i, i < n → a i = b i) → k r) : eqD (.lst (rg n fun i => fr (a i))) (.lst (rg n fun i => fr (b i))) k := by
  unfold eqD
  dsimp only
  have h : ∀ a : Nat → Rat, D.intss (rg n fun i => fr (a i)) = true ∧ D.deps (rg n fun i => fr (a i)) ≤ 60 := fun a =>
    ⟨intss_of fun x hx => by obtain ⟨i, _, e⟩ := mem_rg.mp hx; rw [← e]; rfl, Nat.le_trans (deps_of (n := 3) fun x hx => by obtain ⟨i, _, e⟩ := mem_rg.mp hx; rw [← e]; exact dep_fr _) (by omega)⟩
  refine ⟨(h a).1, (h b).1, (h a).2, (h b).2, hk _ ?_⟩
  exact (dec_iff _).trans rg_eq
def S_none_below : SpecT := fun ds k => ∃ (n : Nat) (a : Nat → Rat), ds = [vec n a] ∧ (∀ i, i < n → sz 2100 (a i)) ∧ ∀ b : Bool, (b = true ↔ ∀ i, i < n → 0 ≤ a i) → k (.bl b)
theorem k_none_below : Keeps n_none_below a_none_below (b_none_below S_less) S_none_below := by
  rintro ds k ⟨n, a, rfl, hs, hk⟩
  refine ⟨rfl, ?_⟩
  push_cast [b_none_below, n_none_below]
  refine for_rg (fun i env => (∀ l, l < i → 0 ≤ a l) ∧ ∃ s, env = [.sh (vec n a), s]) ⟨fun l hl => by omega, _, rfl⟩ ?_ ?_
  · rintro i env K hi ⟨hp, s, rfl⟩ hK
    push_cast [rg_len]
    refine less_go 2100 1 (hs i hi) (sz0 _ (by omega)) (hk := ?_)
    by_cases h : a i < 0
    · push_cast [h]
      refine hk false ⟨fun q => (by cases q), fun q => absurd (q i hi) (by grind)⟩
    · push_cast [h]
      refine hK _ ⟨fun l hl => ?_, _, rfl⟩
      by_cases e : l = i
      · rw [e]; grind
      · exact hp l (by omega)
  · rintro env ⟨hp, s, rfl⟩
    push_cast [rg_len]
    exact hk true ⟨fun _ => hp, fun _ => rfl⟩
def S_right_prices : SpecT := fun ds k => ∃ (t : Dt) (go : Gl) (P : Nat → Nat → Rat) (Q G : Nat → Rat), ds = [dataD t, .str go.s, refD t (ng go) P Q G] ∧ t.Ok ∧ (∀ i j, i < t.n + 2 → j < t.n + 2 → sz 2100 (P i j)) ∧ (∀ k, k < t.nl → sz 2100 (Q k)) ∧ (∀ k, k < ng go → sz 2100 (G k)) ∧
  ∀ r : Bool, (r = true ↔ (∀ i j, i < t.n + 2 → j < t.n + 2 → 0 ≤ P i j) ∧ (∀ k, k < t.nl → 0 ≤ Q k) ∧ ∀ k, k < ng go → 0 ≤ G k) → k (.bl r)
theorem k_right_prices : Keeps n_right_prices a_right_prices (b_right_prices S_goal_pairs S_none_below) S_right_prices := by
  rintro ds k ⟨t, go, P, Q, G, rfl, ht, hP, hQ, hG, hk⟩
  have hn2 := ht.n2
  refine ⟨rfl, ?_⟩
  unfold refD
  push_cast [b_right_prices, n_right_prices]
  unfold dataD buysD linksD
  push_cast [rg_len]
  have e : ((t.n + 2 : Nat) : Int) = ((t.n : Nat) : Int) + 2 := by omega
  rw [← e]
  push_cast [rg_len]
  refine ⟨t.n + 2, go, rfl, ?_⟩
  unfold gpD
  push_cast [rg_len]
  refine for_rg (fun i env => (∀ i' j', i' < i → j' < t.n + 2 → 0 ≤ P i' j') ∧ ∃ s, env = [.sh (dataD t), .sh (.str go.s), .sh (refD t (ng go) P Q G), .sh (mat (t.n + 2) (t.n + 2) P), .sh (vec t.nl Q), .sh (vec (ng go) G), .sh (.int (t.n + 2 : Nat)), s]) ⟨fun _ _ h => by omega, _, rfl⟩ ?_ ?_
  · rintro i env K hi ⟨hp, s, rfl⟩ hK
    push_cast [rg_len]
    refine ⟨t.n + 2, P i, rfl, fun j hj => hP i j hi hj, fun b hb => ?_⟩
    cases b
    · push_cast [rg_len]
      exact hk false ⟨fun q => (by cases q), fun q => absurd (hb.mpr fun j hj => q.1 i j hi hj) (by decide)⟩
    · push_cast [rg_len]
      refine hK _ ⟨fun i' j' h1 h2 => ?_, _, rfl⟩
      by_cases e : i' = i
      · rw [e]; exact hb.mp rfl j' h2
      · exact hp i' j' (by omega) h2
  · rintro env ⟨hp, s, rfl⟩
    push_cast [rg_len]
    refine ⟨t.nl, Q, rfl, hQ, fun b hb => ?_⟩
    cases b
    · push_cast [rg_len]
      exact hk false ⟨fun q => (by cases q), fun q => absurd (hb.mpr q.2.1) (by decide)⟩
    · push_cast [rg_len]
      refine ⟨ng go, G, rfl, hG, fun b2 hb2 => ?_⟩
      push_cast [rg_len]
      exact hk b2 (hb2.trans ⟨fun q => ⟨hp, hb.mp rfl, q⟩, fun q => q.2.2⟩)
theorem seq_go {a b : PS'} {Z : Post} {env : Env} (h : a { Z with nx := b Z } env) : sSeq a b Z env := h
theorem pVar_ow {i : Nat} {env : Env} {ds : List D} {k : Kd → D → Prop} (h : env[i]? = some (.ow ds)) : pVar i env k = k .o (.lst ds) := by unfold pVar; rw [h]
/-- net of i up by p, of j down by p -/
theorem net_go {a b : Nat} {E : PE'} {Z : Post} {env : Env} {c i j : Nat} {w : Nat → Rat} {p : Rat} (h7 : env[7]? = some (.ow (rg c fun v => fr (w v)))) (hl : 7 < env.length)
    (ha : ∀ l K, K .s (.int (i : Nat)) → pVar a (env.set 7 l) K) (hb : ∀ l K, K .s (.int (j : Nat)) → pVar b (env.set 7 l) K) (hE : ∀ l K, K .s (fr p) → E (env.set 7 l) K)
    (hi : i < c) (hj : j < c) (hw : ∀ v, v < c → sz 2050 (w v)) (hw2 : ∀ v, v < c → sz 2060 (w v + p)) (hp : sz 2050 p)
    (hk : Z.nx (env.set 7 (.ow (rg c fun v => fr (w v + p * nmA i j v))))) :
    sSeq (sPut 7 (pVar a) (pCall S_add (aCons (pIx (pVar 7) (pVar a)) (aCons E aNil)))) (sSeq (sPut 7 (pVar b) (pCall S_sub (aCons (pIx (pVar 7) (pVar b)) (aCons E aNil)))) sNext) Z env := by
  have hself : env = env.set 7 (.ow (rg c fun v => fr (w v))) := by
    refine List.ext_getElem? fun q => ?_
    rw [List.getElem?_set]
    by_cases e : 7 = q
    · subst e; rw [if_pos rfl, if_pos hl, h7]
    · rw [if_neg e]
  have g7 : ∀ l, (env.set 7 l)[7]? = some l := fun l => by rw [List.getElem?_set, if_pos rfl, if_pos hl]
  have gset : ∀ l l', (env.set 7 l).set 7 l' = env.set 7 l' := fun l l' => List.set_set ..
  unfold sSeq
  rw [hself]
  refine sPut_go (n := c) (f := fun v => fr (w v)) (g7 _) i (fr (w i + p)) (fun K h => ?_) (fun K h => ha _ _ (h _)) hi ?_
  · unfold pCall aCons pIx
    dsimp only
    rw [pVar_ow (g7 _)]
    refine ha _ _ ?_
    rw [ix_rg hi]
    refine hE _ _ ?_
    unfold aNil
    exact add_go 2050 2050 (hw i hi) hp (hk := by push_cast [rg_len]; exact h)
  rw [gset]
  refine sPut_go (n := c) (f := fun v => if v = i then fr (w i + p) else fr (w v)) (g7 _) j (fr ((if j = i then w i + p else w j) - p)) (fun K h => ?_) (fun K h => hb _ _ (h _)) hj ?_
  · unfold pCall aCons pIx
    dsimp only
    rw [pVar_ow (g7 _)]
    refine hb _ _ ?_
    rw [ix_rg hj]
    refine hE _ _ ?_
    unfold aNil
    have e : (if j = i then fr (w i + p) else fr (w j)) = fr (if j = i then w i + p else w j) := by split <;> rfl
    rw [e]
    refine sub_go 2060 2050 ?_ hp (hk := by push_cast [rg_len]; exact h)
    split
    · exact hw2 i hi
    · exact (hw j hj).mono (by omega)
  rw [gset]
  unfold sNext
  have e : (rg c fun l => if l = j then fr ((if j = i then w i + p else w j) - p) else if l = i then fr (w i + p) else fr (w l)) = rg c fun v => fr (w v + p * nmA i j v) := rg_congr fun v _ => by
    unfold nmA
    by_cases e1 : v = j
    · by_cases e2 : j = i
      · rw [if_pos e1, if_pos e2, if_pos (by omega), if_pos e1, show v = i by omega]; congr 1; grind
      · rw [if_pos e1, if_neg e2, if_neg (by omega), if_pos e1, e1]; congr 1; grind
    · by_cases e2 : v = i
      · rw [if_neg e1, if_pos e2, if_pos e2, if_neg e1, e2]; congr 1; grind
      · rw [if_neg e1, if_neg e2, if_neg e2, if_neg e1]; congr 1; grind
  rw [e]
  exact hk
theorem nm_Zs {d M : Nat} {p : Rat} (h : Zs d M p) (i j v : Nat) : Zs d (2 * M) (p * nmA i j v) := by
  have h1 : ∀ q : Prop, [Decidable q] → Zs d M (p * if q then 1 else 0) := fun q _ => by
    split
    · rwa [Rat.mul_one]
    · rw [Rat.mul_zero]; exact Zs.zero
  unfold nmA
  rw [Rat.sub_eq_add_neg, Rat.mul_add, Rat.mul_neg]
  exact ((h1 (v = i)).add (h1 (v = j)).neg).mono (by omega)
section
variable (t : Dt) (go : Gl) (P : Nat → Nat → Rat) (Q G : Nat → Rat)
/-- the net so far -/
def netP (i j a b : Nat) (v : Nat) : Rat :=
  ((sm i fun i' => sm (t.n + 2) fun j' => P i' j' * nmA i' j' v) + sm j fun j' => P i j' * nmA i j' v) + (sm a fun k => Q k * nmA (t.li k) (t.lj k) v) + sm b fun k => G k * nmA (gb t.n go k) (gw t.n go k) v
theorem netP_sz {t : Dt} {go : Gl} {P : Nat → Nat → Rat} {Q G : Nat → Rat} {d : Nat} (ht : t.Ok) (hd0 : 0 < d) (hd1 : d ≤ 2 ^ 2016) (hP : ∀ i j, i < t.n + 2 → j < t.n + 2 → Zs d (2 ^ 2022) (P i j)) (hQ : ∀ k, k < t.nl → Zs d (2 ^ 2022) (Q k)) (hG : ∀ k, k < ng go → Zs d (2 ^ 2022) (G k))
    {i j a b : Nat} (h : (i < t.n + 2 ∧ j ≤ t.n + 2) ∨ (i = t.n + 2 ∧ j = 0)) (ha : a ≤ t.nl) (hb : b ≤ ng go) (v : Nat) : sz 2050 (netP t go P Q G i j a b v) ∧ ∀ p, Zs d (2 ^ 2022) p → sz 2060 (netP t go P Q G i j a b v + p) := by
  have hn2 := ht.n2
  have hl2 := ht.nl2
  have hg2 := ng_le go
  have z1 : Zs d (i * ((t.n + 2) * (2 * 2 ^ 2022))) (sm i fun i' => sm (t.n + 2) fun j' => P i' j' * nmA i' j' v) := Zs.sm fun i' hi' => Zs.sm fun j' hj' => nm_Zs (hP i' j' (by omega) hj') _ _ _
  have z2 : Zs d (j * (2 * 2 ^ 2022)) (sm j fun j' => P i j' * nmA i j' v) := Zs.sm fun j' hj' => nm_Zs (hP i j' (by omega) (by omega)) _ _ _
  have z3 : Zs d (a * (2 * 2 ^ 2022)) (sm a fun k => Q k * nmA (t.li k) (t.lj k) v) := Zs.sm fun k hk => nm_Zs (hQ k (by omega)) _ _ _
  have z4 : Zs d (b * (2 * 2 ^ 2022)) (sm b fun k => G k * nmA (gb t.n go k) (gw t.n go k) v) := Zs.sm fun k hk => nm_Zs (hG k (by omega)) _ _ _
  have hM : i * ((t.n + 2) * (2 * 2 ^ 2022)) + j * (2 * 2 ^ 2022) + a * (2 * 2 ^ 2022) + b * (2 * 2 ^ 2022) ≤ 2 ^ 2030 := by
    have e : i * ((t.n + 2) * (2 * 2 ^ 2022)) + j * (2 * 2 ^ 2022) + a * (2 * 2 ^ 2022) + b * (2 * 2 ^ 2022) = (i * (t.n + 2) + j + a + b) * 2 * 2 ^ 2022 := by
      generalize 2 ^ 2022 = X
      simp only [Nat.add_mul, Nat.mul_assoc]
    rw [e]
    have h1 : i * (t.n + 2) ≤ 4 * 4 := Nat.mul_le_mul (by omega) (by omega)
    calc (i * (t.n + 2) + j + a + b) * 2 * 2 ^ 2022 ≤ 2 ^ 6 * 2 ^ 2022 := Nat.mul_le_mul_right _ (by omega)
      _ = 2 ^ 2028 := by rw [← Nat.pow_add]
      _ ≤ 2 ^ 2030 := Nat.pow_le_pow_right (by omega) (by omega)
  have z : Zs d (2 ^ 2030) (netP t go P Q G i j a b v) := (((z1.add z2).add z3).add z4).mono hM
  refine ⟨z.sz hd0 (Nat.lt_of_le_of_lt hd1 (Nat.pow_lt_pow_right (by omega) (by omega))) (Nat.pow_lt_pow_right (by omega) (by omega)), fun p hp => (z.add hp).sz hd0 (Nat.lt_of_le_of_lt hd1 (Nat.pow_lt_pow_right (by omega) (by omega))) ?_⟩
  have : (2 : Nat) ^ 2022 ≤ 2 ^ 2030 := Nat.pow_le_pow_right (by omega) (by omega)
  calc 2 ^ 2030 + 2 ^ 2022 ≤ 2 ^ 2030 + 2 ^ 2030 := Nat.add_le_add_left this _
    _ = 2 ^ 2031 := by rw [Nat.pow_succ 2 2030, Nat.mul_two]
    _ < 2 ^ 2060 := Nat.pow_lt_pow_right (by omega) (by omega)
end
def S_balanced : SpecT := fun ds k => ∃ (t : Dt) (F S : Nat → Rat) (go : Gl) (P : Nat → Nat → Rat) (Q G : Nat → Rat), ds = [dataD t, ptsD t F S, .str go.s, refD t (ng go) P Q G] ∧ t.Ok ∧ RefZ t (ng go) P Q G ∧ ∀ r : Bool, (r = true ↔ ∀ v, v < t.n + 2 → netv t go P Q G v = 0) → k (.bl r)
theorem k_balanced : Keeps n_balanced a_balanced (b_balanced S_add S_sub S_goal_pairs) S_balanced := by
  rintro ds k ⟨t, F, S, go, P, Q, G, rfl, ht, ⟨d, hd0, hd1, hP, hQ, hG⟩, hk⟩
  have hn2 := ht.n2
  have hl2 := ht.nl2
  have hg2 := ng_le go
  have psz : ∀ {p : Rat}, Zs d (2 ^ 2022) p → sz 2050 p := fun h => h.sz hd0 (Nat.lt_of_le_of_lt hd1 (Nat.pow_lt_pow_right (by omega) (by omega))) (Nat.pow_lt_pow_right (by omega) (by omega))
  have nsz := fun {i j a b : Nat} (h : (i < t.n + 2 ∧ j ≤ t.n + 2) ∨ (i = t.n + 2 ∧ j = 0)) (ha : a ≤ t.nl) (hb : b ≤ ng go) (v : Nat) => netP_sz (t := t) (go := go) (P := P) (Q := Q) (G := G) ht hd0 hd1 hP hQ hG h ha hb v
  refine ⟨rfl, ?_⟩
  unfold refD
  push_cast [b_balanced, n_balanced]
  unfold ptsD
  push_cast [rg_len]
  refine ⟨by omega, comp_rg (fun _ => fr 0) (fun j K hj hK => by push_cast [rg_len]; exact hK) ?_⟩
  refine ⟨⟨by omega, by omega⟩, for_rg (fun i env => ∃ s8 s9, env = [.sh (dataD t), .sh (ptsD t F S), .sh (.str go.s), .sh (refD t (ng go) P Q G), .sh (mat (t.n + 2) (t.n + 2) P), .sh (vec t.nl Q), .sh (vec (ng go) G), .ow (rg (t.n + 2) fun v => fr (netP t go P Q G i 0 0 0 v)), s8, s9, .no, .no, .no, .no, .no, .no]) ⟨.no, .no, ?_⟩ ?_ ?_⟩
  · rw [rg_congr (n := t.n + 2) (f := fun v => fr (netP t go P Q G 0 0 0 0 v)) (g := fun _ => fr 0) fun v _ => by
      unfold netP; rw [sm_0, sm_0, sm_0, sm_0]; congr 1; grind]
    rfl
  · rintro i env K hi ⟨s8, s9, rfl⟩ hK
    push_cast [rg_len]
    unfold ptsD
    push_cast [rg_len]
    refine ⟨⟨by omega, by omega⟩, for_rg (fun j env => ∃ s9, env = [.sh (dataD t), .sh (ptsD t F S), .sh (.str go.s), .sh (refD t (ng go) P Q G), .sh (mat (t.n + 2) (t.n + 2) P), .sh (vec t.nl Q), .sh (vec (ng go) G), .ow (rg (t.n + 2) fun v => fr (netP t go P Q G i j 0 0 v)), .sh (.int (i : Nat)), s9, .no, .no, .no, .no, .no, .no]) ⟨_, rfl⟩ ?_ ?_⟩
    · rintro j env K' hj ⟨s9, rfl⟩ hK'
      unfold gName'
      refine net_go (c := t.n + 2) (i := i) (j := j) (w := netP t go P Q G i j 0 0) (p := P i j) rfl (by simp) (fun l K h => ?_) (fun l K h => ?_) (fun l K h => ?_) hi hj (fun v _ => (nsz (.inl ⟨hi, by omega⟩) (by omega) (by omega) v).1) (fun v _ => (nsz (.inl ⟨hi, by omega⟩) (by omega) (by omega) v).2 _ (hP i j hi hj)) (psz (hP i j hi hj)) ?_
      · push_cast [rg_len]; exact h
      · push_cast [rg_len]; exact h
      · dsimp! [rg_len]; exact h
      · exact hK' _ ⟨_, by rw [show (fun v => fr (netP t go P Q G i (j + 1) 0 0 v)) = fun v => fr (netP t go P Q G i j 0 0 v + P i j * nmA i j v) from funext fun v => by unfold netP; rw [sm_s]; congr 1; grind]; rfl⟩
    · rintro env ⟨s9, rfl⟩
      exact hK _ ⟨_, _, by rw [show (fun v => fr (netP t go P Q G (i + 1) 0 0 0 v)) = fun v => fr (netP t go P Q G i (t.n + 2) 0 0 v) from funext fun v => by unfold netP; rw [sm_s i, sm_0 (fun j' => P (i + 1) j' * nmA (i + 1) j' v)]; congr 1; grind]⟩
  · rintro env ⟨s8, s9, rfl⟩
    push_cast [rg_len]
    unfold dataD linksD
    push_cast [rg_len]
    refine ⟨⟨by omega, by omega⟩, for_rg (fun i env => ∃ s8 s9 s10 s11, env = [.sh (dataD t), .sh (ptsD t F S), .sh (.str go.s), .sh (refD t (ng go) P Q G), .sh (mat (t.n + 2) (t.n + 2) P), .sh (vec t.nl Q), .sh (vec (ng go) G), .ow (rg (t.n + 2) fun v => fr (netP t go P Q G (t.n + 2) 0 i 0 v)), s8, s9, s10, s11, .no, .no, .no, .no]) ⟨_, _, _, _, rfl⟩ ?_ ?_⟩
    · rintro i env K hi ⟨s8, s9, s10, s11, rfl⟩ hK
      have h1 := ht.li i hi
      have h2 := ht.lj i hi
      unfold gName'
      rw [show ([.sh (dataD t), .sh (ptsD t F S), .sh (.str go.s), .sh (refD t (ng go) P Q G), .sh (mat (t.n + 2) (t.n + 2) P), .sh (vec t.nl Q), .sh (vec (ng go) G), .ow (rg (t.n + 2) fun v => fr (netP t go P Q G (t.n + 2) 0 i 0 v)), s8, s9, s10, s11, .no, .no, .no, .no] : Env).set 10 (.sh (.int (i : Nat))) = [.sh (dataD t), .sh (ptsD t F S), .sh (.str go.s), .sh (refD t (ng go) P Q G), .sh (mat (t.n + 2) (t.n + 2) P), .sh (vec t.nl Q), .sh (vec (ng go) G), .ow (rg (t.n + 2) fun v => fr (netP t go P Q G (t.n + 2) 0 i 0 v)), s8, s9, .sh (.int (i : Nat)), s11, .no, .no, .no, .no] from rfl]
      have stepL : ∀ Z : Post, Z.nx [.sh (dataD t), .sh (ptsD t F S), .sh (.str go.s), .sh (refD t (ng go) P Q G), .sh (mat (t.n + 2) (t.n + 2) P), .sh (vec t.nl Q), .sh (vec (ng go) G), .ow (rg (t.n + 2) fun v => fr (netP t go P Q G (t.n + 2) 0 i 0 v)), .sh (.int (t.li i : Nat)), .sh (.int (t.lj i : Nat)), .sh (.int (i : Nat)), .sh (.bl (t.ls i)), .no, .no, .no, .no] →
          sSet (gTup' 3 (gCons' (gName' 8) (gCons' (gName' 9) (gCons' (gName' 11) gNil')))) (pIx (pFld .links (pVar 0)) (pVar 10)) Z [.sh (dataD t), .sh (ptsD t F S), .sh (.str go.s), .sh (refD t (ng go) P Q G), .sh (mat (t.n + 2) (t.n + 2) P), .sh (vec t.nl Q), .sh (vec (ng go) G), .ow (rg (t.n + 2) fun v => fr (netP t go P Q G (t.n + 2) 0 i 0 v)), s8, s9, .sh (.int (i : Nat)), s11, .no, .no, .no, .no] := fun Z hZ => by
        push_cast [rg_len]
        unfold dataD linksD
        dsimp! [linkD]
        exact hZ
      refine seq_go (stepL _ ?_)
      dsimp only
      refine net_go (c := t.n + 2) (i := t.li i) (j := t.lj i) (w := netP t go P Q G (t.n + 2) 0 i 0) (p := Q i) rfl (by simp) (fun l K h => ?_) (fun l K h => ?_) (fun l K h => ?_) (by omega) (by omega) (fun v _ => (nsz (.inr ⟨rfl, rfl⟩) (by omega) (by omega) v).1) (fun v _ => (nsz (.inr ⟨rfl, rfl⟩) (by omega) (by omega) v).2 _ (hQ i hi)) (psz (hQ i hi)) ?_
      · push_cast [rg_len]; exact h
      · push_cast [rg_len]; exact h
      · dsimp! [rg_len]; exact h
      · exact hK _ ⟨_, _, _, _, by rw [show (fun v => fr (netP t go P Q G (t.n + 2) 0 (i + 1) 0 v)) = fun v => fr (netP t go P Q G (t.n + 2) 0 i 0 v + Q i * nmA (t.li i) (t.lj i) v) from funext fun v => by unfold netP; rw [sm_s i]; congr 1; grind]; rfl⟩
    · rintro env ⟨s8, s9, s10, s11, rfl⟩
      push_cast [rg_len]
      unfold dataD buysD
      push_cast [rg_len]
      refine ⟨t.n, go, rfl, ?_⟩
      unfold gpD
      push_cast [rg_len]
      refine ⟨⟨by omega, by omega⟩, for_rg (fun i env => ∃ s10 s13 s14, env = [.sh (dataD t), .sh (ptsD t F S), .sh (.str go.s), .sh (refD t (ng go) P Q G), .sh (mat (t.n + 2) (t.n + 2) P), .sh (vec t.nl Q), .sh (vec (ng go) G), .ow (rg (t.n + 2) fun v => fr (netP t go P Q G (t.n + 2) 0 t.nl i v)), s8, s9, s10, s11, .sh (gpD t.n go), s13, s14, .no]) ⟨_, _, _, rfl⟩ ?_ ?_⟩
      · rintro i env K hi ⟨s10, s13, s14, rfl⟩ hK
        unfold gName'
        rw [show ([.sh (dataD t), .sh (ptsD t F S), .sh (.str go.s), .sh (refD t (ng go) P Q G), .sh (mat (t.n + 2) (t.n + 2) P), .sh (vec t.nl Q), .sh (vec (ng go) G), .ow (rg (t.n + 2) fun v => fr (netP t go P Q G (t.n + 2) 0 t.nl i v)), s8, s9, s10, s11, .sh (gpD t.n go), s13, s14, .no] : Env).set 10 (.sh (.int (i : Nat))) = [.sh (dataD t), .sh (ptsD t F S), .sh (.str go.s), .sh (refD t (ng go) P Q G), .sh (mat (t.n + 2) (t.n + 2) P), .sh (vec t.nl Q), .sh (vec (ng go) G), .ow (rg (t.n + 2) fun v => fr (netP t go P Q G (t.n + 2) 0 t.nl i v)), s8, s9, .sh (.int (i : Nat)), s11, .sh (gpD t.n go), s13, s14, .no] from rfl]
        have stepL : ∀ Z : Post, Z.nx [.sh (dataD t), .sh (ptsD t F S), .sh (.str go.s), .sh (refD t (ng go) P Q G), .sh (mat (t.n + 2) (t.n + 2) P), .sh (vec t.nl Q), .sh (vec (ng go) G), .ow (rg (t.n + 2) fun v => fr (netP t go P Q G (t.n + 2) 0 t.nl i v)), s8, s9, .sh (.int (i : Nat)), s11, .sh (gpD t.n go), .sh (.int (gb t.n go i : Nat)), .sh (.int (gw t.n go i : Nat)), .no] →
            sSet (gTup' 2 (gCons' (gName' 13) (gCons' (gName' 14) gNil'))) (pIx (pVar 12) (pVar 10)) Z [.sh (dataD t), .sh (ptsD t F S), .sh (.str go.s), .sh (refD t (ng go) P Q G), .sh (mat (t.n + 2) (t.n + 2) P), .sh (vec t.nl Q), .sh (vec (ng go) G), .ow (rg (t.n + 2) fun v => fr (netP t go P Q G (t.n + 2) 0 t.nl i v)), s8, s9, .sh (.int (i : Nat)), s11, .sh (gpD t.n go), s13, s14, .no] := fun Z hZ => by
          unfold gpD
          dsimp! [rg_len]
          exact hZ
        refine seq_go (stepL _ ?_)
        dsimp only
        refine net_go (c := t.n + 2) (i := gb t.n go i) (j := gw t.n go i) (w := netP t go P Q G (t.n + 2) 0 t.nl i) (p := G i) rfl (by simp) (fun l K h => ?_) (fun l K h => ?_) (fun l K h => ?_) (gb_lt _ _ _) (gw_lt _ _ _) (fun v _ => (nsz (.inr ⟨rfl, rfl⟩) (by omega) (by omega) v).1) (fun v _ => (nsz (.inr ⟨rfl, rfl⟩) (by omega) (by omega) v).2 _ (hG i hi)) (psz (hG i hi)) ?_
        · push_cast [rg_len]; exact h
        · push_cast [rg_len]; exact h
        · dsimp! [rg_len]; exact h
        · exact hK _ ⟨_, _, _, by rw [show (fun v => fr (netP t go P Q G (t.n + 2) 0 t.nl (i + 1) v)) = fun v => fr (netP t go P Q G (t.n + 2) 0 t.nl i v + G i * nmA (gb t.n go i) (gw t.n go i) v) from funext fun v => by unfold netP; rw [sm_s i]; congr 1; grind]; rfl⟩
      · rintro env ⟨s10, s13, s14, rfl⟩
        push_cast [rg_len]
        unfold ptsD
        push_cast [rg_len]
        refine ⟨by omega, comp_rg (fun _ => fr 0) (fun j K hj hK => by push_cast [rg_len]; exact hK) ?_⟩
        refine eq_vec fun r hr => ?_
        refine hk r (hr.trans ⟨fun q v hv => ?_, fun q v hv => ?_⟩)
        · have := q v hv
          unfold netP at this
          unfold netv
          rw [sm_0] at this; grind
        · have := q v hv
          unfold netv at this
          unfold netP
          rw [sm_0]; grind
end BB
end
section
set_option maxRecDepth 100000
set_option exponentiation.threshold 100
set_option maxHeartbeats 4000000
/-! excesses, judge_refusal. -/
namespace BB
open PySem L2 MA
theorem wsum_Zs {c B M d m : Nat} {f w : Nat → Rat} (hc : 0 < c) (hf : ∀ i, i < m → ∃ L, 0 < L ∧ L ≤ c ∧ Zs L B (f i)) (hw : ∀ i, i < m → Zs d M (w i)) : ∀ i, i ≤ m → ∃ e, 0 < e ∧ e ≤ c ^ i ∧ Zs (d * e) (i * (M * B * c ^ i)) (sm i fun k => w k * f k)
  | 0, _ => ⟨1, by omega, by simp, by rw [sm_0]; exact Zs.zero⟩
  | i + 1, hi => by
    obtain ⟨e, h1, h2, h3⟩ := wsum_Zs hc hf hw i (by omega)
    obtain ⟨L, g1, g2, g3⟩ := hf i (by omega)
    have h4 := (hw i (by omega)).mul g3
    refine ⟨e * L, Nat.mul_pos h1 g1, by rw [Nat.pow_succ]; exact Nat.mul_le_mul h2 g2, ?_⟩
    rw [sm_s]
    have h5 := h4.up e
    have h6 := h3.up L
    rw [Nat.mul_assoc d L, Nat.mul_comm L e, ← Nat.mul_assoc] at h5
    rw [← Nat.mul_assoc]
    refine (h6.add h5).mono ?_
    rw [Nat.succ_mul, Nat.pow_succ]
    refine Nat.add_le_add ?_ ?_
    · rw [Nat.mul_assoc, Nat.mul_assoc]
      exact Nat.mul_le_mul_left _ (Nat.mul_le_mul_left _ (Nat.mul_le_mul_left _ g2))
    · refine Nat.mul_le_mul_left _ (Nat.le_trans h2 ?_)
      exact Nat.le_mul_of_pos_right _ hc
theorem wsum_sz {t : Dt} (ht : t.Ok) {d : Nat} {f w : Nat → Rat} (hd0 : 0 < d) (hd1 : d ≤ 2 ^ 2016) (hf : ∀ i, i < t.n + 2 → ∃ L, 0 < L ∧ L ≤ 2 ^ 60 ∧ Zs L (2 ^ 122) (f i)) (hw : ∀ i, i < t.n + 2 → Zs d (2 ^ 2022) (w i)) {i : Nat} (hi : i ≤ t.n + 2) : sz 2400 (sm i fun k => w k * f k) := by
  obtain ⟨e, h1, h2, h3⟩ := wsum_Zs (Nat.two_pow_pos 60) hf hw i hi
  have hn2 := ht.n2
  rw [← Nat.pow_mul] at h2 h3
  have h4 : (2 : Nat) ^ (60 * i) ≤ 2 ^ 240 := Nat.pow_le_pow_right (by omega) (by omega)
  refine h3.sz (Nat.mul_pos hd0 h1) ?_ ?_
  · have : d * e ≤ 2 ^ 2016 * 2 ^ 240 := Nat.mul_le_mul hd1 (Nat.le_trans h2 h4)
    rw [← Nat.pow_add] at this
    exact Nat.lt_of_le_of_lt this (Nat.pow_lt_pow_right (by omega) (by omega))
  · have : i * (2 ^ 2022 * 2 ^ 122 * 2 ^ (60 * i)) ≤ 2 ^ 2 * (2 ^ 2022 * 2 ^ 122 * 2 ^ 240) := Nat.mul_le_mul (by omega) (Nat.mul_le_mul_left _ h4)
    rw [← Nat.pow_add, ← Nat.pow_add 2 (2022 + 122) 240, ← Nat.pow_add 2 2] at this
    rw [← Nat.pow_add]
    exact Nat.lt_of_le_of_lt this (Nat.pow_lt_pow_right (by omega) (by omega))
def XX (t : Dt) (F S : Nat → Rat) (P : Nat → Nat → Rat) (l : Nat) : Rat := if l < t.n then E1 t F S P l else if l < t.n + t.g then E2 t F S P 0 (l - t.n) else E2 t F S P 1 (l - t.n - t.g)
theorem XX_b {t : Dt} {F S : Nat → Rat} {P : Nat → Nat → Rat} {b k : Nat} (hb : b < 2) (hk : k < t.g) : XX t F S P (t.n + b * t.g + k) = E2 t F S P b k := by
  unfold XX
  rw [if_neg (by omega)]
  match b, hb with
  | 0, _ => rw [if_pos (by omega), show t.n + 0 * t.g + k - t.n = k by omega]
  | 1, _ => rw [if_neg (by omega), show t.n + 1 * t.g + k - t.n - t.g = k by omega]
theorem diff_Zs' {a b : Rat} (ha : sn a) (hb : sn b) : ∃ d, 0 < d ∧ d ≤ 2 ^ 60 ∧ Zs d (2 ^ 122) (a - b) := by
  obtain ⟨d, h1, h2, h3⟩ := diff_Zs ha hb
  exact ⟨d, h1, Nat.le_trans h2 (Nat.pow_le_pow_right (by omega) (by omega)), h3.mono (Nat.pow_le_pow_right (by omega) (by omega))⟩
def S_excesses : SpecT := fun ds k => ∃ (t : Dt) (F S : Nat → Rat) (P : Nat → Nat → Rat) (d : Nat), ds = [dataD t, ptsD t F S, mat (t.n + 2) (t.n + 2) P] ∧ t.Ok ∧ Bk F S ∧ 0 < d ∧ d ≤ 2 ^ 2016 ∧ (∀ i j, i < t.n + 2 → j < t.n + 2 → Zs d (2 ^ 2022) (P i j)) ∧ k (vec (t.n + 2 * t.g) (XX t F S P))
theorem k_excesses : Keeps n_excesses a_excesses (b_excesses S_add S_mul S_excess S_sub) S_excesses := by
  rintro ds k ⟨t, F, S, P, d, rfl, ht, hb, hd0, hd1, hP, hk⟩
  have hn2 := ht.n2
  have hg2 := ht.g2
  have psz : ∀ {i j}, i < t.n + 2 → j < t.n + 2 → sz 2100 (P i j) := fun h h' => (hP _ _ h h').sz hd0 (Nat.lt_of_le_of_lt hd1 (Nat.pow_lt_pow_right (by omega) (by omega))) (Nat.pow_lt_pow_right (by omega) (by omega))
  refine ⟨rfl, ?_⟩
  push_cast [b_excesses, n_excesses]
  unfold dataD buysD
  push_cast [rg_len]
  refine ⟨⟨by omega, by omega⟩, for_rg (fun i env => ∃ s5 s6 s7, env = [.sh (dataD t), .sh (ptsD t F S), .sh (mat (t.n + 2) (t.n + 2) P), .sh (.int (t.n : Nat)), .ow (rg i fun l => fr (E1 t F S P l)), s5, s6, s7, .no]) ⟨_, _, _, rfl⟩ ?_ ?_⟩
  · rintro i env K hi ⟨s5, s6, s7, rfl⟩ hK
    push_cast [rg_len]
    unfold ptsD
    push_cast [rg_len]
    refine ⟨⟨by omega, by omega⟩, for_rg (fun j env => ∃ s7, env = [.sh (dataD t), .sh (ptsD t F S), .sh (mat (t.n + 2) (t.n + 2) P), .sh (.int (t.n : Nat)), .ow (rg i fun l => fr (E1 t F S P l)), .sh (.int (i : Nat)), .sh (fr (sm j fun j' => P i j' * exc t F S i j')), s7, .no]) ⟨_, rfl⟩ ?_ ?_⟩
    · rintro j env K' hj ⟨s7, rfl⟩ hK'
      dsimp! [rg_len]
      refine ⟨t, F, S, i, j, rfl, ht, hb, hi, hj, ?_⟩
      push_cast [rg_len]
      refine mul_go 2100 331 (psz (by omega) hj) (exc_sz ht hb i j) (hk := ?_)
      push_cast [rg_len]
      refine add_go 2400 2431 (wsum_sz ht hd0 hd1 (fun j' _ => exc_Zs ht hb i j') (fun j' hj' => hP i j' (by omega) hj') (by omega)) (sz_mul (psz (by omega) hj) (exc_sz ht hb i j)) (hk := ?_)
      push_cast [rg_len]
      exact hK' _ ⟨_, by rw [sm_s]; rfl⟩
    · rintro env ⟨s7, rfl⟩
      push_cast [rg_len]
      refine ⟨by omega, hK _ ⟨_, _, _, by rw [← rg_succ i fun l => fr (E1 t F S P l)]; rfl⟩⟩
  · rintro env ⟨s5, s6, s7, rfl⟩
    push_cast [rg_len]
    rw [show [D.int ((t.n : Nat) : Int), .int (((t.n : Nat) : Int) + 1)] = rg 2 fun b => .int ((t.n + b : Nat) : Int) from rfl]
    have e0 : (rg t.n fun l => fr (E1 t F S P l)) = rg (t.n + 0 * t.g) fun l => fr (XX t F S P l) := by
      rw [Nat.zero_mul, Nat.add_zero]
      exact rg_congr fun l hl => by unfold XX; rw [if_pos hl]
    rw [e0]
    refine for_rg (fun b env => ∃ s5 s6 s7 s8, env = [.sh (dataD t), .sh (ptsD t F S), .sh (mat (t.n + 2) (t.n + 2) P), .sh (.int (t.n : Nat)), .ow (rg (t.n + b * t.g) fun l => fr (XX t F S P l)), s5, s6, s7, s8]) ⟨_, _, _, _, rfl⟩ ?_ ?_
    · rintro b env K hb2 ⟨s5, s6, s7, s8, rfl⟩ hK
      push_cast [rg_len]
      unfold ptsD
      dsimp! [rg_len]
      refine ⟨⟨by omega, by omega⟩, for_rg (fun l env => ∃ s6 s7 s8, env = [.sh (dataD t), .sh (ptsD t F S), .sh (mat (t.n + 2) (t.n + 2) P), .sh (.int (t.n : Nat)), .ow (rg (t.n + b * t.g + l) fun l => fr (XX t F S P l)), .sh (.int ((t.n + b : Nat) : Int)), s6, s7, s8]) ⟨_, _, _, rfl⟩ ?_ ?_⟩
      · rintro l env K' hl ⟨s6, s7, s8, rfl⟩ hK'
        push_cast [rg_len]
        unfold ptsD
        push_cast [rg_len]
        refine ⟨⟨by omega, by omega⟩, for_rg (fun j env => ∃ s7, env = [.sh (dataD t), .sh (ptsD t F S), .sh (mat (t.n + 2) (t.n + 2) P), .sh (.int (t.n : Nat)), .ow (rg (t.n + b * t.g + l) fun l => fr (XX t F S P l)), .sh (.int ((t.n + b : Nat) : Int)), .sh (fr (sm j fun j' => P (t.n + b) j' * (pt t F S j' l - pt t F S (t.n + b) l))), s7, .sh (.int (l : Nat))]) ⟨_, rfl⟩ ?_ ?_⟩
        · rintro j env K2 hj ⟨s7, rfl⟩ hK2
          push_cast [rg_len]
          unfold ptsD
          dsimp! [rg_len]
          refine sub_go 41 41 (pt_sn ht hb j l).sz (pt_sn ht hb (t.n + b) l).sz (hk := ?_)
          push_cast [rg_len]
          have hm : sz 83 (pt t F S j l - pt t F S (t.n + b) l) := sz_sub (pt_sn ht hb j l).sz (pt_sn ht hb (t.n + b) l).sz
          refine mul_go 2100 83 (psz (by omega) hj) hm (hk := ?_)
          push_cast [rg_len]
          refine add_go 2400 2431 (wsum_sz (f := fun j' => pt t F S j' l - pt t F S (t.n + b) l) ht hd0 hd1 (fun j' _ => diff_Zs' (pt_sn ht hb j' l) (pt_sn ht hb (t.n + b) l)) (fun j' hj' => hP (t.n + b) j' (by omega) hj') (by omega)) ((sz_mul (psz (by omega) hj) hm).mono (by omega)) (hk := ?_)
          push_cast [rg_len]
          exact hK2 _ ⟨_, by rw [sm_s]; rfl⟩
        · rintro env ⟨s7, rfl⟩
          push_cast [rg_len]
          have hle : b * t.g ≤ 1 * 2 := Nat.mul_le_mul (by omega) hg2
          refine ⟨by omega, hK' _ ⟨_, _, _, by rw [← Nat.add_assoc, ← rg_succ (t.n + b * t.g + l) fun l => fr (XX t F S P l), XX_b hb2 hl]; rfl⟩⟩
      · rintro env ⟨s6, s7, s8, rfl⟩
        exact hK _ ⟨_, _, _, _, by rw [Nat.succ_mul, Nat.add_assoc]⟩
    · rintro env ⟨s5, s6, s7, s8, rfl⟩
      push_cast [rg_len]
      exact hk
theorem XX_sz {t : Dt} {F S : Nat → Rat} {P : Nat → Nat → Rat} {d : Nat} (ht : t.Ok) (hb : Bk F S) (hd0 : 0 < d) (hd1 : d ≤ 2 ^ 2016) (hP : ∀ i j, i < t.n + 2 → j < t.n + 2 → Zs d (2 ^ 2022) (P i j)) (l : Nat) : sz 2400 (XX t F S P l) := by
  unfold XX
  split
  · exact wsum_sz ht hd0 hd1 (fun j' _ => exc_Zs ht hb l j') (fun j' hj' => hP l j' (by omega) hj') (Nat.le_refl _)
  · split
    · exact wsum_sz (f := fun j' => pt t F S j' _ - pt t F S (t.n + 0) _) ht hd0 hd1 (fun j' _ => diff_Zs' (pt_sn ht hb j' _) (pt_sn ht hb (t.n + 0) _)) (fun j' hj' => hP (t.n + 0) j' (by omega) hj') (Nat.le_refl _)
    · exact wsum_sz (f := fun j' => pt t F S j' _ - pt t F S (t.n + 1) _) ht hd0 hd1 (fun j' _ => diff_Zs' (pt_sn ht hb j' _) (pt_sn ht hb (t.n + 1) _)) (fun j' hj' => hP (t.n + 1) j' (by omega) hj') (Nat.le_refl _)
def S_judge_refusal : SpecT := fun ds k => ∃ (t : Dt) (F S : Nat → Rat) (go : Gl) (P : Nat → Nat → Rat) (Q G : Nat → Rat), ds = [dataD t, vec t.g F, vec t.g S, .str go.s, refD t (ng go) P Q G] ∧ t.Ok ∧ Bk F S ∧ RefZ t (ng go) P Q G ∧ ∀ r : Bool, (r = true ↔ RefOK t F S go P Q G) → k (.bl r)
theorem al_iff {go : Gl} : go.s = ("alike" : Str) ↔ go = .al := by cases go <;> decide
theorem k_judge_refusal : Keeps n_judge_refusal a_judge_refusal (b_judge_refusal S_right_prices S_points_of S_balanced S_less S_excesses) S_judge_refusal := by
  rintro ds k ⟨t, F, S, go, P, Q, G, rfl, ht, hb, hz, hk⟩
  obtain ⟨d, hd0, hd1, hP, hQ, hG⟩ := hz.ex
  have hn2 := ht.n2
  have hg2 := ht.g2
  have hl2 := ht.nl2
  have hng := ng_le go
  have hng1 : 0 < ng go := by cases go <;> simp only [ng] <;> omega
  have psz : ∀ {p : Rat}, Zs d (2 ^ 2022) p → sz 2100 p := fun h => h.sz hd0 (Nat.lt_of_le_of_lt hd1 (Nat.pow_lt_pow_right (by omega) (by omega))) (Nat.pow_lt_pow_right (by omega) (by omega))
  have no : ¬ RefOK t F S go P Q G → k (.bl false) := fun q => hk false ⟨fun h => (by cases h), fun h => absurd h q⟩
  refine ⟨rfl, ?_⟩
  push_cast [b_judge_refusal, n_judge_refusal]
  refine ⟨t, go, P, Q, G, rfl, ht, fun i j hi hj => psz (hP i j hi hj), fun k hk => psz (hQ k hk), fun k hk => psz (hG k hk), fun b1 hb1 => ?_⟩
  cases b1
  · push_cast [rg_len]
    exact no fun q => absurd (hb1.mpr ⟨q.p, q.q, q.g⟩) (by decide)
  obtain ⟨p1, p2, p3⟩ := hb1.mp rfl
  unfold refD
  push_cast [rg_len]
  refine ⟨t, F, S, rfl, ht, ?_⟩
  push_cast [rg_len]
  refine ⟨t, F, S, go, P, Q, G, rfl, ht, hz, fun b2 hb2 => ?_⟩
  cases b2
  · push_cast [rg_len]
    exact no fun q => absurd (hb2.mpr q.net) (by decide)
  have p4 := hb2.mp rfl
  -- from here on: some so far
  have rest : ∀ s0 : Bool, (s0 = true ↔ go ≠ .al ∧ 0 < G 0) →
      (sSeq (sFor (iList' (pCall S_excesses (aCons (pVar 0) (aCons (pVar 8) (aCons (pVar 5) aNil))))) (gName' 10)
        (sSeq (sIf (tTru (pCall S_less (aCons (pC zD) (aCons (pVar 10) aNil)))) (sSeq (sRet (pC (.bl false))) sNext) sNext) (sSeq (sSet (gName' 9) (pOr (pVar 9) (pCall S_less (aCons (pVar 10) (aCons (pC zD) aNil))))) sNext)))
        (sSeq (sFor (iRange (pLen (pFld .links (pVar 0)))) (gName' 11)
          (sSeq (sSet (gName' 9) (pOr (pVar 9) (pAnd (pIx (pIx (pFld .links (pVar 0)) (pVar 11)) (pC (.int 2))) (pCall S_less (aCons (pC zD) (aCons (pIx (pVar 6) (pVar 11)) aNil)))))) sNext))
        (sSeq (sRet (pVar 9)) sNext)))
        { nx := fun _ => k .non, rt := k }
        [.sh (dataD t), .sh (vec t.g F), .sh (vec t.g S), .sh (.str go.s), .sh (refD t (ng go) P Q G), .sh (mat (t.n + 2) (t.n + 2) P), .sh (vec t.nl Q), .sh (vec (ng go) G), .sh (ptsD t F S), .sh (.bl s0), .no, .no] := by
    intro s0 hs0
    push_cast [rg_len]
    refine ⟨t, F, S, P, d, rfl, ht, hb, hd0, hd1, hP, ?_⟩
    push_cast [rg_len]
    refine for_rg (fun i env => (∀ l, l < i → XX t F S P l ≤ 0) ∧ ∃ (s : Bool) (s10 : Sl), (s = true ↔ (go ≠ .al ∧ 0 < G 0) ∨ ∃ l, l < i ∧ XX t F S P l < 0) ∧ env = [.sh (dataD t), .sh (vec t.g F), .sh (vec t.g S), .sh (.str go.s), .sh (refD t (ng go) P Q G), .sh (mat (t.n + 2) (t.n + 2) P), .sh (vec t.nl Q), .sh (vec (ng go) G), .sh (ptsD t F S), .sh (.bl s), s10, .no]) ⟨fun l h => by omega, s0, _, hs0.trans ⟨.inl, fun h => h.elim id fun ⟨l, h, _⟩ => by omega⟩, rfl⟩ ?_ ?_
    · rintro i env K hi ⟨hp, s, s10, hs, rfl⟩ hK
      push_cast [rg_len]
      refine less_go 1 2400 (sz0 _ (by omega)) (XX_sz ht hb hd0 hd1 hP i) (hk := ?_)
      by_cases h : 0 < XX t F S P i
      · push_cast [h]
        refine no fun q => ?_
        by_cases e : i < t.n
        · have := q.e1 i e
          unfold XX at h; rw [if_pos e] at h; grind
        · by_cases e2 : i < t.n + t.g
          · have := q.e2 0 (i - t.n) (by omega) (by omega)
            unfold XX at h; rw [if_neg e, if_pos e2] at h; grind
          · have := q.e2 1 (i - t.n - t.g) (by omega) (by omega)
            unfold XX at h; rw [if_neg e, if_neg e2] at h; grind
      · have hp' : ∀ l, l < i + 1 → XX t F S P l ≤ 0 := fun l hl => by
          by_cases e : l = i
          · rw [e]; grind
          · exact hp l (by omega)
        push_cast [h]
        cases s
        · push_cast [rg_len]
          refine less_go 2400 1 (XX_sz ht hb hd0 hd1 hP i) (sz0 _ (by omega)) (hk := ?_)
          push_cast [rg_len]
          refine hK _ ⟨hp', _, _, ?_, rfl⟩
          rw [decide_eq_true_iff]
          refine ⟨fun q => .inr ⟨i, by omega, q⟩, fun q => ?_⟩
          rcases q with q | ⟨l, hl, q⟩
          · exact absurd (hs.mpr (.inl q)) (by decide)
          · by_cases e : l = i
            · rw [← e]; exact q
            · exact absurd (hs.mpr (.inr ⟨l, by omega, q⟩)) (by decide)
        · push_cast [rg_len]
          refine hK _ ⟨hp', true, _, ⟨fun _ => ?_, fun _ => rfl⟩, rfl⟩
          rcases hs.mp rfl with q | ⟨l, hl, q⟩
          · exact .inl q
          · exact .inr ⟨l, by omega, q⟩
    · rintro env ⟨hp, s, s10, hs, rfl⟩
      push_cast [rg_len]
      unfold dataD linksD
      push_cast [rg_len]
      have f1 : ∀ i, i < t.n → E1 t F S P i ≤ 0 := fun i hi => by
        have := hp i (by omega)
        unfold XX at this; rwa [if_pos hi] at this
      have f2 : ∀ b k, b < 2 → k < t.g → E2 t F S P b k ≤ 0 := fun b k hb hk => by
        rw [← XX_b (F := F) (S := S) (P := P) hb hk]
        refine hp _ ?_
        match b, hb with
        | 0, _ => omega
        | 1, _ => omega
      have f3 : (∃ l, l < t.n + 2 * t.g ∧ XX t F S P l < 0) ↔ (∃ i, i < t.n ∧ E1 t F S P i < 0) ∨ (∃ b k, b < 2 ∧ k < t.g ∧ E2 t F S P b k < 0) := by
        constructor
        · rintro ⟨l, hl, h⟩
          unfold XX at h
          by_cases e : l < t.n
          · rw [if_pos e] at h; exact .inl ⟨l, e, h⟩
          · by_cases e2 : l < t.n + t.g
            · rw [if_neg e, if_pos e2] at h; exact .inr ⟨0, _, by omega, by omega, h⟩
            · rw [if_neg e, if_neg e2] at h; exact .inr ⟨1, _, by omega, by omega, h⟩
        · rintro (⟨i, hi, h⟩ | ⟨b, l, hb, hl, h⟩)
          · exact ⟨i, by omega, by unfold XX; rwa [if_pos hi]⟩
          · refine ⟨t.n + b * t.g + l, ?_, by rwa [XX_b hb hl]⟩
            match b, hb with
            | 0, _ => omega
            | 1, _ => omega
      rw [f3] at hs
      refine ⟨⟨by omega, by omega⟩, for_rg (fun i env => ∃ (s : Bool) (s11 : Sl), (s = true ↔ ((go ≠ .al ∧ 0 < G 0) ∨ ((∃ i, i < t.n ∧ E1 t F S P i < 0) ∨ (∃ b k, b < 2 ∧ k < t.g ∧ E2 t F S P b k < 0))) ∨ ∃ l, l < i ∧ t.ls l = true ∧ 0 < Q l) ∧ env = [.sh (dataD t), .sh (vec t.g F), .sh (vec t.g S), .sh (.str go.s), .sh (refD t (ng go) P Q G), .sh (mat (t.n + 2) (t.n + 2) P), .sh (vec t.nl Q), .sh (vec (ng go) G), .sh (ptsD t F S), .sh (.bl s), s10, s11]) ⟨s, _, hs.trans ⟨.inl, fun h => h.elim id fun ⟨l, h, _⟩ => by omega⟩, rfl⟩ ?_ ?_⟩
      · rintro i env K hi ⟨s, s11, hs, rfl⟩ hK
        push_cast [rg_len]
        cases s
        · unfold dataD linksD
          dsimp! [linkD]
          cases hls : t.ls i
          · push_cast [rg_len]
            refine hK _ ⟨false, _, ⟨fun h => (by cases h), fun q => ?_⟩, rfl⟩
            rcases q with q | ⟨l, hl, q1, q2⟩
            · exact hs.mpr (.inl q)
            · by_cases e : l = i
              · rw [e, hls] at q1; exact q1
              · exact hs.mpr (.inr ⟨l, by omega, q1, q2⟩)
          · dsimp! [rg_len]
            refine less_go 1 2100 (sz0 _ (by omega)) (psz (hQ i hi)) (hk := ?_)
            push_cast [rg_len]
            refine hK _ ⟨_, _, ?_, rfl⟩
            rw [decide_eq_true_iff]
            refine ⟨fun q => .inr ⟨i, by omega, hls, q⟩, fun q => ?_⟩
            rcases q with q | ⟨l, hl, q1, q2⟩
            · exact absurd (hs.mpr (.inl q)) (by decide)
            · by_cases e : l = i
              · rw [← e]; exact q2
              · exact absurd (hs.mpr (.inr ⟨l, by omega, q1, q2⟩)) (by decide)
        · push_cast [rg_len]
          refine hK _ ⟨true, _, ⟨fun _ => ?_, fun _ => rfl⟩, rfl⟩
          rcases hs.mp rfl with q | ⟨l, hl, q⟩
          · exact .inl q
          · exact .inr ⟨l, by omega, q⟩
      · rintro env ⟨s, s11, hs, rfl⟩
        push_cast [rg_len]
        refine hk s (hs.trans ⟨fun q => ⟨p1, p2, p3, p4, f1, f2, ?_⟩, fun q => ?_⟩)
        · rcases q with (q | q | q) | q
          · exact .inl q
          · exact .inr (.inl q)
          · exact .inr (.inr (.inl q))
          · exact .inr (.inr (.inr q))
        · rcases q.some with q | q | q | q
          · exact .inl (.inl q)
          · exact .inl (.inr (.inl q))
          · exact .inl (.inr (.inr q))
          · exact .inr q
  have rest' := fun s0 hs0 => rest s0 hs0
  push_cast [eq_str]
  by_cases hgo : go = .al
  · have e : decide (go.s = ("alike" : Str)) = true := decide_eq_true (al_iff.mpr hgo)
    rw [e]
    have := rest false ⟨fun h => (by cases h), fun h => absurd hgo h.1⟩
    push_cast [rg_len]
    unfold refD at this
    revert this
    push_cast [rg_len]
    exact id
  · have e : decide (go.s = ("alike" : Str)) = false := decide_eq_false fun h => hgo (al_iff.mp h)
    rw [e]
    dsimp! [rg_len]
    rw [show (0 : Int) = ((0 : Nat) : Int) from rfl, ix_rg hng1]
    push_cast [rg_len]
    refine less_go 1 2100 (sz0 _ (by omega)) (psz (hG 0 hng1)) (hk := ?_)
    have := rest (decide (0 < G 0)) (by rw [decide_eq_true_iff]; exact ⟨fun q => ⟨hgo, q⟩, fun q => q.2⟩)
    unfold refD at this
    revert this
    push_cast [rg_len]
    exact id
end BB
end
section
set_option maxRecDepth 100000
set_option exponentiation.threshold 100
set_option maxHeartbeats 4000000
/-! step, step_table, find_in, leads. -/
namespace BB
open PySem L2 MA
def ob : Option Bool → D
  | none => .non
  | some b => .bl b
def pr (t : Dt) (i j : Nat) : Rat := sm t.g fun l => t.P i l * t.Am j l
def st0 (t : Dt) (i j : Nat) : Option Bool := if i = j then none else if pr t i j ≤ spn t i then some (decide (pr t i j < spn t i)) else none
/-- after the first k links -/
def stk (t : Dt) (i j : Nat) : Nat → Option Bool
  | 0 => st0 t i j
  | k + 1 => if t.li k = i ∧ t.lj k = j then some ((stk t i j k == some true) || t.ls k) else stk t i j k
def stp (t : Dt) (i j : Nat) : Option Bool := stk t i j t.nl
def tabD (n : Nat) (f : Nat → Nat → Option Bool) : D := .lst (rg n fun i => .lst (rg n fun j => ob (f i j)))
theorem ob_scal (o : Option Bool) : (ob o).scal = true := by cases o <;> rfl
theorem pr_sz {t : Dt} (ht : t.Ok) (i j : Nat) : sz 165 (pr t i j) := dot_sz ht.g2 (ht.P i) (ht.Am j)
theorem spn_sz {t : Dt} (ht : t.Ok) (i : Nat) : sz 165 (spn t i) := dot_sz ht.g2 (ht.P i) (ht.Am i)
def S_step : SpecT := fun ds k => ∃ (t : Dt) (i j : Nat), ds = [dataD t, .int (i : Nat), .int (j : Nat)] ∧ t.Ok ∧ i < t.n ∧ j < t.n ∧ k (ob (stp t i j))
theorem k_step : Keeps n_step a_step (b_step S_cost S_spent S_at_most S_less) S_step := by
  rintro ds k ⟨t, i, j, rfl, ht, hi, hj, hk⟩
  refine ⟨rfl, ?_⟩
  have fin : ∀ s4 s5, (sSeq (sFor (iList' (pFld .links (pVar 0))) (gTup' 3 (gCons' (gName' 6) (gCons' (gName' 7) (gCons' (gName' 8) gNil'))))
      (sSeq (sIf (tAnd' (tOf (pEq (pVar 6) (pVar 1))) (tOf (pEq (pVar 7) (pVar 2)))) (sSeq (sSet (gName' 3) (pOr (pIsT false (pVar 3)) (pVar 8))) sNext) sNext) sNext)) (sSeq (sRet (pVar 3)) sNext)) { nx := fun _ => k .non, rt := k }
      [.sh (dataD t), .sh (.int (i : Nat)), .sh (.int (j : Nat)), .sh (ob (st0 t i j)), s4, s5, .no, .no, .no] := by
    intro s4 s5
    push_cast [rg_len]
    unfold dataD linksD
    push_cast [rg_len]
    refine for_rg (fun l env => ∃ s6 s7 s8, env = [.sh (dataD t), .sh (.int (i : Nat)), .sh (.int (j : Nat)), .sh (ob (stk t i j l)), s4, s5, s6, s7, s8]) ⟨_, _, _, rfl⟩ ?_ ?_
    · rintro l env K hl ⟨s6, s7, s8, rfl⟩ hK
      push_cast [linkD]
      by_cases h1 : t.li l = i
      · by_cases h2 : t.lj l = j
        · push_cast [h1, h2]
          have e : stk t i j (l + 1) = some ((stk t i j l == some true) || t.ls l) := by show (if _ then _ else _) = _; rw [if_pos ⟨h1, h2⟩]
          cases hs : stk t i j l with
          | none =>
            push_cast [ob]
            exact hK _ ⟨_, _, _, by rw [e, hs]; rfl⟩
          | some b =>
            cases b
            · push_cast [ob]
              exact hK _ ⟨_, _, _, by rw [e, hs]; rfl⟩
            · push_cast [ob]
              exact hK _ ⟨_, _, _, by rw [e, hs]; rfl⟩
        · push_cast [h1, h2]
          exact hK _ ⟨_, _, _, by rw [show stk t i j (l + 1) = stk t i j l by show (if _ then _ else _) = _; rw [if_neg fun q => h2 q.2]]⟩
      · push_cast [h1]
        exact hK _ ⟨_, _, _, by rw [show stk t i j (l + 1) = stk t i j l by show (if _ then _ else _) = _; rw [if_neg fun q => h1 q.1]]⟩
    · rintro env ⟨s6, s7, s8, rfl⟩
      push_cast [rg_len]
      exact hk
  unfold b_step
  by_cases h : i = j
  · subst h
    have e : st0 t i i = none := by unfold st0; rw [if_pos rfl]
    have := fin .no .no
    rw [e] at this
    unfold ob at this
    push_cast [n_step]
    revert this
    push_cast [rg_len]
    exact id
  · have := fin (.sh (fr (pr t i j))) (.sh (fr (spn t i)))
    revert this
    unfold dataD buysD
    dsimp! [n_step, h]
    intro this
    refine ⟨t.g, 41, 41, t.P i, t.Am j, rfl, ht.g2, by omega, by omega, by omega, fun k _ => (ht.P i k).sz, fun k _ => (ht.Am j k).sz, ?_⟩
    push_cast [rg_len]
    refine ⟨t, i, rfl, ht, hi, ?_⟩
    push_cast [rg_len]
    refine at_most_go 165 165 (pr_sz ht i j) (spn_sz ht i) (hk := ?_)
    by_cases h2 : pr t i j ≤ spn t i
    · have h2' : (sm t.g fun l => t.P i l * t.Am j l) ≤ spn t i := h2
      push_cast [h2']
      refine less_go 165 165 (pr_sz ht i j) (spn_sz ht i) (hk := ?_)
      rw [show st0 t i j = some (decide (pr t i j < spn t i)) by unfold st0; rw [if_neg h, if_pos h2]] at this
      unfold ob at this
      revert this
      push_cast [rg_len]
      exact id
    · have h2' : ¬ (sm t.g fun l => t.P i l * t.Am j l) ≤ spn t i := h2
      push_cast [h2']
      rw [show st0 t i j = none by unfold st0; rw [if_neg h, if_neg h2]] at this
      unfold ob at this
      revert this
      push_cast [rg_len]
      exact id
end BB
end
section
set_option maxRecDepth 100000
set_option exponentiation.threshold 100
set_option maxHeartbeats 4000000
/-! step_table, find_in, leads. -/
namespace BB
open PySem L2 MA
def S_step_table : SpecT := fun ds k => ∃ t : Dt, ds = [dataD t] ∧ t.Ok ∧ k (tabD t.n (stp t))
theorem k_step_table : Keeps n_step_table a_step_table (b_step_table S_step) S_step_table := by
  rintro ds k ⟨t, rfl, ht, hk⟩
  have hn2 := ht.n2
  refine ⟨rfl, ?_⟩
  push_cast [b_step_table, n_step_table]
  unfold dataD buysD
  push_cast [rg_len]
  refine ⟨⟨by omega, by omega⟩, by omega, comp_rg (fun i => .lst (rg t.n fun j => ob (stp t i j))) (fun i K hi hK => ?_) hk⟩
  push_cast [rg_len]
  refine ⟨⟨by omega, by omega⟩, by omega, comp_rg (fun j => ob (stp t i j)) (fun j K' hj hK' => ?_) ?_⟩
  · push_cast [rg_len]
    exact ⟨t, i, j, rfl, ht, hi, hj, by push_cast [rg_len]; exact hK'⟩
  · push_cast [rg_len]
    exact hK
inductive Reach (n : Nat) (f : Nat → Nat → Option Bool) (i : Nat) : Nat → Bool → Prop where
  | refl : Reach n f i i false
  | step {j k : Nat} {s b : Bool} : Reach n f i j s → j < n → k < n → f j k = some b → Reach n f i k (s || b)
def keyD (x : Int × Bool) : D := .tup [.int x.1, .bl x.2]
theorem atI_map {xs : List (Int × Bool)} {q : Nat} {x : Int × Bool} (h : xs[q]? = some x) (ka : Kd) (k : Kd → D → Prop) : ixD ka (.lst (xs.map keyD)) (.int (q : Nat)) k = k (kI ka (keyD x)) (keyD x) := ix_go (.inl rfl) (by rw [atI_nat, List.getElem?_map, h]; rfl)
/-- what find_in's search keeps -/
structure FI (n : Nat) (f : Nat → Nat → Option Bool) (i : Nat) (ks : List (Int × Bool)) (vs : List D) : Prop where
  len : vs.length = ks.length
  nd : ks.Nodup
  rch : ∀ x ∈ ks, ∃ j : Nat, x.1 = (j : Int) ∧ j < n ∧ Reach n f i j x.2
  fst : ks[0]? = some ((i : Int), false)
  val : ∀ v ∈ vs, ∃ ds : List D, v = .lst ds ∧ ds.length ≤ ks.length
theorem nodup_le {n : Nat} {ks : List (Int × Bool)} (hnd : ks.Nodup) (h : ∀ x ∈ ks, ∃ j : Nat, x.1 = (j : Int) ∧ j < n) : ks.length ≤ 2 * n := by
  have h1 : ∀ (m : Nat) (l : List Nat), l.Nodup → (∀ x ∈ l, x < m) → l.length ≤ m := by
    intro m
    induction m with
    | zero =>
      intro l _ h
      cases l with
      | nil => exact Nat.le_refl _
      | cons x l => have := h x (List.mem_cons_self ..); omega
    | succ m ih =>
      intro l hnd h
      have := ih (l.erase m) (hnd.erase m) fun x hx => by
        have h2 := h x (List.mem_of_mem_erase hx)
        have h3 : x ≠ m := fun e => by
          subst e
          exact (List.Nodup.not_mem_erase hnd) hx
        omega
      rw [List.length_erase] at this
      split at this <;> omega
  have := h1 (2 * n) (ks.map fun x => 2 * x.1.toNat + if x.2 then 1 else 0) ?_ ?_
  · rwa [List.length_map] at this
  · rw [List.nodup_iff_pairwise_ne, List.pairwise_map]
    refine List.Pairwise.imp_of_mem (R := fun a b => a ≠ b) (fun {a b} ha hb hab e => hab ?_) hnd
    obtain ⟨i, hi, _⟩ := h a ha
    obtain ⟨j, hj, _⟩ := h b hb
    obtain ⟨a1, a2⟩ := a
    obtain ⟨b1, b2⟩ := b
    dsimp only at hi hj e
    subst hi hj
    cases a2 <;> cases b2 <;> simp at e ⊢ <;> omega
  · intro x hx
    rw [List.mem_map] at hx
    obtain ⟨y, hy, e⟩ := hx
    obtain ⟨j, hj, hjn⟩ := h y hy
    rw [hj] at e
    split at e <;> omega
theorem zip_lku : ∀ {ks : List (Int × Bool)} {vs : List D} {x : Int × Bool}, vs.length = ks.length → x ∈ ks → ∃ v, (ks.zip vs).lookup x = some v ∧ v ∈ vs
  | [], _, _, _, h => by cases h
  | a :: ks, [], _, h, _ => by cases h
  | a :: ks, v :: vs, x, h, hx => by
    rw [List.zip_cons_cons, List.lookup_cons]
    by_cases e : x = a
    · subst e
      exact ⟨v, by simp, List.mem_cons_self ..⟩
    · rw [beq_false_of_ne e]
      obtain ⟨w, h1, h2⟩ := zip_lku (ks := ks) (vs := vs) (x := x) (by simpa using h) (by rcases List.mem_cons.mp hx with q | q; exact absurd q e; exact q)
      exact ⟨w, h1, List.mem_cons_of_mem _ h2⟩
def S_find_in : SpecT := fun ds k => ∃ (n i : Nat) (f : Nat → Nat → Option Bool), ds = [tabD n f, .int (i : Nat)] ∧ n ≤ 2 ∧ i < n ∧
  ∀ ks vs, (∀ x ∈ ks, ∃ j : Nat, x.1 = (j : Int) ∧ j < n ∧ Reach n f i j x.2) → ((i : Int), false) ∈ ks → (∀ l b, l < n → f i l = some b → ((l : Int), b) ∈ ks) → k (.dic ks vs)
theorem dic_ix {ka : Kd} {ks : List (Int × Bool)} {vs : List D} {x : Int × Bool} {v : D} (h : (ks.zip vs).lookup x = some v) (k : Kd → D → Prop) : ixD ka (.dic ks vs) (keyD x) k = k (kI ka v) v := by
  apply propext
  obtain ⟨a, b⟩ := x
  unfold keyD ixD
  dsimp only
  rw [h]
  exact ⟨fun ⟨d, e, h'⟩ => by cases e; exact h', fun h' => ⟨_, rfl, h'⟩⟩
theorem k_find_in : Keeps n_find_in a_find_in b_find_in S_find_in := by
  rintro ds k ⟨n, i, f, rfl, hn, hi, hk⟩
  refine ⟨rfl, ?_⟩
  push_cast [b_find_in, n_find_in]
  unfold sWhile
  have key : ∀ (m : Nat) (ks : List (Int × Bool)) (vs : List D) (at_ : Nat) (s5 s6 s7 s8 s9 : Sl), FI n f i ks vs → at_ ≤ ks.length → (0 < at_ → ∀ l b, l < n → f i l = some b → ((l : Int), b) ∈ ks) → at_ + m = 2 * n →
      whGo (tOf (pCmp (fun i j => decide (i < j)) (pVar 4) (pLen (pVar 3))))
        (sSeq (sSet (gTup' 2 (gCons' (gName' 5) (gCons' (gName' 6) gNil'))) (pIx (pVar 3) (pVar 4)))
        (sSeq (sSet (gName' 7) (pIx (pVar 2) (pTup (aCons (pVar 5) (aCons (pVar 6) aNil)))))
        (sSeq (sFor (iRange (pLen (pVar 0))) (gName' 8)
        (sSeq (sSet (gName' 9) (pIx (pIx (pVar 0) (pVar 5)) (pVar 8)))
        (sSeq (sIf (tAnd' (tOf (pIsN true (pVar 9))) (tOf (pIn true (pTup (aCons (pVar 8) (aCons (pOr (pVar 6) (pVar 9)) aNil))) (pVar 2))))
        (sSeq (sPut 2 (pTup (aCons (pVar 8) (aCons (pOr (pVar 6) (pVar 9)) aNil))) (pAdd (pVar 7) (pF (fLst (aCons (pVar 8) aNil)))))
        (sSeq (sApp 3 (pTup (aCons (pVar 8) (aCons (pOr (pVar 6) (pVar 9)) aNil))))
        sNext))
        sNext)
        sNext)))
        (sSeq (sSet (gName' 4) (pAdd (pVar 4) (pC (.int 1))))
        sNext)))) { nx := fun env => sSeq (sRet (pVar 2)) sNext { nx := fun _ => k .non, rt := k } env, rt := k } (m + 1)
        [.sh (tabD n f), .sh (.int (i : Nat)), .owd ks vs, .ow (ks.map keyD), .sh (.int (at_ : Nat)), s5, s6, s7, s8, s9] := by
    intro m
    induction m with
    | zero =>
      intro ks vs at_ s5 s6 s7 s8 s9 F h1 h2 h3
      have hle := nodup_le F.nd fun x hx => by obtain ⟨j, a, b, _⟩ := F.rch x hx; exact ⟨j, a, b⟩
      unfold whGo
      have e : ¬ at_ < ks.length := by omega
      push_cast [List.length_map, e]
      exact hk ks vs F.rch (List.mem_of_getElem? F.fst) (h2 (by omega))
    | succ m ih =>
      intro ks vs at_ s5 s6 s7 s8 s9 F h1 h2 h3
      have hle := nodup_le F.nd fun x hx => by obtain ⟨j, a, b, _⟩ := F.rch x hx; exact ⟨j, a, b⟩
      have hpos : 0 < ks.length := by
        have := (List.getElem?_eq_some_iff.mp F.fst).1; omega
      by_cases e : at_ < ks.length
      · unfold whGo
        push_cast [List.length_map, e]
        obtain ⟨x, hx⟩ : ∃ x, ks[at_]? = some x := ⟨ks[at_], List.getElem?_eq_getElem e⟩
        have hxm := List.mem_of_getElem? hx
        obtain ⟨j, hj, hjn, hr⟩ := F.rch x hxm
        obtain ⟨x1, x2⟩ := x
        dsimp only at hj hr
        subst hj
        rw [atI_map hx]
        unfold keyD
        push_cast [rg_len]
        obtain ⟨v, hv, hvm⟩ := zip_lku F.len hxm
        obtain ⟨cs, hcs, hcl⟩ := F.val v hvm
        have := @dic_ix .o ks vs ((j : Int), x2) v hv
        unfold keyD at this
        rw [this]
        subst hcs
        push_cast [rg_len]
        unfold tabD
        push_cast [rg_len]
        refine ⟨⟨by omega, by omega⟩, for_rg (fun l env => ∃ ks' vs' s8 s9, FI n f i ks' vs' ∧ at_ < ks'.length ∧ (∃ r, ks' = ks ++ r) ∧ (∀ l' b, l' < l → f j l' = some b → ((l' : Int), x2 || b) ∈ ks') ∧ env = [.sh (tabD n f), .sh (.int (i : Nat)), .owd ks' vs', .ow (ks'.map keyD), .sh (.int (at_ : Nat)), .sh (.int (j : Nat)), .sh (.bl x2), .sh (.lst cs), s8, s9]) ⟨ks, vs, _, _, F, e, ⟨[], by simp⟩, fun l b h => by omega, rfl⟩ ?_ ?_⟩
        · rintro l env K hl ⟨ks', vs', s8, s9, F', h4, ⟨r, hr'⟩, h5, rfl⟩ hK
          unfold tabD
          dsimp! [rg_len]
          cases hf : f j l with
          | none =>
            push_cast [ob]
            exact hK _ ⟨ks', vs', _, _, F', h4, ⟨r, hr'⟩, fun l' b hl' hb => by
              by_cases q : l' = l
              · rw [q, hf] at hb; cases hb
              · exact h5 l' b (by omega) hb, rfl⟩
          | some b =>
            have hor : ∀ (K : Kd → D → Prop) (ks vs) (s3 s4 s5 s7), (K .s (.bl (x2 || b))) → pOr (pVar 6) (pVar 9) [.sh (tabD n f), .sh (.int (i : Nat)), .owd ks vs, s3, s4, s5, .sh (.bl x2), s7, .sh (.int (l : Nat)), .sh (.bl b)] K := by
              intro K ks vs s3 s4 s5 s7 h
              cases x2
              · push_cast [rg_len]; simpa using h
              · push_cast [rg_len]; simpa using h
            by_cases hc : ks'.contains ((l : Int), x2 || b) = true
            · have : K [.sh (tabD n f), .sh (.int (i : Nat)), .owd ks' vs', .ow (ks'.map keyD), .sh (.int (at_ : Nat)), .sh (.int (j : Nat)), .sh (.bl x2), .sh (.lst cs), .sh (.int (l : Nat)), .sh (.bl b)] := hK _ ⟨ks', vs', _, _, F', h4, ⟨r, hr'⟩, fun l' b' hl' hb => by
                by_cases q : l' = l
                · rw [q, hf] at hb; cases hb; rw [q]; simpa using hc
                · exact h5 l' b' (by omega) hb, rfl⟩
              unfold tabD at this
              cases x2
              · push_cast [ob]
                simp only [Bool.false_or] at hc
                unfold pIn
                push_cast [hc]
                exact this
              · push_cast [ob]
                simp only [Bool.true_or] at hc
                unfold pIn
                push_cast [hc]
                exact this
            · have hc' : ks'.contains ((l : Int), x2 || b) = false := by simpa using hc
              have hle' := nodup_le F'.nd fun x hx => by obtain ⟨j, a, b, _⟩ := F'.rch x hx; exact ⟨j, a, b⟩
              have hcl' : cs.length ≤ ks'.length := by rw [hr', List.length_append]; omega
              have F2 : FI n f i (ks' ++ [((l : Int), x2 || b)]) (vs' ++ [.lst (cs ++ [.int (l : Nat)])]) := by
                refine ⟨by rw [List.length_append, List.length_append, F'.len]; rfl, ?_, fun x hx => ?_, ?_, fun v hv => ?_⟩
                · rw [List.nodup_append]
                  refine ⟨F'.nd, by simp, fun a ha b' hb' => ?_⟩
                  intro q
                  rw [List.mem_singleton] at hb'
                  rw [q, hb'] at ha
                  have : ks'.contains ((l : Int), x2 || b) = true := by simpa using ha
                  exact hc this
                · rcases List.mem_append.mp hx with q | q
                  · exact F'.rch x q
                  · rw [List.mem_singleton] at q
                    subst q
                    exact ⟨l, rfl, hl, .step hr hjn hl hf⟩
                · rw [List.getElem?_append_left (by omega)]; exact F'.fst
                · rcases List.mem_append.mp hv with q | q
                  · obtain ⟨ds, a, b'⟩ := F'.val v q
                    exact ⟨ds, a, by rw [List.length_append]; omega⟩
                  · rw [List.mem_singleton] at q
                    exact ⟨_, q, by rw [List.length_append, List.length_append]; simp; omega⟩
              have : K [.sh (tabD n f), .sh (.int (i : Nat)), .owd (ks' ++ [((l : Int), x2 || b)]) (vs' ++ [.lst (cs ++ [.int (l : Nat)])]), .ow ((ks' ++ [((l : Int), x2 || b)]).map keyD), .sh (.int (at_ : Nat)), .sh (.int (j : Nat)), .sh (.bl x2), .sh (.lst cs), .sh (.int (l : Nat)), .sh (.bl b)] := hK _ ⟨_, _, _, _, F2, by rw [List.length_append]; omega, ⟨r ++ [((l : Int), x2 || b)], by rw [hr', List.append_assoc]⟩, fun l' b' hl' hb => by
                by_cases q : l' = l
                · rw [q, hf] at hb; cases hb; rw [q]; exact List.mem_append_right _ (List.mem_singleton_self _)
                · exact List.mem_append_left _ (h5 l' b' (by omega) hb), rfl⟩
              rw [List.map_append] at this
              unfold tabD at this
              cases x2
              · simp only [Bool.false_or] at hc' this
                push_cast [ob]
                unfold pIn
                push_cast [hc']
                unfold sPut
                push_cast [hc']
                refine ⟨by omega, by omega, by rw [List.length_map]; omega, this⟩
              · simp only [Bool.true_or] at hc' this
                push_cast [ob]
                unfold pIn
                push_cast [hc']
                unfold sPut
                push_cast [hc']
                refine ⟨by omega, by omega, by rw [List.length_map]; omega, this⟩
        · rintro env ⟨ks', vs', s8, s9, F', h4, ⟨r, hr'⟩, h5, rfl⟩
          push_cast [rg_len]
          refine ih ks' vs' (at_ + 1) _ _ _ _ _ F' (by omega) (fun _ l b hl hb => ?_) (by omega)
          by_cases q : at_ = 0
          · subst q
            have := F.fst
            rw [hx] at this
            injection this with this
            injection this with q1 q2
            have := h5 l b hl (by rw [show j = i by omega]; exact hb)
            rw [q2] at this
            simpa using this
          · have := h2 (by omega) l b hl hb
            rw [hr']; exact List.mem_append_left _ this
      · unfold whGo
        push_cast [List.length_map, e]
        exact hk ks vs F.rch (List.mem_of_getElem? F.fst) (h2 (by omega))
  unfold sOwnD
  push_cast [rg_len]
  refine ⟨2 * n + 1, ?_⟩
  have := key (2 * n) [((i : Int), false)] [.lst [.int (i : Nat)]] 0 .no .no .no .no .no ⟨rfl, by simp, fun x hx => ?_, rfl, fun v hv => ?_⟩ (by simp) (fun h => by omega) (by omega)
  · exact this
  · rw [List.mem_singleton] at hx
    subst hx
    exact ⟨i, rfl, hi, .refl⟩
  · rw [List.mem_singleton] at hv
    exact ⟨_, hv, by simp⟩
end BB
end
section
set_option maxRecDepth 100000
set_option exponentiation.threshold 100
set_option maxHeartbeats 4000000
/-! leads, next_class, class_number, member_weight, make_taste, check. -/
namespace BB
open PySem L2 MA
def NoRing (t : Dt) : Prop := ∀ i, i < t.n → ¬ Reach t.n (stp t) i i true
/-- what is kept of leads' table -/
structure LT (t : Dt) (f : Nat → Nat → Option Bool) : Prop where
  dg : ∀ i, i < t.n → f i i = some false
  st : ∀ i j, i < t.n → j < t.n → stp t i j ≠ none → f i j ≠ none
def S_leads : SpecT := fun ds k => ∃ t : Dt, ds = [dataD t] ∧ t.Ok ∧ NoRing t ∧ ∀ f, LT t f → k (tabD t.n f)
theorem pIn_go {neg : Bool} {ks : List (Int × Bool)} {vs : List D} {a b : PE'} {env : Env} {x : Int} {c : Bool} {kd : Kd} {k : Kd → D → Prop} (ha : ∀ K : Kd → D → Prop, K .s (keyD (x, c)) → a env K) (hb : ∀ K : Kd → D → Prop, K kd (.dic ks vs) → b env K) (hk : k .s (.bl (ks.contains (x, c) != neg))) : pIn neg a b env k := by
  unfold pIn
  refine ha _ (hb _ ?_)
  exact hk
theorem k_leads : Keeps n_leads a_leads (b_leads S_step_table S_find_in) S_leads := by
  rintro ds k ⟨t, rfl, ht, hr, hk⟩
  have hn2 := ht.n2
  refine ⟨rfl, ?_⟩
  push_cast [b_leads, n_leads]
  refine ⟨t, rfl, ht, ?_⟩
  unfold dataD buysD
  push_cast [rg_len]
  refine ⟨⟨by omega, by omega⟩, for_rg (fun i env => ∃ (f : Nat → Nat → Option Bool) (s4 s5 s6 s7 : Sl), (∀ i', i' < i → f i' i' = some false) ∧ (∀ i' j, i' < i → j < t.n → stp t i' j ≠ none → f i' j ≠ none) ∧ env = [.sh (dataD t), .sh (tabD t.n (stp t)), .sh (.int (t.n : Nat)), .ow (rg i fun i' => .lst (rg t.n fun j => ob (f i' j))), s4, s5, s6, s7]) ⟨fun _ _ => none, _, _, _, _, fun _ h => by omega, fun _ _ h => by omega, rfl⟩ ?_ ?_⟩
  · rintro i env K hi ⟨f, s4, s5, s6, s7, h1, h2, rfl⟩ hK
    push_cast [rg_len]
    refine ⟨t.n, i, stp t, rfl, hn2, hi, fun ks vs hks hfst hall => ?_⟩
    let g : Nat → Option Bool := fun j => if ks.contains ((j : Int), true) = true then some true else if ks.contains ((j : Int), false) = true then some false else none
    push_cast [rg_len]
    refine ⟨⟨by omega, by omega⟩, for_rg (fun j env => ∃ s7, env = [.sh (dataD t), .sh (tabD t.n (stp t)), .sh (.int (t.n : Nat)), .ow (rg i fun i' => .lst (rg t.n fun j => ob (f i' j))), .sh (.int (i : Nat)), .sh (.dic ks vs), .ow (rg j fun j => ob (g j)), s7]) ⟨_, rfl⟩ ?_ ?_⟩
    · rintro j env K' hj ⟨s7, rfl⟩ hK'
      unfold gName'
      have hgo : K' [.sh (dataD t), .sh (tabD t.n (stp t)), .sh (.int (t.n : Nat)), .ow (rg i fun i' => .lst (rg t.n fun j => ob (f i' j))), .sh (.int (i : Nat)), .sh (.dic ks vs), .ow (rg j (fun j => ob (g j)) ++ [ob (g j)]), .sh (.int (j : Nat))] := hK' _ ⟨_, by rw [rg_succ j fun j => ob (g j)]⟩
      cases c1 : ks.contains ((j : Int), true)
      · cases c2 : ks.contains ((j : Int), false)
        · have e : g j = none := by show (if _ then _ else if _ then _ else _) = _; rw [c1, c2]; rfl
          rw [e] at hgo
          unfold ob at hgo
          push_cast [rg_len]
          refine pIn_go (ks := ks) (vs := vs) (x := (j : Int)) (c := true) (kd := .s) (fun K h => by push_cast [rg_len]; exact h) (fun K h => by push_cast [rg_len]; exact h) ?_
          rw [c1]
          push_cast [rg_len]
          refine pIn_go (ks := ks) (vs := vs) (x := (j : Int)) (c := false) (kd := .s) (fun K h => by push_cast [rg_len]; exact h) (fun K h => by push_cast [rg_len]; exact h) ?_
          rw [c2]
          push_cast [rg_len]
          exact ⟨by omega, hgo⟩
        · have e : g j = some false := by show (if _ then _ else if _ then _ else _) = _; rw [c1, c2]; rfl
          rw [e] at hgo
          unfold ob at hgo
          push_cast [rg_len]
          refine pIn_go (ks := ks) (vs := vs) (x := (j : Int)) (c := true) (kd := .s) (fun K h => by push_cast [rg_len]; exact h) (fun K h => by push_cast [rg_len]; exact h) ?_
          rw [c1]
          push_cast [rg_len]
          refine pIn_go (ks := ks) (vs := vs) (x := (j : Int)) (c := false) (kd := .s) (fun K h => by push_cast [rg_len]; exact h) (fun K h => by push_cast [rg_len]; exact h) ?_
          rw [c2]
          push_cast [rg_len]
          exact ⟨by omega, hgo⟩
      · have e : g j = some true := by show (if _ then _ else if _ then _ else _) = _; rw [c1]; rfl
        rw [e] at hgo
        unfold ob at hgo
        push_cast [rg_len]
        refine pIn_go (ks := ks) (vs := vs) (x := (j : Int)) (c := true) (kd := .s) (fun K h => by push_cast [rg_len]; exact h) (fun K h => by push_cast [rg_len]; exact h) ?_
        rw [c1]
        push_cast [rg_len]
        exact ⟨by omega, hgo⟩
    · rintro env ⟨s7, rfl⟩
      push_cast [rg_len]
      have e : (rg i fun i' => D.lst (rg t.n fun j => ob (f i' j))) ++ [.lst (rg t.n fun j => ob (g j))] = rg (i + 1) fun i' => .lst (rg t.n fun j => ob ((if i' = i then g else f i') j)) := by
        rw [← rg_succ]
        congr 1
        · exact rg_congr fun i' hi' => by rw [if_neg (by omega)]
        · rw [if_pos rfl]
      rw [e]
      refine ⟨by omega, hK _ ⟨fun i' => if i' = i then g else f i', _, _, _, _, fun i' hi' => ?_, fun i' j hi' hj hs => ?_, rfl⟩⟩
      · dsimp only
        by_cases q : i' = i
        · rw [if_pos q, q]
          show (if _ then _ else if _ then _ else _) = _
          have c1 : ks.contains ((i : Int), true) = false := by
            cases h : ks.contains ((i : Int), true)
            · rfl
            · have hm : ((i : Int), true) ∈ ks := by simpa using h
              obtain ⟨j, a, b, c⟩ := hks _ hm
              dsimp only at a c
              rw [show j = i by omega] at c
              exact absurd c (hr i hi)
          have c2 : ks.contains ((i : Int), false) = true := by simpa using hfst
          rw [c1, c2]; rfl
        · rw [if_neg q]; exact h1 i' (by omega)
      · dsimp only
        by_cases q : i' = i
        · rw [if_pos q]
          rw [q] at hs
          show (if _ then _ else if _ then _ else _) ≠ none
          cases hs' : stp t i j with
          | none => exact absurd hs' hs
          | some b =>
            have hm := hall j b hj hs'
            cases b
            · have c2 : ks.contains ((j : Int), false) = true := by simpa using hm
              rw [c2]; split <;> simp
            · have c1 : ks.contains ((j : Int), true) = true := by simpa using hm
              rw [c1]; simp
        · rw [if_neg q]; exact h2 i' j (by omega) hj hs
  · rintro env ⟨f, s4, s5, s6, s7, h1, h2, rfl⟩
    push_cast [rg_len]
    exact hk f ⟨h1, h2⟩
def S_next_class : SpecT := fun ds k => ∃ (t : Dt) (f : Nat → Nat → Option Bool) (dn : Nat → Bool), ds = [tabD t.n f, .lst (rg t.n fun i => .bl (dn i))] ∧ t.Ok ∧ LT t f ∧
  ∀ ms : List Nat, (ms = [] ∨ ∃ i, i < t.n ∧ dn i = false ∧ (∀ j, j < t.n → dn j = false → f j i ≠ none → f i j ≠ none) ∧ ms = (List.range t.n).filter fun j => (f i j).isSome && (f j i).isSome) → k (.lst (ms.map fun j : Nat => .int (j : Int)))
theorem comp_filter {g : PG'} {t : PT'} {e : PE'} {env : Env} {k : List D → Prop} {n : Nat} {f : Nat → D} (p : Nat → Bool) (r : Nat → D) (hs : ∀ i (K : Bool → Env → Prop), i < n → (∀ e', (∀ K' : Kd → D → Prop, K' .s (r i) → e e' K') → K (p i) e') → g (f i) env fun e' => t e' fun b => K b e') (hk : k (((List.range n).filter p).map r)) : compGo g t e env (rg n f) [] k := by
  have : ∀ d i acc, i + d = n → acc = ((List.range i).filter p).map r → compGo g t e env ((List.range' i d).map f) acc k := by
    intro d
    induction d with
    | zero => intro i acc e h; unfold List.range' List.map compGo; rw [h, show i = n by omega]; exact hk
    | succ d ih =>
      intro i acc e h
      rw [List.range'_succ, List.map_cons]
      unfold compGo
      refine hs i (fun b env' => match b with | true => _ | false => _) (by omega) fun e' he => ?_
      cases hp : p i
      · exact ih (i + 1) _ (by omega) (by rw [h, List.range_succ, List.filter_append, List.filter_cons, hp]; simp)
      · refine he _ ⟨rfl, ih (i + 1) _ (by omega) (by rw [h, List.range_succ, List.filter_append, List.filter_cons, hp]; simp)⟩
  have h := this n 0 [] (by omega) rfl
  rwa [← List.range_eq_range'] at h
theorem isN_ob (o : Option Bool) : isNon (ob o) = !o.isSome := by cases o <;> rfl
theorem k_next_class : KeepsF n_next_class a_next_class b_next_class S_next_class := by
  rintro ds k ⟨t, f, dn, rfl, ht, hl, hk⟩
  have hn2 := ht.n2
  have fin : ∀ ms : List Nat, (ms = [] ∨ ∃ i, i < t.n ∧ dn i = false ∧ (∀ j, j < t.n → dn j = false → f j i ≠ none → f i j ≠ none) ∧ ms = (List.range t.n).filter fun j => (f i j).isSome && (f j i).isSome) →
      D.scals (ms.map fun j : Nat => D.int (j : Int)) = true ∧ (∀ x ∈ ms.map fun j : Nat => D.int (j : Int), ∃ i, x = .int i) ∧ k (.lst (ms.map fun j : Nat => .int (j : Int))) := fun ms h => by
    refine ⟨?_, fun x hx => ?_, hk ms h⟩
    · have : ∀ ms : List Nat, D.scals (ms.map fun j : Nat => D.int (j : Int)) = true := by
        intro ms
        induction ms with
        | nil => rfl
        | cons m ms ih => unfold List.map D.scals; rw [ih]; rfl
      exact this ms
    · rw [List.mem_map] at hx
      obtain ⟨j, _, e⟩ := hx
      exact ⟨_, e.symm⟩
  refine ⟨rfl, ?_⟩
  unfold tabD
  push_cast [b_next_class, n_next_class]
  refine ⟨⟨by omega, by omega⟩, for_rg (fun i env => ∃ s4 s3 s5, env = [.sh (tabD t.n f), .sh (.lst (rg t.n fun i => .bl (dn i))), .sh (.int (t.n : Nat)), s3, s4, s5]) ⟨_, _, _, rfl⟩ ?_ ?_⟩
  · rintro i env K hi ⟨s4, s3, s5, rfl⟩ hK
    dsimp! [rg_len]
    cases hd : dn i
    · push_cast [rg_len]
      refine ⟨⟨by omega, by omega⟩, for_rg (fun j env => ∃ (fr_ : Bool) (s5 : Sl), (fr_ = true → ∀ j', j' < j → dn j' = false → f j' i ≠ none → f i j' ≠ none) ∧ env = [.sh (tabD t.n f), .sh (.lst (rg t.n fun i => .bl (dn i))), .sh (.int (t.n : Nat)), .sh (.int (i : Nat)), .sh (.bl fr_), s5]) ⟨true, _, fun _ _ h => by omega, rfl⟩ ?_ ?_⟩
      · rintro j env K' hj ⟨fr_, s5, hf, rfl⟩ hK'
        unfold tabD
        dsimp! [rg_len]
        cases hdj : dn j
        · dsimp! [isN_ob]
          cases h1 : f j i with
          | none =>
            push_cast [Option.isSome]
            exact hK' _ ⟨fr_, _, fun h j' hj' hd' hn => by
              by_cases q : j' = j
              · rw [q] at hn; exact absurd h1 hn
              · exact hf h j' (by omega) hd' hn, rfl⟩
          | some b1 =>
            push_cast [Option.isSome]
            cases h2 : f i j with
            | none =>
              push_cast [rg_len]
              exact hK' _ ⟨false, _, fun h => (by cases h), rfl⟩
            | some b2 =>
              push_cast [rg_len]
              exact hK' _ ⟨fr_, _, fun h j' hj' hd' hn => by
                by_cases q : j' = j
                · rw [q, h2]; simp
                · exact hf h j' (by omega) hd' hn, rfl⟩
        · push_cast [rg_len]
          exact hK' _ ⟨fr_, _, fun h j' hj' hd' hn => by
            by_cases q : j' = j
            · rw [q, hdj] at hd'; cases hd'
            · exact hf h j' (by omega) hd' hn, rfl⟩
      · rintro env ⟨fr_, s5, hf, rfl⟩
        push_cast [rg_len]
        cases fr_
        · push_cast [rg_len]
          exact hK _ ⟨_, _, _, rfl⟩
        · push_cast [rg_len]
          refine ⟨⟨by omega, by omega⟩, by omega, comp_filter (fun j => (f i j).isSome && (f j i).isSome) (fun j => .int (j : Nat)) (fun j K2 hj hK2 => ?_) ?_⟩
          · have h := hK2 [.sh (tabD t.n f), .sh (.lst (rg t.n fun i => .bl (dn i))), .sh (.int (t.n : Nat)), .sh (.int (i : Nat)), .sh (.bl true), .sh (.int (j : Nat))] (fun K' h' => by push_cast [rg_len]; exact h')
            unfold tabD at h ⊢
            dsimp! [isN_ob]
            cases h1 : f i j with
            | none => rw [h1] at h; push_cast [Option.isSome]; exact h
            | some b1 =>
              rw [h1] at h
              dsimp! [Option.isSome, isN_ob]
              cases h2 : f j i with
              | none => rw [h2] at h; push_cast [Option.isSome]; exact h
              | some b2 => rw [h2] at h; push_cast [Option.isSome]; exact h
          · exact fin _ (.inr ⟨i, hi, hd, fun j hj hdj hn => hf rfl j hj hdj hn, rfl⟩)
    · push_cast [rg_len]
      exact hK _ ⟨_, _, _, rfl⟩
  · rintro env ⟨s4, s3, s5, rfl⟩
    push_cast [rg_len]
    exact (fin [] (.inl rfl)).2
end BB
end
section
set_option maxRecDepth 100000
set_option exponentiation.threshold 100
set_option maxHeartbeats 4000000
/-! class_number, member_weight, make_taste, check. -/
namespace BB
open PySem L2 MA
theorem seq_go2 {a b : PS'} {Z : Post} {env : Env} (h : a { Z with nx := b Z } env) : sSeq a b Z env := h
theorem for_all {g : PG'} {body : PS'} {Z : Post} (I : Env → Prop) {xs : List D} {env : Env} (h0 : I env) (hs : ∀ d env (K : Env → Prop), d ∈ xs → I env → (∀ e, I e → K e) → g d env fun e => body { Z with nx := K } e) (hn : ∀ e, I e → Z.nx e) : forGo g body xs Z env := by
  induction xs generalizing env with
  | nil => unfold forGo; exact hn env h0
  | cons x xs ih =>
    unfold forGo
    exact hs x env _ (List.mem_cons_self ..) h0 fun e he => ih he fun d env K hd => hs d env K (List.mem_cons_of_mem _ hd)
theorem comp_all {g : PG'} {e : PE'} {env : Env} {k : List D → Prop} (Q : D → Prop) {xs : List D} (hs : ∀ d (K : Kd → D → Prop), d ∈ xs → (∀ y, Q y → K .s y) → g d env fun e' => e e' K) (hk : ∀ ys, ys.length = xs.length → (∀ y ∈ ys, Q y) → k ys) : compGo g tYes' e env xs [] k := by
  have : ∀ (xs : List D) (acc : List D) (n : Nat), (∀ d (K : Kd → D → Prop), d ∈ xs → (∀ y, Q y → K .s y) → g d env fun e' => e e' K) → (∀ y ∈ acc, Q y) → acc.length + xs.length = n → (∀ ys, ys.length = n → (∀ y ∈ ys, Q y) → k ys) → compGo g tYes' e env xs acc k := by
    intro xs
    induction xs with
    | nil => intro acc n _ h2 h3 h4; unfold compGo; exact h4 acc (by simpa using h3) h2
    | cons x xs ih =>
      intro acc n h1 h2 h3 h4
      unfold compGo
      refine h1 x _ (List.mem_cons_self ..) fun y hy => ⟨rfl, ih _ n (fun d K hd => h1 d K (List.mem_cons_of_mem _ hd)) (fun z hz => ?_) (by rw [List.length_append]; simp at h3 ⊢; omega) h4⟩
      rcases List.mem_append.mp hz with q | q
      · exact h2 z q
      · rw [List.mem_singleton] at q; rw [q]; exact hy
  exact this xs [] xs.length hs (fun y h => by cases h) (by simp) hk
theorem map_rg {α β : Type} (f : α → β) (d : α) (ms : List α) : ms.map f = rg ms.length fun q => f (ms.getD q d) := by
  refine rg_ext (List.length_map _) fun i hi => ?_
  rw [List.getElem?_map, List.getElem?_eq_getElem hi]
  simp [hi]
theorem frs_rg {e : Nat} {ys : List D} (h : ∀ y ∈ ys, ∃ r, y = fr r ∧ sz e r) : ∃ w : Nat → Rat, ys = (rg ys.length fun q => fr (w q)) ∧ ∀ q, q < ys.length → sz e (w q) := by
  have h' : ∀ q, q < ys.length → ∃ r, ys[q]? = some (fr r) ∧ sz e r := fun q hq => by
    obtain ⟨r, a, b⟩ := h _ (List.getElem_mem hq)
    exact ⟨r, by rw [List.getElem?_eq_getElem hq, a], b⟩
  refine ⟨fun q => if hq : q < ys.length then Classical.choose (h' q hq) else 0, rg_ext rfl fun i hi => ?_, fun q hq => ?_⟩
  · dsimp only
    rw [dif_pos hi]; exact (Classical.choose_spec (h' i hi)).1
  · dsimp only
    rw [dif_pos hq]; exact (Classical.choose_spec (h' q hq)).2
def S_plane : SpecT := fun ds k => ∃ (t : Dt) (U W : Nat → Rat) (i j e : Nat), ds = [dataD t, .tup [vec t.n U, vec t.n W], .int (i : Nat), vec t.g (t.Am j)] ∧ t.Ok ∧ i < t.n ∧ 0 < e ∧ e ≤ 2000 ∧ (∀ i, i < t.n → sz e (U i)) ∧ (∀ i, i < t.n → sz e (W i)) ∧ k (fr (U i + W i * (pr t i j - spn t i)))
theorem k_plane : Keeps n_plane a_plane (b_plane S_add S_mul S_sub S_spent S_cost) S_plane := by
  rintro ds k ⟨t, U, W, i, j, e, rfl, ht, hi, he0, he, hU, hW, hk⟩
  refine ⟨rfl, ?_⟩
  dsimp! [b_plane, n_plane]
  unfold dataD buysD
  dsimp! [rg_len]
  refine ⟨t.g, 41, 41, t.P i, t.Am j, rfl, ht.g2, by omega, by omega, by omega, fun k _ => (ht.P i k).sz, fun k _ => (ht.Am j k).sz, ?_⟩
  push_cast [rg_len]
  refine ⟨t, i, rfl, ht, hi, ?_⟩
  push_cast [rg_len]
  refine sub_go 165 165 (pr_sz ht i j) (spn_sz ht i) (hk := ?_)
  push_cast [rg_len]
  refine mul_go e 331 (hW i hi) (sz_sub (pr_sz ht i j) (spn_sz ht i)) (hk := ?_)
  push_cast [rg_len]
  refine add_go e (e + 331) (hU i hi) (sz_mul (hW i hi) (sz_sub (pr_sz ht i j) (spn_sz ht i))) (hk := ?_)
  push_cast [rg_len]
  exact hk
def msD (ms : List Nat) : D := .lst (ms.map fun j : Nat => .int (j : Int))
def dnD (n : Nat) (dn : Nat → Bool) : D := .lst (rg n fun i => .bl (dn i))
def S_class_number : SpecT := fun ds k => ∃ (t : Dt) (U W : Nat → Rat) (dn : Nat → Bool) (ms : List Nat) (e : Nat), ds = [dataD t, .tup [vec t.n U, vec t.n W], dnD t.n dn, msD ms] ∧ t.Ok ∧ ms.length ≤ 10 ∧ (∀ j ∈ ms, j < t.n) ∧ 0 < e ∧ e ≤ 2000 ∧ (∀ i, i < t.n → sz e (U i)) ∧ (∀ i, i < t.n → sz e (W i)) ∧ ∀ r, sz (2 * e + 400) r → k (fr r)
theorem k_class_number : Keeps n_class_number a_class_number (b_class_number S_plane S_less S_sub) S_class_number := by
  rintro ds k ⟨t, U, W, dn, ms, e, rfl, ht, hml, hms, he0, he, hU, hW, hk⟩
  have hn2 := ht.n2
  refine ⟨rfl, ?_⟩
  unfold dnD
  push_cast [b_class_number, n_class_number]
  refine ⟨⟨by omega, by omega⟩, for_rg (fun i env => ∃ (best : D) (s6 s7 s8 : Sl), (best = .non ∨ ∃ r, best = fr r ∧ sz (2 * e + 332) r) ∧ env = [.sh (dataD t), .sh (.tup [vec t.n U, vec t.n W]), .sh (dnD t.n dn), .sh (msD ms), .sh (vec t.n U), .sh best, s6, s7, s8, .no]) ⟨.non, _, _, _, .inl rfl, rfl⟩ ?_ ?_⟩
  · rintro i env K hi ⟨best, s6, s7, s8, hb, rfl⟩ hK
    unfold dnD msD
    dsimp! [rg_len]
    cases hd : dn i
    · push_cast [rg_len]
      exact hK _ ⟨best, _, _, _, hb, rfl⟩
    · dsimp! [List.length_map]
      refine ⟨by omega, comp_all (fun y => ∃ r, y = fr r ∧ sz (2 * e + 332) r) (fun d K2 hd hK2 => ?_) fun ys hyl hys => ?_⟩
      · rw [List.mem_map] at hd
        obtain ⟨j, hj, rfl⟩ := hd
        have hjn := hms j hj
        dsimp! [rg_len]
        unfold dataD buysD
        dsimp! [rg_len]
        refine ⟨t, U, W, i, j, e, rfl, ht, hi, he0, he, hU, hW, ?_⟩
        push_cast [rg_len]
        exact hK2 _ ⟨_, rfl, (sz_add (hU i hi) (sz_mul (hW i hi) (sz_sub (pr_sz ht i j) (spn_sz ht i)))).mono (by omega)⟩
      · rw [List.length_map] at hyl
        refine ⟨by omega, ?_⟩
        refine for_all (fun env => ∃ (best : D) (s8 : Sl), (best = .non ∨ ∃ r, best = fr r ∧ sz (2 * e + 332) r) ∧ env = [.sh (dataD t), .sh (.tup [vec t.n U, vec t.n W]), .sh (dnD t.n dn), .sh (msD ms), .sh (vec t.n U), .sh best, .sh (.int (i : Nat)), .sh (.lst ([fr (U i)] ++ ys)), s8, .no]) ⟨best, _, hb, rfl⟩ ?_ ?_
        · rintro d env K2 hd ⟨best, s8, hb, rfl⟩ hK2
          have hd' : ∃ r, d = fr r ∧ sz (2 * e + 332) r := by
            rcases List.mem_cons.mp hd with q | q
            · exact ⟨_, q, (hU i hi).mono (by omega)⟩
            · exact hys d q
          obtain ⟨r, rfl, hr⟩ := hd'
          rcases hb with rfl | ⟨r2, rfl, hr2⟩
          · push_cast [rg_len]
            exact hK2 _ ⟨_, _, .inr ⟨r, rfl, hr⟩, rfl⟩
          · have hnn : isNon (fr r2) = false := rfl
            push_cast [hnn]
            have := less_go (a := r) (b := r2) (k := fun d => truD d fun b => match b with
              | true => K2 [.sh (dataD t), .sh (.tup [vec t.n U, vec t.n W]), .sh (dnD t.n dn), .sh (msD ms), .sh (vec t.n U), .sh (fr r), .sh (.int (i : Nat)), .sh (.lst ([fr (U i)] ++ ys)), .sh (fr r), .no]
              | false => K2 [.sh (dataD t), .sh (.tup [vec t.n U, vec t.n W]), .sh (dnD t.n dn), .sh (msD ms), .sh (vec t.n U), .sh (fr r2), .sh (.int (i : Nat)), .sh (.lst ([fr (U i)] ++ ys)), .sh (fr r), .no]) (2 * e + 332) (2 * e + 332) hr hr2 (hk := by
                show truD (.bl _) _
                unfold truD
                cases decide (r < r2)
                · exact hK2 _ ⟨_, _, .inr ⟨r2, rfl, hr2⟩, rfl⟩
                · exact hK2 _ ⟨_, _, .inr ⟨r, rfl, hr⟩, rfl⟩)
            exact this
        · rintro env ⟨best, s8, hb, rfl⟩
          push_cast [rg_len]
          exact hK _ ⟨best, _, _, _, hb, rfl⟩
  · rintro env ⟨best, s6, s7, s8, hb, rfl⟩
    rcases hb with rfl | ⟨r2, rfl, hr2⟩
    · push_cast [rg_len]
      exact hk 0 (sz0 _ (by omega))
    · have hnn : isNon (fr r2) = false := rfl
      push_cast [hnn]
      refine sub_go (2 * e + 332) 1 hr2 (sz1 _ (by omega)) (hk := ?_)
      push_cast [rg_len]
      exact hk _ ((sz_sub hr2 (sz1 1 (by omega))).mono (by omega))
def S_member_weight : SpecT := fun ds k => ∃ (t : Dt) (U : Nat → Rat) (dn : Nat → Bool) (x : Rat) (j e f : Nat), ds = [dataD t, vec t.n U, dnD t.n dn, fr x, .int (j : Nat)] ∧ t.Ok ∧ j < t.n ∧ 0 < e ∧ 0 < f ∧ e + f ≤ 7000 ∧ (∀ i, i < t.n → sz e (U i)) ∧ sz f x ∧ (∀ l, l < t.n → dn l = true → pr t j l - spn t j ≠ 0) ∧ ∀ r, sz (e + f + 400) r → k (fr r)
theorem k_member_weight : Keeps n_member_weight a_member_weight (b_member_weight S_spent S_div S_sub S_cost S_less) S_member_weight := by
  rintro ds k ⟨t, U, dn, x, j, e, f, rfl, ht, hj, he0, hf0, hef, hU, hx, hd, hk⟩
  have hn2 := ht.n2
  refine ⟨rfl, ?_⟩
  unfold dnD
  push_cast [b_member_weight, n_member_weight]
  unfold dataD buysD
  dsimp! [rg_len]
  refine ⟨t, j, rfl, ht, hj, ?_⟩
  push_cast [rg_len]
  refine ⟨⟨by omega, by omega⟩, for_rg (fun i env => ∃ (best : Rat) (s8 s9 : Sl), sz (e + f + 400) best ∧ env = [.sh (dataD t), .sh (vec t.n U), .sh (dnD t.n dn), .sh (fr x), .sh (.int (j : Nat)), .sh (fr best), .sh (vec t.g (t.P j)), .sh (fr (spn t j)), s8, s9]) ⟨1, _, _, sz1 _ (by omega), rfl⟩ ?_ ?_⟩
  · rintro i env K hi ⟨best, s8, s9, hb, rfl⟩ hK
    unfold dnD
    dsimp! [rg_len]
    cases hdi : dn i
    · push_cast [rg_len]
      exact hK _ ⟨best, _, _, hb, rfl⟩
    · dsimp! [rg_len]
      refine sub_go e f (hU i hi) hx (hk := ?_)
      unfold dataD buysD
      dsimp! [rg_len]
      refine ⟨t.g, 41, 41, t.P j, t.Am i, rfl, ht.g2, by omega, by omega, by omega, fun k _ => (ht.P j k).sz, fun k _ => (ht.Am i k).sz, ?_⟩
      push_cast [rg_len]
      refine sub_go 165 165 (pr_sz ht j i) (spn_sz ht j) (hk := ?_)
      push_cast [rg_len]
      have h1 : sz (e + f + 1) (U i - x) := sz_sub (hU i hi) hx
      have h2 : sz 331 (pr t j i - spn t j) := sz_sub (pr_sz ht j i) (spn_sz ht j)
      refine div_go (e + f + 1) 331 h1 h2 (hd i hi hdi) (hk := ?_)
      push_cast [rg_len]
      have h3 : sz (e + f + 400) ((U i - x) / (pr t j i - spn t j)) := (sz_div h1 h2 (by omega)).mono (by omega)
      refine less_go (e + f + 400) (e + f + 400) hb h3 (hk := ?_)
      by_cases q : best < (U i - x) / (pr t j i - spn t j)
      · have q' : best < (U i - x) / ((sm t.g fun l => t.P j l * t.Am i l) - spn t j) := q
        push_cast [q']
        exact hK _ ⟨_, _, _, h3, rfl⟩
      · have q' : ¬ best < (U i - x) / ((sm t.g fun l => t.P j l * t.Am i l) - spn t j) := q
        push_cast [q']
        exact hK _ ⟨best, _, _, hb, rfl⟩
  · rintro env ⟨best, s8, s9, hb, rfl⟩
    push_cast [rg_len]
    exact hk best hb
theorem stp_none {t : Dt} {i j : Nat} (h : stp t i j = none) : st0 t i j = none := by
  have : ∀ l, stk t i j l = none → st0 t i j = none := by
    intro l
    induction l with
    | zero => exact id
    | succ l ih =>
      intro h
      unfold stk at h
      split at h
      · cases h
      · exact ih h
  exact this _ h
def S_make_taste : SpecT := fun ds k => ∃ (t : Dt) (f : Nat → Nat → Option Bool), ds = [dataD t, tabD t.n f] ∧ t.Ok ∧ LT t f ∧ ∀ d, k d
theorem k_make_taste : Keeps n_make_taste a_make_taste (b_make_taste S_next_class S_class_number S_member_weight) S_make_taste := by
  rintro ds k ⟨t, f, rfl, ht, hl, hk⟩
  have hn2 := ht.n2
  let ez : Nat → Nat := fun p => if p = 0 then 1 else if p = 1 then 803 else 4000
  refine ⟨rfl, ?_⟩
  unfold tabD
  push_cast [b_make_taste, n_make_taste]
  refine ⟨⟨by omega, by omega⟩, by omega, comp_rg (fun _ => fr 0) (fun j K hj hK => by push_cast [rg_len]; exact hK) ?_⟩
  refine ⟨⟨by omega, by omega⟩, by omega, comp_rg (fun _ => fr 1) (fun j K hj hK => by push_cast [rg_len]; exact hK) ?_⟩
  refine ⟨⟨by omega, by omega⟩, by omega, comp_rg (fun _ => .bl false) (fun j K hj hK => by push_cast [rg_len]; exact hK) ?_⟩
  refine ⟨⟨by omega, by omega⟩, for_rg (fun p env => ∃ (U W : Nat → Rat) (dn : Nat → Bool) (s6 s7 s8 s9 s10 : Sl), (∀ i, i < t.n → sz (ez p) (U i)) ∧ (∀ i, i < t.n → sz (ez p) (W i)) ∧ (∀ l j, l < t.n → j < t.n → dn l = true → dn j = false → f j l = none) ∧ env = [.sh (dataD t), .sh (tabD t.n f), .sh (.int (t.n : Nat)), .ow (rg t.n fun i => fr (U i)), .ow (rg t.n fun i => fr (W i)), .ow (rg t.n fun i => .bl (dn i)), s6, s7, s8, s9, s10, .no]) ⟨fun _ => 0, fun _ => 1, fun _ => false, _, _, _, _, _, fun i _ => sz0 _ (by decide), fun i _ => sz1 _ (by decide), fun l j _ _ h => (by cases h), rfl⟩ ?_ ?_⟩
  · rintro p env K hp ⟨U, W, dn, s6, s7, s8, s9, s10, hU, hW, hD, rfl⟩ hK
    have hez : 0 < ez p ∧ ez p ≤ 803 ∧ 2 * ez p + 400 ≤ ez (p + 1) ∧ ez p + (2 * ez p + 400) + 400 ≤ ez (p + 1) ∧ ez p ≤ ez (p + 1) := by
      rcases (show p = 0 ∨ p = 1 by omega) with q | q <;> rw [q] <;> decide
    push_cast [rg_len]
    refine ⟨t, f, dn, rfl, ht, hl, fun ms hms => ?_⟩
    have hin : ∀ j ∈ ms, j < t.n := fun j hj => by
      rcases hms with q | ⟨i, hi, _, _, q⟩
      · rw [q] at hj; cases hj
      · rw [q, List.mem_filter, List.mem_range] at hj; exact hj.1
    have hlen : ms.length ≤ 2 := by
      rcases hms with q | ⟨i, hi, _, _, q⟩
      · rw [q]; simp
      · rw [q]; exact Nat.le_trans (List.length_filter_le _ _) (by rw [List.length_range]; omega)
    push_cast [rg_len]
    refine ⟨t, U, W, dn, ms, ez p, rfl, ht, by omega, hin, hez.1, by omega, hU, hW, fun x hx => ?_⟩
    push_cast [List.length_map]
    refine ⟨by omega, comp_all (fun y => ∃ r, y = fr r ∧ sz (ez (p + 1)) r) (fun d K2 hd hK2 => ?_) fun ys hyl hys => ?_⟩
    · rw [List.mem_map] at hd
      obtain ⟨j, hj, rfl⟩ := hd
      push_cast [rg_len]
      refine ⟨t, U, dn, x, j, ez p, 2 * ez p + 400, rfl, ht, hin j hj, hez.1, by omega, by omega, hU, hx, fun l hl' hdl => ?_, fun r hr => ?_⟩
      · rcases hms with q | ⟨i, hi, hdi, _, q⟩
        · rw [q] at hj; cases hj
        · rw [q, List.mem_filter] at hj
          have hjn : j < t.n := List.mem_range.mp hj.1
          have h2 := hj.2
          rw [Bool.and_eq_true] at h2
          have hdj : dn j = false := by
            cases h : dn j
            · rfl
            · have := hD j i hjn hi h hdi
              rw [this] at h2; cases h2.1
          have hfn := hD l j hl' hjn hdl hdj
          have hst : stp t j l = none := by
            cases h : stp t j l with
            | none => rfl
            | some b => exact absurd hfn (hl.st j l hjn hl' (by rw [h]; simp))
          have h0 := stp_none hst
          unfold st0 at h0
          have hne : j ≠ l := fun e => by rw [e, hdl] at hdj; cases hdj
          rw [if_neg hne] at h0
          by_cases hle : pr t j l ≤ spn t j
          · rw [if_pos hle] at h0; cases h0
          · grind
      · push_cast [rg_len]
        exact hK2 _ ⟨r, rfl, hr.mono (by omega)⟩
    · rw [List.length_map] at hyl
      obtain ⟨w, hw, hws⟩ := frs_rg hys
      rw [hyl] at hw hws
      rw [hw, map_rg (fun j : Nat => D.int (j : Int)) 0 ms]
      push_cast [rg_len]
      have hget : ∀ q, q < ms.length → ms.getD q 0 < t.n := fun q hq => hin _ (by
        rw [List.getD_eq_getElem?_getD, List.getElem?_eq_getElem hq]; exact List.getElem_mem hq)
      refine ⟨⟨by omega, by omega⟩, for_rg (fun q env => ∃ (U W : Nat → Rat) (dn' : Nat → Bool) (s10 : Sl), (∀ i, i < t.n → sz (ez (p + 1)) (U i)) ∧ (∀ i, i < t.n → sz (ez (p + 1)) (W i)) ∧ (∀ j, dn' j = true ↔ dn j = true ∨ ∃ q', q' < q ∧ ms.getD q' 0 = j) ∧ env = [.sh (dataD t), .sh (tabD t.n f), .sh (.int (t.n : Nat)), .ow (rg t.n fun i => fr (U i)), .ow (rg t.n fun i => fr (W i)), .ow (rg t.n fun i => .bl (dn' i)), .sh (.int (p : Nat)), .sh (.lst (rg ms.length fun q => .int ((ms.getD q 0 : Nat) : Int))), .sh (fr x), .sh (.lst (rg ms.length fun q => fr (w q))), s10, .no]) ⟨U, W, dn, _, fun i hi => (hU i hi).mono hez.2.2.2.2, fun i hi => (hW i hi).mono hez.2.2.2.2, fun j => ⟨.inl, fun h => h.elim id fun ⟨q, h, _⟩ => by omega⟩, rfl⟩ ?_ ?_⟩
      · rintro q env K2 hq ⟨U, W, dn', s10, hU', hW', hdn, rfl⟩ hK2
        have hg := hget q hq
        unfold gName'
        refine seq_go2 (sPut_go (n := t.n) (f := fun i => fr (U i)) rfl (ms.getD q 0) (fr x) (fun K h => by push_cast [rg_len]; exact h) (fun K h => by dsimp! [rg_len]; exact h _) hg ?_)
        dsimp only
        refine seq_go2 (sPut_go (n := t.n) (f := fun i => fr (W i)) rfl (ms.getD q 0) (fr (w q)) (fun K h => by dsimp! [rg_len]; exact h) (fun K h => by dsimp! [rg_len]; exact h _) hg ?_)
        dsimp only
        refine seq_go2 (sPut_go (n := t.n) (f := fun i => .bl (dn' i)) rfl (ms.getD q 0) (.bl true) (fun K h => by push_cast [rg_len]; exact h) (fun K h => by dsimp! [rg_len]; exact h _) hg ?_)
        dsimp only
        unfold sNext
        push_cast [rg_len]
        rw [show (fun l => if l = ms.getD q 0 then fr x else fr (U l)) = fun l => fr (if l = ms.getD q 0 then x else U l) from funext fun l => by split <;> rfl,
          show (fun l => if l = ms.getD q 0 then fr (w q) else fr (W l)) = fun l => fr (if l = ms.getD q 0 then w q else W l) from funext fun l => by split <;> rfl,
          show (fun l => if l = ms.getD q 0 then D.bl true else .bl (dn' l)) = fun l => .bl (if l = ms.getD q 0 then true else dn' l) from funext fun l => by split <;> rfl]
        refine hK2 _ ⟨fun l => if l = ms.getD q 0 then x else U l, fun l => if l = ms.getD q 0 then w q else W l, fun l => if l = ms.getD q 0 then true else dn' l, _, fun i hi => ?_, fun i hi => ?_, fun j => ?_, rfl⟩
        · dsimp only; split
          · exact hx.mono hez.2.2.1
          · exact hU' i hi
        · dsimp only; split
          · exact hws q hq
          · exact hW' i hi
        · dsimp only
          by_cases e : j = ms.getD q 0
          · rw [if_pos e]
            exact ⟨fun _ => .inr ⟨q, by omega, e.symm⟩, fun _ => rfl⟩
          · rw [if_neg e, hdn]
            refine ⟨fun h => h.elim .inl fun ⟨q', a, b⟩ => .inr ⟨q', by omega, b⟩, fun h => h.elim .inl fun ⟨q', a, b⟩ => .inr ⟨q', ?_, b⟩⟩
            by_cases q2 : q' = q
            · rw [q2] at b; exact absurd b.symm e
            · omega
      · rintro env ⟨U, W, dn', s10, hU', hW', hdn, rfl⟩
        push_cast [rg_len]
        refine hK _ ⟨U, W, dn', _, _, _, _, _, hU', hW', fun l j hln hjn h1 h2 => ?_, rfl⟩
        have hmem : ∀ j, (∃ q', q' < ms.length ∧ ms.getD q' 0 = j) ↔ j ∈ ms := fun j => by
          constructor
          · rintro ⟨q', a, b⟩
            rw [← b, List.getD_eq_getElem?_getD, List.getElem?_eq_getElem a]; exact List.getElem_mem a
          · intro h
            obtain ⟨q', a, b⟩ := List.getElem_of_mem h
            exact ⟨q', a, by rw [List.getD_eq_getElem?_getD, List.getElem?_eq_getElem a]; exact b⟩
        have hj : dn j = false ∧ j ∉ ms := by
          constructor
          · cases h : dn j
            · rfl
            · rw [(hdn j).mpr (.inl h)] at h2; cases h2
          · intro h
            rw [(hdn j).mpr (.inr ((hmem j).mpr h))] at h2; cases h2
        rcases (hdn l).mp h1 with h | h
        · exact hD l j hln hjn h hj.1
        · have hlm := (hmem l).mp h
          rcases hms with q | ⟨i, hi, hdi, hfree, q⟩
          · rw [q] at hlm; cases hlm
          · have him : i ∈ ms := by
              rw [q, List.mem_filter, List.mem_range]
              exact ⟨hi, by rw [hl.dg i hi]; rfl⟩
            have hij : i ≠ j := fun e => hj.2 (e ▸ him)
            have hlj : l ≠ j := fun e => hj.2 (e ▸ hlm)
            have hli : l = i := by omega
            rw [hli]
            cases hfj : f j i with
            | none => rfl
            | some b =>
              exfalso
              have := hfree j hjn hj.1 (by rw [hfj]; simp)
              apply hj.2
              rw [q, List.mem_filter, List.mem_range]
              refine ⟨hjn, ?_⟩
              rw [hfj]
              cases hfi : f i j with
              | none => exact absurd hfi this
              | some c => rfl
  · rintro env ⟨U, W, dn, s6, s7, s8, s9, s10, hU, hW, hD, rfl⟩
    push_cast [rg_len]
    exact hk _
def S_check : SpecT := S_check' NoRing
theorem k_check : Keeps n_check a_check (b_check S_leads S_make_taste) S_check := by
  rintro ds k ⟨t, rfl, ht, hr, hk⟩
  have hn2 := ht.n2
  refine ⟨rfl, ?_⟩
  push_cast [b_check, n_check]
  refine ⟨t, rfl, ht, hr, fun f hl => ?_⟩
  unfold tabD
  push_cast [rg_len]
  refine ⟨⟨by omega, by omega⟩, for_rg (fun i env => ∃ s2, env = [.sh (dataD t), .sh (tabD t.n f), s2]) ⟨_, rfl⟩ ?_ ?_⟩
  · rintro i env K hi ⟨s2, rfl⟩ hK
    unfold tabD
    dsimp! [rg_len]
    rw [hl.dg i hi]
    push_cast [ob]
    exact hK _ ⟨_, rfl⟩
  · rintro env ⟨s2, rfl⟩
    push_cast [rg_len]
    refine ⟨t, f, rfl, ht, hl, fun d => ?_⟩
    push_cast [rg_len]
    exact hk d
end BB
end
section
set_option maxRecDepth 100000
set_option exponentiation.threshold 100
set_option maxHeartbeats 4000000
/-! The law's small defs. -/
namespace BB
open PySem L2 MA
theorem isi_go {t : Ty} {a : PE'} {env : Env} {k : Kd → D → Prop} {x : D} {kd : Kd} {b : Bool} (ha : ∀ K : Kd → D → Prop, K kd x → a env K) (h : isiD t x = some b) (hk : k .s (.bl b)) : pIsI a t env k := by
  unfold pIsI; exact ha _ ⟨b, h, hk⟩
def S__law_row : SpecT := fun ds k => ∃ (ns : List Int) (place many : Nat), ds = [.frz ns, .int (place : Nat), .int (many : Nat)] ∧ place < 1000 ∧ many ≤ 1000 ∧ ∀ r : Nat → Nat, (∀ i, r i < 1000) → k (.lst (rg many fun i => .int (r i : Nat)))
theorem rg_snoc_ex {n : Nat} {r : Nat → Nat} {x : Int} (h0 : 0 ≤ x) (h1 : x < 1000) (hr : ∀ i, r i < 1000) : ∃ r' : Nat → Nat, (∀ i, r' i < 1000) ∧ (rg n fun i => D.int (r i : Nat)) ++ [.int x] = rg (n + 1) fun i => .int (r' i : Nat) := by
  refine ⟨fun i => if i < n then r i else x.toNat, fun i => ?_, ?_⟩
  · dsimp only; split
    · exact hr i
    · omega
  · rw [rg_snoc]
    refine rg_congr fun i _ => ?_
    dsimp only
    by_cases e : i < n
    · rw [if_pos e, if_pos e]
    · rw [if_neg e, if_neg e]; congr 1; omega
theorem small_mul {i j : Int} (h : j.natAbs < 2 ^ 64) : mulOk i j := .inl (.inr h)
theorem k__law_row : Keeps n__law_row a__law_row b__law_row S__law_row := by
  rintro ds k ⟨ns, place, many, rfl, hp, hm, hk⟩
  refine ⟨rfl, ?_⟩
  have tail : ∀ c : Int, (sSeq (sSet (gName' 4) (pSub (pVar 3) (pPow (pC (.int 10)) (pC (.int 18)))))
      (sSeq (sOwn 5 (fLst aNil))
      (sSeq (sFor (iRange (pVar 2)) (gName' 6)
      (sSeq (sIf (tOf (pCmp (fun i j => decide (j < i)) (pVar 4) (pC (.int 0))))
      (sSeq (sApp 5 (pMod (pInt (pVar 4)) (pC (.int 1000))))
      (sSeq (sSet (gName' 4) (pDiv (pVar 4) (pC (.int 1000))))
      sNext))
      (sSeq (sSet (gName' 7) (pMod (pInt (pAdd (pAdd (pMul (pVar 3) (pC (.int 48271))) (pMul (pVar 6) (pC (.int 69621)))) (pC (.int 12345)))) (pC (.int 2147483647))))
      (sSeq (sSet (gName' 7) (pMod (pInt (pAdd (pAdd (pMul (pVar 7) (pVar 7)) (pMul (pVar 7) (pC (.int 16807)))) (pMul (pVar 6) (pC (.int 40692))))) (pC (.int 2147483399))))
      (sSeq (sApp 5 (pMod (pDiv (pVar 7) (pC (.int 64))) (pC (.int 1000))))
      sNext))))
      sNext))
      (sSeq (sRet (pVar 5))
      sNext)))) { nx := fun _ => k .non, rt := k } [.sh (.frz ns), .sh (.int (place : Nat)), .sh (.int (many : Nat)), .sh (.int c), .no, .no, .no, .no] := by
    intro c
    push_cast [rg_len]
    refine ⟨⟨by decide, by decide, by decide⟩, ⟨by omega, by omega⟩, for_rg (fun i env => ∃ (r : Nat → Nat) (s6 s7 : Sl) (e : Int), (∀ i, r i < 1000) ∧ env = [.sh (.frz ns), .sh (.int (place : Nat)), .sh (.int (many : Nat)), .sh (.int c), .sh (.int e), .ow (rg i fun i => .int (r i : Nat)), s6, s7]) ⟨fun _ => 0, _, _, _, fun _ => (by show 0 < 1000; omega), rfl⟩ ?_ ?_⟩
    · rintro i env K hi ⟨r, s6, s7, e, hr, rfl⟩ hK
      push_cast [rg_len]
      by_cases h : 0 < e
      · push_cast [h]
        obtain ⟨r', h1, h2⟩ := rg_snoc_ex (n := i) (x := e % 1000) (by omega) (by omega) hr
        rw [h2]
        refine ⟨by omega, by omega, ⟨by decide, by decide⟩, hK _ ⟨r', _, _, _, h1, rfl⟩⟩
      · push_cast [h]
        refine ⟨small_mul (by decide), small_mul (by decide), by decide, ?_⟩
        generalize hx : (c * 48271 + ((i : Nat) : Int) * 69621 + 12345) % 2147483647 = x
        have hx0 : 0 ≤ x ∧ x < 2147483647 := by omega
        refine ⟨small_mul (by have : (2 : Nat) ^ 64 = 18446744073709551616 := by decide
                              omega), small_mul (by decide), small_mul (by decide), by decide, ?_⟩
        generalize (x * x + x * 16807 + ((i : Nat) : Int) * 40692) % 2147483399 = y
        obtain ⟨r', h1, h2⟩ := rg_snoc_ex (n := i) (x := y / 64 % 1000) (by omega) (by omega) hr
        rw [h2]
        refine ⟨⟨by decide, by decide⟩, by decide, by omega, hK _ ⟨r', _, _, _, h1, rfl⟩⟩
    · rintro env ⟨r, s6, s7, e, hr, rfl⟩
      push_cast [rg_len]
      exact hk r hr
  have := tail
  push_cast [b__law_row, n__law_row]
  refine ⟨small_mul (by have : (2 : Nat) ^ 64 = 18446744073709551616 := by decide
                        omega), ?_⟩
  by_cases h : place < ns.length
  · have hq : ns[place]? = some ns[place] := List.getElem?_eq_getElem h
    push_cast [h]
    have hfz : ∀ (ka : Kd) (K : Kd → D → Prop), K .s (.int ns[place]) → ixD ka (.frz ns) (.int (place : Nat)) K := fun ka K h => ⟨_, by rw [atI_nat]; exact hq, h⟩
    refine hfz _ _ ?_
    have := tail ns[place]
    revert this
    push_cast [rg_len]
    exact id
  · push_cast [h]
    have := tail (7919 * (place : Int) + 5)
    revert this
    push_cast [rg_len]
    exact id
def S__law_long : SpecT := fun ds k => ∃ (M s m : Nat) (r : Nat → Nat), ds = [.lst (rg M fun i => .int (r i : Nat)), .int (s : Nat), .int (m : Nat)] ∧ s + m ≤ M ∧ m ≤ 100 ∧ (∀ i, r i < 1000) ∧ ∀ v : Nat, v < 1000 ^ m → k (.int (v : Nat))
theorem k__law_long : Keeps n__law_long a__law_long b__law_long S__law_long := by
  rintro ds k ⟨M, s, m, r, rfl, hsm, hm, hr, hk⟩
  refine ⟨rfl, ?_⟩
  push_cast [b__law_long, n__law_long]
  refine ⟨⟨by omega, by omega⟩, for_rg (fun i env => ∃ (v : Nat) (s4 : Sl), v < 1000 ^ i ∧ env = [.sh (.lst (rg M fun i => .int (r i : Nat))), .sh (.int (s : Nat)), .sh (.int (m : Nat)), .sh (.int (v : Nat)), s4]) ⟨0, _, by decide, rfl⟩ ?_ ?_⟩
  · rintro i env K hi ⟨v, s4, hv, rfl⟩ hK
    push_cast [rg_len]
    rw [show ((s : Nat) : Int) + ((i : Nat) : Int) = ((s + i : Nat) : Int) by omega]
    dsimp! [rg_len]
    refine ⟨small_mul (by decide), hK _ ⟨v * 1000 + r (s + i), _, ?_, by rw [Int.natCast_add, Int.natCast_mul]; rfl⟩⟩
    have := hr (s + i)
    rw [Nat.pow_succ]; omega
  · rintro env ⟨v, s4, hv, rfl⟩
    push_cast [rg_len]
    exact hk v hv
def S__law_gcd : SpecT := fun ds k => ∃ a b : Nat, ds = [.int (a : Nat), .int (b : Nat)] ∧ b < 2 ^ 9000 ∧ k (.int ((Nat.gcd a b : Nat) : Int))
theorem mod_half {a b : Nat} (hb : 0 < b) (h : b ≤ a) : 2 * (a % b) < a := by
  have h1 := Nat.mod_lt a hb
  have h2 := Nat.div_add_mod a b
  have h3 : 1 ≤ a / b := (Nat.one_le_div_iff hb).mpr h
  have h4 := Nat.mul_le_mul_left b h3
  omega
theorem bits_nat (b : Nat) : ∃ n, Builtin.Int.intBits (b : Int) = n ∧ b < 2 ^ n ∧ (b < 2 ^ 9000 → n ≤ 9001) := by
  refine ⟨_, rfl, ?_, fun h => ?_⟩
  · unfold Builtin.Int.intBits
    by_cases e : b = 0
    · subst e; simp
    · have : ((b : Int) == 0) = false := by simp; omega
      rw [this, Int.natAbs_natCast]
      exact (Nat.log2_lt e).mp (Nat.lt_succ_self _)
  · unfold Builtin.Int.intBits
    split
    · omega
    · rw [Int.natAbs_natCast]
      have := log2_le_of h
      omega
theorem k__law_gcd : Keeps n__law_gcd a__law_gcd b__law_gcd S__law_gcd := by
  rintro ds k ⟨a, b, rfl, hb, hk⟩
  refine ⟨rfl, ?_⟩
  obtain ⟨n, hn, hbn, hn9⟩ := bits_nat b
  have hn9 := hn9 hb
  push_cast [b__law_gcd, n__law_gcd]
  rw [hn]
  refine ⟨.inl (.inl (by decide)), ⟨by omega, by omega⟩, ?_⟩
  rw [show (2 * ((n : Nat) : Int) + 2).toNat = 2 * n + 2 by omega]
  refine for_rg (fun i env => ∃ (x y : Nat) (s2 : Sl), Nat.gcd x y = Nat.gcd a b ∧ (i = 0 ∨ y < x) ∧ y < 2 ^ (n - i / 2) ∧ (i % 2 = 1 → x < 2 ^ (n - i / 2)) ∧ env = [.sh (.int (x : Nat)), .sh (.int (y : Nat)), s2]) ⟨a, b, _, rfl, .inl rfl, hbn, fun h => by omega, rfl⟩ ?_ ?_
  · rintro i env K hi ⟨x, y, s2, hg, h1, h2, h3, rfl⟩ hK
    push_cast [rg_len]
    by_cases h : y = 0
    · subst h
      have e : decide (((0 : Nat) : Int) = 0) = true := by decide
      push_cast [e]
      rw [Nat.gcd_zero_right] at hg
      rw [hg]; exact hk
    · have e : decide (((y : Nat) : Int) = 0) = false := decide_eq_false (by omega)
      rw [e]
      push_cast [rg_len]
      refine ⟨by omega, ?_⟩
      have hlt : x % y < y := Nat.mod_lt _ (by omega)
      refine hK _ ⟨y, x % y, _, ?_, .inr hlt, ?_, fun ho => ?_, by rw [Int.natCast_emod]⟩
      · rw [← hg, Nat.gcd_comm x y, Nat.gcd_rec y x, Nat.gcd_comm]
      · by_cases ho : i % 2 = 1
        · have hx := h3 ho
          have hyx : y < x := by rcases h1 with q | q; omega; exact q
          have hh := mod_half (by omega) (Nat.le_of_lt hyx)
          have hpos : 0 < n - i / 2 := by
            rcases Nat.eq_zero_or_pos (n - i / 2) with q | q
            · rw [q] at hx; omega
            · exact q
          rw [show (i + 1) / 2 = i / 2 + 1 by omega, show n - (i / 2 + 1) = n - i / 2 - 1 by omega]
          have : 2 ^ (n - i / 2) = 2 ^ (n - i / 2 - 1) * 2 := by rw [← Nat.pow_succ]; congr 1; omega
          omega
        · rw [show (i + 1) / 2 = i / 2 by omega]; omega
      · rw [show (i + 1) / 2 = i / 2 by omega]; exact h2
  · rintro env ⟨x, y, s2, hg, h1, h2, h3, rfl⟩
    push_cast [rg_len]
    rw [show n - (2 * n + 2) / 2 = 0 by omega] at h2
    have : y = 0 := by omega
    subst this
    rw [Nat.gcd_zero_right] at hg
    rw [hg]; exact hk
def S__law_lowest : SpecT := fun ds k => ∃ p q : Int, ds = [.int p, .int q] ∧ 0 < q ∧ q < 2 ^ 8999 ∧ k (fr (Rat.divInt p q))
theorem k__law_lowest : Keeps n__law_lowest a__law_lowest (b__law_lowest S__law_gcd) S__law_lowest := by
  rintro ds k ⟨p, q, rfl, hq, hq2, hk⟩
  refine ⟨rfl, ?_⟩
  push_cast [b__law_lowest, n__law_lowest]
  have hqn : q.natAbs < 2 ^ 8999 := by
    have : ((q.natAbs : Nat) : Int) < ((2 ^ 8999 : Nat) : Int) := by
      rw [Int.natCast_pow, show ((q.natAbs : Nat) : Int) = q by omega]; exact hq2
    exact Int.ofNat_lt.mp this
  refine ⟨p.natAbs, q.natAbs, ?_, Nat.lt_trans hqn (Nat.pow_lt_pow_right (by omega) (by omega)), ?_⟩
  · rw [show (if p < 0 then -p else p) = ((p.natAbs : Nat) : Int) by split <;> omega, show ((q.natAbs : Nat) : Int) = q by omega]
  · have hg := gcd_divOk (p := p) (q := q) hq (log2_lt_of (Nat.lt_trans hqn (Nat.pow_lt_pow_right (by omega) (by omega))) (by omega))
    push_cast [rg_len]
    refine ⟨hg, hg, ?_⟩
    rw [← ratio_pos hq]; exact hk
def S__law_is_integer : SpecT := fun ds k => ∃ i : Int, ds = [.int i] ∧ k (.bl true)
theorem k__law_is_integer : Keeps n__law_is_integer a__law_is_integer b__law_is_integer S__law_is_integer := by
  rintro ds k ⟨i, rfl, hk⟩
  refine ⟨rfl, ?_⟩
  push_cast [b__law_is_integer, n__law_is_integer]
  refine ⟨_, rfl, ?_⟩
  push_cast [rg_len]
  refine ⟨_, rfl, ?_⟩
  push_cast [rg_len]
  exact hk
def S__law_is_fraction : SpecT := fun ds k => ∃ r : Rat, ds = [fr r] ∧ sz 8000 r ∧ k (.bl true)
theorem k__law_is_fraction : Keeps n__law_is_fraction a__law_is_fraction (b__law_is_fraction S__law_is_integer S__law_gcd) S__law_is_fraction := by
  rintro ds k ⟨r, rfl, hr, hk⟩
  refine ⟨rfl, ?_⟩
  push_cast [b__law_is_fraction, n__law_is_fraction]
  refine ⟨true, rfl, ?_⟩
  have hl : ∀ K : Nat → Prop, lenD (fr r) K = K 2 := fun K => rfl
  push_cast [hl]
  refine ⟨r.num, rfl, ?_⟩
  push_cast [rg_len]
  refine ⟨r.den, rfl, ?_⟩
  have hd := r.den_pos
  have e : ¬ (((r.den : Nat) : Int) < 1) := by omega
  push_cast [e]
  refine ⟨r.num.natAbs, r.den, by rw [show (if r.num < 0 then -r.num else r.num) = ((r.num.natAbs : Nat) : Int) by split <;> omega], Nat.lt_trans hr.2 (Nat.pow_lt_pow_right (by omega) (by omega)), ?_⟩
  rw [r.reduced]
  push_cast [rg_len]
  exact hk
def S__law_are_fractions : SpecT := fun ds k => ∃ (n : Nat) (a : Nat → Rat), ds = [vec n a, .int (n : Nat)] ∧ n ≤ 1000 ∧ (∀ i, i < n → sz 8000 (a i)) ∧ k (.bl true)
theorem k__law_are_fractions : Keeps n__law_are_fractions a__law_are_fractions (b__law_are_fractions S__law_is_fraction) S__law_are_fractions := by
  rintro ds k ⟨n, a, rfl, hn, ha, hk⟩
  refine ⟨rfl, ?_⟩
  push_cast [b__law_are_fractions, n__law_are_fractions]
  refine ⟨true, rfl, ?_⟩
  push_cast [rg_len]
  refine for_rg (fun i env => ∃ s2, env = [.sh (vec n a), .sh (.int (n : Nat)), s2]) ⟨_, rfl⟩ ?_ ?_
  · rintro i env K hi ⟨s2, rfl⟩ hK
    push_cast [rg_len]
    refine ⟨a i, rfl, ha i hi, ?_⟩
    push_cast [rg_len]
    exact hK _ ⟨_, rfl⟩
  · rintro env ⟨s2, rfl⟩
    push_cast [rg_len]
    exact hk
end BB
end
section
set_option maxRecDepth 100000
set_option exponentiation.threshold 100
set_option maxHeartbeats 4000000
/-! The law's data. -/
namespace BB
open PySem L2 MA
theorem ix_rgZ {n : Nat} {z : Int} (h0 : 0 ≤ z) (h1 : z < n) (ka : Kd) (f : Nat → D) (k : Kd → D → Prop) : ixD ka (.lst (rg n f)) (.int z) k = k (kI ka (f z.toNat)) (f z.toNat) := by
  have := ix_rg (n := n) (j := z.toNat) (by omega) ka f k
  rwa [show ((z.toNat : Nat) : Int) = z by omega] at this
theorem mo8 (x : Int) : mulOk 8 x = True := eq_true (.inl (.inl (by decide)))
theorem mo3 (x : Int) : mulOk 3 x = True := eq_true (.inl (.inl (by decide)))
theorem mo2 (x : Int) : mulOk 2 x = True := eq_true (.inl (.inl (by decide)))
theorem fr_int (x : Int) : D.tup [.int x, .int 1] = fr (x : Rat) := by unfold fr; rw [Rat.num_intCast, Rat.den_intCast]; rfl
theorem sn0 : sn 0 := ⟨Nat.zero_le _, by decide⟩
theorem sn_int {x : Int} (h : x.natAbs ≤ 2 ^ 40) : sn (x : Rat) := ⟨by rw [Rat.num_intCast]; exact h, by rw [Rat.den_intCast]; decide⟩
theorem divInt_Zs {p q : Int} (hq : 0 < q) : Zs q.natAbs p.natAbs (Rat.divInt p q) := by
  refine ⟨p, ?_, Nat.le_refl _⟩
  rw [Rat.divInt_eq_div]
  have : ((q.natAbs : Nat) : Rat) = (q : Rat) := by rw [← Rat.intCast_natCast, show ((q.natAbs : Nat) : Int) = q by omega]
  rw [this]
  have h0 : (q : Rat) ≠ 0 := by
    intro e
    have : (q : Rat) = ((0 : Int) : Rat) := e
    have := Rat.intCast_inj.mp this
    omega
  generalize (q : Rat) = y at *
  grind
theorem sn_divInt {p q : Int} (hq : 0 < q) (hp : p.natAbs ≤ 2 ^ 40) (hq2 : q ≤ 1024) : sn (Rat.divInt p q) := by
  have h := (divInt_Zs (p := p) hq).le (by omega)
  exact ⟨by omega, by have : (2 : Nat) ^ 10 = 1024 := by decide
                      omega⟩
theorem num_pos_divInt {p q : Int} (hq : 0 < q) (hp : 0 < p) : 0 < (Rat.divInt p q).num := by
  rw [Rat.num_divInt, Int.sign_eq_one_of_pos hq, Int.one_mul]
  have hg : q.gcd p ∣ p.natAbs := Nat.gcd_dvd_right _ _
  have hg0 : 0 < q.gcd p := Nat.gcd_pos_of_pos_left _ (by omega)
  obtain ⟨c, hc⟩ := hg
  have hp' : p = ((q.gcd p : Nat) : Int) * (c : Int) := by
    rw [← Int.natCast_mul, ← hc]; omega
  have : p / ((q.gcd p : Nat) : Int) = (c : Int) := by
    conv => lhs; lhs; rw [hp']
    exact Int.mul_ediv_cancel_left _ (by omega)
  rw [this]
  rcases Nat.eq_zero_or_pos c with e | e
  · rw [e] at hp'; simp at hp'; omega
  · omega
theorem num_le_divInt {p q : Int} (hq : 0 < q) : (Rat.divInt p q).num.natAbs ≤ p.natAbs := ((divInt_Zs (p := p) hq).le (by omega)).1
theorem lowest_go {p q : Int} {k : D → Prop} (hq : 0 < q) (hq2 : q ≤ 100000000000000) (hk : k (fr (Rat.divInt p q))) : S__law_lowest [.int p, .int q] k := by
  refine ⟨p, q, rfl, hq, ?_, hk⟩
  have h1 : (100000000000000 : Int) < 2 ^ 60 := by decide
  have h2 : (2 : Nat) ^ 60 ≤ 2 ^ 8999 := Nat.pow_le_pow_right (by omega) (by omega)
  have h3 : (2 : Int) ^ 60 ≤ 2 ^ 8999 := by
    have := Int.ofNat_le.mpr h2
    rwa [Int.natCast_pow, Int.natCast_pow] at this
  omega
theorem frs_snoc {n : Nat} {P : Nat → Rat} {x : Rat} (hx : sn x) (hP : ∀ i, sn (P i)) : ∃ P' : Nat → Rat, (∀ i, sn (P' i)) ∧ (rg n fun i => fr (P i)) ++ [fr x] = rg (n + 1) fun i => fr (P' i) := by
  refine ⟨fun i => if i < n then P i else x, fun i => ?_, ?_⟩
  · dsimp only; split
    · exact hP i
    · exact hx
  · rw [rg_snoc]
    refine rg_congr fun i _ => ?_
    dsimp only
    by_cases e : i < n
    · rw [if_pos e, if_pos e]
    · rw [if_neg e, if_neg e]
def S__law_purchase : SpecT := fun ds k => ∃ (r sh : Nat → Nat) (g kind : Nat), ds = [.lst (rg 33 fun i => .int (r i : Nat)), .lst (rg 9 fun i => .int (sh i : Nat)), .int (g : Nat), .int (kind : Nat)] ∧ 1 ≤ g ∧ g ≤ 4 ∧ (∀ i, r i < 1000) ∧ (∀ i, sh i < 1000) ∧ ∀ P A : Nat → Rat, (∀ i, sn (P i)) → (∀ i, sn (A i)) → k (.tup [vec g P, vec g A])
/-! the body of the loop, statement by statement -/
noncomputable def pb1 : PS' := (sSet (gName' 7) (pCall S__law_lowest (aCons (pAdd (pC (.int 1)) (pMod (pInt (pIx (pVar 0) (pMul (pC (.int 8)) (pVar 6)))) (pC (.int 12)))) (aCons (pAdd (pC (.int 1)) (pMod (pInt (pIx (pVar 0) (pAdd (pMul (pC (.int 8)) (pVar 6)) (pC (.int 1))))) (pC (.int 5)))) aNil))))
noncomputable def pb2 : PS' := (sSet (gName' 8) (pCall S__law_lowest (aCons (pMod (pInt (pIx (pVar 0) (pAdd (pMul (pC (.int 8)) (pVar 6)) (pC (.int 2))))) (pC (.int 7))) (aCons (pAdd (pC (.int 1)) (pMod (pInt (pIx (pVar 0) (pAdd (pMul (pC (.int 8)) (pVar 6)) (pC (.int 3))))) (pC (.int 4)))) aNil))))
noncomputable def pb3 : PS' := (sIf (tOf (pEq (pVar 3) (pC (.int 0))))
 (sSeq (sSet (gName' 7) (pTup (aCons (pAdd (pC (.int 1)) (pMod (pInt (pIx (pVar 0) (pMul (pC (.int 8)) (pVar 6)))) (pC (.int 3)))) (aCons (pC (.int 1)) aNil))))
 sNext)
 sNext)
noncomputable def pb4 : PS' := (sIf (tOf (pEq (pVar 3) (pC (.int 4))))
 (sSeq (sSet (gName' 7) (pTup (aCons (pAdd (pC (.int 1)) (pMod (pInt (pIx (pVar 1) (pAdd (pC (.int 4)) (pVar 6)))) (pC (.int 3)))) (aCons (pC (.int 1)) aNil))))
 sNext)
 sNext)
noncomputable def pb5 : PS' := (sIf (tOr' (tOf (pEq (pVar 3) (pC (.int 0)))) (tOf (pEq (pVar 3) (pC (.int 4)))))
 (sSeq (sSet (gName' 8) (pTup (aCons (pMod (pInt (pIx (pVar 0) (pAdd (pMul (pC (.int 8)) (pVar 6)) (pC (.int 2))))) (pC (.int 4))) (aCons (pC (.int 1)) aNil))))
 sNext)
 sNext)
noncomputable def pb6 : PS' := (sIf (tOf (pEq (pVar 3) (pC (.int 2))))
 (sSeq (sSet (gName' 8) (pCall S__law_lowest (aCons (pMul (pMul (pAdd (pC (.int 1)) (pMod (pInt (pIx (pVar 1) (pAdd (pC (.int 4)) (pVar 6)))) (pC (.int 5)))) (pAdd (pC (.int 1)) (pMod (pInt (pIx (pVar 0) (pC (.int 32)))) (pC (.int 5))))) (pIx (pVar 7) (pC (.int 1)))) (aCons (pIx (pVar 7) (pC (.int 0))) aNil))))
 sNext)
 sNext)
noncomputable def pb7 : PS' := (sIf (tOf (pEq (pVar 3) (pC (.int 3))))
 (sSeq (sSet (gName' 7) (pCall S__law_lowest (aCons (pAdd (pC (.int 1)) (pCall S__law_long (aCons (pVar 0) (aCons (pMul (pC (.int 8)) (pVar 6)) (aCons (pC (.int 4)) aNil))))) (aCons (pAdd (pC (.int 1)) (pIx (pVar 0) (pAdd (pMul (pC (.int 8)) (pVar 6)) (pC (.int 4))))) aNil))))
 (sSeq (sSet (gName' 8) (pCall S__law_lowest (aCons (pCall S__law_long (aCons (pVar 0) (aCons (pAdd (pMul (pC (.int 8)) (pVar 6)) (pC (.int 4))) (aCons (pC (.int 4)) aNil)))) (aCons (pAdd (pC (.int 1)) (pIx (pVar 0) (pMul (pC (.int 8)) (pVar 6)))) aNil))))
 sNext))
 sNext)
noncomputable def pb8 : PS' := (sApp 4 (pVar 7))
noncomputable def pb9 : PS' := (sApp 5 (pVar 8))
def PE (r sh : Nat → Nat) (g kind : Nat) (P A : List D) (i : Nat) (a b : Sl) : Env := [.sh (.lst (rg 33 fun i => .int (r i : Nat))), .sh (.lst (rg 9 fun i => .int (sh i : Nat))), .sh (.int (g : Nat)), .sh (.int (kind : Nat)), .ow P, .ow A, .sh (.int (i : Nat)), a, b, .no]
section
variable {r sh : Nat → Nat} {g kind i : Nat} {P A : List D} {Z : Post} {a b : Sl}
theorem pb1_ok (hr : ∀ i, r i < 1000) (hi : i < 4) (h : ∀ x : Rat, sn x → 0 < x.num → x.num ≤ 12 → Z.nx (PE r sh g kind P A i (.sh (fr x)) b)) : pb1 Z (PE r sh g kind P A i a b) := by
  unfold pb1 PE
  dsimp! [ix_rgZ, mo8, Int.reduceLT]
  refine lowest_go (by omega) (by omega) ?_
  push_cast [rg_len]
  have p40 : (2 : Nat) ^ 40 = 1099511627776 := by decide
  refine h _ (sn_divInt (by omega) (by omega) (by omega)) (num_pos_divInt (by omega) (by omega)) ?_
  have := num_le_divInt (p := 1 + ((r (8 * ((i : Nat) : Int)).toNat : Nat) : Int) % 12) (q := 1 + ((r (8 * ((i : Nat) : Int) + 1).toNat : Nat) : Int) % 5) (by omega)
  omega
theorem pb2_ok (hr : ∀ i, r i < 1000) (hi : i < 4) (h : ∀ y : Rat, sn y → Z.nx (PE r sh g kind P A i a (.sh (fr y)))) : pb2 Z (PE r sh g kind P A i a b) := by
  unfold pb2 PE
  dsimp! [ix_rgZ, mo8, Int.reduceLT]
  refine lowest_go (by omega) (by omega) ?_
  push_cast [rg_len]
  have p40 : (2 : Nat) ^ 40 = 1099511627776 := by decide
  exact h _ (sn_divInt (by omega) (by omega) (by omega))
theorem pb3_ok (hi : i < 4) {x : Rat} (hx : sn x) (hk : kind = 2 → 0 < x.num ∧ x.num ≤ 12) (h : ∀ x : Rat, sn x → (kind = 2 → 0 < x.num ∧ x.num ≤ 12) → Z.nx (PE r sh g kind P A i (.sh (fr x)) b)) : pb3 Z (PE r sh g kind P A i (.sh (fr x)) b) := by
  have p40 : (2 : Nat) ^ 40 = 1099511627776 := by decide
  unfold pb3 PE
  by_cases e : ((kind : Nat) : Int) = 0
  · dsimp! [e, decide_true, ix_rgZ, mo8, Int.reduceLT, fr_int]
    have := h ((1 + ((r (8 * ((i : Nat) : Int)).toNat : Nat) : Int) % 3 : Int) : Rat) (sn_int (by omega)) (fun q => by omega)
    unfold PE at this
    rw [e] at this
    exact this
  · push_cast [e]
    exact h x hx hk
theorem pb4_ok (hs : ∀ i, sh i < 1000) (hi : i < 4) {x : Rat} (hx : sn x) (hk : kind = 2 → 0 < x.num ∧ x.num ≤ 12) (h : ∀ x : Rat, sn x → (kind = 2 → 0 < x.num ∧ x.num ≤ 12) → Z.nx (PE r sh g kind P A i (.sh (fr x)) b)) : pb4 Z (PE r sh g kind P A i (.sh (fr x)) b) := by
  have p40 : (2 : Nat) ^ 40 = 1099511627776 := by decide
  unfold pb4 PE
  by_cases e : ((kind : Nat) : Int) = 4
  · dsimp! [e, decide_true, ix_rgZ, mo8, Int.reduceLT, fr_int]
    have := h ((1 + ((sh (4 + ((i : Nat) : Int)).toNat : Nat) : Int) % 3 : Int) : Rat) (sn_int (by omega)) (fun q => by omega)
    unfold PE at this
    rw [e] at this
    exact this
  · push_cast [e]
    exact h x hx hk
theorem pb5_ok (hi : i < 4) {y : Rat} (hy : sn y) (h : ∀ y : Rat, sn y → Z.nx (PE r sh g kind P A i a (.sh (fr y)))) : pb5 Z (PE r sh g kind P A i a (.sh (fr y))) := by
  have p40 : (2 : Nat) ^ 40 = 1099511627776 := by decide
  have h' := h ((((r (8 * ((i : Nat) : Int) + 2).toNat : Nat) : Int) % 4 : Int) : Rat) (sn_int (by omega))
  unfold PE at h'
  unfold pb5 PE
  by_cases e : ((kind : Nat) : Int) = 0
  · have e4 : ¬ ((0 : Int) = 4) := by decide
    rw [e] at h'
    dsimp! [e, e4, ix_rgZ, mo8, Int.reduceLT, fr_int]
    exact h'
  · by_cases e4 : ((kind : Nat) : Int) = 4
    · have e0 : ¬ ((4 : Int) = 0) := by decide
      rw [e4] at h'
      dsimp! [e4, e0, ix_rgZ, mo8, Int.reduceLT, fr_int]
      exact h'
    · push_cast [e, e4]
      exact h y hy
theorem pb6_ok (hs : ∀ i, sh i < 1000) (hr : ∀ i, r i < 1000) (hi : i < 4) {x y : Rat} (hx : sn x) (hy : sn y) (hk : kind = 2 → 0 < x.num ∧ x.num ≤ 12) (h : ∀ y : Rat, sn y → Z.nx (PE r sh g kind P A i (.sh (fr x)) (.sh (fr y)))) : pb6 Z (PE r sh g kind P A i (.sh (fr x)) (.sh (fr y))) := by
  have p40 : (2 : Nat) ^ 40 = 1099511627776 := by decide
  unfold pb6 PE
  by_cases e : ((kind : Nat) : Int) = 2
  · obtain ⟨hn0, hn1⟩ := hk (by omega)
    dsimp! [e, ix_rgZ, mo8, Int.reduceLT, fr_int]
    generalize hx5 : 1 + ((sh (4 + ((i : Nat) : Int)).toNat : Nat) : Int) % 5 = u
    generalize hx6 : 1 + ((r (32 : Int).toNat : Nat) : Int) % 5 = v
    have hu : 1 ≤ u ∧ u ≤ 5 := by omega
    have hv : 1 ≤ v ∧ v ≤ 5 := by omega
    have hd := hx.2
    have p10 : (2 : Nat) ^ 10 = 1024 := by decide
    have huv : u * v ≤ 5 * 5 := Int.mul_le_mul hu.2 hv.2 (by omega) (by omega)
    have huv0 : 0 ≤ u * v := Int.mul_nonneg (by omega) (by omega)
    have h64 : (2 : Nat) ^ 64 = 18446744073709551616 := by decide
    refine ⟨small_mul (by omega), small_mul (by rw [Int.natAbs_natCast]; omega), lowest_go hn0 (by omega) ?_⟩
    have h1 : u * v * ((x.den : Nat) : Int) ≤ 25 * 1024 := Int.mul_le_mul (by omega) (by omega) (by omega) (by omega)
    have h2 : 0 ≤ u * v * ((x.den : Nat) : Int) := Int.mul_nonneg huv0 (by omega)
    have := h _ (sn_divInt (p := u * v * ((x.den : Nat) : Int)) (q := x.num) hn0 (by omega) (by omega))
    unfold PE at this
    rw [e] at this
    push_cast [rg_len]
    exact this
  · push_cast [e]
    exact h y hy
theorem pb7_ok (hr : ∀ i, r i < 1000) (hi : i < 4) {x y : Rat} (hx : sn x) (hy : sn y) (h : ∀ x y : Rat, sn x → sn y → Z.nx (PE r sh g kind P A i (.sh (fr x)) (.sh (fr y)))) : pb7 Z (PE r sh g kind P A i (.sh (fr x)) (.sh (fr y))) := by
  have p40 : (2 : Nat) ^ 40 = 1099511627776 := by decide
  have k4 : 1000 ^ 4 = 1000000000000 := by decide
  have hrr : ∀ z : Int, 0 ≤ ((r z.toNat : Nat) : Int) ∧ ((r z.toNat : Nat) : Int) < 1000 := fun z => by have := hr z.toNat; omega
  unfold pb7 PE
  by_cases e : ((kind : Nat) : Int) = 3
  · dsimp! [e, ix_rgZ, mo8, Int.reduceLT, fr_int]
    refine ⟨33, 8 * i, 4, r, by rw [Int.natCast_mul]; rfl, by omega, by omega, hr, fun v hv => ?_⟩
    have h4 := hrr (8 * ((i : Nat) : Int) + 4)
    dsimp! [ix_rgZ, mo8, Int.reduceLT]
    refine lowest_go (by omega) (by omega) ?_
    dsimp! [ix_rgZ, mo8, Int.reduceLT]
    refine ⟨33, 8 * i + 4, 4, r, by rw [Int.natCast_add, Int.natCast_mul]; rfl, by omega, by omega, hr, fun v2 hv2 => ?_⟩
    have h0 := hrr (8 * ((i : Nat) : Int))
    dsimp! [ix_rgZ, mo8, Int.reduceLT]
    refine lowest_go (by omega) (by omega) ?_
    push_cast [rg_len]
    have := h _ _ (sn_divInt (p := 1 + ((v : Nat) : Int)) (q := 1 + ((r (8 * ((i : Nat) : Int) + 4).toNat : Nat) : Int)) (by omega) (by omega) (by omega)) (sn_divInt (p := ((v2 : Nat) : Int)) (q := 1 + ((r (8 * ((i : Nat) : Int)).toNat : Nat) : Int)) (by omega) (by omega) (by omega))
    unfold PE at this
    rw [e] at this
    exact this
  · push_cast [e]
    exact h x y hx hy
end
end BB
end
section
set_option maxRecDepth 100000
set_option exponentiation.threshold 100
set_option maxHeartbeats 4000000
/-! _law_purchase. -/
namespace BB
open PySem L2 MA
theorem sn1 : sn 1 := ⟨by decide, by decide⟩
theorem seq_go3 {a b : PS'} {Z : Post} {env : Env} (h : a { Z with nx := b Z } env) : sSeq a b Z env := h
noncomputable def pbAll : PS' := sSeq pb1 (sSeq pb2 (sSeq pb3 (sSeq pb4 (sSeq pb5 (sSeq pb6 (sSeq pb7 (sSeq pb8 (sSeq pb9 sNext))))))))
theorem purch_eq : b__law_purchase S__law_lowest S__law_long = sSeq (sOwn 4 (fLst aNil)) (sSeq (sOwn 5 (fLst aNil)) (sSeq (sFor (iRange (pVar 2)) (gName' 6) pbAll)
      (sSeq (sIf (tOf (pEq (pMax (pF (fComp (iList' (pVar 5)) (gName' 9) tYes' (pIx (pVar 9) (pC (.int 0))) [9]))) (pC (.int 0)))) (sSeq (sPut 5 (pSub (pVar 2) (pC (.int 1))) (pTup (aCons (pC (.int 1)) (aCons (pC (.int 1)) aNil)))) sNext) sNext) (sSeq (sRet (pTup (aCons (pVar 4) (aCons (pVar 5) aNil)))) sNext)))) := by
  unfold b__law_purchase pbAll pb1 pb2 pb3 pb4 pb5 pb6 pb7 pb8 pb9
  repeat (first | with_reducible rfl | (apply congrArg) | (apply congr))
theorem pbAll_ok {r sh : Nat → Nat} {g kind : Nat} (hr : ∀ i, r i < 1000) (hsh : ∀ i, sh i < 1000) {i : Nat} {P A : List D} {Z : Post} {s7 s8 : Sl} (hi : i < 4) (h : ∀ x y : Rat, sn x → sn y → (sSeq pb8 (sSeq pb9 sNext)) Z (PE r sh g kind P A i (.sh (fr x)) (.sh (fr y)))) :
      pbAll Z (PE r sh g kind P A i s7 s8) := by
  unfold pbAll
  refine seq_go3 (pb1_ok hr hi fun x hx h1 h2 => ?_)
  dsimp only
  refine seq_go3 (pb2_ok hr hi fun y hy => ?_)
  dsimp only
  refine seq_go3 (pb3_ok hi hx (fun _ => ⟨h1, h2⟩) fun x hx hk => ?_)
  dsimp only
  refine seq_go3 (pb4_ok hsh hi hx hk fun x hx hk => ?_)
  dsimp only
  refine seq_go3 (pb5_ok hi hy fun y hy => ?_)
  dsimp only
  refine seq_go3 (pb6_ok hsh hr hi hx hy hk fun y hy => ?_)
  dsimp only
  refine seq_go3 (pb7_ok hr hi hx hy fun x y hx hy => ?_)
  dsimp only
  exact h x y hx hy
theorem pb89 {r sh : Nat → Nat} {g kind i : Nat} {P A : Nat → Rat} {x y : Rat} {Z : Post} (hi : i < 4) (hP : ∀ i, sn (P i)) (hA : ∀ i, sn (A i)) (hx : sn x) (hy : sn y)
    (hK : ∀ P' A' : Nat → Rat, (∀ i, sn (P' i)) → (∀ i, sn (A' i)) → Z.nx (PE r sh g kind (rg (i + 1) fun i => fr (P' i)) (rg (i + 1) fun i => fr (A' i)) i (.sh (fr x)) (.sh (fr y)))) :
    (sSeq pb8 (sSeq pb9 sNext)) Z (PE r sh g kind (rg i fun i => fr (P i)) (rg i fun i => fr (A i)) i (.sh (fr x)) (.sh (fr y))) := by
  obtain ⟨P', h1, h2⟩ := frs_snoc (n := i) hx hP
  obtain ⟨A', h3, h4⟩ := frs_snoc (n := i) hy hA
  have := hK P' A' h1 h3
  unfold pb8 pb9
  unfold PE at this ⊢
  push_cast [rg_len]
  rw [h2, h4]
  exact ⟨by omega, by omega, this⟩
theorem PE_eq {r sh : Nat → Nat} {g kind i : Nat} {P A : List D} {s6 s7 s8 : Sl} : ([.sh (.lst (rg 33 fun i => .int (r i : Nat))), .sh (.lst (rg 9 fun i => .int (sh i : Nat))), .sh (.int (g : Nat)), .sh (.int (kind : Nat)), .ow P, .ow A, s6, s7, s8, .no] : Env).set 6 (.sh (.int (i : Nat))) = PE r sh g kind P A i s7 s8 := rfl
theorem k__law_purchase : Keeps n__law_purchase a__law_purchase (b__law_purchase S__law_lowest S__law_long) S__law_purchase := by
  rintro ds k ⟨r, sh, g, kind, rfl, hg1, hg4, hr, hsh, hk⟩
  refine ⟨rfl, ?_⟩
  rw [purch_eq]
  push_cast [n__law_purchase, pMax]
  refine ⟨⟨by omega, by omega⟩, for_rg (fun i env => ∃ (P A : Nat → Rat) (s6 s7 s8 : Sl), (∀ i, sn (P i)) ∧ (∀ i, sn (A i)) ∧ env = [.sh (.lst (rg 33 fun i => .int (r i : Nat))), .sh (.lst (rg 9 fun i => .int (sh i : Nat))), .sh (.int (g : Nat)), .sh (.int (kind : Nat)), .ow (rg i fun i => fr (P i)), .ow (rg i fun i => fr (A i)), s6, s7, s8, .no]) ⟨fun _ => 0, fun _ => 0, _, _, _, fun _ => sn0, fun _ => sn0, rfl⟩ ?_ ?_⟩
  · rintro i env K hi ⟨P, A, s6, s7, s8, hP, hA, rfl⟩ hK
    unfold gName'
    dsimp only
    rw [PE_eq]
    refine pbAll_ok hr hsh (by omega) fun x y hx hy => pb89 (by omega) hP hA hx hy fun P' A' h1 h3 => ?_
    exact hK _ ⟨P', A', _, _, _, h1, h3, rfl⟩
  · rintro env ⟨P, A, s6, s7, s8, hP, hA, rfl⟩
    push_cast [pMax]
    refine ⟨by omega, comp_rg (fun i => .int (A i).num) (fun i K hi hK => by push_cast [rg_len]; exact hK) ?_⟩
    refine ⟨rg g fun i => (A i).num, by rw [rg_map], by rw [rg_len]; omega, fun m hm hmx => ?_⟩
    push_cast [rg_len]
    by_cases h0 : m = 0
    · push_cast [h0]
      refine sPut_go (n := g) (f := fun i => fr (A i)) rfl (g - 1) (fr 1) (fun K h => by push_cast [rg_len]; exact h) (fun K h => by push_cast [rg_len]; rw [show ((g : Nat) : Int) - 1 = ((g - 1 : Nat) : Int) by omega]; exact h _) (by omega) ?_
      push_cast [rg_len]
      rw [show (fun l => if l = g - 1 then fr 1 else fr (A l)) = fun l => fr (if l = g - 1 then 1 else A l) from funext fun l => by split <;> rfl]
      refine hk P (fun l => if l = g - 1 then 1 else A l) hP fun l => ?_
      · split
        · exact sn1
        · exact hA l
    · push_cast [h0]
      exact hk P A hP hA
end BB
end
section
set_option maxRecDepth 100000
set_option exponentiation.threshold 100
set_option maxHeartbeats 4000000
/-! _law_data. -/
namespace BB
open PySem L2 MA
/-- what the law draws -/
structure Dr where
  g : Nat
  n : Nat
  nl : Nat
  P : Nat → Nat → Rat
  A : Nat → Nat → Rat
  li : Nat → Nat
  lj : Nat → Nat
  ls : Nat → Bool
structure Dr.Ok (t : Dr) : Prop where
  g1 : 1 ≤ t.g
  g4 : t.g ≤ 4
  n2 : t.n ≤ 2
  nl2 : t.nl ≤ 2
  li : ∀ k, k < t.nl → t.li k < t.n
  lj : ∀ k, k < t.nl → t.lj k < t.n
  P : ∀ i k, sn (t.P i k)
  A : ∀ i k, sn (t.A i k)
def drB (t : Dr) : D := .lst (rg t.n fun i => .tup [vec t.g (t.P i), vec t.g (t.A i)])
def drL (t : Dr) : D := .lst (rg t.nl fun k => .tup [.int (t.li k : Nat), .int (t.lj k : Nat), .bl (t.ls k)])
def S__law_data : SpecT := fun ds k => ∃ ns : List Int, ds = [.frz ns, .int 0, .int 2, .int 2] ∧ ∀ t : Dr, t.Ok → k (.tup [.int (t.g : Nat), drB t, drL t])
theorem row_go {ns : List Int} {place many : Nat} {k : D → Prop} (h1 : place < 1000) (h2 : many ≤ 1000) (h : ∀ r : Nat → Nat, (∀ i, r i < 1000) → k (.lst (rg many fun i => .int (r i : Nat)))) : S__law_row [.frz ns, .int (place : Nat), .int (many : Nat)] k := ⟨ns, place, many, rfl, h1, h2, h⟩
theorem pick6 {z : Int} (h0 : 0 ≤ z) (h1 : z < 6) : ∃ v : Nat, 1 ≤ v ∧ v ≤ 4 ∧ atI [D.int 2, .int 1, .int 2, .int 3, .int 3, .int 4] z = some (.int (v : Nat)) := by
  rcases (show z = 0 ∨ z = 1 ∨ z = 2 ∨ z = 3 ∨ z = 4 ∨ z = 5 by omega) with e | e | e | e | e | e <;> subst e
  · exact ⟨2, by decide, by decide, rfl⟩
  · exact ⟨1, by decide, by decide, rfl⟩
  · exact ⟨2, by decide, by decide, rfl⟩
  · exact ⟨3, by decide, by decide, rfl⟩
  · exact ⟨3, by decide, by decide, rfl⟩
  · exact ⟨4, by decide, by decide, rfl⟩
theorem pick8 {z : Int} (h0 : 0 ≤ z) (h1 : z < 8) : ∃ v : Nat, atI [D.int 0, .int 1, .int 2, .int 4, .int 0, .int 1, .int 2, .int 3] z = some (.int (v : Nat)) := by
  rcases (show z = 0 ∨ z = 1 ∨ z = 2 ∨ z = 3 ∨ z = 4 ∨ z = 5 ∨ z = 6 ∨ z = 7 by omega) with e | e | e | e | e | e | e | e <;> subst e
  · exact ⟨0, rfl⟩
  · exact ⟨1, rfl⟩
  · exact ⟨2, rfl⟩
  · exact ⟨4, rfl⟩
  · exact ⟨0, rfl⟩
  · exact ⟨1, rfl⟩
  · exact ⟨2, rfl⟩
  · exact ⟨3, rfl⟩
theorem buys_snoc {n g : Nat} {P A : Nat → Nat → Rat} {P1 A1 : Nat → Rat} (hP : ∀ i k, sn (P i k)) (hA : ∀ i k, sn (A i k)) (hP1 : ∀ k, sn (P1 k)) (hA1 : ∀ k, sn (A1 k)) : ∃ P' A' : Nat → Nat → Rat, (∀ i k, sn (P' i k)) ∧ (∀ i k, sn (A' i k)) ∧ (rg n fun i => D.tup [vec g (P i), vec g (A i)]) ++ [.tup [vec g P1, vec g A1]] = rg (n + 1) fun i => .tup [vec g (P' i), vec g (A' i)] := by
  refine ⟨fun i => if i < n then P i else P1, fun i => if i < n then A i else A1, fun i k => ?_, fun i k => ?_, ?_⟩
  · dsimp only; split
    · exact hP i k
    · exact hP1 k
  · dsimp only; split
    · exact hA i k
    · exact hA1 k
  · rw [rg_snoc]
    refine rg_congr fun i _ => ?_
    dsimp only
    by_cases e : i < n
    · rw [if_pos e, if_pos e, if_pos e]
    · rw [if_neg e, if_neg e, if_neg e]
theorem links_snoc {n m : Nat} {li lj : Nat → Nat} {ls : Nat → Bool} {a b : Nat} {c : Bool} (h1 : ∀ k, k < n → li k < m) (h2 : ∀ k, k < n → lj k < m) (ha : a < m) (hb : b < m) : ∃ (li' lj' : Nat → Nat) (ls' : Nat → Bool), (∀ k, k < n + 1 → li' k < m) ∧ (∀ k, k < n + 1 → lj' k < m) ∧ (rg n fun k => D.tup [.int (li k : Nat), .int (lj k : Nat), .bl (ls k)]) ++ [.tup [.int (a : Nat), .int (b : Nat), .bl c]] = rg (n + 1) fun k => .tup [.int (li' k : Nat), .int (lj' k : Nat), .bl (ls' k)] := by
  refine ⟨fun k => if k < n then li k else a, fun k => if k < n then lj k else b, fun k => if k < n then ls k else c, fun k hk => ?_, fun k hk => ?_, ?_⟩
  · dsimp only; split
    · exact h1 k (by omega)
    · exact ha
  · dsimp only; split
    · exact h2 k (by omega)
    · exact hb
  · rw [rg_snoc]
    refine rg_congr fun i _ => ?_
    dsimp only
    by_cases e : i < n
    · rw [if_pos e, if_pos e, if_pos e, if_pos e]
    · rw [if_neg e, if_neg e, if_neg e, if_neg e]
theorem seq_hide {a b : PS'} {Z : Post} {env : Env} (h : ∀ N : Env → Prop, (∀ e, b Z e → N e) → a { Z with nx := N } env) : sSeq a b Z env := h _ fun _ h => h
theorem ix_pick6 {z : Int} (h0 : 0 ≤ z) (h1 : z < 6) {ka : Kd} {k : Kd → D → Prop} (h : ∀ v : Nat, 1 ≤ v → v ≤ 4 → k (kI ka (.int (v : Nat))) (.int (v : Nat))) : ixD ka (.lst [.int 2, .int 1, .int 2, .int 3, .int 3, .int 4]) (.int z) k := by
  obtain ⟨v, h2, h3, h4⟩ := pick6 h0 h1
  rw [ix_go (.inl rfl) h4]; exact h v h2 h3
theorem ix_pick8 {z : Int} (h0 : 0 ≤ z) (h1 : z < 8) {ka : Kd} {k : Kd → D → Prop} (h : ∀ v : Nat, k (kI ka (.int (v : Nat))) (.int (v : Nat))) : ixD ka (.lst [.int 0, .int 1, .int 2, .int 4, .int 0, .int 1, .int 2, .int 3]) (.int z) k := by
  obtain ⟨v, h4⟩ := pick8 h0 h1
  rw [ix_go (.inl rfl) h4]; exact h v
theorem ex_mod {x m : Int} (hm : 0 < m) : ∃ c : Nat, x % m = (c : Nat) ∧ ((c : Nat) : Int) < m := by
  have h1 := Int.emod_nonneg x (show m ≠ 0 by omega)
  have h2 := Int.emod_lt_of_pos x hm
  exact ⟨(x % m).toNat, by omega, by omega⟩
theorem k__law_data : Keeps n__law_data a__law_data (b__law_data S__law_row S__law_purchase) S__law_data := by
  rintro ds k ⟨ns, rfl, hk⟩
  refine ⟨rfl, ?_⟩
  unfold b__law_data
  refine seq_hide fun N hN => ?_
  push_cast [n__law_data]
  refine ⟨ns, 0, 9, rfl, by omega, by omega, fun sh hsh => ?_⟩
  push_cast [rg_len]
  (refine hN _ ?_; clear hN N)
  refine seq_hide fun N hN => ?_
  dsimp! [ix_rgZ]
  refine ⟨by decide, ix_pick6 (by omega) (by omega) fun g hg1 hg4 => ?_⟩
  push_cast [rg_len]
  (refine hN _ ?_; clear hN N)
  refine seq_hide fun N hN => ?_
  dsimp! [ix_rgZ]
  obtain ⟨c, hc, hc2⟩ := ex_mod (x := ((sh (1 : Int).toNat : Nat) : Int)) (m := 2 + 1) (by decide)
  rw [hc]
  refine ⟨by decide, ?_⟩
  (refine hN _ ?_; clear hN N)
  refine seq_hide fun N hN => ?_
  push_cast [rg_len]
  (refine hN _ ?_; clear hN N)
  refine seq_hide fun N hN => ?_
  push_cast [rg_len]
  refine ⟨⟨by omega, by omega⟩, for_rg (fun i env => ∃ (P A : Nat → Nat → Rat) (s8 s9 : Sl), (∀ i k, sn (P i k)) ∧ (∀ i k, sn (A i k)) ∧ env = [.sh (.frz ns), .sh (.int 0), .sh (.int 2), .sh (.int 2), .sh (.lst (rg 9 fun i => .int (sh i : Nat))), .sh (.int (g : Nat)), .sh (.int (c : Nat)), .ow (rg i fun i => .tup [vec g (P i), vec g (A i)]), s8, s9, .no, .no, .no]) ⟨fun _ _ => 0, fun _ _ => 0, _, _, fun _ _ => sn0, fun _ _ => sn0, rfl⟩ ?_ ?_⟩
  · rintro i env K hi ⟨P, A, s8, s9, hP, hA, rfl⟩ hK
    unfold gName'
    dsimp only
    refine seq_hide fun N hN => ?_
    dsimp! [ix_rgZ]
    refine ⟨by decide, ix_pick8 (by omega) (by omega) fun kd => ?_⟩
    push_cast [rg_len]
    (refine hN _ ?_; clear hN N)
    refine seq_hide fun N hN => ?_
    push_cast [rg_len]
    rw [show (0 : Int) + 1 + ((i : Nat) : Int) = ((1 + i : Nat) : Int) by omega]
    refine ⟨ns, 1 + i, 33, rfl, by omega, by omega, fun r hr => ?_⟩
    push_cast [rg_len]
    refine ⟨r, sh, g, kd, rfl, hg1, hg4, hr, hsh, fun P1 A1 hP1 hA1 => ?_⟩
    obtain ⟨P', A', h1, h2, h3⟩ := buys_snoc (n := i) (g := g) hP hA hP1 hA1
    unfold vec at h3
    push_cast [rg_len]
    rw [h3]
    refine ⟨by omega, ?_⟩
    (refine hN _ ?_; clear hN N)
    push_cast [rg_len]
    exact hK _ ⟨P', A', _, _, h1, h2, rfl⟩
  · rintro env ⟨P, A, s8, s9, hP, hA, rfl⟩
    (refine hN _ ?_; clear hN N)
    refine seq_hide fun N hN => ?_
    push_cast [rg_len]
    (refine hN _ ?_; clear hN N)
    refine seq_hide fun N hN => ?_
    push_cast [rg_len]
    refine ⟨ns, 8, 18, rfl, by omega, by omega, fun r hr => ?_⟩
    push_cast [rg_len]
    (refine hN _ ?_; clear hN N)
    have fin : ∀ (nl : Nat) (li lj : Nat → Nat) (ls : Nat → Bool) (s12 : Sl), nl ≤ 2 → (∀ k, k < nl → li k < c) → (∀ k, k < nl → lj k < c) →
        (sSeq (sRet (pTup (aCons (pVar 5) (aCons (pVar 7) (aCons (pVar 10) aNil))))) sNext) { nx := fun _ => k .non, rt := k } [.sh (.frz ns), .sh (.int 0), .sh (.int 2), .sh (.int 2), .sh (.lst (rg 9 fun i => .int (sh i : Nat))), .sh (.int (g : Nat)), .sh (.int (c : Nat)), .ow (rg c fun i => .tup [vec g (P i), vec g (A i)]), s8, s9, .ow (rg nl fun k => .tup [.int (li k : Nat), .int (lj k : Nat), .bl (ls k)]), .sh (.lst (rg 18 fun i => .int (r i : Nat))), s12] := by
      intro nl li lj ls s12 h1 h2 h3
      push_cast [rg_len]
      exact hk ⟨g, c, nl, P, A, li, lj, ls⟩ ⟨hg1, hg4, by show c ≤ 2; omega, h1, h2, h3, hP, hA⟩
    refine seq_hide fun N hN => ?_
    by_cases h : (0 : Int) < (c : Nat)
    · push_cast [h]
      dsimp! [ix_rgZ]
      obtain ⟨nl, hnl, hnl2⟩ := ex_mod (x := ((sh (3 : Int).toNat : Nat) : Int)) (m := 2 + 1) (by decide)
      rw [hnl]
      push_cast [rg_len]
      refine ⟨by decide, ⟨by omega, by omega⟩, for_rg (fun i env => ∃ (li lj : Nat → Nat) (ls : Nat → Bool) (s12 : Sl), (∀ k, k < i → li k < c) ∧ (∀ k, k < i → lj k < c) ∧ env = [.sh (.frz ns), .sh (.int 0), .sh (.int 2), .sh (.int 2), .sh (.lst (rg 9 fun i => .int (sh i : Nat))), .sh (.int (g : Nat)), .sh (.int (c : Nat)), .ow (rg c fun i => .tup [vec g (P i), vec g (A i)]), s8, s9, .ow (rg i fun k => .tup [.int (li k : Nat), .int (lj k : Nat), .bl (ls k)]), .sh (.lst (rg 18 fun i => .int (r i : Nat))), s12]) ⟨fun _ => 0, fun _ => 0, fun _ => false, _, fun _ h => by omega, fun _ h => by omega, rfl⟩ ?_ ?_⟩
      · rintro i env K hi ⟨li, lj, ls, s12, h1, h2, rfl⟩ hK
        dsimp! [ix_rgZ, mo3]
        obtain ⟨a, ha, ha2⟩ := ex_mod (x := ((r (3 * ((i : Nat) : Int)).toNat : Nat) : Int)) (m := (c : Nat)) (by omega)
        obtain ⟨b, hb, hb2⟩ := ex_mod (x := ((r (3 * ((i : Nat) : Int) + 1).toNat : Nat) : Int)) (m := (c : Nat)) (by omega)
        rw [ha, hb]
        obtain ⟨li', lj', ls', g1, g2, g3⟩ := links_snoc (n := i) (ls := ls) (c := decide (((r (3 * ((i : Nat) : Int) + 2).toNat : Nat) : Int) % 2 = 1)) h1 h2 (a := a) (b := b) (by omega) (by omega)
        rw [g3]
        refine ⟨by omega, by omega, by omega, by omega, hK _ ⟨li', lj', ls', _, g1, g2, rfl⟩⟩
      · rintro env ⟨li, lj, ls, s12, h1, h2, rfl⟩
        push_cast [rg_len]
        exact hN _ (fin nl li lj ls s12 (by omega) h1 h2)
    · push_cast [h]
      exact hN _ (fin 0 (fun _ => 0) (fun _ => 0) (fun _ => false) .no (by omega) (fun _ h => by omega) (fun _ h => by omega))
end BB
end
section
set_option maxRecDepth 100000
set_option exponentiation.threshold 100
set_option maxHeartbeats 4000000
/-! _law_dot, _law_gap, _law_step, _law_steps. -/
namespace BB
open PySem L2 MA
/-- p over q is x, both small -/
structure Un (e : Nat) (p q : Int) (x : Rat) : Prop where
  ps : 0 < q
  v : (p : Rat) = x * (q : Rat)
  p2 : p.natAbs < 2 ^ e
  q2 : q.natAbs < 2 ^ e
theorem Un.le {e f : Nat} {p q r s : Int} {x y : Rat} (a : Un e p q x) (b : Un f r s y) : (p * s ≤ r * q ↔ x ≤ y) ∧ (p * s < r * q ↔ x < y) := by
  have h1 : ((p * s : Int) : Rat) = x * ((q : Rat) * (s : Rat)) := by rw [Rat.intCast_mul, a.v]; grind
  have h2 : ((r * q : Int) : Rat) = y * ((q : Rat) * (s : Rat)) := by rw [Rat.intCast_mul, b.v]; grind
  have hq : (0 : Rat) < (q : Rat) := Rat.intCast_lt_intCast.mpr a.ps
  have hs : (0 : Rat) < (s : Rat) := Rat.intCast_lt_intCast.mpr b.ps
  have hqs := Rat.mul_pos hq hs
  constructor
  · rw [← Rat.intCast_le_intCast, h1, h2]
    constructor
    · intro h
      apply Classical.byContradiction
      intro hn
      have := Rat.mul_lt_mul_of_pos_right (show y < x by grind) hqs
      grind
    · intro h
      exact Rat.mul_le_mul_of_nonneg_right h (Rat.le_of_lt hqs)
  · rw [← Rat.intCast_lt_intCast, h1, h2]
    constructor
    · intro h
      apply Classical.byContradiction
      intro hn
      have := Rat.mul_le_mul_of_nonneg_right (show y ≤ x by grind) (Rat.le_of_lt hqs)
      grind
    · intro h
      exact Rat.mul_lt_mul_of_pos_right h hqs
theorem den_val (r : Rat) : (r.num : Rat) = r * ((r.den : Int) : Rat) := by
  have h := num_den r
  have h0 := den_ne r
  rw [Rat.intCast_natCast]
  generalize (r.num : Rat) = a at *
  generalize (r.den : Rat) = b at *
  rw [h]; grind
theorem Un.step {e : Nat} {p q : Int} {x a b : Rat} (u : Un e p q x) (ha : sn a) (hb : sn b) : Un (e + 100) (p * ((a.den : Int) * (b.den : Int)) + a.num * b.num * q) (q * ((a.den : Int) * (b.den : Int))) (x + a * b) := by
  have hda : 0 < (a.den : Int) := by have := a.den_pos; omega
  have hdb : 0 < (b.den : Int) := by have := b.den_pos; omega
  have h1 : ((a.den : Int) * (b.den : Int)).natAbs ≤ 2 ^ 20 := by
    rw [Int.natAbs_mul, Int.natAbs_natCast, Int.natAbs_natCast, show (20 : Nat) = 10 + 10 from rfl, Nat.pow_add]
    exact Nat.mul_le_mul ha.2 hb.2
  have h2 : (a.num * b.num).natAbs ≤ 2 ^ 80 := by
    rw [Int.natAbs_mul, show (80 : Nat) = 40 + 40 from rfl, Nat.pow_add]
    exact Nat.mul_le_mul ha.1 hb.1
  have h3 : (p * ((a.den : Int) * (b.den : Int))).natAbs ≤ 2 ^ e * 2 ^ 20 := by
    rw [Int.natAbs_mul]; exact Nat.mul_le_mul (Nat.le_of_lt u.p2) h1
  have h4 : (a.num * b.num * q).natAbs ≤ 2 ^ 80 * 2 ^ e := by
    rw [Int.natAbs_mul]; exact Nat.mul_le_mul h2 (Nat.le_of_lt u.q2)
  have h5 : (q * ((a.den : Int) * (b.den : Int))).natAbs ≤ 2 ^ e * 2 ^ 20 := by
    rw [Int.natAbs_mul]; exact Nat.mul_le_mul (Nat.le_of_lt u.q2) h1
  rw [← Nat.pow_add] at h3 h4 h5
  have h6 : (2 : Nat) ^ (e + 20) ≤ 2 ^ (e + 98) := Nat.pow_le_pow_right (by omega) (by omega)
  have h7 : (2 : Nat) ^ (80 + e) ≤ 2 ^ (e + 98) := Nat.pow_le_pow_right (by omega) (by omega)
  have h8 : (2 : Nat) ^ (e + 100) = 4 * 2 ^ (e + 98) := by rw [show e + 100 = e + 98 + 2 by omega, Nat.pow_add 2 (e + 98) 2]; omega
  have h9 : 0 < (2 : Nat) ^ (e + 98) := Nat.two_pow_pos _
  refine ⟨Int.mul_pos u.ps (Int.mul_pos hda hdb), ?_, by omega, by omega⟩
  rw [Rat.intCast_add, Rat.intCast_mul, Rat.intCast_mul, Rat.intCast_mul, Rat.intCast_mul, Rat.intCast_mul, Rat.intCast_mul, u.v, den_val a, den_val b]
  grind
def S__law_dot : SpecT := fun ds k => ∃ (n : Nat) (a b : Nat → Rat), ds = [vec n a, vec n b] ∧ n ≤ 2 ∧ (∀ i, sn (a i)) ∧ (∀ i, sn (b i)) ∧ ∀ p q : Int, Un 300 p q (sm n fun l => a l * b l) → k (.tup [.int p, .int q])
theorem Un.mono {e f : Nat} {p q : Int} {x : Rat} (u : Un e p q x) (h : e ≤ f) : Un f p q x :=
  ⟨u.ps, u.v, Nat.lt_of_lt_of_le u.p2 (Nat.pow_le_pow_right (by omega) h), Nat.lt_of_lt_of_le u.q2 (Nat.pow_le_pow_right (by omega) h)⟩
theorem big_mul {e f : Nat} {i j : Int} (h : i.natAbs < 2 ^ e) (h' : j.natAbs < 2 ^ f) (he : e + f ≤ 90000) : mulOk i j := sz_mulOk h h' he
theorem k__law_dot : Keeps n__law_dot a__law_dot b__law_dot S__law_dot := by
  rintro ds k ⟨n, a, b, rfl, hn, ha, hb, hk⟩
  refine ⟨rfl, ?_⟩
  push_cast [b__law_dot, n__law_dot]
  refine ⟨⟨by omega, by omega⟩, for_rg (fun i env => ∃ (p q : Int) (s3 s4 : Sl), Un (100 * i + 1) p q (sm i fun l => a l * b l) ∧ env = [.sh (vec n a), .sh (vec n b), .sh (.tup [.int p, .int q]), s3, s4]) ⟨0, 1, _, _, ⟨by decide, by rw [sm_0]; grind, by decide, by decide⟩, rfl⟩ ?_ ?_⟩
  · rintro i env K hi ⟨p, q, s3, s4, hu, rfl⟩ hK
    dsimp! [rg_len]
    have h1 := (ha i).sz
    have h2 := (hb i).sz
    have h3 : ((a i).num * (b i).num).natAbs < 2 ^ 82 := by
      rw [Int.natAbs_mul, show (82 : Nat) = 41 + 41 from rfl, Nat.pow_add]
      exact Nat.mul_lt_mul'' h1.1 h2.1
    have h4 : (((a i).den : Int) * ((b i).den : Int)).natAbs < 2 ^ 82 := by
      rw [Int.natAbs_mul, Int.natAbs_natCast, Int.natAbs_natCast, show (82 : Nat) = 41 + 41 from rfl, Nat.pow_add]
      exact Nat.mul_lt_mul'' h1.2 h2.2
    have h5 : ((a i).den : Int).natAbs < 2 ^ 41 := by rw [Int.natAbs_natCast]; exact h1.2
    have h6 : ((b i).den : Int).natAbs < 2 ^ 41 := by rw [Int.natAbs_natCast]; exact h2.2
    refine ⟨big_mul h5 h6 (by omega), big_mul hu.p2 h4 (by omega), big_mul h1.1 h2.1 (by omega), big_mul h3 hu.q2 (by omega), big_mul hu.q2 h4 (by omega), ?_⟩
    exact hK _ ⟨_, _, _, _, (hu.step (ha i) (hb i)).mono (by omega), rfl⟩
  · rintro env ⟨p, q, s3, s4, hu, rfl⟩
    push_cast [rg_len]
    exact hk p q (hu.mono (by omega))
def S__law_gap : SpecT := fun ds k => ∃ (t : Dt) (i j : Nat), ds = [buysD t, .int (i : Nat), vec t.g (t.Am j)] ∧ t.Ok ∧ i < t.n ∧ ∀ p q : Int, (p ≤ 0 ↔ pr t i j ≤ spn t i) → (p < 0 ↔ pr t i j < spn t i) → k (.tup [.int p, .int q])
theorem k__law_gap : Keeps n__law_gap a__law_gap (b__law_gap S__law_dot) S__law_gap := by
  rintro ds k ⟨t, i, j, rfl, ht, hi, hk⟩
  refine ⟨rfl, ?_⟩
  unfold buysD
  dsimp! [b__law_gap, n__law_gap]
  refine ⟨t.g, t.P i, t.Am j, rfl, ht.g2, ht.P i, ht.Am j, fun p q h1 => ?_⟩
  dsimp! [rg_len]
  refine ⟨t.g, t.P i, t.Am i, rfl, ht.g2, ht.P i, ht.Am i, fun r s h2 => ?_⟩
  dsimp! [rg_len]
  have hm : ∀ {i j : Int}, i.natAbs < 2 ^ 300 → j.natAbs < 2 ^ 300 → mulOk i j := fun h h' => big_mul h h' (by omega)
  refine ⟨hm h1.p2 h2.q2, hm h2.p2 h1.q2, hm h1.q2 h2.q2, ?_⟩
  have h := h1.le h2
  exact hk _ _ (by unfold pr spn; rw [← h.1]; omega) (by unfold pr spn; rw [← h.2]; omega)
def S__law_step : SpecT := fun ds k => ∃ (t : Dt) (i j : Nat), ds = [buysD t, linksD t, .int (i : Nat), .int (j : Nat)] ∧ t.Ok ∧ i < t.n ∧ j < t.n ∧ k (ob (stp t i j))
theorem k__law_step : Keeps n__law_step a__law_step (b__law_step S__law_gap) S__law_step := by
  rintro ds k ⟨t, i, j, rfl, ht, hi, hj, hk⟩
  refine ⟨rfl, ?_⟩
  have fin : ∀ s5, (sSeq (sFor (iList' (pVar 1)) (gTup' 3 (gCons' (gName' 6) (gCons' (gName' 7) (gCons' (gName' 8) gNil'))))
 (sSeq (sIf (tAnd' (tOf (pEq (pVar 6) (pVar 2))) (tOf (pEq (pVar 7) (pVar 3))))
 (sSeq (sSet (gName' 4) (pOr (pVar 8) (pIsT false (pVar 4))))
 sNext)
 sNext)
 sNext))
 (sSeq (sRet (pVar 4))
 sNext)) { nx := fun _ => k .non, rt := k } [.sh (buysD t), .sh (linksD t), .sh (.int (i : Nat)), .sh (.int (j : Nat)), .sh (ob (st0 t i j)), s5, .no, .no, .no] := by
    intro s5
    push_cast [rg_len]
    unfold linksD
    push_cast [rg_len]
    refine for_rg (fun l env => ∃ s6 s7 s8, env = [.sh (buysD t), .sh (linksD t), .sh (.int (i : Nat)), .sh (.int (j : Nat)), .sh (ob (stk t i j l)), s5, s6, s7, s8]) ⟨_, _, _, rfl⟩ ?_ ?_
    · rintro l env K hl ⟨s6, s7, s8, rfl⟩ hK
      push_cast [linkD]
      by_cases h1 : t.li l = i
      · by_cases h2 : t.lj l = j
        · push_cast [h1, h2]
          have e : stk t i j (l + 1) = some ((stk t i j l == some true) || t.ls l) := by show (if _ then _ else _) = _; rw [if_pos ⟨h1, h2⟩]
          cases hls : t.ls l
          · rw [hls, Bool.or_false] at e
            cases hs : stk t i j l with
            | none =>
              push_cast [ob]
              exact hK _ ⟨_, _, _, by rw [e, hs]; rfl⟩
            | some b =>
              cases b
              · push_cast [ob]
                exact hK _ ⟨_, _, _, by rw [e, hs]; rfl⟩
              · push_cast [ob]
                exact hK _ ⟨_, _, _, by rw [e, hs]; rfl⟩
          · rw [hls, Bool.or_true] at e
            push_cast [rg_len]
            exact hK _ ⟨_, _, _, by rw [e]; rfl⟩
        · push_cast [h1, h2]
          exact hK _ ⟨_, _, _, by rw [show stk t i j (l + 1) = stk t i j l by show (if _ then _ else _) = _; rw [if_neg fun q => h2 q.2]]⟩
      · push_cast [h1]
        exact hK _ ⟨_, _, _, by rw [show stk t i j (l + 1) = stk t i j l by show (if _ then _ else _) = _; rw [if_neg fun q => h1 q.1]]⟩
    · rintro env ⟨s6, s7, s8, rfl⟩
      push_cast [rg_len]
      exact hk
  unfold b__law_step
  refine seq_hide fun N hN => ?_
  push_cast [n__law_step]
  (refine hN _ ?_; clear hN N)
  refine seq_hide fun N hN => ?_
  by_cases h : i = j
  · subst h
    push_cast [rg_len]
    have e : st0 t i i = none := by unfold st0; rw [if_pos rfl]
    have := fin .no
    rw [e] at this
    exact hN _ this
  · push_cast [h]
    have e0 : ∀ K : D → Prop, (∀ p q : Int, (p ≤ 0 ↔ pr t i j ≤ spn t i) → (p < 0 ↔ pr t i j < spn t i) → K (.tup [.int p, .int q])) → S__law_gap [buysD t, .int (i : Nat), .lst (rg t.g fun i => fr (t.Am j i))] K := fun K hK => ⟨t, i, j, rfl, ht, hi, hK⟩
    unfold buysD at e0 ⊢
    dsimp! [rg_len]
    refine e0 _ fun p q h1 h2 => ?_
    push_cast [rg_len]
    by_cases h3 : p ≤ 0
    · push_cast [h3]
      have := fin (.sh (.int p))
      rw [show st0 t i j = some (decide (p < 0)) by unfold st0; rw [if_neg h, if_pos (h1.mp h3)]; congr 1; exact decide_eq_decide.mpr h2.symm] at this
      exact hN _ this
    · push_cast [h3]
      have := fin (.sh (.int p))
      rw [show st0 t i j = none by unfold st0; rw [if_neg h, if_neg fun q => h3 (h1.mpr q)]] at this
      exact hN _ this
def S__law_steps : SpecT := fun ds k => ∃ t : Dt, ds = [buysD t, linksD t] ∧ t.Ok ∧ k (tabD t.n (stp t))
theorem k__law_steps : Keeps n__law_steps a__law_steps (b__law_steps S__law_step) S__law_steps := by
  rintro ds k ⟨t, rfl, ht, hk⟩
  have hn2 := ht.n2
  refine ⟨rfl, ?_⟩
  unfold buysD
  push_cast [b__law_steps, n__law_steps]
  refine ⟨⟨by omega, by omega⟩, by omega, comp_rg (fun i => .lst (rg t.n fun j => ob (stp t i j))) (fun i K hi hK => ?_) hk⟩
  push_cast [rg_len]
  refine ⟨⟨by omega, by omega⟩, by omega, comp_rg (fun j => ob (stp t i j)) (fun j K' hj hK' => ?_) ?_⟩
  · push_cast [rg_len]
    exact ⟨t, i, j, rfl, ht, hi, hj, by push_cast [rg_len]; exact hK'⟩
  · push_cast [rg_len]
    exact hK
end BB
end
section
set_option maxRecDepth 100000
set_option exponentiation.threshold 100
set_option maxHeartbeats 4000000
/-! _law_closure: what it leaves is closed under steps. -/
namespace BB
open PySem L2 MA
theorem sPut2_go {i : Nat} {e1 e2 v : PE'} {Z : Post} {env : Env} {n m : Nat} {f : Nat → Nat → D} (h : env[i]? = some (.ow2 (rg n fun a => rg m fun b => f a b))) (a b : Nat) (d : D) (hv : ∀ K : Kd → D → Prop, K .s d → v env K)
    (h1 : ∀ K : Kd → D → Prop, (∀ kd, K kd (.int (a : Nat))) → e1 env K) (h2 : ∀ K : Kd → D → Prop, (∀ kd, K kd (.int (b : Nat))) → e2 env K) (ha : a < n) (hb : b < m)
    (hk : Z.nx (env.set i (.ow2 (rg n fun a' => rg m fun b' => if a' = a ∧ b' = b then d else f a' b')))) : sPut2 i e1 e2 v Z env := by
  unfold sPut2
  rw [h]
  have hx : ∀ {n a : Nat}, a < n → ixN n (a : Int) = some a := fun {n a} h => by unfold ixN; rw [if_pos (by omega), if_pos (by omega)]; simp
  refine hv _ ⟨rfl, h1 _ fun kd => ⟨a, rg m fun b => f a b, ?_, rg_get _ ha, h2 _ fun kd => ⟨b, ?_, ?_⟩⟩⟩
  · rw [rg_len]; exact hx ha
  · rw [rg_len]; exact hx hb
  · rw [rg_set, rg_set]
    have : (rg n fun a' => if a' = a then (rg m fun b' => if b' = b then d else f a b') else rg m fun b => f a' b) = rg n fun a' => rg m fun b' => if a' = a ∧ b' = b then d else f a' b' := by
      refine rg_congr fun a' _ => ?_
      by_cases e : a' = a
      · subst e
        rw [if_pos rfl]
        exact rg_congr fun b' _ => by
          by_cases e2 : b' = b
          · rw [if_pos e2, if_pos ⟨rfl, e2⟩]
          · rw [if_neg e2, if_neg fun q => e2 q.2]
      · rw [if_neg e]
        exact rg_congr fun b' _ => by rw [if_neg fun q => e q.1]
    rw [this]
    exact hk
/-- a row is closed under the step from j to k -/
def rcl (f : Nat → Nat → Option Bool) (r : Nat → Option Bool) (j k : Nat) : Prop := ∀ s b, r j = some s → f j k = some b → ∃ s', r k = some s' ∧ ((s || b) = true → s' = true)
def clR (n : Nat) (f : Nat → Nat → Option Bool) (r : Nat → Option Bool) : Prop := ∀ j k, j < n → k < n → rcl f r j k
def wt : Option Bool → Nat
  | none => 0
  | some false => 1
  | some true => 2
def mu : Nat → (Nat → Option Bool) → Nat
  | 0, _ => 0
  | n + 1, r => mu n r + wt (r n)
theorem mu_le (r : Nat → Option Bool) : ∀ n, mu n r ≤ 2 * n
  | 0 => Nat.le_refl _
  | n + 1 => by
    have := mu_le r n
    show mu n r + wt (r n) ≤ _
    have : wt (r n) ≤ 2 := by cases r n with
      | none => decide
      | some b => cases b <;> decide
    omega
theorem mu_pos {r : Nat → Option Bool} {i : Nat} (h : (r i).isSome = true) : ∀ {n}, i < n → 1 ≤ mu n r
  | 0, hi => by omega
  | n + 1, hi => by
    show 1 ≤ mu n r + wt (r n)
    by_cases e : i = n
    · subst e
      cases q : r i with
      | none => rw [q] at h; cases h
      | some b => cases b <;> simp only [wt] <;> omega
    · have := mu_pos h (n := n) (by omega); omega
theorem mu_up {r r' : Nat → Option Bool} {k : Nat} (h : wt (r k) < wt (r' k)) (h' : ∀ l, l ≠ k → r' l = r l) : ∀ {n}, (k < n → mu n r < mu n r') ∧ (n ≤ k → mu n r' = mu n r)
  | 0 => ⟨fun h => by omega, fun _ => rfl⟩
  | n + 1 => by
    obtain ⟨h1, h2⟩ := mu_up h h' (n := n)
    refine ⟨fun hk => ?_, fun hk => ?_⟩
    · show mu n r + wt (r n) < mu n r' + wt (r' n)
      by_cases e : k = n
      · subst e
        rw [h2 (Nat.le_refl _)]; omega
      · rw [h' n fun q => e q.symm]
        have := h1 (by omega); omega
    · show mu n r' + wt (r' n) = mu n r + wt (r n)
      rw [h2 (by omega), h' n (by omega)]
/-- what a turn of the inner loop does to row i -/
def clS (n : Nat) (f T T' : Nat → Nat → Option Bool) (i j k : Nat) : Prop := (T' = T ∧ rcl f (T i) j k) ∨ (¬ rcl f (T i) j k ∧ mu n (T i) < mu n (T' i) ∧ (∀ a, a ≠ i → T' a = T a) ∧ ∀ l, (T i l).isSome = true → (T' i l).isSome = true)
theorem clS_up {n : Nat} {f T : Nat → Nat → Option Bool} {i j k : Nat} {s b : Bool} (hj : T i j = some s) (hf : f j k = some b) (hk : T i k ≠ some true) (hkn : k < n) : clS n f T (fun a' b' => if a' = i ∧ b' = k then some (s || b) else T a' b') i j k := by
  by_cases h : rcl f (T i) j k
  · refine .inl ⟨?_, h⟩
    obtain ⟨s', h1, h2⟩ := h s b hj hf
    have e : s' = false := by
      cases s' with
      | false => rfl
      | true => exact absurd h1 hk
    subst e
    have e2 : (s || b) = false := by
      cases q : (s || b) with
      | false => rfl
      | true => exact absurd (h2 q) (by decide)
    funext a' b'
    by_cases q : a' = i ∧ b' = k
    · rw [if_pos q, e2, q.1, q.2, h1]
    · rw [if_neg q]
  · refine .inr ⟨h, (mu_up (k := k) ?_ fun l hl => ?_).1 hkn, fun a ha => ?_, fun l hl => ?_⟩
    · dsimp only
      rw [if_pos ⟨rfl, rfl⟩]
      cases q : T i k with
      | none => cases (s || b) <;> decide
      | some c =>
        cases c with
        | true => exact absurd q hk
        | false =>
          cases e : (s || b) with
          | true => decide
          | false =>
            exfalso
            refine h fun s1 b1 q1 q2 => ?_
            rw [hj] at q1; rw [hf] at q2
            cases q1; cases q2
            exact ⟨false, q, fun z => by rw [e] at z; cases z⟩
    · dsimp only; rw [if_neg fun q => hl q.2]
    · funext l; dsimp only; rw [if_neg fun q => ha q.1]
    · dsimp only
      split
      · rfl
      · exact hl
def Clo (n : Nat) (f T : Nat → Nat → Option Bool) : Prop := ∀ i, i < n → (T i i).isSome = true ∧ clR n f (T i)
def S__law_closure : SpecT := fun ds k => ∃ (n : Nat) (f : Nat → Nat → Option Bool), ds = [tabD n f] ∧ n ≤ 2 ∧ ∀ T, Clo n f T → k (tabD n T)
/-- no ring, by the closed table -/
theorem clo_reach {n : Nat} {f T : Nat → Nat → Option Bool} (h : Clo n f T) {i : Nat} (hi : i < n) {j : Nat} {s : Bool} (r : Reach n f i j s) : ∃ s', T i j = some s' ∧ (s = true → s' = true) := by
  induction r with
  | refl =>
    obtain ⟨s', e⟩ := Option.isSome_iff_exists.mp (h i hi).1
    exact ⟨s', e, fun z => by cases z⟩
  | @step j k s b r hj hk hf ih =>
    obtain ⟨s', e, h1⟩ := ih
    obtain ⟨s2, e2, h2⟩ := (h i hi).2 j k hj hk s' b e hf
    refine ⟨s2, e2, fun z => h2 ?_⟩
    cases s with
    | true => rw [h1 rfl]; rfl
    | false =>
      rw [Bool.false_or] at z
      rw [z, Bool.or_true]
theorem ow2_var {i n m : Nat} {env : Env} {f : Nat → Nat → D} {k : Kd → D → Prop} (h : env[i]? = some (.ow2 (rg n fun a => rg m fun b => f a b))) : pVar i env k = k .b (.lst (rg n fun a => .lst (rg m fun b => f a b))) := by
  unfold pVar; rw [h]; dsimp only; rw [rg_map]
abbrev clE (n : Nat) (f T : Nat → Nat → Option Bool) (i : Nat) (s4 s5 s6 : Sl) : Env := [.sh (tabD n f), .sh (.int (n : Nat)), .ow2 (rg n fun a => rg n fun b => ob (T a b)), .sh (.int (i : Nat)), s4, s5, s6]
noncomputable def clB : PS' := (sIf (tAnd' (tOf (pIsN true (pIx (pIx (pVar 2) (pVar 3)) (pVar 5)))) (tAnd' (tOf (pIsN true (pIx (pIx (pVar 0) (pVar 5)) (pVar 6)))) (tOf (pIsT true (pIx (pIx (pVar 2) (pVar 3)) (pVar 6))))))
 (sSeq (sPut2 2 (pVar 3) (pVar 6) (pOr (pIx (pIx (pVar 2) (pVar 3)) (pVar 5)) (pOr (pIx (pIx (pVar 0) (pVar 5)) (pVar 6)) (pIsT false (pIx (pIx (pVar 2) (pVar 3)) (pVar 6))))))
 sNext)
 sNext)
theorem clB_ok {n : Nat} {f T : Nat → Nat → Option Bool} {i j k : Nat} {s4 : Sl} {Z : Post} (hi : i < n) (hj : j < n) (hk : k < n) (h : ∀ T', clS n f T T' i j k → Z.nx (clE n f T' i s4 (.sh (.int (j : Nat))) (.sh (.int (k : Nat))))) : clB Z (clE n f T i s4 (.sh (.int (j : Nat))) (.sh (.int (k : Nat)))) := by
  have r2 : ∀ (l : Nat) (K : Kd → D → Prop), l < n → ixD .b (.lst (rg n fun a => .lst (rg n fun b => ob (T a b)))) (.int (i : Nat)) (fun ka x => ixD ka x (.int (l : Nat)) K) = K .s (ob (T i l)) := fun l K hl => by
    rw [ix_rg hi, show kI .b (D.lst (rg n fun b => ob (T i b))) = .b from rfl, ix_rg hl]
    unfold kI kN
    dsimp only
    rw [ob_scal]; rfl
  have skip : (∀ s b, T i j = some s → f j k = some b → T i k = some true) → Z.nx (clE n f T i s4 (.sh (.int (j : Nat))) (.sh (.int (k : Nat)))) := fun q => h T (.inl ⟨rfl, fun s b h1 h2 => ⟨true, q s b h1 h2, fun _ => rfl⟩⟩)
  have hv : pVar 2 (clE n f T i s4 (.sh (.int (j : Nat))) (.sh (.int (k : Nat)))) = fun K => K .b (.lst (rg n fun a => .lst (rg n fun b => ob (T a b)))) := funext fun K => ow2_var rfl
  have r0 : ∀ (K : Kd → D → Prop), ixD .s (tabD n f) (.int (j : Nat)) (fun ka x => ixD ka x (.int (k : Nat)) K) = K .s (ob (f j k)) := fun K => by
    unfold tabD
    rw [ix_rg hj, ix_rg hk]; rfl
  have v3 : pVar 3 (clE n f T i s4 (.sh (.int (j : Nat))) (.sh (.int (k : Nat)))) = fun K => K .s (.int (i : Nat)) := rfl
  have v5 : pVar 5 (clE n f T i s4 (.sh (.int (j : Nat))) (.sh (.int (k : Nat)))) = fun K => K .s (.int (j : Nat)) := rfl
  have v6 : pVar 6 (clE n f T i s4 (.sh (.int (j : Nat))) (.sh (.int (k : Nat)))) = fun K => K .s (.int (k : Nat)) := rfl
  have v0 : pVar 0 (clE n f T i s4 (.sh (.int (j : Nat))) (.sh (.int (k : Nat)))) = fun K => K .s (tabD n f) := rfl
  unfold clB sIf tAnd' tOf pIsN pIsT
  have a1 : pIx (pIx (pVar 2) (pVar 3)) (pVar 5) (clE n f T i s4 (.sh (.int (j : Nat))) (.sh (.int (k : Nat)))) = fun K => K .s (ob (T i j)) := by
    funext K; unfold pIx; simp only [hv, v3, v5, r2 j _ hj]
  have a2 : pIx (pIx (pVar 2) (pVar 3)) (pVar 6) (clE n f T i s4 (.sh (.int (j : Nat))) (.sh (.int (k : Nat)))) = fun K => K .s (ob (T i k)) := by
    funext K; unfold pIx; simp only [hv, v3, v6, r2 k _ hk]
  have a3 : pIx (pIx (pVar 0) (pVar 5)) (pVar 6) (clE n f T i s4 (.sh (.int (j : Nat))) (.sh (.int (k : Nat)))) = fun K => K .s (ob (f j k)) := by
    funext K; unfold pIx; simp only [v0, v5, v6, r0]
  simp only [a1, a2, a3]
  cases h1 : T i j with
  | none =>
    simp only [ob, isNon, Bool.bne_true, Bool.not_true]
    exact skip fun s b q => by rw [h1] at q; cases q
  | some s =>
    cases h2 : f j k with
    | none =>
      simp only [ob, isNon, Bool.bne_true, Bool.not_true, Bool.not_false]
      exact skip fun s b q q2 => by rw [h2] at q2; cases q2
    | some b =>
      have put : T i k ≠ some true → (sSeq (sPut2 2 (pVar 3) (pVar 6) (pOr (pIx (pIx (pVar 2) (pVar 3)) (pVar 5)) (pOr (pIx (pIx (pVar 0) (pVar 5)) (pVar 6)) (pIsT false (pIx (pIx (pVar 2) (pVar 3)) (pVar 6)))))) sNext) Z (clE n f T i s4 (.sh (.int (j : Nat))) (.sh (.int (k : Nat)))) := fun hn => by
        refine seq_go3 (sPut2_go (n := n) (m := n) (f := fun a b => ob (T a b)) rfl i k (.bl (s || b)) (fun K hK => ?_) (fun K hK => ?_) (fun K hK => ?_) hi hk ?_)
        · unfold pOr pIsT
          simp only [a1, a2, a3, h1, h2]
          cases s with
          | true => simp only [ob, truD]; exact hK
          | false =>
            cases b with
            | true => simp only [ob, truD]; exact hK
            | false =>
              cases h3 : T i k with
              | none => simp only [ob, truD]; exact hK
              | some c =>
                cases c with
                | true => exact absurd h3 hn
                | false => simp only [ob, truD]; exact hK
        · rw [v3]; exact hK _
        · rw [v6]; exact hK _
        · have e : (rg n fun a' => rg n fun b' => if a' = i ∧ b' = k then D.bl (s || b) else ob (T a' b')) = rg n fun a' => rg n fun b' => ob (if a' = i ∧ b' = k then some (s || b) else T a' b') :=
            rg_congr fun a' _ => rg_congr fun b' _ => by split <;> rfl
          dsimp only
          rw [e]
          exact h _ (clS_up h1 h2 hn hk)
      cases h3 : T i k with
      | none =>
        simp only [ob, isNon, Bool.bne_true, Bool.not_false]
        exact put (by rw [h3]; intro z; cases z)
      | some c =>
        cases c with
        | false =>
          simp only [ob, isNon, Bool.bne_true, Bool.not_false]
          exact put (by rw [h3]; intro z; cases z)
        | true =>
          simp only [ob, isNon, Bool.bne_true, Bool.not_false, Bool.not_true]
          exact skip fun _ _ _ _ => h3
theorem k__law_closure : Keeps n__law_closure a__law_closure b__law_closure S__law_closure := by
  rintro ds k ⟨n, f, rfl, hn, hk⟩
  refine ⟨rfl, ?_⟩
  have eB : b__law_closure = (sSeq (sSet (gName' 1) (pLen (pVar 0)))
 (sSeq (sOwn2 2 (ffComp (iRange (pVar 1)) (gName' 3) (fComp (iRange (pVar 1)) (gName' 5) tYes' (pC .non) [5]) [3]))
 (sSeq (sFor (iRange (pVar 1)) (gName' 3)
 (sSeq (sPut2 2 (pVar 3) (pVar 3) (pC (.bl false)))
 (sSeq (sFor (iRange (pMul (pC (.int 2)) (pVar 1))) (gName' 4)
 (sSeq (sFor (iRange (pVar 1)) (gName' 5)
 (sSeq (sFor (iRange (pVar 1)) (gName' 6)
 (sSeq clB
 sNext))
 sNext))
 sNext))
 sNext)))
 (sSeq (sRet (pVar 2))
 sNext)))) := rfl
  rw [eB]
  refine seq_hide fun N hN => ?_
  unfold tabD
  push_cast [n__law_closure]
  (refine hN _ ?_; clear hN N)
  refine seq_hide fun N hN => ?_
  push_cast [rg_len]
  refine ⟨⟨by omega, by omega⟩, by omega, compF_rg (fun _ => rg n fun _ => ob none) (fun i K hi hK => ?_) ?_⟩
  · push_cast [rg_len]
    exact ⟨⟨by omega, by omega⟩, by omega, comp_rg (fun _ => ob none) (fun i K hi hK => by push_cast [rg_len]; exact hK) hK⟩
  push_cast [rg_len]
  (refine hN _ ?_; clear hN N)
  refine seq_hide fun N hN => ?_
  push_cast [rg_len]
  refine ⟨⟨by omega, by omega⟩, for_rg (fun i env => ∃ (T : Nat → Nat → Option Bool) (s3 s4 s5 s6 : Sl), (∀ a, a < i → (T a a).isSome = true ∧ clR n f (T a)) ∧ env = [.sh (tabD n f), .sh (.int (n : Nat)), .ow2 (rg n fun a => rg n fun b => ob (T a b)), s3, s4, s5, s6]) ⟨fun _ _ => none, _, _, _, _, fun _ h => by omega, rfl⟩ ?_ ?_⟩
  · rintro i env K hi ⟨T, s3, s4, s5, s6, hT, rfl⟩ hK
    unfold gName'
    dsimp only
    refine seq_hide fun N hN => ?_
    refine sPut2_go (n := n) (m := n) (f := fun a b => ob (T a b)) rfl i i (.bl false) (fun K hK => hK) (fun K hK => hK _) (fun K hK => hK _) hi hi ?_
    obtain ⟨T0, hT0⟩ : ∃ T0 : Nat → Nat → Option Bool, ∀ a' b', T0 a' b' = if a' = i ∧ b' = i then some false else T a' b' := ⟨fun a' b' => if a' = i ∧ b' = i then some false else T a' b', fun _ _ => rfl⟩
    rw [show (rg n fun a' => rg n fun b' => if a' = i ∧ b' = i then D.bl false else ob (T a' b')) = rg n fun a' => rg n fun b' => ob (T0 a' b') from rg_congr fun a' _ => rg_congr fun b' _ => by rw [hT0]; split <;> rfl]
    have hT' : ∀ a, a < i → (T0 a a).isSome = true ∧ clR n f (T0 a) := fun a ha => by
      have e : T0 a = T a := by funext b'; rw [hT0, if_neg (by omega)]
      rw [e]; exact hT a ha
    have hii : (T0 i i).isSome = true := by rw [hT0, if_pos ⟨rfl, rfl⟩]; rfl
    dsimp only
    (refine hN _ ?_; clear hN N)
    refine seq_hide fun N hN => ?_
    push_cast [rg_len]
    refine ⟨.inl (.inl (by decide)), ⟨by omega, by omega⟩, ?_⟩
    rw [show (2 * ((n : Nat) : Int)).toNat = 2 * n by omega]
    refine for_rg (fun tau env => ∃ (T : Nat → Nat → Option Bool) (s4 s5 s6 : Sl), (∀ a, a < i → (T a a).isSome = true ∧ clR n f (T a)) ∧ (T i i).isSome = true ∧ (clR n f (T i) ∨ tau + 1 ≤ mu n (T i)) ∧ env = clE n f T i s4 s5 s6) ⟨T0, _, _, _, hT', hii, .inr (by have := mu_pos hii hi; omega), rfl⟩ ?_ ?_
    · rintro tau env K2 htau ⟨T, s4, s5, s6, h1, h2, h3, rfl⟩ hK2
      push_cast [rg_len]
      refine ⟨⟨by omega, by omega⟩, for_rg (fun j env => ∃ (T : Nat → Nat → Option Bool) (s5 s6 : Sl), (∀ a, a < i → (T a a).isSome = true ∧ clR n f (T a)) ∧ (T i i).isSome = true ∧ (clR n f (T i) ∨ tau + 2 ≤ mu n (T i) ∨ (tau + 1 ≤ mu n (T i) ∧ ∀ j', j' < j → ∀ k', k' < n → rcl f (T i) j' k')) ∧ env = clE n f T i (.sh (.int (tau : Nat))) s5 s6) ⟨T, _, _, h1, h2, h3.imp id fun q => .inr ⟨q, fun _ h => by omega⟩, rfl⟩ ?_ ?_⟩
      · rintro j env K3 hj ⟨T, s5, s6, h1, h2, h3, rfl⟩ hK3
        push_cast [rg_len]
        refine ⟨⟨by omega, by omega⟩, for_rg (fun k env => ∃ (T : Nat → Nat → Option Bool) (s6 : Sl), (∀ a, a < i → (T a a).isSome = true ∧ clR n f (T a)) ∧ (T i i).isSome = true ∧ (clR n f (T i) ∨ tau + 2 ≤ mu n (T i) ∨ (tau + 1 ≤ mu n (T i) ∧ (∀ j', j' < j → ∀ k', k' < n → rcl f (T i) j' k') ∧ ∀ k', k' < k → rcl f (T i) j k')) ∧ env = clE n f T i (.sh (.int (tau : Nat))) (.sh (.int (j : Nat))) s6) ⟨T, _, h1, h2, h3.imp id fun q => q.imp id fun q => ⟨q.1, q.2, fun _ h => by omega⟩, rfl⟩ ?_ ?_⟩
        · rintro kk env K4 hkk ⟨T, s6, h1, h2, h3, rfl⟩ hK4
          refine seq_go3 (clB_ok hi hj hkk fun T' hs => ?_)
          refine hK4 _ ⟨T', .sh (.int (kk : Nat)), ?_⟩
          rcases hs with ⟨e, hs⟩ | ⟨hs, hm, ho, hl⟩
          · subst e
            refine ⟨h1, h2, h3.imp id fun q => q.imp id fun q => ⟨q.1, q.2.1, fun k' hk' => ?_⟩, rfl⟩
            by_cases e : k' = kk
            · rw [e]; exact hs
            · exact q.2.2 k' (by omega)
          · refine ⟨fun a ha => by rw [ho a (by omega)]; exact h1 a ha, hl i h2, ?_, rfl⟩
            rcases h3 with q | q | q
            · exact absurd (q j kk hj hkk) hs
            · exact .inr (.inl (by omega))
            · exact .inr (.inl (by omega))
        · rintro env ⟨T, s6, h1, h2, h3, rfl⟩
          refine hK3 _ ⟨T, _, _, h1, h2, h3.imp id fun q => q.imp id fun q => ⟨q.1, fun j' hj' k' hk' => ?_⟩, rfl⟩
          by_cases e : j' = j
          · rw [e]; exact q.2.2 k' hk'
          · exact q.2.1 j' (by omega) k' hk'
      · rintro env ⟨T, s5, s6, h1, h2, h3, rfl⟩
        refine hK2 _ ⟨T, _, _, _, h1, h2, ?_, rfl⟩
        rcases h3 with q | q | q
        · exact .inl q
        · exact .inr (by omega)
        · exact .inl fun j' k' hj' hk' => q.2 j' hj' k' hk'
    · rintro env ⟨T, s4, s5, s6, h1, h2, h3, rfl⟩
      (refine hN _ ?_; clear hN N)
      refine hK _ ⟨T, _, _, _, _, fun a ha => ?_, rfl⟩
      by_cases e : a = i
      · rw [e]
        refine ⟨h2, h3.elim id fun q => ?_⟩
        have := mu_le (T i) n
        omega
      · exact h1 a (by omega)
  · rintro env ⟨T, s3, s4, s5, s6, hT, rfl⟩
    (refine hN _ ?_; clear hN N)
    push_cast [rg_map]
    exact hk T hT
end BB
end
section
set_option maxRecDepth 100000
set_option exponentiation.threshold 100
set_option maxHeartbeats 4000000
/-! _law_small, _law_two_baskets, _law_made. -/
namespace BB
open PySem L2 MA
def S__law_small : SpecT := fun ds k => ∃ ns : List Int, ds = [.frz ns, .int 2] ∧ ∀ t : Dt, t.Ok → NoRing t → k (.tup [.int (t.g : Nat), buysD t, linksD t])
theorem cut_hd {n m : Nat} {f : Nat → D} (h : m ≤ n) : cut (rg n f) none (some (m : Int)) = rg m f := by
  rw [cut_rg (l := 0) (h := m) rfl (by rw [sIx_yes]; omega) h, Nat.sub_zero]
  exact rg_congr fun i _ => by rw [Nat.zero_add]
theorem cut_m1 {n : Nat} {f : Nat → D} (h : 0 < n) : cut (rg n f) none (some (-1)) = rg (n - 1) f := by
  rw [cut_rg (l := 0) (h := n - 1) rfl ?_ (by omega), Nat.sub_zero]
  · exact rg_congr fun i _ => by rw [Nat.zero_add]
  · show (if (-1 : Int) < 0 then (-1 + ((n : Nat) : Int)).toNat else min (-1 : Int).toNat n) = n - 1
    rw [if_pos (by omega)]; omega
theorem noring1 {t : Dt} (h1 : t.n ≤ 1) (h2 : t.nl = 0) : NoRing t := by
  intro i hi h
  have h0 : ∀ j k, j < t.n → k < t.n → stp t j k = none := fun j k hj hk => by
    unfold stp
    rw [h2]
    show st0 t j k = none
    unfold st0
    rw [if_pos (by omega)]
  have : ∀ {j : Nat} {s : Bool}, Reach t.n (stp t) i j s → s = false := by
    intro j s r
    induction r with
    | refl => rfl
    | @step j k s b r hj hk hf ih => rw [h0 j k hj hk] at hf; cases hf
  exact absurd (this h) (by decide)
theorem k__law_small : Keeps n__law_small a__law_small (b__law_small S__law_data S__law_closure S__law_steps) S__law_small := by
  rintro ds k ⟨ns, rfl, hk⟩
  refine ⟨rfl, ?_⟩
  unfold b__law_small
  refine seq_hide fun N hN => ?_
  push_cast [n__law_small]
  refine ⟨ns, rfl, fun t ht => ?_⟩
  have hg1 := ht.g1
  have hg4 := ht.g4
  have hn2 := ht.n2
  push_cast [rg_len]
  (refine hN _ ?_; clear hN N)
  refine seq_hide fun N hN => ?_
  push_cast [rg_len]
  rw [show (if (2 : Int) < ((t.g : Nat) : Int) then (2 : Int) else ((t.g : Nat) : Int)) = ((min t.g 2 : Nat) : Int) by split <;> omega]
  obtain ⟨G, hG⟩ : ∃ G, G = min t.g 2 := ⟨_, rfl⟩
  rw [← hG]
  (refine hN _ ?_; clear hN N)
  refine seq_hide fun N hN => ?_
  push_cast [rg_len]
  (refine hN _ ?_; clear hN N)
  refine seq_hide fun N hN => ?_
  unfold drB
  push_cast [rg_len]
  refine for_rg (fun i env => ∃ (P A : Nat → Nat → Rat) (s6 s7 s8 : Sl), (∀ i k, sn (P i k)) ∧ (∀ i k, sn (A i k)) ∧ env = [.sh (.frz ns), .sh (.int 2), .sh (.int (G : Nat)), .sh (drB t), .sh (drL t), .ow (rg i fun i => .tup [vec G (P i), vec G (A i)]), s6, s7, s8, .no, .no, .no]) ⟨fun _ _ => 0, fun _ _ => 0, _, _, _, fun _ _ => sn0, fun _ _ => sn0, rfl⟩ ?_ ?_
  · rintro i env K hi ⟨P, A, s6, s7, s8, hP, hA, rfl⟩ hK
    unfold gTup' gCons' gNil' gName'
    dsimp only
    refine ⟨rfl, rfl, ?_⟩
    refine seq_hide fun N hN => ?_
    push_cast [rg_len]
    rw [cut_hd (by omega)]
    (refine hN _ ?_; clear hN N)
    refine seq_hide fun N hN => ?_
    have fin : ∀ A1 : Nat → Rat, (∀ l, sn (A1 l)) → N [.sh (.frz ns), .sh (.int 2), .sh (.int (G : Nat)), .sh (drB t), .sh (drL t), .ow (rg i fun i => .tup [vec G (P i), vec G (A i)]), .sh (vec t.g (t.P i)), .sh (vec t.g (t.A i)), .sh (vec G A1), .no, .no, .no] := by
      intro A1 hA1
      refine hN _ ?_
      push_cast [rg_len]
      rw [cut_hd (by omega)]
      obtain ⟨P', A', h1, h2, h3⟩ := buys_snoc (n := i) (g := G) hP hA (ht.P i) hA1
      unfold vec at h3
      rw [h3]
      refine ⟨by omega, ?_⟩
      exact hK _ ⟨P', A', _, _, _, h1, h2, rfl⟩
    unfold vec at fin
    push_cast [pMax]
    refine ⟨by omega, comp_rg (fun l => .int (t.A i l).num) (fun l K hl hK => by push_cast [rg_len]; exact hK) ?_⟩
    refine ⟨rg G fun l => (t.A i l).num, by rw [rg_map], by rw [rg_len]; omega, fun m hm hmx => ?_⟩
    push_cast [rg_len]
    by_cases h0 : m = 0
    · push_cast [h0]
      rw [cut_m1 (by omega), show ([D.tup [.int 1, .int 1]] : List D) = [fr 1] from rfl, rg_snoc, show G - 1 + 1 = G by omega]
      push_cast [rg_len]
      refine ⟨by omega, ?_⟩
      rw [show (fun l => if l < G - 1 then fr (t.A i l) else fr 1) = fun l => fr (if l < G - 1 then t.A i l else 1) from funext fun l => by split <;> rfl]
      refine fin (fun l => if l < G - 1 then t.A i l else 1) fun l => ?_
      split
      · exact ht.A i l
      · exact sn1
    · push_cast [h0]
      exact fin (t.A i) (ht.A i)
  · rintro env ⟨P, A, s6, s7, s8, hP, hA, rfl⟩
    (refine hN _ ?_; clear hN N)
    refine seq_hide fun N hN => ?_
    push_cast [rg_len]
    (refine hN _ ?_; clear hN N)
    obtain ⟨T, hT⟩ : ∃ T : Dt, T = ⟨G, t.n, t.nl, P, A, t.li, t.lj, t.ls⟩ := ⟨_, rfl⟩
    have hTg : T.g = G := by rw [hT]
    have hTn : T.n = t.n := by rw [hT]
    have ok : T.Ok := by rw [hT]; exact ⟨by show 1 ≤ G; omega, by show G ≤ 2; omega, ht.n2, ht.nl2, ht.li, ht.lj, hP, hA⟩
    have hB : D.lst (rg t.n fun i => D.tup [D.lst (rg G fun l => fr (P i l)), .lst (rg G fun l => fr (A i l))]) = buysD T := by rw [hT]; rfl
    have hL : drL t = linksD T := by rw [hT]; rfl
    rw [hB, hL, ← hTg]
    refine seq_hide fun N hN => ?_
    push_cast [rg_len]
    refine ⟨T, rfl, ok, ?_⟩
    push_cast [rg_len]
    refine ⟨T.n, stp T, rfl, ok.n2, fun C hC => ?_⟩
    push_cast [rg_len]
    (refine hN _ ?_; clear hN N)
    have fin : ∀ T' : Dt, T'.Ok → NoRing T' → ∀ (s5 : Sl), (s5 = .sh (buysD T') ∨ ∃ ds, buysD T' = .lst ds ∧ s5 = .ow ds) →
        (sSeq (sRet (pTup (aCons (pVar 2) (aCons (pVar 5) (aCons (pVar 4) aNil))))) sNext) { nx := fun _ => k .non, rt := k } [.sh (.frz ns), .sh (.int 2), .sh (.int (T'.g : Nat)), .sh (drB t), .sh (linksD T'), s5, s6, s7, s8, .sh (tabD T.n C), .no, .no] := by
      intro T' ok' nr s5 h5
      have := hk T' ok' nr
      rcases h5 with e | ⟨ds, e1, e2⟩
      · subst e
        push_cast [rg_len]
        exact this
      · subst e2
        rw [e1] at this
        push_cast [rg_len]
        exact this
    refine seq_hide fun N hN => ?_
    have hb : ∀ K : Kd → D → Prop, buysD T = .lst (rg T.n fun i => .tup [vec T.g (T.P i), vec T.g (T.Am i)]) := fun _ => rfl
    have := ok.n2
    unfold buysD
    push_cast [rg_len]
    refine ⟨⟨by omega, by omega⟩, by omega, comp_filter (fun i => C i i == some true) (fun i => .int (i : Nat)) (fun i K hi hK => ?_) ?_⟩
    · push_cast [rg_len]
      unfold tabD
      dsimp! [rg_len]
      cases hc : C i i with
      | none =>
        push_cast [ob]
        have := hK [.sh (.frz ns), .sh (.int 2), .sh (.int (T.g : Nat)), .sh (drB t), .sh (linksD T), .sh (buysD T), s6, s7, s8, .sh (tabD T.n C), .no, .sh (.int (i : Nat))] fun K' h => h
        rw [hc] at this
        exact this
      | some b =>
        have := hK [.sh (.frz ns), .sh (.int 2), .sh (.int (T.g : Nat)), .sh (drB t), .sh (linksD T), .sh (buysD T), s6, s7, s8, .sh (tabD T.n C), .no, .sh (.int (i : Nat))] fun K' h => h
        rw [hc] at this
        cases b
        · push_cast [ob]; exact this
        · push_cast [ob]; exact this
    · push_cast [rg_len]
      by_cases hl : (0 : Int) < ((((List.range T.n).filter fun i => C i i == some true).length : Nat) : Int)
      · push_cast [List.length_map, hl]
        have hn1 : 0 < T.n := by
          rcases Nat.eq_zero_or_pos T.n with q | q
          · rw [q] at hl; simp at hl
          · exact q
        rw [show (1 : Int) = ((1 : Nat) : Int) from rfl, cut_hd (by omega)]
        refine hN _ (fin ⟨T.g, 1, 0, T.P, T.Am, T.li, T.lj, T.ls⟩ ⟨ok.g1, ok.g2, by show 1 ≤ 2; omega, by show 0 ≤ 2; omega, fun k hk => absurd hk (by show ¬ k < 0; omega), fun k hk => absurd hk (by show ¬ k < 0; omega), ok.P, ok.Am⟩ (noring1 (Nat.le_refl _) rfl) _ (.inr ⟨_, rfl, rfl⟩))
      · push_cast [List.length_map, hl]
        refine hN _ (fin T ok (fun i hi hr => ?_) _ (.inl rfl))
        obtain ⟨s', h1, h2⟩ := clo_reach hC hi hr
        rw [h2 rfl] at h1
        apply hl
        have : i ∈ (List.range T.n).filter fun i => C i i == some true := List.mem_filter.mpr ⟨List.mem_range.mpr hi, by rw [h1]; rfl⟩
        have := List.length_pos_of_mem this
        omega
def S__law_two_baskets : SpecT := fun ds k => ∃ (ns : List Int) (t : Dt), ds = [.frz ns, .int (t.g : Nat), buysD t] ∧ t.Ok ∧ ∀ F S, Bk F S → k (.tup [vec t.g F, vec t.g S])
theorem rg_isE {α : Type} (n : Nat) (f : Nat → α) : (rg n f).isEmpty = decide (n = 0) := by
  cases n with
  | zero => rfl
  | succ n => rw [← rg_succ]; simp
theorem k__law_two_baskets : Keeps n__law_two_baskets a__law_two_baskets (b__law_two_baskets S__law_row S__law_lowest) S__law_two_baskets := by
  rintro ds k ⟨ns, t, rfl, ht, hk⟩
  have hg2 := ht.g2
  have hn2 := ht.n2
  have p40 : (2 : Nat) ^ 40 = 1099511627776 := by decide
  refine ⟨rfl, ?_⟩
  unfold b__law_two_baskets
  refine seq_hide fun N hN => ?_
  push_cast [n__law_two_baskets]
  refine ⟨ns, 9, 12, rfl, by omega, by omega, fun r hr => ?_⟩
  obtain ⟨F0, hF0, hF1⟩ : ∃ F0 : Nat → Rat, (∀ l, sn (F0 l)) ∧ ∀ l : Nat, F0 l = Rat.divInt (((r (2 * ((l : Nat) : Int)).toNat : Nat) : Int) % 6) (1 + ((r (2 * ((l : Nat) : Int) + 1).toNat : Nat) : Int) % 3) := ⟨_, fun l => sn_divInt (by omega) (by omega) (by omega), fun _ => rfl⟩
  obtain ⟨S0, hS0, hS1⟩ : ∃ S0 : Nat → Rat, (∀ l, sn (S0 l)) ∧ ∀ l : Nat, S0 l = Rat.divInt (((r (4 + 2 * ((l : Nat) : Int)).toNat : Nat) : Int) % 6) (1 + ((r (5 + 2 * ((l : Nat) : Int)).toNat : Nat) : Int) % 3) := ⟨_, fun l => sn_divInt (by omega) (by omega) (by omega), fun _ => rfl⟩
  push_cast [rg_len]
  (refine hN _ ?_; clear hN N)
  refine seq_hide fun N hN => ?_
  push_cast [rg_len]
  refine ⟨⟨by omega, by omega⟩, by omega, comp_rg (fun l => fr (F0 l)) (fun l K hl hK => ?_) ?_⟩
  · dsimp! [ix_rgZ, mo2, Int.reduceLT]
    refine lowest_go (by omega) (by omega) ?_
    rw [hF1] at hK
    push_cast [rg_len]
    exact hK
  push_cast [rg_len]
  (refine hN _ ?_; clear hN N)
  refine seq_hide fun N hN => ?_
  push_cast [rg_len]
  refine ⟨⟨by omega, by omega⟩, by omega, comp_rg (fun l => fr (S0 l)) (fun l K hl hK => ?_) ?_⟩
  · dsimp! [ix_rgZ, mo2, Int.reduceLT]
    refine lowest_go (by omega) (by omega) ?_
    rw [hS1] at hK
    push_cast [rg_len]
    exact hK
  push_cast [rg_len]
  (refine hN _ ?_; clear hN N)
  clear hF1 hS1
  refine seq_hide fun N hN => ?_
  have fin1 : ∀ F1 : Nat → Rat, (∀ l, sn (F1 l)) → N [.sh (.frz ns), .sh (.int (t.g : Nat)), .sh (buysD t), .sh (.lst (rg 12 fun i => .int (r i : Nat))), .sh (vec t.g F1), .sh (vec t.g S0), .no] := by
    intro F1 hF1
    refine hN _ ?_
    clear hN N
    refine seq_hide fun N hN => ?_
    have fin2 : ∀ S1 : Nat → Rat, (∀ l, sn (S1 l)) → N [.sh (.frz ns), .sh (.int (t.g : Nat)), .sh (buysD t), .sh (.lst (rg 12 fun i => .int (r i : Nat))), .sh (vec t.g F1), .sh (vec t.g S1), .no] := by
      intro S1 hS1
      refine hN _ ?_
      push_cast [rg_len]
      exact hk F1 S1 ⟨hF1, hS1⟩
    unfold vec at fin2
    unfold buysD at fin2 ⊢
    by_cases hn : t.n = 0
    · push_cast [rg_isE, hn]
      rw [hn] at fin2
      exact fin2 S0 hS0
    · dsimp! [rg_isE, hn, ix_rgZ]
      by_cases hm : ((r (9 : Int).toNat : Nat) : Int) % 3 = 0
      · push_cast [hm]
        refine ⟨by decide, ?_⟩
        dsimp! [ix_rgZ]
        exact fin2 (t.Am (((t.n : Nat) : Int) - 1).toNat) (ht.Am _)
      · push_cast [hm]
        exact ⟨by decide, fin2 S0 hS0⟩
  unfold vec at fin1
  unfold buysD at fin1 ⊢
  by_cases hn : t.n = 0
  · push_cast [rg_isE, hn]
    rw [hn] at fin1
    exact fin1 F0 hF0
  · dsimp! [rg_isE, hn, ix_rgZ]
    by_cases hm : ((r (8 : Int).toNat : Nat) : Int) % 3 = 0
    · push_cast [hm]
      refine ⟨by decide, ?_⟩
      dsimp! [ix_rgZ]
      exact fin1 (t.Am (0 : Int).toNat) (ht.Am _)
    · push_cast [hm]
      exact ⟨by decide, fin1 F0 hF0⟩
def S_Data : SpecT := fun ds k => ∃ t : Dt, ds = [.int (t.g : Nat), buysD t, linksD t] ∧ t.n ≤ 100 ∧ t.nl ≤ 100 ∧ k (dataD t)
def S__law_made : SpecT := fun ds k => ∃ t : Dt, ds = [.int (t.g : Nat), buysD t, linksD t] ∧ t.Ok ∧ k (dataD t)
theorem k__law_made : Keeps n__law_made a__law_made (b__law_made S_Data) S__law_made := by
  rintro ds k ⟨t, rfl, ht, hk⟩
  have hn2 := ht.n2
  have hl2 := ht.nl2
  refine ⟨rfl, ?_⟩
  unfold buysD linksD
  push_cast [b__law_made, n__law_made]
  refine ⟨by omega, comp_rg (fun i => .tup [vec t.g (t.P i), vec t.g (t.Am i)]) (fun i K hi hK => ?_) ?_⟩
  · push_cast [rg_len]
    exact hK
  · push_cast [rg_len]
    exact ⟨t, rfl, by omega, by omega, hk⟩
end BB
end
section
set_option maxRecDepth 100000
set_option exponentiation.threshold 100
set_option maxHeartbeats 4000000
/-! _law_add, _law_put, _law_is_liking, _law_is_refusal, _law_likings, _law_one_accepted. -/
namespace BB
open PySem L2 MA
def S__law_add : SpecT := fun ds k => ∃ (r : Rat) (p q : Int), ds = [fr r, .tup [.int p, .int q]] ∧ p.natAbs < 2 ^ 64 ∧ q.natAbs < 2 ^ 64 ∧ k (.tup [.int (r.num * q + p * (r.den : Int)), .int ((r.den : Int) * q)])
theorem k__law_add : Keeps n__law_add a__law_add b__law_add S__law_add := by
  rintro ds k ⟨r, p, q, rfl, hp, hq, hk⟩
  refine ⟨rfl, ?_⟩
  push_cast [b__law_add, n__law_add]
  exact ⟨small_mul hq, .inl (.inl hp), small_mul hq, hk⟩
def S__law_put : SpecT := fun ds k => ∃ (n a : Nat) (U : Nat → Rat) (x : Rat), ds = [vec n U, .int (a : Nat), fr x] ∧ a < n ∧ n ≤ 1000 ∧ k (vec n fun i => if i = a then x else U i)
theorem k__law_put : Keeps n__law_put a__law_put b__law_put S__law_put := by
  rintro ds k ⟨n, a, U, x, rfl, ha, hn, hk⟩
  refine ⟨rfl, ?_⟩
  push_cast [b__law_put, n__law_put]
  rw [show ((a : Nat) : Int) + 1 = ((a + 1 : Nat) : Int) by omega, cut_hd (by omega), cut_rg (l := a + 1) (h := n) (by rw [sIx_yes]; omega) rfl (by omega)]
  rw [rg_snoc, rg_app]
  have e : (rg (a + 1 + (n - (a + 1))) fun i => if i < a + 1 then (if i < a then fr (U i) else fr x) else fr (U (a + 1 + (i - (a + 1))))) = rg n fun i => fr (if i = a then x else U i) := by
    rw [show a + 1 + (n - (a + 1)) = n by omega]
    refine rg_congr fun i hi => ?_
    by_cases h1 : i < a
    · rw [if_pos (by omega), if_pos h1, if_neg (by omega)]
    · by_cases h2 : i = a
      · rw [if_pos (by omega), if_neg h1, if_pos h2]
      · rw [if_neg (by omega), if_neg h2, show a + 1 + (i - (a + 1)) = i by omega]
  push_cast [rg_len]
  rw [e]
  refine ⟨by omega, by omega, hk⟩
/-- small enough for the law's looks -/
structure LkS (e : Nat) (t : Dt) (U W : Nat → Rat) (Sl : Nat → Nat → Rat) : Prop where
  u : ∀ i, i < t.n + 2 → sz e (U i)
  w : ∀ i, i < t.n → sz 2100 (W i)
  s : ∀ b k, b < 2 → k < t.g → sz 2100 (Sl b k)
def S__law_is_liking : SpecT := fun ds k => ∃ (t : Dt) (U W : Nat → Rat) (Sl : Nat → Nat → Rat), ds = [.int (t.n : Nat), .int (t.g : Nat), likD t U W Sl] ∧ t.Ok ∧ LkS 2100 t U W Sl ∧ k (.bl true)
theorem k__law_is_liking : Keeps n__law_is_liking a__law_is_liking (b__law_is_liking S__law_are_fractions) S__law_is_liking := by
  rintro ds k ⟨t, U, W, Sl, rfl, ht, hz, hk⟩
  have hn2 := ht.n2
  have hg2 := ht.g2
  refine ⟨rfl, ?_⟩
  unfold b__law_is_liking
  refine seq_hide fun N hN => ?_
  push_cast [n__law_is_liking, likD]
  refine ⟨true, rfl, ?_⟩
  push_cast [rg_len]
  refine ⟨true, rfl, ?_⟩
  push_cast [rg_len]
  (refine hN _ ?_; clear hN N)
  refine seq_hide fun N hN => ?_
  push_cast [rg_len]
  rw [show ((t.n : Nat) : Int) + 2 = ((t.n + 2 : Nat) : Int) by omega]
  refine ⟨t.n + 2, U, rfl, by omega, fun i hi => (hz.u i hi).mono (by omega), ?_⟩
  push_cast [rg_len]
  refine ⟨t.n, W, rfl, by omega, fun i hi => (hz.w i hi).mono (by omega), ?_⟩
  push_cast [rg_len]
  (refine hN _ ?_; clear hN N)
  refine seq_hide fun N hN => ?_
  push_cast [ix_l0, ix_l1]
  refine ⟨t.g, Sl 0, rfl, by omega, fun i hi => (hz.s 0 i (by omega) hi).mono (by omega), ?_⟩
  push_cast [ix_l0, ix_l1]
  refine ⟨t.g, Sl 1, rfl, by omega, fun i hi => (hz.s 1 i (by omega) hi).mono (by omega), ?_⟩
  exact hk
def S__law_is_refusal : SpecT := fun ds k => ∃ (t : Dt) (go : Gl) (P : Nat → Nat → Rat) (Q G : Nat → Rat), ds = [.int (t.n : Nat), .int (t.nl : Nat), .str go.s, refD t (ng go) P Q G] ∧ t.Ok ∧ RefZ t (ng go) P Q G ∧ k (.bl true)
theorem k__law_is_refusal : Keeps n__law_is_refusal a__law_is_refusal (b__law_is_refusal S__law_are_fractions) S__law_is_refusal := by
  rintro ds k ⟨t, go, P, Q, G, rfl, ht, hz, hk⟩
  obtain ⟨d, hd0, hd1, hP, hQ, hG⟩ := hz.ex
  have psz : ∀ {p : Rat}, Zs d (2 ^ 2022) p → sz 8000 p := fun h => (h.sz (e := 2100) hd0 (Nat.lt_of_le_of_lt hd1 (Nat.pow_lt_pow_right (by omega) (by omega))) (Nat.pow_lt_pow_right (by omega) (by omega))).mono (by omega)
  have hn2 := ht.n2
  have hl2 := ht.nl2
  have hng := ng_le go
  have e2 : ((t.n : Nat) : Int) + 2 = ((t.n + 2 : Nat) : Int) := by omega
  refine ⟨rfl, ?_⟩
  unfold b__law_is_refusal
  refine seq_hide fun N hN => ?_
  push_cast [n__law_is_refusal, refD]
  refine ⟨true, rfl, ?_⟩
  push_cast [rg_len]
  refine ⟨true, rfl, ?_⟩
  push_cast [e2]
  (refine hN _ ?_; clear hN N)
  refine seq_hide fun N hN => ?_
  push_cast [rg_len]
  refine for_rg (fun i env => ∃ s4, env = [.sh (.int (t.n : Nat)), .sh (.int (t.nl : Nat)), .sh (.str go.s), .sh (refD t (ng go) P Q G), s4]) ⟨_, rfl⟩ ?_ ?_
  · rintro i env K hi ⟨s4, rfl⟩ hK
    push_cast [e2]
    refine ⟨t.n + 2, P i, rfl, by omega, fun j hj => psz (hP i j hi hj), ?_⟩
    push_cast [rg_len]
    exact hK _ ⟨_, rfl⟩
  · rintro env ⟨s4, rfl⟩
    (refine hN _ ?_; clear hN N)
    unfold refD
    push_cast [rg_len]
    refine ⟨t.nl, Q, rfl, by omega, fun j hj => psz (hQ j hj), ?_⟩
    push_cast [rg_len]
    have fin : S__law_are_fractions [.lst (rg (ng go) fun i => fr (G i)), .int (ng go : Nat)] k := ⟨ng go, G, rfl, by omega, fun j hj => psz (hG j hj), hk⟩
    cases go
    · have h1 : ¬ (("first" : Str) = "alike") := by decide
      push_cast [Gl.s, h1]
      exact fin
    · push_cast [Gl.s]
      exact fin
    · have h1 : ¬ (("second" : Str) = "alike") := by decide
      push_cast [Gl.s, h1]
      exact fin
def gi : Gl → Nat
  | .fi => 0
  | .al => 1
  | .se => 2
theorem index_go {env : Env} {go : Gl} {i : Nat} {K : Kd → D → Prop} (h : env[i]? = some (.sh (.str go.s))) (hk : K .s (.int (gi go : Nat))) : pIndex (pF (fLst (aCons (pC (.str "first")) (aCons (pC (.str "alike")) (aCons (pC (.str "second")) aNil))))) (pVar i) env K := by
  have hv : ∀ K : Kd → D → Prop, K .s (.str go.s) → pVar i env K := fun K hK => by unfold pVar; rw [h]; exact hK
  refine ⟨by show 3 ≤ 100000; omega, .inl rfl, ["first", "alike", "second"], rfl, hv _ ?_⟩
  cases go
  · exact ⟨_, 0, rfl, rfl, fun i h => by omega, hk⟩
  · exact ⟨_, 1, rfl, rfl, fun i h => by rw [show i = 0 by omega]; decide, hk⟩
  · refine ⟨_, 2, rfl, rfl, fun i h => ?_, hk⟩
    rcases (show i = 0 ∨ i = 1 by omega) with q | q <;> rw [q] <;> decide
theorem ix_gi {go : Gl} {k : Kd → D → Prop} (h : ∀ x : Int, -1 ≤ x → x ≤ 1 → k .s (.int x)) : ixD .s (.lst [.int (-1), .int 0, .int 1]) (.int (gi go : Nat)) k := by
  cases go
  · rw [ix_go (d := .int (-1)) (.inl rfl) rfl]; exact h _ (by omega) (by omega)
  · rw [ix_go (d := .int 0) (.inl rfl) rfl]; exact h _ (by omega) (by omega)
  · rw [ix_go (d := .int 1) (.inl rfl) rfl]; exact h _ (by omega) (by omega)
theorem moved_sz {r : Rat} {p q : Int} (hr : sz 2030 r) (hp : p.natAbs ≤ 2) (hq : 0 < q) (hq2 : q ≤ 3) : sz 2100 (Rat.divInt (r.num * q + p * (r.den : Int)) ((r.den : Int) * q)) ∧ 0 < (r.den : Int) * q ∧ (r.den : Int) * q < 2 ^ 8999 := by
  have hd := r.den_pos
  have h0 : 0 < (r.den : Int) * q := Int.mul_pos (by omega) hq
  have h := (divInt_Zs (p := r.num * q + p * (r.den : Int)) h0).le (by omega)
  have h1 : (r.num * q).natAbs ≤ 2 ^ 2030 * 3 := by rw [Int.natAbs_mul]; exact Nat.mul_le_mul (Nat.le_of_lt hr.1) (by omega)
  have h2 : (p * (r.den : Int)).natAbs ≤ 2 * 2 ^ 2030 := by rw [Int.natAbs_mul, Int.natAbs_natCast]; exact Nat.mul_le_mul hp (Nat.le_of_lt hr.2)
  have h3 : ((r.den : Int) * q).natAbs ≤ 2 ^ 2030 * 3 := by rw [Int.natAbs_mul, Int.natAbs_natCast]; exact Nat.mul_le_mul (Nat.le_of_lt hr.2) (by omega)
  have h4 : (2 : Nat) ^ 2040 = 2 ^ 2030 * 1024 := by rw [show (2040 : Nat) = 2030 + 10 from rfl, Nat.pow_add]
  have h5 : 0 < (2 : Nat) ^ 2030 := Nat.two_pow_pos _
  have h6 : (2 : Nat) ^ 2040 < 2 ^ 2100 := Nat.pow_lt_pow_right (by omega) (by omega)
  have h7 : (2 : Nat) ^ 2040 < 2 ^ 8999 := Nat.pow_lt_pow_right (by omega) (by omega)
  refine ⟨⟨by omega, by omega⟩, h0, ?_⟩
  have h8 : (((r.den : Int) * q).natAbs : Int) < ((2 ^ 8999 : Nat) : Int) := Int.ofNat_lt.mpr (by omega)
  rw [Int.natCast_pow] at h8
  have h9 : (((r.den : Int) * q).natAbs : Int) = (r.den : Int) * q := by omega
  rw [h9] at h8
  exact h8
def S__law_likings : SpecT := fun ds k => ∃ (t : Dt) (r : Nat → Nat) (go : Gl) (U W : Nat → Rat) (Sl : Nat → Nat → Rat), ds = [.lst (rg 6 fun i => .int (r i : Nat)), .str go.s, likD t U W Sl] ∧ t.Ok ∧ (∀ i, i < t.n + 2 → sz 2030 (U i)) ∧
  ∀ U1 U2 : Nat → Rat, (∀ i, i < t.n + 2 → sz 2100 (U1 i)) → (∀ i, i < t.n + 2 → sz 2100 (U2 i)) → k (.lst [likD t U W Sl, likD t U1 W Sl, likD t U2 W Sl])
theorem k__law_likings : Keeps n__law_likings a__law_likings (b__law_likings S__law_add S__law_put S__law_lowest) S__law_likings := by
  rintro ds k ⟨t, r, go, U, W, Sl, rfl, ht, hU, hk⟩
  have hn2 := ht.n2
  have hg2 := ht.g2
  refine ⟨rfl, ?_⟩
  unfold b__law_likings
  refine seq_hide fun N hN => ?_
  push_cast [n__law_likings, likD]
  (refine hN _ ?_; clear hN N)
  refine seq_hide fun N hN => ?_
  push_cast [rg_len]
  (refine hN _ ?_; clear hN N)
  refine seq_hide fun N hN => ?_
  dsimp! [rg_len]
  (refine hN _ ?_; clear hN N)
  refine seq_hide fun N hN => ?_
  push_cast [rg_len]
  refine index_go rfl ?_
  refine ix_gi fun x hx1 hx2 => ?_
  push_cast [rg_len]
  refine ⟨U t.n, x, 1, rfl, by omega, by decide, ?_⟩
  push_cast [rg_len]
  (refine hN _ ?_; clear hN N)
  refine seq_hide fun N hN => ?_
  push_cast [rg_len]
  obtain ⟨m1, m2, m3⟩ := moved_sz (r := U t.n) (p := x) (q := 1) (hU _ (by omega)) (by omega) (by omega) (by omega)
  refine ⟨_, _, rfl, m2, m3, ?_⟩
  push_cast [rg_len]
  rw [show ((t.n : Nat) : Int) + 1 = ((t.n + 1 : Nat) : Int) by omega]
  refine ⟨t.n + 2, t.n + 1, U, _, rfl, by omega, by omega, ?_⟩
  push_cast [rg_len]
  (refine hN _ ?_; clear hN N)
  refine seq_hide fun N hN => ?_
  dsimp! [ix_rgZ]
  obtain ⟨a, ha, ha2⟩ := ex_mod (x := ((r (0 : Int).toNat : Nat) : Int)) (m := ((t.n + 2 : Nat) : Int)) (by omega)
  rw [ha]
  refine ⟨by omega, ?_⟩
  (refine hN _ ?_; clear hN N)
  refine seq_hide fun N hN => ?_
  dsimp! [ix_rgZ]
  refine ⟨by decide, by decide, U a, ((r (1 : Int).toNat : Nat) : Int) % 5 - 2, 1 + ((r (2 : Int).toNat : Nat) : Int) % 3, rfl, by omega, by omega, ?_⟩
  push_cast [rg_len]
  (refine hN _ ?_; clear hN N)
  refine seq_hide fun N hN => ?_
  push_cast [rg_len]
  obtain ⟨n1, n2, n3⟩ := moved_sz (r := U a) (p := ((r (1 : Int).toNat : Nat) : Int) % 5 - 2) (q := 1 + ((r (2 : Int).toNat : Nat) : Int) % 3) (hU _ (by omega)) (by omega) (by omega) (by omega)
  refine ⟨_, _, rfl, n2, n3, ?_⟩
  push_cast [rg_len]
  refine ⟨t.n + 2, a, U, _, rfl, by omega, by omega, ?_⟩
  push_cast [rg_len]
  (refine hN _ ?_; clear hN N)
  push_cast [rg_len]
  refine hk _ _ (fun i hi => ?_) fun i hi => ?_
  · split
    · exact m1
    · exact (hU i hi).mono (by omega)
  · split
    · exact n1
    · exact (hU i hi).mono (by omega)
def S__law_one_accepted : SpecT := fun ds k => ∃ (t : Dt) (F S : Nat → Rat) (go : Gl) (m : Nat) (U W : Nat → Nat → Rat) (Sl : Nat → Nat → Nat → Rat), ds = [dataD t, vec t.g F, vec t.g S, .str go.s, .lst (rg m fun i => likD t (U i) (W i) (Sl i))] ∧ t.Ok ∧ Bk F S ∧ (∀ i, i < m → LkS 2100 t (U i) (W i) (Sl i)) ∧
  ∀ r : Bool, (r = true ↔ ∃ i, i < m ∧ LikOK t F S go (U i) (W i) (Sl i)) → k (.bl r)
theorem k__law_one_accepted : Keeps n__law_one_accepted a__law_one_accepted (b__law_one_accepted S_judge_liking) S__law_one_accepted := by
  rintro ds k ⟨t, F, S, go, m, U, W, Sl, rfl, ht, hb, hz, hk⟩
  refine ⟨rfl, ?_⟩
  unfold b__law_one_accepted
  refine seq_hide fun N hN => ?_
  push_cast [n__law_one_accepted]
  refine for_rg (fun i env => (∀ l, l < i → ¬ LikOK t F S go (U l) (W l) (Sl l)) ∧ ∃ s5 s6 s7 s8, env = [.sh (dataD t), .sh (vec t.g F), .sh (vec t.g S), .sh (.str go.s), .sh (.lst (rg m fun i => likD t (U i) (W i) (Sl i))), s5, s6, s7, s8]) ⟨fun _ h => by omega, _, _, _, _, rfl⟩ ?_ ?_
  · rintro i env K hi ⟨hp, s5, s6, s7, s8, rfl⟩ hK
    unfold likD gTup' gCons' gNil' gName'
    dsimp only
    refine ⟨rfl, rfl, ?_⟩
    refine seq_hide fun N hN => ?_
    push_cast [ix_l0, ix_l1]
    (refine hN _ ?_; clear hN N)
    push_cast [rg_len]
    refine ⟨t, F, S, go, U i, W i, Sl i, rfl, ht, hb, (hz i hi).u, (hz i hi).w, (hz i hi).s, fun r hr => ?_⟩
    cases r
    · push_cast [rg_len]
      refine hK _ ⟨fun l hl => ?_, _, _, _, _, rfl⟩
      by_cases e : l = i
      · rw [e]; exact fun q => absurd (hr.mpr q) (by decide)
      · exact hp l (by omega)
    · push_cast [rg_len]
      exact hk true ⟨fun _ => ⟨i, hi, hr.mp rfl⟩, fun _ => rfl⟩
  · rintro env ⟨hp, s5, s6, s7, s8, rfl⟩
    (refine hN _ ?_; clear hN N)
    push_cast [rg_len]
    exact hk false ⟨fun h => (by cases h), fun ⟨i, hi, h⟩ => absurd h (hp i hi)⟩
end BB
end
section
set_option maxRecDepth 100000
set_option exponentiation.threshold 100
set_option maxHeartbeats 4000000
/-! _law_copy, _law_one_refused, _law_around, _law_refusals. -/
namespace BB
open PySem L2 MA
def S__law_copy : SpecT := fun ds k => ∃ (t : Dt) (m : Nat) (P : Nat → Nat → Rat) (Q G : Nat → Rat), ds = [refD t m P Q G] ∧ t.Ok ∧ k (refD t m P Q G)
theorem k__law_copy : Keeps n__law_copy a__law_copy b__law_copy S__law_copy := by
  rintro ds k ⟨t, m, P, Q, G, rfl, ht, hk⟩
  have hn2 := ht.n2
  refine ⟨rfl, ?_⟩
  unfold refD at hk ⊢
  push_cast [b__law_copy, n__law_copy]
  refine ⟨by omega, comp_rg (fun i => vec (t.n + 2) (P i)) (fun i K hi hK => ?_) ?_⟩
  · push_cast [rg_len]
    exact hK
  · exact hk
def S__law_one_refused : SpecT := fun ds k => ∃ (t : Dt) (F S : Nat → Rat) (go : Gl) (m : Nat) (P : Nat → Nat → Nat → Rat) (Q G : Nat → Nat → Rat), ds = [dataD t, vec t.g F, vec t.g S, .str go.s, .lst (rg m fun i => refD t (ng go) (P i) (Q i) (G i))] ∧ t.Ok ∧ Bk F S ∧ (∀ i, i < m → RefZ t (ng go) (P i) (Q i) (G i)) ∧
  ∀ r : Bool, (r = true ↔ ∃ i, i < m ∧ RefOK t F S go (P i) (Q i) (G i)) → k (.bl r)
theorem k__law_one_refused : Keeps n__law_one_refused a__law_one_refused (b__law_one_refused S_judge_refusal S__law_copy) S__law_one_refused := by
  rintro ds k ⟨t, F, S, go, m, P, Q, G, rfl, ht, hb, hz, hk⟩
  refine ⟨rfl, ?_⟩
  unfold b__law_one_refused
  refine seq_hide fun N hN => ?_
  push_cast [n__law_one_refused]
  refine for_rg (fun i env => (∀ l, l < i → ¬ RefOK t F S go (P l) (Q l) (G l)) ∧ ∃ s5, env = [.sh (dataD t), .sh (vec t.g F), .sh (vec t.g S), .sh (.str go.s), .sh (.lst (rg m fun i => refD t (ng go) (P i) (Q i) (G i))), s5]) ⟨fun _ h => by omega, _, rfl⟩ ?_ ?_
  · rintro i env K hi ⟨hp, s5, rfl⟩ hK
    push_cast [rg_len]
    refine ⟨t, ng go, P i, Q i, G i, rfl, ht, ?_⟩
    push_cast [rg_len]
    refine ⟨t, F, S, go, P i, Q i, G i, rfl, ht, hb, hz i hi, fun r hr => ?_⟩
    cases r
    · push_cast [rg_len]
      refine hK _ ⟨fun l hl => ?_, _, rfl⟩
      by_cases e : l = i
      · rw [e]; exact fun q => absurd (hr.mpr q) (by decide)
      · exact hp l (by omega)
    · push_cast [rg_len]
      exact hk true ⟨fun _ => ⟨i, hi, hr.mp rfl⟩, fun _ => rfl⟩
  · rintro env ⟨hp, s5, rfl⟩
    (refine hN _ ?_; clear hN N)
    push_cast [rg_len]
    exact hk false ⟨fun h => (by cases h), fun ⟨i, hi, h⟩ => absurd h (hp i hi)⟩
def b01 (r : Rat) : Prop := r = 0 ∨ r = 1
def S__law_around : SpecT := fun ds k => ∃ (t : Dt) (r : Nat → Nat) (go : Gl), ds = [.lst (rg 6 fun i => .int (r i : Nat)), .int (t.n : Nat), .int (t.nl : Nat), .str go.s] ∧ t.Ok ∧
  ∀ (P : Nat → Nat → Rat) (G : Nat → Rat), (∀ i j, b01 (P i j)) → (∀ i, b01 (G i)) → k (refD t (ng go) P (fun _ => 0) G)
theorem fr1_eq : D.tup [.int 1, .int 1] = fr 1 := rfl
theorem fr0_eq : D.tup [.int 0, .int 1] = fr 0 := rfl
theorem put1 {P : Nat → Nat → Rat} (hP : ∀ i j, b01 (P i j)) (n a b : Nat) : ∃ P' : Nat → Nat → Rat, (∀ i j, b01 (P' i j)) ∧ (rg n fun a' => rg n fun b' => if a' = a ∧ b' = b then fr 1 else fr (P a' b')) = rg n fun a' => rg n fun b' => fr (P' a' b') := by
  refine ⟨fun a' b' => if a' = a ∧ b' = b then 1 else P a' b', fun i j => ?_, rg_congr fun a' _ => rg_congr fun b' _ => ?_⟩
  · dsimp only; split
    · exact .inr rfl
    · exact hP i j
  · dsimp only; split <;> rfl
theorem k__law_around : Keeps n__law_around a__law_around b__law_around S__law_around := by
  rintro ds k ⟨t, r, go, rfl, ht, hk⟩
  have hn2 := ht.n2
  have hl2 := ht.nl2
  have e2 : ((t.n : Nat) : Int) + 2 = ((t.n + 2 : Nat) : Int) := by omega
  refine ⟨rfl, ?_⟩
  unfold b__law_around
  refine seq_hide fun N hN => ?_
  have fin1 : ∀ b : Nat, (b = t.n ∨ b = t.n + 1) → N [.sh (.lst (rg 6 fun i => .int (r i : Nat))), .sh (.int (t.n : Nat)), .sh (.int (t.nl : Nat)), .sh (.str go.s), .sh (.int (b : Nat)), .no, .no, .no, .no, .no, .no] := by
    intro b0 hb0
    refine hN _ ?_
    clear hN N
    refine seq_hide fun N hN => ?_
    have fin2 : ∀ b : Nat, (b = t.n ∨ b = t.n + 1) → N [.sh (.lst (rg 6 fun i => .int (r i : Nat))), .sh (.int (t.n : Nat)), .sh (.int (t.nl : Nat)), .sh (.str go.s), .sh (.int (b : Nat)), .no, .no, .no, .no, .no, .no] := by
      intro b hb
      refine hN _ ?_
      clear hN N
      refine seq_hide fun N hN => ?_
      push_cast [e2]
      refine ⟨⟨by omega, by omega⟩, by omega, compF_rg (fun _ => rg (t.n + 2) fun _ => fr 0) (fun i K hi hK => ?_) ?_⟩
      · push_cast [e2]
        exact ⟨⟨by omega, by omega⟩, by omega, comp_rg (fun _ => fr 0) (fun i K hi hK => by push_cast [rg_len]; exact hK) hK⟩
      (refine hN _ ?_; clear hN N)
      refine seq_hide fun N hN => ?_
      push_cast [rg_len]
      obtain ⟨a, ha, ha2⟩ : ∃ a : Nat, ((t.n : Nat) : Int) + 1 - (((b : Nat) : Int) - ((t.n : Nat) : Int)) = (a : Nat) ∧ a < t.n + 2 := ⟨(((t.n : Nat) : Int) + 1 - (((b : Nat) : Int) - ((t.n : Nat) : Int))).toNat, by omega, by omega⟩
      rw [ha]
      (refine hN _ ?_; clear hN N)
      refine seq_hide fun N hN => ?_
      dsimp! [ix_rgZ]
      obtain ⟨m, hm, hm2⟩ := ex_mod (x := ((r (0 : Int).toNat : Nat) : Int)) (m := 3) (by decide)
      rw [hm]
      push_cast [rg_len]
      refine ⟨by decide, ⟨by omega, by omega⟩, for_rg (fun i env => ∃ (P : Nat → Nat → Rat) (a : Nat) (s7 : Sl), (∀ i j, b01 (P i j)) ∧ a < t.n + 2 ∧ env = [.sh (.lst (rg 6 fun i => .int (r i : Nat))), .sh (.int (t.n : Nat)), .sh (.int (t.nl : Nat)), .sh (.str go.s), .sh (.int (b : Nat)), .ow2 (rg (t.n + 2) fun i => rg (t.n + 2) fun j => fr (P i j)), .sh (.int (a : Nat)), s7, .no, .no, .no]) ⟨fun _ _ => 0, a, _, fun _ _ => .inl rfl, ha2, rfl⟩ ?_ ?_⟩
      · rintro i env K hi ⟨P, a, s7, hP, ha2, rfl⟩ hK
        unfold gName'
        dsimp only
        obtain ⟨c, hc, hc2⟩ := ex_mod (x := ((r (1 + ((i : Nat) : Int)).toNat : Nat) : Int)) (m := ((t.n + 2 : Nat) : Int)) (by omega)
        obtain ⟨P', hP', eP⟩ := put1 hP (t.n + 2) a c
        refine seq_hide fun N hN => ?_
        refine sPut2_go (n := t.n + 2) (m := t.n + 2) (f := fun i j => fr (P i j)) rfl a c (fr 1) (fun K h => by push_cast [rg_len]; exact h) (fun K h => by push_cast [rg_len]; exact h _) (fun K h => ?_) (by omega) (by omega) ?_
        · dsimp! [e2, ix_rgZ]
          rw [hc]
          exact ⟨by omega, h _⟩
        rw [eP]
        dsimp only
        (refine hN _ ?_; clear hN N)
        dsimp! [e2, ix_rgZ]
        rw [hc]
        exact ⟨by omega, hK _ ⟨P', c, _, hP', by omega, rfl⟩⟩
      · rintro env ⟨P, a, s7, hP, ha2, rfl⟩
        (refine hN _ ?_; clear hN N)
        obtain ⟨P', hP', eP⟩ := put1 hP (t.n + 2) a b
        refine seq_hide fun N hN => ?_
        refine sPut2_go (n := t.n + 2) (m := t.n + 2) (f := fun i j => fr (P i j)) rfl a b (fr 1) (fun K h => by push_cast [rg_len]; exact h) (fun K h => by push_cast [rg_len]; exact h _) (fun K h => by push_cast [rg_len]; exact h _) (by omega) (by omega) ?_
        rw [eP]
        dsimp only
        (refine hN _ ?_; clear hN N)
        refine seq_hide fun N hN => ?_
        push_cast [rg_len]
        (refine hN _ ?_; clear hN N)
        refine seq_hide fun N hN => ?_
        have fin3 : ∀ G : Nat → Rat, (∀ i, b01 (G i)) → N [.sh (.lst (rg 6 fun i => .int (r i : Nat))), .sh (.int (t.n : Nat)), .sh (.int (t.nl : Nat)), .sh (.str go.s), .sh (.int (b : Nat)), .ow2 (rg (t.n + 2) fun i => rg (t.n + 2) fun j => fr (P' i j)), .sh (.int (a : Nat)), s7, .sh (vec (ng go) G), .no, .no] := by
          intro G hG
          refine hN _ ?_
          push_cast [rg_map]
          refine ⟨⟨by omega, by omega⟩, by omega, comp_rg (fun _ => fr 0) (fun i K hi hK => by push_cast [rg_len]; exact hK) ?_⟩
          exact hk P' G hP' hG
        cases go
        · have h1 : ¬ (("first" : Str) = "alike") := by decide
          push_cast [Gl.s, h1]
          exact fin3 (fun _ => 1) fun _ => .inr rfl
        · push_cast [Gl.s]
          have := fin3 (fun l => if l = 0 then (if b = t.n + 1 then 1 else 0) else (if b = t.n then 1 else 0)) fun l => by
            split
            · split
              · exact .inr rfl
              · exact .inl rfl
            · split
              · exact .inr rfl
              · exact .inl rfl
          rcases hb with q | q
          · have e1 : decide (((b : Nat) : Int) = ((t.n : Nat) : Int) + 1) = false := decide_eq_false (by omega)
            have e2 : decide (((b : Nat) : Int) = ((t.n : Nat) : Int)) = true := decide_eq_true (by omega)
            rw [if_neg (show ¬ b = t.n + 1 by omega), if_pos (show b = t.n by omega)] at this
            rw [e1]
            push_cast [q]
            rw [q] at this
            exact this
          · have e1 : decide (((b : Nat) : Int) = ((t.n : Nat) : Int) + 1) = true := decide_eq_true (by omega)
            have e2 : decide (((b : Nat) : Int) = ((t.n : Nat) : Int)) = false := decide_eq_false (by omega)
            rw [if_pos (show b = t.n + 1 by omega), if_neg (show ¬ b = t.n by omega)] at this
            rw [e1]
            rw [decide_eq_false (show ¬ b = t.n by omega)]
            push_cast [rg_len]
            exact this
        · have h1 : ¬ (("second" : Str) = "alike") := by decide
          push_cast [Gl.s, h1]
          exact fin3 (fun _ => 1) fun _ => .inr rfl
    cases go
    · have h1 : ¬ (("first" : Str) = "alike") := by decide
      push_cast [Gl.s, h1]
      exact fin2 b0 hb0
    · dsimp! [Gl.s, ix_rgZ]
      obtain ⟨m, hm, hm2⟩ := ex_mod (x := ((r (5 : Int).toNat : Nat) : Int)) (m := 2) (by decide)
      rw [hm, show ((t.n : Nat) : Int) + ((m : Nat) : Int) = ((t.n + m : Nat) : Int) by omega]
      exact ⟨by decide, fin2 (t.n + m) (by omega)⟩
    · have h1 : ¬ (("second" : Str) = "alike") := by decide
      push_cast [Gl.s, h1]
      exact fin2 b0 hb0
  cases go
  · have h1 : ¬ (("first" : Str) = "second") := by decide
    push_cast [n__law_around, Gl.s, h1]
    rw [show ((t.n : Nat) : Int) + 0 = ((t.n : Nat) : Int) by omega]
    exact fin1 t.n (.inl rfl)
  · have h1 : ¬ (("alike" : Str) = "second") := by decide
    push_cast [n__law_around, Gl.s, h1]
    rw [show ((t.n : Nat) : Int) + 0 = ((t.n : Nat) : Int) by omega]
    exact fin1 t.n (.inl rfl)
  · push_cast [n__law_around, Gl.s]
    exact fin1 (t.n + 1) (.inr rfl)
theorem rg_rev {α : Type} (n : Nat) (f : Nat → α) : (rg n f).reverse = rg n fun i => f (n - 1 - i) := by
  refine rg_ext (by rw [List.length_reverse, rg_len]) fun i hi => ?_
  rw [List.getElem?_reverse (by rw [rg_len]; exact hi), rg_len, rg_get f (by omega)]
theorem refs_snoc {t : Dt} {m c : Nat} {P : Nat → Nat → Nat → Rat} {Q G : Nat → Nat → Rat} {P1 : Nat → Nat → Rat} {Q1 G1 : Nat → Rat} (h : ∀ i, i < m → RefZ t c (P i) (Q i) (G i)) (h1 : RefZ t c P1 Q1 G1) :
    ∃ (P' : Nat → Nat → Nat → Rat) (Q' G' : Nat → Nat → Rat), (∀ i, i < m + 1 → RefZ t c (P' i) (Q' i) (G' i)) ∧ (rg m fun i => refD t c (P i) (Q i) (G i)) ++ [refD t c P1 Q1 G1] = rg (m + 1) fun i => refD t c (P' i) (Q' i) (G' i) := by
  refine ⟨fun i => if i < m then P i else P1, fun i => if i < m then Q i else Q1, fun i => if i < m then G i else G1, fun i hi => ?_, ?_⟩
  · dsimp only
    by_cases e : i < m
    · rw [if_pos e, if_pos e, if_pos e]; exact h i e
    · rw [if_neg e, if_neg e, if_neg e]; exact h1
  · rw [rg_snoc]
    refine rg_congr fun i _ => ?_
    dsimp only
    by_cases e : i < m
    · rw [if_pos e, if_pos e, if_pos e, if_pos e]
    · rw [if_neg e, if_neg e, if_neg e, if_neg e]
theorem b01.Zs {r : Rat} (h : b01 r) : Zs 1 (2 ^ 2022) r := by
  rcases h with h | h
  · rw [h]; exact Zs.zero
  · rw [h]; exact Zs.one Nat.one_le_two_pow
theorem ref01 {t : Dt} {c : Nat} {P : Nat → Nat → Rat} {Q G : Nat → Rat} (hP : ∀ i j, b01 (P i j)) (hQ : ∀ i, b01 (Q i)) (hG : ∀ i, b01 (G i)) : RefZ t c P Q G :=
  ⟨1, by omega, Nat.one_le_two_pow, fun i j _ _ => (hP i j).Zs, fun k _ => (hQ k).Zs, fun k _ => (hG k).Zs⟩
def S__law_refusals : SpecT := fun ds k => ∃ (ns : List Int) (t : Dt) (go : Gl) (mt : Nat) (c : Nat → Nat) (P : Nat → Nat → Nat → Rat) (Q G : Nat → Nat → Rat), ds = [.frz ns, .int (t.n : Nat), .int (t.nl : Nat), .str go.s, .lst (rg mt fun i => refD t (c i) (P i) (Q i) (G i))] ∧ t.Ok ∧ mt ≤ 10 ∧ (∀ i, i < mt → 1 ≤ c i ∧ c i ≤ 2 ∧ RefZ t (c i) (P i) (Q i) (G i)) ∧
  ∀ (m : Nat) (P' : Nat → Nat → Nat → Rat) (Q' G' : Nat → Nat → Rat), (∀ i, i < m → RefZ t (ng go) (P' i) (Q' i) (G' i)) → k (.lst (rg m fun i => refD t (ng go) (P' i) (Q' i) (G' i)))
theorem k__law_refusals : Keeps n__law_refusals a__law_refusals (b__law_refusals S__law_around S__law_row) S__law_refusals := by
  rintro ds k ⟨ns, t, go, mt, c, P0, Q0, G0, rfl, ht, hmt, hz, hk⟩
  have hn2 := ht.n2
  have hl2 := ht.nl2
  have hng := ng_le go
  have e2 : ((t.n : Nat) : Int) + 2 = ((t.n + 2 : Nat) : Int) := by omega
  obtain ⟨told, htold⟩ : ∃ told, told = D.lst (rg mt fun i => refD t (c i) (P0 i) (Q0 i) (G0 i)) := ⟨_, rfl⟩
  rw [← htold]
  refine ⟨rfl, ?_⟩
  unfold b__law_refusals
  refine seq_hide fun N hN => ?_
  have fin1 : N [.sh (.frz ns), .sh (.int (t.n : Nat)), .sh (.int (t.nl : Nat)), .sh (.str go.s), .sh told, .sh (.int (ng go : Nat)), .no, .no, .no, .no, .no, .no, .no, .no] := by
    refine hN _ ?_
    clear hN N
    refine seq_hide fun N hN => ?_
    push_cast [e2]
    refine ⟨⟨by omega, by omega⟩, by omega, comp_rg (fun _ => vec (t.n + 2) fun _ => 0) (fun i K hi hK => ?_) ?_⟩
    · push_cast [e2]
      exact ⟨⟨by omega, by omega⟩, by omega, comp_rg (fun _ => fr 0) (fun i K hi hK => by push_cast [rg_len]; exact hK) hK⟩
    push_cast [rg_len]
    (refine hN _ ?_; clear hN N)
    refine seq_hide fun N hN => ?_
    push_cast [rg_len]
    refine ⟨⟨by omega, by omega⟩, by omega, comp_rg (fun _ => fr 0) (fun i K hi hK => by push_cast [rg_len]; exact hK) ?_⟩
    refine ⟨⟨by omega, by omega⟩, by omega, comp_rg (fun _ => fr 0) (fun i K hi hK => by push_cast [rg_len]; exact hK) ?_⟩
    push_cast [rg_len]
    (refine hN _ ?_; clear hN N)
    refine seq_hide fun N hN => ?_
    push_cast [rg_len]
    rw [show [D.int 11, D.int 12, D.int 13] = rg 3 fun i => .int ((11 + i : Nat) : Int) from rfl]
    refine for_rg (fun i env => ∃ (P : Nat → Nat → Nat → Rat) (Q G : Nat → Nat → Rat) (s6 s8 : Sl), (∀ l, l < i + 1 → RefZ t (ng go) (P l) (Q l) (G l)) ∧ env = [.sh (.frz ns), .sh (.int (t.n : Nat)), .sh (.int (t.nl : Nat)), .sh (.str go.s), .sh told, .sh (.int (ng go : Nat)), s6, .ow (rg (i + 1) fun l => refD t (ng go) (P l) (Q l) (G l)), s8, .no, .no, .no, .no, .no]) ⟨fun _ _ _ => 0, fun _ _ => 0, fun _ _ => 0, _, _, fun _ _ => ref01 (fun _ _ => .inl rfl) (fun _ => .inl rfl) (fun _ => .inl rfl), rfl⟩ ?_ ?_
    · rintro i env K hi ⟨P, Q, G, s6, s8, hz, rfl⟩ hK
      push_cast [rg_len]
      refine ⟨ns, 11 + i, 6, rfl, by omega, by omega, fun r hr => ?_⟩
      push_cast [rg_len]
      refine ⟨t, r, go, rfl, ht, fun P1 G1 hP1 hG1 => ?_⟩
      push_cast [rg_len]
      obtain ⟨P', Q', G', h1, h2⟩ := refs_snoc hz (ref01 (t := t) (c := ng go) hP1 (fun _ => .inl rfl) hG1)
      rw [h2]
      exact ⟨by omega, hK _ ⟨P', Q', G', _, _, h1, rfl⟩⟩
    · rintro env ⟨P, Q, G, s6, s8, hz1, rfl⟩
      (refine hN _ ?_; clear hN N)
      refine seq_hide fun N hN => ?_
      rw [htold]
      push_cast [rg_len]
      refine for_rg (fun i env => ∃ (P : Nat → Nat → Nat → Rat) (Q G : Nat → Nat → Rat) (s9 s10 : Sl), (∀ l, l < 4 + 2 * i → RefZ t (ng go) (P l) (Q l) (G l)) ∧ env = [.sh (.frz ns), .sh (.int (t.n : Nat)), .sh (.int (t.nl : Nat)), .sh (.str go.s), .sh told, .sh (.int (ng go : Nat)), s6, .ow (rg (4 + 2 * i) fun l => refD t (ng go) (P l) (Q l) (G l)), s8, s9, s10, .no, .no, .no]) ⟨P, Q, G, _, _, hz1, by rw [htold]⟩ ?_ ?_
      · rintro i env K hi ⟨P, Q, G, s9, s10, hz1, rfl⟩ hK
        obtain ⟨c1, c2, hzi⟩ := hz i hi
        obtain ⟨d, d0, d1, dP, dQ, dG⟩ := hzi.ex
        unfold gName'
        dsimp only
        refine seq_hide fun N hN => ?_
        push_cast [refD]
        rw [fr0_eq, rg_snoc, show (fun l => if l < c i then fr (G0 i l) else fr 0) = fun l => fr (if l < c i then G0 i l else 0) from funext fun l => by split <;> rfl]
        refine ⟨by omega, ?_⟩
        (refine hN _ ?_; clear hN N)
        have z1 : ∀ f : Nat → Nat, RefZ t (ng go) (P0 i) (Q0 i) (fun l => if f l < c i then G0 i (f l) else 0) := fun f => ⟨d, d0, d1, dP, dQ, fun k _ => by
          split
          · rename_i h; exact dG _ h
          · exact Zs.zero⟩
        obtain ⟨P1, Q1, G1, h1, h2⟩ := refs_snoc hz1 (z1 id)
        obtain ⟨P2, Q2, G2, h3, h4⟩ := refs_snoc h1 (z1 fun l => c i - l)
        refine seq_hide fun N hN => ?_
        push_cast [rg_len]
        rw [cut_hd (by omega)]
        have h2' := h2
        have h4' := h4
        simp only [refD, vec, mat, id_eq] at h2' h4'
        rw [h2']
        refine ⟨by omega, ?_⟩
        (refine hN _ ?_; clear hN N)
        push_cast [rg_len]
        rw [rg_rev, cut_hd (by omega)]
        push_cast [rg_len]
        rw [rg_congr (n := ng go) (f := fun l => fr (if c i + 1 - 1 - l < c i then G0 i (c i + 1 - 1 - l) else 0)) (g := fun l => fr (if c i - l < c i then G0 i (c i - l) else 0)) fun l _ => by rw [show c i + 1 - 1 - l = c i - l by omega], h4']
        exact ⟨by omega, hK _ ⟨P2, Q2, G2, _, _, h3, rfl⟩⟩
      · rintro env ⟨P, Q, G, s9, s10, hz1, rfl⟩
        (refine hN _ ?_; clear hN N)
        push_cast [rg_len]
        exact hk _ P Q G hz1
  cases go
  · have h1 : ¬ (("first" : Str) = "alike") := by decide
    push_cast [n__law_refusals, Gl.s, h1]
    exact fin1
  · push_cast [n__law_refusals, Gl.s]
    exact fin1
  · have h1 : ¬ (("second" : Str) = "alike") := by decide
    push_cast [n__law_refusals, Gl.s, h1]
    exact fin1
end BB
end
section
set_option maxRecDepth 100000
set_option exponentiation.threshold 100
set_option maxHeartbeats 4000000
/-! _law_same, _law_unchanged. -/
namespace BB
open PySem L2 MA
def SmOk : Nat → D → Prop
  | 0, _ => False
  | d + 1, x => match x with
    | .int _ => True
    | .bl _ => True
    | .tup xs => xs.length ≤ 1000 ∧ ∀ y ∈ xs, SmOk d y
    | .lst xs => xs.length ≤ 1000 ∧ ∀ y ∈ xs, SmOk d y
    | _ => False
def S__law_same (d : Nat) : SpecT := fun ds k => ∃ x, ds = [x, x] ∧ SmOk d x ∧ k (.bl true)
theorem k__law_same (d : Nat) : Keeps n__law_same a__law_same (b__law_same (S__law_same d) S__law_is_integer) (S__law_same (d + 1)) := by
  rintro ds k ⟨x, rfl, hx, hk⟩
  refine ⟨rfl, ?_⟩
  have loop : ∀ xs : List D, (x = .tup xs ∨ x = .lst xs) → xs.length ≤ 1000 → (∀ y ∈ xs, SmOk d y) → ∀ Z : Post, Z.rt = k →
      (sSeq (sFor (iRange (pLen (pVar 1))) (gName' 2)
 (sSeq (sIf (tNot' (tTru (pCall (S__law_same d) (aCons (pIx (pVar 0) (pVar 2)) (aCons (pIx (pVar 1) (pVar 2)) aNil)))))
 (sSeq (sRet (pC (.bl false)))
 sNext)
 sNext)
 sNext))
 (sSeq (sRet (pC (.bl true)))
 sNext)) Z [.sh x, .sh x, .no] := by
    intro xs hx hl hs Z hZ
    have e1 : ∀ K : Nat → Prop, lenD x K = K xs.length := fun K => by rcases hx with e | e <;> rw [e] <;> rfl
    refine seq_hide fun N hN => ?_
    unfold sFor iRange pLen pVar
    dsimp only [List.getElem?_cons_succ, List.getElem?_cons_zero]
    rw [e1]
    rw [Int.toNat_natCast, range_rg]
    refine ⟨⟨by omega, by omega⟩, rfl, for_rg (fun i env => ∃ s2, env = [.sh x, .sh x, s2]) ⟨_, rfl⟩ ?_ ?_⟩
    · rintro i env K hi ⟨s2, rfl⟩ hK
      have e2 : ∀ (K : Kd → D → Prop), ixD .s x (.int (i : Nat)) K = K .s xs[i] := fun K => ix_go hx.symm (by rw [atI_nat, List.getElem?_eq_getElem hi])
      push_cast [e2]
      refine ⟨_, rfl, hs _ (List.getElem_mem hi), ?_⟩
      push_cast [rg_len]
      exact hK _ ⟨_, rfl⟩
    · rintro env ⟨s2, rfl⟩
      (refine hN _ ?_; clear hN N)
      push_cast [rg_len]
      rw [hZ]; exact hk
  unfold b__law_same
  cases x with
  | int i =>
    push_cast [n__law_same]
    refine ⟨false, rfl, ?_⟩
    push_cast [rg_len]
    refine ⟨false, rfl, ?_⟩
    push_cast [rg_len]
    refine ⟨false, rfl, ?_⟩
    push_cast [rg_len]
    refine ⟨true, rfl, ?_⟩
    push_cast [rg_len]
    refine ⟨i, rfl, ?_⟩
    push_cast [rg_len]
    exact hk
  | bl b =>
    push_cast [n__law_same]
    refine ⟨false, rfl, ?_⟩
    push_cast [rg_len]
    refine ⟨false, rfl, ?_⟩
    push_cast [rg_len]
    refine ⟨true, rfl, ?_⟩
    push_cast [rg_len]
    refine ⟨true, rfl, ?_⟩
    push_cast [rg_len]
    exact hk
  | tup xs =>
    have := loop xs (.inl rfl) hx.1 hx.2
    refine seq_hide fun N hN => ?_
    push_cast [n__law_same]
    refine ⟨false, rfl, ?_⟩
    push_cast [rg_len]
    refine ⟨true, rfl, ?_⟩
    push_cast [rg_len]
    refine ⟨false, rfl, false, rfl, ?_⟩
    push_cast [rg_len]
    refine ⟨true, rfl, true, rfl, ?_⟩
    have := this { nx := N, rt := k } rfl
    revert this
    push_cast [rg_len]
    exact id
  | lst xs =>
    have := loop xs (.inr rfl) hx.1 hx.2
    refine seq_hide fun N hN => ?_
    push_cast [n__law_same]
    refine ⟨true, rfl, ?_⟩
    push_cast [rg_len]
    refine ⟨true, rfl, true, rfl, ?_⟩
    push_cast [rg_len]
    refine ⟨false, rfl, false, rfl, ?_⟩
    have := this { nx := N, rt := k } rfl
    revert this
    push_cast [rg_len]
    exact id
  | non => exact hx.elim
  | str _ => exact hx.elim
  | frz _ => exact hx.elim
  | dat _ _ _ => exact hx.elim
  | dic _ _ => exact hx.elim
theorem sm_fr (d : Nat) (r : Rat) : SmOk (d + 2) (fr r) := ⟨by show 2 ≤ 1000; omega, fun y hy => by
  rcases List.mem_cons.mp hy with e | hy
  · rw [e]; trivial
  · rcases List.mem_cons.mp hy with e | hy
    · rw [e]; trivial
    · cases hy⟩
theorem sm_rg {d n : Nat} {f : Nat → D} (hn : n ≤ 1000) (h : ∀ i, i < n → SmOk d (f i)) : SmOk (d + 1) (.lst (rg n f)) := ⟨by rw [rg_len]; exact hn, fun y hy => by
  obtain ⟨i, hi, e⟩ := mem_rg.mp hy
  rw [← e]; exact h i hi⟩
def S__law_unchanged : SpecT := fun ds k => ∃ t : Dt, ds = [dataD t, .int (t.g : Nat), buysD t, linksD t] ∧ t.Ok ∧ k (.bl true)
theorem k__law_unchanged : Keeps n__law_unchanged a__law_unchanged (b__law_unchanged (S__law_same 5)) S__law_unchanged := by
  rintro ds k ⟨t, rfl, ht, hk⟩
  have hn2 := ht.n2
  have hl2 := ht.nl2
  have hg2 := ht.g2
  have hB : SmOk 5 (buysD t) := sm_rg (by omega) fun i hi => ⟨by show 2 ≤ 1000; omega, fun y hy => by
    rcases List.mem_cons.mp hy with e | hy
    · rw [e]; exact sm_rg (by omega) fun j _ => sm_fr 0 _
    · rcases List.mem_cons.mp hy with e | hy
      · rw [e]; exact sm_rg (by omega) fun j _ => sm_fr 0 _
      · cases hy⟩
  have hL : SmOk 5 (linksD t) := sm_rg (by omega) fun i hi => ⟨by show 3 ≤ 1000; omega, fun y hy => by
    rcases List.mem_cons.mp hy with e | hy
    · rw [e]; trivial
    · rcases List.mem_cons.mp hy with e | hy
      · rw [e]; trivial
      · rcases List.mem_cons.mp hy with e | hy
        · rw [e]; trivial
        · cases hy⟩
  refine ⟨rfl, ?_⟩
  push_cast [b__law_unchanged, n__law_unchanged, dataD]
  refine ⟨_, rfl, trivial, ?_⟩
  push_cast [rg_len]
  refine ⟨_, rfl, hL, ?_⟩
  push_cast [rg_len]
  exact ⟨_, rfl, hB, hk⟩
end BB
end
section
set_option maxRecDepth 100000
set_option exponentiation.threshold 100
set_option maxHeartbeats 4000000
/-! law. -/
namespace BB
open PySem L2 MA
theorem LikZ.lk {t : Dt} {U W : Nat → Rat} {Sl : Nat → Nat → Rat} (h : LikZ t U W Sl) : (∀ i, i < t.n + 2 → sz 2030 (U i)) ∧ LkS 2100 t U W Sl := by
  obtain ⟨d, h0, h1, h2⟩ := h.u
  have h3 : ∀ i, i < t.n + 2 → sz 2030 (U i) := fun i hi => ((h2 i hi).sz (e := 2026) h0 (Nat.lt_of_le_of_lt h1 (Nat.pow_lt_pow_right (by omega) (by omega))) (Nat.pow_lt_pow_right (by omega) (by omega))).mono (by omega)
  exact ⟨h3, fun i hi => (h3 i hi).mono (by omega), h.w, h.s⟩
theorem liks_snoc {t : Dt} {m : Nat} {U W : Nat → Nat → Rat} {Sl : Nat → Nat → Nat → Rat} {U1 W1 : Nat → Rat} {S1 : Nat → Nat → Rat} (h : ∀ i, i < m → LkS 2100 t (U i) (W i) (Sl i)) (h1 : LkS 2100 t U1 W1 S1) :
    ∃ (U' W' : Nat → Nat → Rat) (Sl' : Nat → Nat → Nat → Rat), (∀ i, i < m + 1 → LkS 2100 t (U' i) (W' i) (Sl' i)) ∧ (rg m fun i => likD t (U i) (W i) (Sl i)) ++ [likD t U1 W1 S1] = rg (m + 1) fun i => likD t (U' i) (W' i) (Sl' i) := by
  refine ⟨fun i => if i < m then U i else U1, fun i => if i < m then W i else W1, fun i => if i < m then Sl i else S1, fun i hi => ?_, ?_⟩
  · dsimp only
    by_cases e : i < m
    · rw [if_pos e, if_pos e, if_pos e]; exact h i e
    · rw [if_neg e, if_neg e, if_neg e]; exact h1
  · rw [rg_snoc]
    refine rg_congr fun i _ => ?_
    dsimp only
    by_cases e : i < m
    · rw [if_pos e, if_pos e, if_pos e, if_pos e]
    · rw [if_neg e, if_neg e, if_neg e, if_neg e]
theorem refs_snoc2 {t : Dt} {m c1 : Nat} {c : Nat → Nat} {P : Nat → Nat → Nat → Rat} {Q G : Nat → Nat → Rat} {P1 : Nat → Nat → Rat} {Q1 G1 : Nat → Rat} (h : ∀ i, i < m → 1 ≤ c i ∧ c i ≤ 2 ∧ RefZ t (c i) (P i) (Q i) (G i)) (h1 : 1 ≤ c1 ∧ c1 ≤ 2 ∧ RefZ t c1 P1 Q1 G1) :
    ∃ (c' : Nat → Nat) (P' : Nat → Nat → Nat → Rat) (Q' G' : Nat → Nat → Rat), (∀ i, i < m + 1 → 1 ≤ c' i ∧ c' i ≤ 2 ∧ RefZ t (c' i) (P' i) (Q' i) (G' i)) ∧ (rg m fun i => refD t (c i) (P i) (Q i) (G i)) ++ [refD t c1 P1 Q1 G1] = rg (m + 1) fun i => refD t (c' i) (P' i) (Q' i) (G' i) := by
  refine ⟨fun i => if i < m then c i else c1, fun i => if i < m then P i else P1, fun i => if i < m then Q i else Q1, fun i => if i < m then G i else G1, fun i hi => ?_, ?_⟩
  · dsimp only
    by_cases e : i < m
    · rw [if_pos e, if_pos e, if_pos e, if_pos e]; exact h i e
    · rw [if_neg e, if_neg e, if_neg e, if_neg e]; exact h1
  · rw [rg_snoc]
    refine rg_congr fun i _ => ?_
    dsimp only
    by_cases e : i < m
    · rw [if_pos e, if_pos e, if_pos e, if_pos e, if_pos e]
    · rw [if_neg e, if_neg e, if_neg e, if_neg e, if_neg e]
def gs : Nat → Gl
  | 0 => .fi
  | 1 => .al
  | _ => .se
def goalsD : D := .lst [.str "first", .str "alike", .str "second"]
theorem ix_gs {c : Nat} (hc : c < 3) (k : Kd → D → Prop) : ixD .s goalsD (.int (c : Nat)) k = k .s (.str (gs c).s) := by
  unfold goalsD
  rcases (show c = 0 ∨ c = 1 ∨ c = 2 by omega) with e | e | e <;> subst e
  · exact ix_go (.inl rfl) (by rw [atI_nat]; rfl)
  · exact ix_go (.inl rfl) (by rw [atI_nat]; rfl)
  · exact ix_go (.inl rfl) (by rw [atI_nat]; rfl)
theorem ng_pos (go : Gl) : 1 ≤ ng go := by cases go <;> simp only [ng] <;> omega
def S_likes : SpecT := S_likes' NoRing
def S_law : SpecT := fun ds k => ∃ ns : List Int, ds = [.frz ns] ∧ k (.bl true)
theorem k_law : Keeps n_law a_law (b_law S__law_small S__law_two_baskets S__law_made S__law_row S_likes S__law_is_liking S__law_one_accepted S__law_likings S__law_is_refusal S__law_one_refused S__law_refusals S__law_unchanged) S_law := by
  rintro ds k ⟨ns, rfl, hk⟩
  refine ⟨rfl, ?_⟩
  unfold b_law
  refine seq_hide fun N hN => ?_
  push_cast [n_law]
  refine ⟨ns, rfl, fun t ht hr => ?_⟩
  have hn2 := ht.n2
  have hl2 := ht.nl2
  have hg2 := ht.g2
  push_cast [rg_len]
  (refine hN _ ?_; clear hN N)
  refine seq_hide fun N hN => ?_
  push_cast [rg_len]
  refine ⟨ns, t, rfl, ht, fun F S hb => ?_⟩
  push_cast [rg_len]
  (refine hN _ ?_; clear hN N)
  refine seq_hide fun N hN => ?_
  push_cast [rg_len]
  refine ⟨t, rfl, ht, ?_⟩
  push_cast [rg_len]
  (refine hN _ ?_; clear hN N)
  refine seq_hide fun N hN => ?_
  push_cast [rg_len]
  refine ⟨ns, 10, 6, rfl, by omega, by omega, fun r hr6 => ?_⟩
  push_cast [rg_len]
  (refine hN _ ?_; clear hN N)
  refine seq_hide fun N hN => ?_
  push_cast [rg_len]
  (refine hN _ ?_; clear hN N)
  refine seq_hide fun N hN => ?_
  dsimp! [ix_rgZ]
  obtain ⟨c, hc, hc2⟩ := ex_mod (x := ((r (3 : Int).toNat : Nat) : Int)) (m := 3) (by decide)
  rw [hc]
  refine ⟨by decide, ?_⟩
  (refine hN _ ?_; clear hN N)
  refine seq_hide fun N hN => ?_
  push_cast [rg_len]
  (refine hN _ ?_; clear hN N)
  refine seq_hide fun N hN => ?_
  push_cast [rg_len]
  (refine hN _ ?_; clear hN N)
  refine seq_hide fun N hN => ?_
  push_cast [rg_len]
  rw [show ((2 : Int)).toNat = 2 from rfl]
  refine ⟨⟨by decide, by decide⟩, for_rg (fun i env => ∃ (m : Nat) (U W : Nat → Nat → Rat) (Sl : Nat → Nat → Nat → Rat) (mr : Nat) (cr : Nat → Nat) (P : Nat → Nat → Nat → Rat) (Q G : Nat → Nat → Rat) (s12 s13 s14 : BB.Sl), m ≤ 3 * i ∧ (∀ l, l < m → LkS 2100 t (U l) (W l) (Sl l)) ∧ mr ≤ i ∧ (∀ l, l < mr → 1 ≤ cr l ∧ cr l ≤ 2 ∧ RefZ t (cr l) (P l) (Q l) (G l)) ∧
    env = [.sh (.frz ns), .sh (.int (t.g : Nat)), .sh (buysD t), .sh (linksD t), .sh (vec t.g F), .sh (vec t.g S), .sh (dataD t), .sh (.lst (rg 6 fun i => .int (r i : Nat))), .sh goalsD, .sh (.int (c : Nat)), .sh (.lst (rg m fun l => likD t (U l) (W l) (Sl l))), .ow (rg mr fun l => refD t (cr l) (P l) (Q l) (G l)), s12, s13, s14, .no, .no, .no])
    ⟨0, fun _ _ => 0, fun _ _ => 0, fun _ _ _ => 0, 0, fun _ => 0, fun _ _ _ => 0, fun _ _ => 0, fun _ _ => 0, _, _, _, by omega, fun _ h => by omega, by omega, fun _ h => by omega, rfl⟩ ?_ ?_⟩
  · rintro i env K hi ⟨m, U, W, Sl, mr, cr, P, Q, G, s12, s13, s14, hm, hU, hmr, hP, rfl⟩ hK
    unfold gName'
    dsimp only
    refine seq_hide fun N hN => ?_
    dsimp! [ix_rgZ]
    obtain ⟨c1, hc1, hc12⟩ := ex_mod (x := ((c : Nat) : Int) + ((i : Nat) : Int) * (1 + ((r (4 : Int).toNat : Nat) : Int) % 2)) (m := 3) (by decide)
    rw [hc1]
    refine ⟨by decide, small_mul (by have : (2 : Nat) ^ 64 = 18446744073709551616 := by decide
                                     omega), by decide, ?_⟩
    rw [ix_gs (by omega)]
    push_cast [rg_len]
    (refine hN _ ?_; clear hN N)
    refine seq_hide fun N hN => ?_
    push_cast [rg_len]
    refine ⟨t, F, S, gs c1, rfl, ht, hb, hr, fun U1 W1 S1 hz hok => ?_, fun P1 Q1 G1 hz hok => ?_⟩
    · obtain ⟨hu, hlk⟩ := hz.lk
      push_cast [rg_len]
      (refine hN _ ?_; clear hN N)
      refine seq_hide fun N hN => ?_
      push_cast [rg_len]
      refine ⟨true, rfl, ?_⟩
      push_cast [rg_len]
      (refine hN _ ?_; clear hN N)
      refine seq_hide fun N hN => ?_
      have fin : (sSeq (sSet (gName' 10) (pAdd (pVar 10) (pCall S__law_likings (aCons (pVar 7) (aCons (pIx (pVar 8) (pVar 9)) (aCons (pIx (pVar 14) (pC (.int 1))) aNil))))))
 sNext) { nx := N, rt := k } [.sh (.frz ns), .sh (.int (t.g : Nat)), .sh (buysD t), .sh (linksD t), .sh (vec t.g F), .sh (vec t.g S), .sh (dataD t), .sh (.lst (rg 6 fun i => .int (r i : Nat))), .sh goalsD, .sh (.int (c : Nat)), .sh (.lst (rg m fun l => likD t (U l) (W l) (Sl l))), .ow (rg mr fun l => refD t (cr l) (P l) (Q l) (G l)), .sh (.int (i : Nat)), .sh (.str (gs c1).s), .sh (.tup [.str "can", likD t U1 W1 S1]), .no, .no, .no] := by
        push_cast [rg_len]
        rw [ix_gs (by omega)]
        push_cast [rg_len]
        refine ⟨t, r, gs c, U1, W1, S1, rfl, ht, hu, fun U2 U3 h2 h3 => ?_⟩
        obtain ⟨Ua, Wa, Sa, a1, a2⟩ := liks_snoc hU hlk
        obtain ⟨Ub, Wb, Sb, b1, b2⟩ := liks_snoc a1 ⟨h2, hlk.w, hlk.s⟩
        obtain ⟨Uc, Wc, Sc, c1, c2⟩ := liks_snoc b1 ⟨h3, hlk.w, hlk.s⟩
        push_cast [rg_len]
        rw [show (rg m fun l => likD t (U l) (W l) (Sl l)) ++ [likD t U1 W1 S1, likD t U2 W1 S1, likD t U3 W1 S1] = (((rg m fun l => likD t (U l) (W l) (Sl l)) ++ [likD t U1 W1 S1]) ++ [likD t U2 W1 S1]) ++ [likD t U3 W1 S1] by simp, a2, b2, c2]
        refine ⟨by omega, hN _ ?_⟩
        push_cast [rg_len]
        exact hK _ ⟨m + 3, Uc, Wc, Sc, mr, cr, P, Q, G, _, _, _, by omega, c1, by omega, hP, rfl⟩
      unfold buysD at fin ⊢
      push_cast [rg_len]
      refine ⟨t, U1, W1, S1, rfl, ht, hlk, ?_⟩
      push_cast [rg_len]
      by_cases h0 : i = 0
      · subst h0
        have e0 : decide (((0 : Nat) : Int) = 0) = true := by decide
        push_cast [e0]
        refine ⟨t, F, S, gs c1, 1, fun _ => U1, fun _ => W1, fun _ => S1, rfl, ht, hb, fun _ _ => hlk, fun r1 hr1 => ?_⟩
        have e1 : r1 = true := hr1.mpr ⟨0, by omega, hok⟩
        subst e1
        revert fin
        push_cast [rg_len]
        exact id
      · have e0 : decide (((i : Nat) : Int) = 0) = false := decide_eq_false (by omega)
        rw [e0]
        revert fin
        push_cast [rg_len]
        exact id
    · push_cast [rg_len]
      (refine hN _ ?_; clear hN N)
      refine seq_hide fun N hN => ?_
      push_cast [rg_len]
      refine ⟨true, rfl, ?_⟩
      push_cast [rg_len]
      (refine hN _ ?_; clear hN N)
      refine seq_hide fun N hN => ?_
      have fin : (sSeq (sApp 11 (pIx (pVar 14) (pC (.int 1))))
 sNext) { nx := N, rt := k } [.sh (.frz ns), .sh (.int (t.g : Nat)), .sh (buysD t), .sh (linksD t), .sh (vec t.g F), .sh (vec t.g S), .sh (dataD t), .sh (.lst (rg 6 fun i => .int (r i : Nat))), .sh goalsD, .sh (.int (c : Nat)), .sh (.lst (rg m fun l => likD t (U l) (W l) (Sl l))), .ow (rg mr fun l => refD t (cr l) (P l) (Q l) (G l)), .sh (.int (i : Nat)), .sh (.str (gs c1).s), .sh (.tup [.str "cannot", refD t (ng (gs c1)) P1 Q1 G1]), .no, .no, .no] := by
        push_cast [rg_len]
        obtain ⟨cr', P', Q', G', a1, a2⟩ := refs_snoc2 hP ⟨ng_pos (gs c1), ng_le (gs c1), hz⟩
        rw [a2]
        refine ⟨by omega, hN _ ?_⟩
        push_cast [rg_len]
        exact hK _ ⟨m, U, W, Sl, mr + 1, cr', P', Q', G', _, _, _, by omega, hU, by omega, a1, rfl⟩
      have h1 : ¬ (("cannot" : Str) = "can") := by decide
      unfold buysD linksD at fin ⊢
      push_cast [h1]
      refine ⟨t, gs c1, P1, Q1, G1, rfl, ht, hz, ?_⟩
      push_cast [rg_len]
      by_cases h0 : i = 0
      · subst h0
        have e0 : decide (((0 : Nat) : Int) = 0) = true := by decide
        push_cast [e0]
        refine ⟨t, F, S, gs c1, 1, fun _ => P1, fun _ => Q1, fun _ => G1, rfl, ht, hb, fun _ _ => hz, fun r1 hr1 => ?_⟩
        have e1 : r1 = true := hr1.mpr ⟨0, by omega, hok⟩
        subst e1
        revert fin
        push_cast [rg_len]
        exact id
      · have e0 : decide (((i : Nat) : Int) = 0) = false := decide_eq_false (by omega)
        rw [e0]
        revert fin
        push_cast [rg_len]
        exact id
  · rintro env ⟨m, U, W, Sl, mr, cr, P, Q, G, s12, s13, s14, hm, hU, hmr, hP, rfl⟩
    (refine hN _ ?_; clear hN N)
    refine seq_hide fun N hN => ?_
    push_cast [rg_len]
    (refine hN _ ?_; clear hN N)
    refine seq_hide fun N hN => ?_
    unfold buysD linksD
    push_cast [rg_len]
    rw [ix_gs (by omega)]
    push_cast [rg_len]
    refine ⟨ns, t, gs c, mr, cr, P, Q, G, rfl, ht, by omega, hP, fun m' P' Q' G' hz => ?_⟩
    push_cast [rg_len]
    (refine hN _ ?_; clear hN N)
    refine seq_hide fun N hN => ?_
    push_cast [rg_len]
    rw [ix_gs (by omega)]
    push_cast [rg_len]
    refine ⟨t, F, S, gs c, m, U, W, Sl, rfl, ht, hb, hU, fun r1 hr1 => ?_⟩
    push_cast [rg_len]
    (refine hN _ ?_; clear hN N)
    refine seq_hide fun N hN => ?_
    push_cast [rg_len]
    rw [ix_gs (by omega)]
    push_cast [rg_len]
    refine ⟨t, F, S, gs c, m', P', Q', G', rfl, ht, hb, hz, fun r2 hr2 => ?_⟩
    push_cast [rg_len]
    (refine hN _ ?_; clear hN N)
    push_cast [rg_len]
    have h12 : r1 = true → r2 = true → False := fun h1 h2 => by
      obtain ⟨i, hi, a⟩ := hr1.mp h1
      obtain ⟨j, hj, b⟩ := hr2.mp h2
      exact never_both ht a b
    have fin : S__law_unchanged [dataD t, .int (t.g : Nat), buysD t, linksD t] k := ⟨t, rfl, ht, hk⟩
    cases r1
    · push_cast [rg_len]
      exact fin
    · cases r2
      · push_cast [rg_len]
        exact fin
      · exact (h12 rfl rfl).elim
end BB
end
section
set_option maxRecDepth 100000
set_option exponentiation.threshold 100
set_option maxHeartbeats 4000000
/-! Data's __init__. -/
namespace BB
open PySem L2 MA PyProof.Rows
def nI : List Str := ["self", "goods", "buys", "links", "prices", "amounts"]
def aI : List Str := ["self", "goods", "buys", "links"]
def pI : Par := ⟨nI, [], [], [], [], [], false⟩
def stI (i : Nat) : Stmt := (defBody sInit).getD i (.Pass ⟨0, 0, 0, 0⟩)
def fldV : Stmt → Option (Str × Expr)
  | .Assign [.Attribute (.Name x _) f _] v _ => if x = "self" then some (f, v) else none
  | _ => none
def vI (i : Nat) : Expr := match fldV (stI i) with
  | some (_, v) => v
  | none => .Name "self" ⟨0, 0, 0, 0⟩
abbrev bI : Bl := ⟨defScope sInit, fun _ => true⟩
theorem init_body : defBody sInit = [stI 0, stI 1, stI 2] := by kernel_rfl
theorem fld0 : fldV (stI 0) = some (At.goods.nm, vI 0) := by kernel_rfl
theorem fld1 : fldV (stI 1) = some (At.buys.nm, vI 1) := by kernel_rfl
theorem fld2 : fldV (stI 2) = some (At.links.nm, vI 2) := by kernel_rfl
noncomputable def e1I : PE' := pF (fComp (iList' (pVar 2)) (gTup' 2 (gCons' (gName' 4) (gCons' (gName' 5) gNil'))) tYes' (pTup (aCons (pF (fList (pVar 4))) (aCons (pF (fList (pVar 5))) aNil))) [4, 5])
theorem val0 : (fnsN pI 40).E bI (vI 0) = some (pVar 1) := by kernel_rfl
theorem val1 : (fnsN pI 40).E bI (vI 1) = some e1I := by kernel_rfl
theorem val2 : (fnsN pI 40).E bI (vI 2) = some (pF (fList (pVar 3))) := by kernel_rfl
theorem scI : FnScope nI aI (defScope sInit) := C8.fnScope_by (by kernel_rfl)
theorem fldV_ok {c : Ctx} {X : Cx} {st : Stmt} {f : Str} {v : Expr} {te : TE} (h : fldV st = some (f, v)) (hN : c.N = nI) (hX : In c bI X) (hv : L2.PE X v te) : PS X st (sFld c.W.K (tVar 0) te f) := by
  unfold fldV at h
  split at h
  · rename_i x px f' pa v' pos
    split at h
    · rename_i hx
      cases h
      subst hx
      rw [← hX.x.K]
      refine ps_fld (pe_nm (p := pI) hN (by rfl) (by decide +kernel) X hX) hv ?_
      cases v <;> rfl
    · cases h
  · cases h
structure IJ (W : Wc) (Ha H1 : Hp) (x dx : Addr) (σ : L2.St) (env : Env) (fs : List (Str × V)) (Hm H : Hp) : Prop where
  rep : Rep W (fun _ => none) Hm H σ env
  me : H x = some (.ins W.C dx fs)
  mn : Hm x = none
  ex : Ex H1 H
  fr : ∀ a o, Hm a = some o → Ha a = some o ∨ H1 a = none
theorem IJ.fld {W : Wc} {Ha H1 Hm H : Hp} {x dx : Addr} {σ : L2.St} {env : Env} {fs : List (Str × V)} {te : TE} {p : PE'} {d : D} {Z : Ends} (J : IJ W Ha H1 x dx σ env fs Hm H) (s : SndE W te p) (c : DatOk W) (f : At) (h1x : H1 x = none) (hself : σ[0]? = some (some (.ref x))) (hfs : fs.length < 1000)
    (hp : p env fun kd d' => kd = .s ∧ d' = d) (henv : ∀ (i : Nat) (sl : Sl), env[i]? = some sl → sl = .no ∨ ∃ d, sl = .sh d)
    (q : ∀ v Hm' H', IJ W Ha H1 x dx σ env (putF f.nm v fs) Hm' H' → Ex Hm Hm' → Is W Hm' d v → Z.nx σ H') : sFld W.K (tVar 0) te f.nm Z σ H := by
  refine s _ Hm H σ env _ _ J.rep hp fun v kd d' Hm' H' g hi hk => ?_
  obtain ⟨rfl, rfl⟩ := hk
  have hm' : Hm' x = none := by
    cases e : Hm' x with
    | none => rfl
    | some o =>
      rcases g.fresh x o e with q | q
      · rw [J.mn] at q; cases q
      · rw [J.me] at q; cases q
  have hme : H' x = some (.ins W.C dx fs) := g.ex _ _ J.me
  refine ⟨.ref x, hself, x, W.C, dx, fs, rfl, hme, c.cl, c.na f, hfs, q v Hm' _ ?_ g.exm hi⟩
  have R' := J.rep.grow g
  refine ⟨⟨R'.len, g.sub.mut hm', (fun a i e => by cases e), fun i sl e => ?_⟩, upd_same, hm', (J.ex.trans g.ex).mut h1x, fun a o e => ?_⟩
  · have z := R'.slots i sl e
    rcases henv i sl e with q | ⟨d, q⟩
    · subst q; trivial
    · subst q; exact z
  · rcases g.fresh a o e with q | q
    · exact J.fr a o q
    · exact .inr (J.ex.back q)
def spI (W : Wc) : Sp := fun vs H Q _ => ∃ (H1 Ha : Hp) (t : Dt) (x dx : Addr) (us : List V), vs = .ref x :: us ∧ H = upd (upd H1 dx (.own x)) x (.ins W.C dx []) ∧ H1 x = none ∧ H1 dx = none ∧ dx ≠ x ∧ Ex Ha H1 ∧ IsAll W Ha [.int (t.g : Nat), buysD t, linksD t] us ∧ t.n ≤ 100 ∧ t.nl ≤ 100 ∧
  ∀ H', Ex H1 H' → Is W (join Ha H1 H') (dataD t) (.ref x) → Q .non H'
theorem make_snd (W : Wc) (ta : TA) (pr : PA') (hr : SndA W ta pr) : SndE W (tMake W.C (spI W) [] E0 ta) (pCall S_Data pr) := fun O Hm H σ env Q k R h q =>
  hr O Hm H σ env _ _ R h fun vs b ds Hm1 H1 g1 i1 h1 => by
    have R1 := R.grow g1
    obtain ⟨t, rfl, hn, hl, hk⟩ := h1
    intro x dx hx hdx hne
    rw [List.append_nil]
    cases b with
    | true => exact ⟨H1, Hm1, t, x, dx, vs, rfl, rfl, hx, hdx, hne, R1.sub, i1, hn, hl, fun H' e hi => ⟨rfl, q _ (kB true (dataD t)) (dataD t) _ H' (g1.trans (grow_join R1.sub e)) hi hk⟩⟩
    | false =>
      refine ⟨H1, BB.uni O Hm1 H1, t, x, dx, vs, rfl, rfl, hx, hdx, hne, R1.uniSub, i1, hn, hl, fun H' e hi => ⟨rfl, ?_⟩⟩
      have g2 := grow_join R1.sub e
      exact q _ _ _ _ H' (g1.trans g2) (IsK.kN (R1.grow g2) (hi.mono (join_uni R1 e))) hk
theorem init_ok {P : Program} {w : World} {K : PySem.W.Frag} {mg : Str → Option Value} {base : Heap} {C : Addr} {f : Addr} {fd : FuncData} {k : Nat} (F : FunD K "__init__" "Data.__init__" (defArgs sInit) (defBody sInit) (defScope sInit) [] [] f fd)
    (g : GOk ⟨⟨P, w, K, C⟩, mg, base, nI, k⟩ [] []) : FnOk P w K mg base CX0 (k + 1) f fd aI (spI ⟨P, w, K, C⟩) := by
  have ok := fnsN_ok (c := ⟨⟨P, w, K, C⟩, mg, base, nI, k⟩) (p := pI) (cs := []) rfl g rfl 40
  obtain ⟨⟨t0, a0, b0⟩, _⟩ := ok.E bI _ _ val0
  obtain ⟨⟨t1, a1, b1⟩, _⟩ := ok.E bI _ _ val1
  obtain ⟨⟨t2, a2, b2⟩, _⟩ := ok.E bI _ _ val2
  refine F.ok scI (fun vs H Q E h => ?_) (fun cdv A outer s H vs Q E hr h => ?_)
  · obtain ⟨H1, Ha, t, x, dx, us, rfl, _, _, _, _, _, hi, _⟩ := h
    show us.length + 1 = _
    rw [hi.length]; rfl
  · obtain ⟨H1, Ha, t, x, dx, us, rfl, rfl, hx, hdx, hne, he, hi, hn, hl, hq⟩ := h
    have hX := in_def (P := P) (w := w) (K := K) (mg := mg) (base := base) (C := C) (x := "__init__") (qual := "Data.__init__") (params := defArgs sInit) (body := defBody sInit) (fd := fd) (k := k) (H := upd (upd H1 dx (.own x)) x (.ins C dx [])) (E := E) (outer := outer) (s := s) scI hr
    refine ⟨tSeq (sFld K (tVar 0) t0 At.goods.nm) (tSeq (sFld K (tVar 0) t1 At.buys.nm) (sFld K (tVar 0) t2 At.links.nm)), ?_, ?_⟩
    · rw [init_body]
      exact PSs.nox (pss_cons (fldV_ok fld0 rfl hX (a0 _ hX).1) (pss_cons (fldV_ok fld1 rfl hX (a1 _ hX).1) (pss_one (fldV_ok fld2 rfl hX (a2 _ hX).1))))
    · simp only [IsAll] at hi
      obtain ⟨v1, r1, rfl, i1, v2, r2, rfl, i2, v3, r3, rfl, i3, rfl⟩ := hi
      let σ : L2.St := start nI [.ref x, v1, v2, v3]
      let env : Env := [.no, .sh (.int (t.g : Nat)), .sh (buysD t), .sh (linksD t), .no, .no]
      have hes : Ex H1 (upd (upd H1 dx (.own x)) x (.ins C dx [])) := fun a o e => by
        rw [upd_ne (ne_of_none e hx), upd_ne (ne_of_none e hdx)]; exact e
      have hAx : Ha x = none := he.back hx
      have henv : ∀ (i : Nat) (sl : Sl), env[i]? = some sl → sl = .no ∨ ∃ d, sl = .sh d := fun i sl e => by
        match i, e with
        | 0, e => cases e; exact .inl rfl
        | 1, e => cases e; exact .inr ⟨_, rfl⟩
        | 2, e => cases e; exact .inr ⟨_, rfl⟩
        | 3, e => cases e; exact .inr ⟨_, rfl⟩
        | 4, e => cases e; exact .inl rfl
        | 5, e => cases e; exact .inl rfl
        | i + 6, e => cases e
      have J0 : IJ ⟨P, w, K, C⟩ Ha H1 x dx σ env [] Ha (upd (upd H1 dx (.own x)) x (.ins C dx [])) := by
        refine ⟨⟨rfl, he.trans hes, (fun a i e => by cases e), fun i sl e => ?_⟩, upd_same, hAx, hes, fun a o e => .inl e⟩
        match i, e with
        | 0, e => cases e; trivial
        | 1, e => cases e; exact ⟨v1, rfl, i1⟩
        | 2, e => cases e; exact ⟨v2, rfl, i2⟩
        | 3, e => cases e; exact ⟨v3, rfl, i3⟩
        | 4, e => cases e; trivial
        | 5, e => cases e; trivial
        | i + 6, e => cases e
      refine J0.fld b0 g.dat .goods hx rfl (by decide) (d := .int (t.g : Nat)) ⟨rfl, rfl⟩ henv fun u1 Hm1 Hh1 J1 x1 k1 => ?_
      have l1 : (putF At.goods.nm u1 []).length < 1000 := by have := length_putF At.goods.nm u1 []; simp at this; omega
      refine J1.fld b1 g.dat .buys hx rfl l1 (d := buysD t) ?_ henv fun u2 Hm2 Hh2 J2 x2 k2 => ?_
      · have e1 : ∀ K : Kd → D → Prop, K .s (buysD t) → e1I env K := fun K hK => by
          show e1I [.no, .sh (.int (t.g : Nat)), .sh (buysD t), .sh (linksD t), .no, .no] K
          unfold buysD at hK ⊢
          push_cast [e1I]
          refine ⟨by omega, comp_rg (fun i => .tup [vec t.g (t.P i), vec t.g (t.Am i)]) (fun i K hi hK => ?_) hK⟩
          unfold gTup' gCons' gNil' gName'
          dsimp only
          refine ⟨rfl, rfl, ?_⟩
          push_cast [rg_len]
          exact hK
        exact e1 _ ⟨rfl, rfl⟩
      have l2 : (putF At.buys.nm u2 (putF At.goods.nm u1 [])).length < 1000 := by have := length_putF At.buys.nm u2 (putF At.goods.nm u1 []); have := length_putF At.goods.nm u1 []; simp at this; omega
      refine J2.fld b2 g.dat .links hx rfl l2 (d := linksD t) ?_ henv fun u3 Hm3 Hh3 J3 x3 k3 => ?_
      · have e2 : ∀ K : Kd → D → Prop, K .s (linksD t) → pF (fList (pVar 3)) env K := fun K hK => by
          show pF (fList (pVar 3)) [.no, .sh (.int (t.g : Nat)), .sh (buysD t), .sh (linksD t), .no, .no] K
          unfold linksD at hK ⊢
          push_cast [rg_len]
          exact hK
        exact e2 _ ⟨rfl, rfl⟩
      refine hq Hh3 J3.ex ?_
      have hj : Ex Hm3 (join Ha H1 Hh3) := fun a o e => by
        unfold join
        cases q : H1 a with
        | none => rw [if_neg (by simp)]; exact J3.rep.sub a o e
        | some o' =>
          rw [if_pos (show (some o').isSome = true from rfl)]
          rcases J3.fr a o e with z | z
          · exact z
          · rw [q] at z; cases z
      unfold dataD
      simp only [Is]
      refine ⟨x, dx, u1, u2, u3, rfl, ?_, ?_, (k2.mono x3).mono hj, k3.mono hj⟩
      · unfold join
        rw [hx, if_neg (by simp)]
        exact J3.me
      · simpa only [Is] using k1
end BB
end
section
set_option maxRecDepth 100000
set_option maxHeartbeats 0
/-! Each def keeps its promise; the law holds. Printed by cal.py. -/
namespace BB
open PySem PySem.Spec PyProof.Rows L2
def Cal (W : Wc) (mg : Str → Option Value) (base : Heap) (j : Nat) (x : Str) (sp : Sp) : Prop := ∃ f fd ps, mg x = some (.ref f) ∧ PySem.W.keepIn W.K (.ref f) = true ∧ FnOk W.P W.w W.K mg base CX0 j f fd ps sp ∧ Binds W.K fd ps []
def GoodE (W : Wc) (mg : Str → Option Value) (base : Heap) (k : Nat) : Str × GE → Prop
  | (x, .call S) => ∃ j, j ≤ k ∧ Cal W mg base j x (spOf W S)
  | (x, .fresh S) => ∃ j, j ≤ k ∧ Cal W mg base j x (spFr W S)
  | (x, .make S) => ∃ sp f fd ps j, Mk W.K W.C f ∧ FnOk W.P W.w W.K mg base CX0 j f fd ps sp ∧ j + 1 ≤ k ∧ mg x = some (.ref W.C) ∧ Binds W.K fd ps [] ∧ ∀ ta pr, SndA W ta pr → SndE W (tMake W.C sp [] E0 ta) (pCall S pr)
  | (_, .never) => True
def AllG (W : Wc) (mg : Str → Option Value) (base : Heap) (k : Nat) : List (Str × GE) → Prop
  | [] => True
  | e :: G => GoodE W mg base k e ∧ AllG W mg base k G
theorem allG_get {W : Wc} {mg : Str → Option Value} {base : Heap} {k : Nat} : ∀ {G : List (Str × GE)}, AllG W mg base k G → ∀ {x : Str} {e : GE}, G.lookup x = some e → GoodE W mg base k (x, e)
  | [], _, x, e, h => by cases h
  | (y, u) :: G, hG, x, e, h => by
    rw [List.lookup_cons] at h
    by_cases q : x = y
    · subst q
      rw [beq_self_eq_true] at h
      cases h
      exact hG.1
    · rw [beq_false_of_ne q] at h
      exact allG_get hG.2 h
structure Tx (W : Wc) (mg : Str → Option Value) (h : Heap) : Prop where
  X : W.K.In h
  G : h.Ns mainGlobals mg
  c : SaysP faL fnL exB W.K
  C : W.C = He.ga W.K "Data"
section
variable {W : Wc} {mg : Str → Option Value} {base h : Heap}
theorem Tx.ex (T : Tx W mg h) : PySem.W.nsIn W.K mainGlobals "gcd" = some (some (.builtin "math.gcd")) ∧ He.tupB W.K "ZERO" [.int 0, .int 1] = true ∧ He.tupB W.K "ONE" [.int 1, .int 1] = true := by
  obtain ⟨h1, h2⟩ := He.ba (show (He.eqO (PySem.W.nsIn W.K mainGlobals "gcd") (some (some (.builtin "math.gcd"))) && (He.tupB W.K "ZERO" [.int 0, .int 1] && He.tupB W.K "ONE" [.int 1, .int 1])) = true from T.c.2)
  obtain ⟨h3, h4⟩ := He.ba h2
  exact ⟨He.eqO_ok h1, h3, h4⟩
theorem Tx.glo (T : Tx W mg h) {x : Str} (i : Nat) (hi : faL[i]? = some (.glo x)) : mg x = some (.ref (He.ga W.K x)) := He.glo_ok T.X T.G (T.c.1.fact i hi)
theorem Tx.dat (T : Tx W mg h) : DatOk W := by
  refine ⟨?_, fun f => ?_⟩
  · rw [T.C]; exact He.cls_ok (T.c.1.fact 0 (f := .cls "Data") rfl)
  · rw [T.C]
    cases f with
    | goods => exact He.noat_ok (T.c.1.fact 1 (f := .noat "Data" "goods") rfl)
    | buys => exact He.noat_ok (T.c.1.fact 2 (f := .noat "Data" "buys") rfl)
    | links => exact He.noat_ok (T.c.1.fact 3 (f := .noat "Data" "links") rfl)
theorem tup_is {x : Str} {i j : Int} (c : He.tupB W.K x [.int i, .int j] = true) (H : Hp) : Is W H (.tup [.int i, .int j]) (.ref (He.ga W.K x)) := by
  simp only [Is, IsAll]
  exact ⟨_, _, rfl, He.tupB_ok c H, _, _, rfl, rfl, _, _, rfl, rfl, rfl⟩
theorem gok (T : Tx W mg h) {G : List (Str × GE)} {cs : List (Str × D)} {N : List Str} {k : Nat} (hG : AllG W mg base k G) (hcs : ∀ x d, cs.lookup x = some d → (x = "ZERO" ∧ d = zD) ∨ (x = "ONE" ∧ d = oD)) (nd : N.Nodup) : GOk ⟨W, mg, base, N, k⟩ G cs where
  call := fun x S hx => by
    obtain ⟨j, hj, f, fd, ps, h1, h2, h3, h4⟩ := allG_get hG hx
    exact ⟨f, fd, ps, j, h1, h2, h3, h4, hj⟩
  fresh := fun x S hx => by
    obtain ⟨j, hj, f, fd, ps, h1, h2, h3, h4⟩ := allG_get hG hx
    exact ⟨f, fd, ps, j, h1, h2, h3, h4, hj⟩
  make := fun x S hx => allG_get hG hx
  cst := fun x d hx => by
    obtain ⟨_, h2, h3⟩ := T.ex
    rcases hcs x d hx with ⟨rfl, rfl⟩ | ⟨rfl, rfl⟩
    · exact ⟨_, T.glo 6 rfl, fun H => tup_is h2 H⟩
    · exact ⟨_, T.glo 7 rfl, fun H => tup_is h3 H⟩
  blt := fun x hx => by
    have z : ∀ (i : Nat), faL[i]? = some (He.Fa.free x) → mg x = none := fun i hi => He.free_ok T.X T.G (T.c.1.fact i hi)
    unfold bltNames at hx
    simp only [List.mem_cons, List.not_mem_nil, or_false] at hx
    rcases hx with e | e | e | e | e | e | e | e | e | e | e <;> subst e
    · exact z 8 rfl
    · exact z 9 rfl
    · exact z 10 rfl
    · exact z 11 rfl
    · exact z 12 rfl
    · exact z 13 rfl
    · exact z 14 rfl
    · exact z 15 rfl
    · exact z 16 rfl
    · exact z 17 rfl
    · exact z 18 rfl
  gcd := PySem.W.mg_of T.X T.G T.ex.1
  dat := T.dat
  nd := nd
theorem cs0 : ∀ (x : Str) (d : D), ([] : List (Str × D)).lookup x = some d → (x = "ZERO" ∧ d = zD) ∨ (x = "ONE" ∧ d = oD) := fun x d h => by cases h
theorem cs_cons {y : Str} {u : D} {cs : List (Str × D)} (hu : (y = "ZERO" ∧ u = zD) ∨ (y = "ONE" ∧ u = oD)) (hcs : ∀ x d, cs.lookup x = some d → (x = "ZERO" ∧ d = zD) ∨ (x = "ONE" ∧ d = oD)) : ∀ (x : Str) (d : D), ((y, u) :: cs).lookup x = some d → (x = "ZERO" ∧ d = zD) ∨ (x = "ONE" ∧ d = oD) := fun x d h => by
  rw [List.lookup_cons] at h
  by_cases q : x = y
  · subst q
    rw [beq_self_eq_true] at h
    cases h
    exact hu
  · rw [beq_false_of_ne q] at h
    exact hcs x d h
/-- how n arguments bind -/
def BindN (x : Str) (i : Nat) (ps : List Str) : Prop := ∀ (kV doc pm : Value) (an : Option Addr) (cdv ct : Value) (us : List Value), us.length = ps.length → bindArgs (PySem.W.fnOf x x (defArgs (top i)) (defBody (top i)) (defScope (top i)) .none kV doc pm an cdv ct) ⟨us, []⟩ = pure (ps.zip us)
theorem cal_of (T : Tx W mg h) {x : Str} {i n m k : Nat} {N ps : List Str} {p : Par} {z : PS'} {sp : SpecT} (hd : fnL[n]? = some (dD x i)) (hg : faL[m]? = some (.glo x)) (hb : BindN x i ps) (S : FnScope N ps (defScope (top i))) (hN : p.N = N) (hz : comp p (defScope (top i)) (defBody (top i)) = some z) (hk : Keeps N ps z sp)
    (hcs : ∀ x d, p.cs.lookup x = some d → (x = "ZERO" ∧ d = zD) ∨ (x = "ONE" ∧ d = oD)) (hG : AllG W mg base k p.G) : Cal W mg base (k + 1) x (spOf W sp) := by
  obtain ⟨fd, F⟩ := T.c.1.def_ n hd
  refine ⟨_, fd, ps, T.glo m hg, F.kp, ?_, F.bindsN hb⟩
  have F' : FunD W.K x x (defArgs (top i)) (defBody (top i)) (defScope (top i)) [] [] (He.ga W.K x) fd := F
  exact def_ok (C := W.C) F' S hN (gok T hG hcs S.nd) hz hk
theorem cal_ofF (T : Tx W mg h) {x : Str} {i n m k : Nat} {N ps : List Str} {p : Par} {z : PS'} {sp : SpecT} (hd : fnL[n]? = some (dD x i)) (hg : faL[m]? = some (.glo x)) (hb : BindN x i ps) (S : FnScope N ps (defScope (top i))) (hN : p.N = N) (hz : comp p (defScope (top i)) (defBody (top i)) = some z) (hk : KeepsF N ps z sp)
    (hcs : ∀ x d, p.cs.lookup x = some d → (x = "ZERO" ∧ d = zD) ∨ (x = "ONE" ∧ d = oD)) (hG : AllG W mg base k p.G) : Cal W mg base (k + 1) x (spFr W sp) := by
  obtain ⟨fd, F⟩ := T.c.1.def_ n hd
  refine ⟨_, fd, ps, T.glo m hg, F.kp, ?_, F.bindsN hb⟩
  have F' : FunD W.K x x (defArgs (top i)) (defBody (top i)) (defScope (top i)) [] [] (He.ga W.K x) fd := F
  exact def_okF (C := W.C) F' S hN (gok T hG hcs S.nd) hz hk
theorem o_Data (T : Tx W mg h) : GoodE W mg base 2 ("Data", .make S_Data) := by
  obtain ⟨fd, F⟩ := T.c.1.def_ 0 (d := dI) rfl
  have F' : FunD W.K "__init__" "Data.__init__" (defArgs sInit) (defBody sInit) (defScope sInit) [] [] (He.ma W.K (He.ga W.K "Data") "__init__") fd := F
  refine ⟨spI W, He.ma W.K (He.ga W.K "Data") "__init__", fd, aI, 1, ?_, ?_, Nat.le_refl _, ?_, F.bindsN fun _ _ _ _ _ _ us hl => (match us, (show us.length = 4 from hl) with | [_, _, _, _], _ => rfl), make_snd W⟩
  · rw [T.C]; exact He.mkr_ok (T.c.1.fact 4 (f := .mkr "Data") rfl)
  · exact init_ok (C := W.C) F' (gok (G := []) T trivial cs0 scI.nd)
  · rw [T.C]; exact T.glo 5 rfl
theorem o__law_row (T : Tx W mg h) : Cal W mg base 1 "_law_row" (spOf W S__law_row) := cal_of T (n := 1) (m := 19) (N := n__law_row) (ps := a__law_row) rfl rfl (fun _ _ _ _ _ _ us hl => match us, (show us.length = 3 from hl) with | [_, _, _], _ => rfl) f__law_row rfl (c__law_row ) k__law_row cs0 trivial
theorem o__law_gcd (T : Tx W mg h) : Cal W mg base 1 "_law_gcd" (spOf W S__law_gcd) := cal_of T (n := 2) (m := 20) (N := n__law_gcd) (ps := a__law_gcd) rfl rfl (fun _ _ _ _ _ _ us hl => match us, (show us.length = 2 from hl) with | [_, _], _ => rfl) f__law_gcd rfl (c__law_gcd ) k__law_gcd cs0 trivial
theorem o__law_lowest (T : Tx W mg h) (h__law_gcd : Cal W mg base 1 "_law_gcd" (spOf W S__law_gcd)) : Cal W mg base 2 "_law_lowest" (spOf W S__law_lowest) := cal_of T (n := 3) (m := 21) (N := n__law_lowest) (ps := a__law_lowest) rfl rfl (fun _ _ _ _ _ _ us hl => match us, (show us.length = 2 from hl) with | [_, _], _ => rfl) f__law_lowest rfl (c__law_lowest S__law_gcd) k__law_lowest cs0 ⟨⟨_, by omega, h__law_gcd⟩, trivial⟩
theorem o__law_long (T : Tx W mg h) : Cal W mg base 1 "_law_long" (spOf W S__law_long) := cal_of T (n := 4) (m := 22) (N := n__law_long) (ps := a__law_long) rfl rfl (fun _ _ _ _ _ _ us hl => match us, (show us.length = 3 from hl) with | [_, _, _], _ => rfl) f__law_long rfl (c__law_long ) k__law_long cs0 trivial
theorem o__law_purchase (T : Tx W mg h) (h__law_lowest : Cal W mg base 2 "_law_lowest" (spOf W S__law_lowest)) (h__law_long : Cal W mg base 1 "_law_long" (spOf W S__law_long)) : Cal W mg base 3 "_law_purchase" (spOf W S__law_purchase) := cal_of T (n := 5) (m := 23) (N := n__law_purchase) (ps := a__law_purchase) rfl rfl (fun _ _ _ _ _ _ us hl => match us, (show us.length = 4 from hl) with | [_, _, _, _], _ => rfl) f__law_purchase rfl (c__law_purchase S__law_lowest S__law_long) k__law_purchase cs0 ⟨⟨_, by omega, h__law_lowest⟩, ⟨_, by omega, h__law_long⟩, trivial⟩
theorem o__law_data (T : Tx W mg h) (h__law_row : Cal W mg base 1 "_law_row" (spOf W S__law_row)) (h__law_purchase : Cal W mg base 3 "_law_purchase" (spOf W S__law_purchase)) : Cal W mg base 4 "_law_data" (spOf W S__law_data) := cal_of T (n := 6) (m := 24) (N := n__law_data) (ps := a__law_data) rfl rfl (fun _ _ _ _ _ _ us hl => match us, (show us.length = 4 from hl) with | [_, _, _, _], _ => rfl) f__law_data rfl (c__law_data S__law_row S__law_purchase) k__law_data cs0 ⟨⟨_, by omega, h__law_row⟩, ⟨_, by omega, h__law_purchase⟩, trivial⟩
theorem o__law_closure (T : Tx W mg h) : Cal W mg base 1 "_law_closure" (spOf W S__law_closure) := cal_of T (n := 7) (m := 25) (N := n__law_closure) (ps := a__law_closure) rfl rfl (fun _ _ _ _ _ _ us hl => match us, (show us.length = 1 from hl) with | [_], _ => rfl) f__law_closure rfl (c__law_closure ) k__law_closure cs0 trivial
theorem o__law_dot (T : Tx W mg h) : Cal W mg base 1 "_law_dot" (spOf W S__law_dot) := cal_of T (n := 8) (m := 26) (N := n__law_dot) (ps := a__law_dot) rfl rfl (fun _ _ _ _ _ _ us hl => match us, (show us.length = 2 from hl) with | [_, _], _ => rfl) f__law_dot rfl (c__law_dot ) k__law_dot cs0 trivial
theorem o__law_gap (T : Tx W mg h) (h__law_dot : Cal W mg base 1 "_law_dot" (spOf W S__law_dot)) : Cal W mg base 2 "_law_gap" (spOf W S__law_gap) := cal_of T (n := 9) (m := 27) (N := n__law_gap) (ps := a__law_gap) rfl rfl (fun _ _ _ _ _ _ us hl => match us, (show us.length = 3 from hl) with | [_, _, _], _ => rfl) f__law_gap rfl (c__law_gap S__law_dot) k__law_gap cs0 ⟨⟨_, by omega, h__law_dot⟩, trivial⟩
theorem o__law_step (T : Tx W mg h) (h__law_gap : Cal W mg base 2 "_law_gap" (spOf W S__law_gap)) : Cal W mg base 3 "_law_step" (spOf W S__law_step) := cal_of T (n := 10) (m := 28) (N := n__law_step) (ps := a__law_step) rfl rfl (fun _ _ _ _ _ _ us hl => match us, (show us.length = 4 from hl) with | [_, _, _, _], _ => rfl) f__law_step rfl (c__law_step S__law_gap) k__law_step cs0 ⟨⟨_, by omega, h__law_gap⟩, trivial⟩
theorem o__law_steps (T : Tx W mg h) (h__law_step : Cal W mg base 3 "_law_step" (spOf W S__law_step)) : Cal W mg base 4 "_law_steps" (spOf W S__law_steps) := cal_of T (n := 11) (m := 29) (N := n__law_steps) (ps := a__law_steps) rfl rfl (fun _ _ _ _ _ _ us hl => match us, (show us.length = 2 from hl) with | [_, _], _ => rfl) f__law_steps rfl (c__law_steps S__law_step) k__law_steps cs0 ⟨⟨_, by omega, h__law_step⟩, trivial⟩
theorem o__law_small (T : Tx W mg h) (h__law_data : Cal W mg base 4 "_law_data" (spOf W S__law_data)) (h__law_closure : Cal W mg base 1 "_law_closure" (spOf W S__law_closure)) (h__law_steps : Cal W mg base 4 "_law_steps" (spOf W S__law_steps)) : Cal W mg base 5 "_law_small" (spOf W S__law_small) := cal_of T (n := 12) (m := 30) (N := n__law_small) (ps := a__law_small) rfl rfl (fun _ _ _ _ _ _ us hl => match us, (show us.length = 2 from hl) with | [_, _], _ => rfl) f__law_small rfl (c__law_small S__law_data S__law_closure S__law_steps) k__law_small cs0 ⟨⟨_, by omega, h__law_data⟩, ⟨_, by omega, h__law_closure⟩, ⟨_, by omega, h__law_steps⟩, trivial⟩
theorem o__law_two_baskets (T : Tx W mg h) (h__law_row : Cal W mg base 1 "_law_row" (spOf W S__law_row)) (h__law_lowest : Cal W mg base 2 "_law_lowest" (spOf W S__law_lowest)) : Cal W mg base 3 "_law_two_baskets" (spOf W S__law_two_baskets) := cal_of T (n := 13) (m := 31) (N := n__law_two_baskets) (ps := a__law_two_baskets) rfl rfl (fun _ _ _ _ _ _ us hl => match us, (show us.length = 3 from hl) with | [_, _, _], _ => rfl) f__law_two_baskets rfl (c__law_two_baskets S__law_row S__law_lowest) k__law_two_baskets cs0 ⟨⟨_, by omega, h__law_row⟩, ⟨_, by omega, h__law_lowest⟩, trivial⟩
theorem o__law_made (T : Tx W mg h) : Cal W mg base 3 "_law_made" (spOf W S__law_made) := cal_of T (n := 14) (m := 32) (N := n__law_made) (ps := a__law_made) rfl rfl (fun _ _ _ _ _ _ us hl => match us, (show us.length = 3 from hl) with | [_, _, _], _ => rfl) f__law_made rfl (c__law_made S_Data) k__law_made cs0 ⟨o_Data T, trivial⟩
theorem o_ratio (T : Tx W mg h) : Cal W mg base 1 "ratio" (spOf W S_ratio) := cal_of T (n := 15) (m := 33) (N := n_ratio) (ps := a_ratio) rfl rfl (fun _ _ _ _ _ _ us hl => match us, (show us.length = 2 from hl) with | [_, _], _ => rfl) f_ratio rfl (c_ratio ) k_ratio cs0 trivial
theorem o_add (T : Tx W mg h) (h_ratio : Cal W mg base 1 "ratio" (spOf W S_ratio)) : Cal W mg base 2 "add" (spOf W S_add) := cal_of T (n := 16) (m := 34) (N := n_add) (ps := a_add) rfl rfl (fun _ _ _ _ _ _ us hl => match us, (show us.length = 2 from hl) with | [_, _], _ => rfl) f_add rfl (c_add S_ratio) k_add cs0 ⟨⟨_, by omega, h_ratio⟩, trivial⟩
theorem o_mul (T : Tx W mg h) (h_ratio : Cal W mg base 1 "ratio" (spOf W S_ratio)) : Cal W mg base 2 "mul" (spOf W S_mul) := cal_of T (n := 17) (m := 35) (N := n_mul) (ps := a_mul) rfl rfl (fun _ _ _ _ _ _ us hl => match us, (show us.length = 2 from hl) with | [_, _], _ => rfl) f_mul rfl (c_mul S_ratio) k_mul cs0 ⟨⟨_, by omega, h_ratio⟩, trivial⟩
theorem o_dot (T : Tx W mg h) (h_add : Cal W mg base 2 "add" (spOf W S_add)) (h_mul : Cal W mg base 2 "mul" (spOf W S_mul)) : Cal W mg base 3 "dot" (spOf W S_dot) := cal_of T (n := 18) (m := 36) (N := n_dot) (ps := a_dot) rfl rfl (fun _ _ _ _ _ _ us hl => match us, (show us.length = 2 from hl) with | [_, _], _ => rfl) f_dot rfl (c_dot S_add S_mul) k_dot (cs_cons (.inl ⟨rfl, rfl⟩) cs0) ⟨⟨_, by omega, h_add⟩, ⟨_, by omega, h_mul⟩, trivial⟩
theorem o_cost (T : Tx W mg h) (h_dot : Cal W mg base 3 "dot" (spOf W S_dot)) : Cal W mg base 4 "cost" (spOf W S_cost) := cal_of T (n := 19) (m := 37) (N := n_cost) (ps := a_cost) rfl rfl (fun _ _ _ _ _ _ us hl => match us, (show us.length = 2 from hl) with | [_, _], _ => rfl) f_cost rfl (c_cost S_dot) k_cost cs0 ⟨⟨_, by omega, h_dot⟩, trivial⟩
theorem o_spent (T : Tx W mg h) (h_dot : Cal W mg base 3 "dot" (spOf W S_dot)) : Cal W mg base 4 "spent" (spOf W S_spent) := cal_of T (n := 20) (m := 38) (N := n_spent) (ps := a_spent) rfl rfl (fun _ _ _ _ _ _ us hl => match us, (show us.length = 2 from hl) with | [_, _], _ => rfl) f_spent rfl (c_spent S_dot) k_spent cs0 ⟨⟨_, by omega, h_dot⟩, trivial⟩
theorem o_at_most (T : Tx W mg h) : Cal W mg base 1 "at_most" (spOf W S_at_most) := cal_of T (n := 21) (m := 39) (N := n_at_most) (ps := a_at_most) rfl rfl (fun _ _ _ _ _ _ us hl => match us, (show us.length = 2 from hl) with | [_, _], _ => rfl) f_at_most rfl (c_at_most ) k_at_most cs0 trivial
theorem o_less (T : Tx W mg h) : Cal W mg base 1 "less" (spOf W S_less) := cal_of T (n := 22) (m := 40) (N := n_less) (ps := a_less) rfl rfl (fun _ _ _ _ _ _ us hl => match us, (show us.length = 2 from hl) with | [_, _], _ => rfl) f_less rfl (c_less ) k_less cs0 trivial
theorem o_step (T : Tx W mg h) (h_cost : Cal W mg base 4 "cost" (spOf W S_cost)) (h_spent : Cal W mg base 4 "spent" (spOf W S_spent)) (h_at_most : Cal W mg base 1 "at_most" (spOf W S_at_most)) (h_less : Cal W mg base 1 "less" (spOf W S_less)) : Cal W mg base 5 "step" (spOf W S_step) := cal_of T (n := 23) (m := 41) (N := n_step) (ps := a_step) rfl rfl (fun _ _ _ _ _ _ us hl => match us, (show us.length = 3 from hl) with | [_, _, _], _ => rfl) f_step rfl (c_step S_cost S_spent S_at_most S_less) k_step cs0 ⟨⟨_, by omega, h_cost⟩, ⟨_, by omega, h_spent⟩, ⟨_, by omega, h_at_most⟩, ⟨_, by omega, h_less⟩, trivial⟩
theorem o_step_table (T : Tx W mg h) (h_step : Cal W mg base 5 "step" (spOf W S_step)) : Cal W mg base 6 "step_table" (spOf W S_step_table) := cal_of T (n := 24) (m := 42) (N := n_step_table) (ps := a_step_table) rfl rfl (fun _ _ _ _ _ _ us hl => match us, (show us.length = 1 from hl) with | [_], _ => rfl) f_step_table rfl (c_step_table S_step) k_step_table cs0 ⟨⟨_, by omega, h_step⟩, trivial⟩
theorem o_find_in (T : Tx W mg h) : Cal W mg base 1 "find_in" (spOf W S_find_in) := cal_of T (n := 25) (m := 43) (N := n_find_in) (ps := a_find_in) rfl rfl (fun _ _ _ _ _ _ us hl => match us, (show us.length = 2 from hl) with | [_, _], _ => rfl) f_find_in rfl (c_find_in ) k_find_in cs0 trivial
theorem o_leads (T : Tx W mg h) (h_step_table : Cal W mg base 6 "step_table" (spOf W S_step_table)) (h_find_in : Cal W mg base 1 "find_in" (spOf W S_find_in)) : Cal W mg base 7 "leads" (spOf W S_leads) := cal_of T (n := 26) (m := 44) (N := n_leads) (ps := a_leads) rfl rfl (fun _ _ _ _ _ _ us hl => match us, (show us.length = 1 from hl) with | [_], _ => rfl) f_leads rfl (c_leads S_step_table S_find_in) k_leads cs0 ⟨⟨_, by omega, h_step_table⟩, ⟨_, by omega, h_find_in⟩, trivial⟩
theorem o_next_class (T : Tx W mg h) : Cal W mg base 1 "next_class" (spFr W S_next_class) := cal_ofF T (n := 27) (m := 45) (N := n_next_class) (ps := a_next_class) rfl rfl (fun _ _ _ _ _ _ us hl => match us, (show us.length = 2 from hl) with | [_, _], _ => rfl) f_next_class rfl (c_next_class ) k_next_class cs0 trivial
theorem o_sub (T : Tx W mg h) (h_ratio : Cal W mg base 1 "ratio" (spOf W S_ratio)) : Cal W mg base 2 "sub" (spOf W S_sub) := cal_of T (n := 28) (m := 46) (N := n_sub) (ps := a_sub) rfl rfl (fun _ _ _ _ _ _ us hl => match us, (show us.length = 2 from hl) with | [_, _], _ => rfl) f_sub rfl (c_sub S_ratio) k_sub cs0 ⟨⟨_, by omega, h_ratio⟩, trivial⟩
theorem o_plane (T : Tx W mg h) (h_add : Cal W mg base 2 "add" (spOf W S_add)) (h_mul : Cal W mg base 2 "mul" (spOf W S_mul)) (h_sub : Cal W mg base 2 "sub" (spOf W S_sub)) (h_spent : Cal W mg base 4 "spent" (spOf W S_spent)) (h_cost : Cal W mg base 4 "cost" (spOf W S_cost)) : Cal W mg base 5 "plane" (spOf W S_plane) := cal_of T (n := 29) (m := 47) (N := n_plane) (ps := a_plane) rfl rfl (fun _ _ _ _ _ _ us hl => match us, (show us.length = 4 from hl) with | [_, _, _, _], _ => rfl) f_plane rfl (c_plane S_add S_mul S_sub S_spent S_cost) k_plane cs0 ⟨⟨_, by omega, h_add⟩, ⟨_, by omega, h_mul⟩, ⟨_, by omega, h_sub⟩, ⟨_, by omega, h_spent⟩, ⟨_, by omega, h_cost⟩, trivial⟩
theorem o_class_number (T : Tx W mg h) (h_plane : Cal W mg base 5 "plane" (spOf W S_plane)) (h_less : Cal W mg base 1 "less" (spOf W S_less)) (h_sub : Cal W mg base 2 "sub" (spOf W S_sub)) : Cal W mg base 6 "class_number" (spOf W S_class_number) := cal_of T (n := 30) (m := 48) (N := n_class_number) (ps := a_class_number) rfl rfl (fun _ _ _ _ _ _ us hl => match us, (show us.length = 4 from hl) with | [_, _, _, _], _ => rfl) f_class_number rfl (c_class_number S_plane S_less S_sub) k_class_number (cs_cons (.inl ⟨rfl, rfl⟩) (cs_cons (.inr ⟨rfl, rfl⟩) cs0)) ⟨⟨_, by omega, h_plane⟩, ⟨_, by omega, h_less⟩, ⟨_, by omega, h_sub⟩, trivial⟩
theorem o_div (T : Tx W mg h) (h_ratio : Cal W mg base 1 "ratio" (spOf W S_ratio)) : Cal W mg base 2 "div" (spOf W S_div) := cal_of T (n := 31) (m := 49) (N := n_div) (ps := a_div) rfl rfl (fun _ _ _ _ _ _ us hl => match us, (show us.length = 2 from hl) with | [_, _], _ => rfl) f_div rfl (c_div S_ratio) k_div cs0 ⟨⟨_, by omega, h_ratio⟩, trivial⟩
theorem o_member_weight (T : Tx W mg h) (h_spent : Cal W mg base 4 "spent" (spOf W S_spent)) (h_div : Cal W mg base 2 "div" (spOf W S_div)) (h_sub : Cal W mg base 2 "sub" (spOf W S_sub)) (h_cost : Cal W mg base 4 "cost" (spOf W S_cost)) (h_less : Cal W mg base 1 "less" (spOf W S_less)) : Cal W mg base 5 "member_weight" (spOf W S_member_weight) := cal_of T (n := 32) (m := 50) (N := n_member_weight) (ps := a_member_weight) rfl rfl (fun _ _ _ _ _ _ us hl => match us, (show us.length = 5 from hl) with | [_, _, _, _, _], _ => rfl) f_member_weight rfl (c_member_weight S_spent S_div S_sub S_cost S_less) k_member_weight (cs_cons (.inr ⟨rfl, rfl⟩) cs0) ⟨⟨_, by omega, h_spent⟩, ⟨_, by omega, h_div⟩, ⟨_, by omega, h_sub⟩, ⟨_, by omega, h_cost⟩, ⟨_, by omega, h_less⟩, trivial⟩
theorem o_make_taste (T : Tx W mg h) (h_next_class : Cal W mg base 1 "next_class" (spFr W S_next_class)) (h_class_number : Cal W mg base 6 "class_number" (spOf W S_class_number)) (h_member_weight : Cal W mg base 5 "member_weight" (spOf W S_member_weight)) : Cal W mg base 7 "make_taste" (spOf W S_make_taste) := cal_of T (n := 33) (m := 51) (N := n_make_taste) (ps := a_make_taste) rfl rfl (fun _ _ _ _ _ _ us hl => match us, (show us.length = 2 from hl) with | [_, _], _ => rfl) f_make_taste rfl (c_make_taste S_next_class S_class_number S_member_weight) k_make_taste (cs_cons (.inl ⟨rfl, rfl⟩) (cs_cons (.inr ⟨rfl, rfl⟩) cs0)) ⟨⟨_, by omega, h_next_class⟩, ⟨_, by omega, h_class_number⟩, ⟨_, by omega, h_member_weight⟩, trivial⟩
theorem o_check (T : Tx W mg h) (h_leads : Cal W mg base 7 "leads" (spOf W S_leads)) (h_make_taste : Cal W mg base 7 "make_taste" (spOf W S_make_taste)) : Cal W mg base 8 "check" (spOf W S_check) := cal_of T (n := 34) (m := 52) (N := n_check) (ps := a_check) rfl rfl (fun _ _ _ _ _ _ us hl => match us, (show us.length = 1 from hl) with | [_], _ => rfl) f_check rfl (c_check S_leads S_make_taste) k_check cs0 ⟨⟨_, by omega, h_leads⟩, trivial, ⟨_, by omega, h_make_taste⟩, trivial⟩
theorem o_points_of (T : Tx W mg h) : Cal W mg base 1 "points_of" (spOf W S_points_of) := cal_of T (n := 35) (m := 53) (N := n_points_of) (ps := a_points_of) rfl rfl (fun _ _ _ _ _ _ us hl => match us, (show us.length = 3 from hl) with | [_, _, _], _ => rfl) f_points_of rfl (c_points_of ) k_points_of cs0 trivial
theorem o_neg (T : Tx W mg h) : Cal W mg base 1 "neg" (spOf W S_neg) := cal_of T (n := 36) (m := 54) (N := n_neg) (ps := a_neg) rfl rfl (fun _ _ _ _ _ _ us hl => match us, (show us.length = 1 from hl) with | [_], _ => rfl) f_neg rfl (c_neg ) k_neg cs0 trivial
theorem o_turned (T : Tx W mg h) (h_less : Cal W mg base 1 "less" (spOf W S_less)) (h_neg : Cal W mg base 1 "neg" (spOf W S_neg)) : Cal W mg base 2 "turned" (spOf W S_turned) := cal_of T (n := 37) (m := 55) (N := n_turned) (ps := a_turned) rfl rfl (fun _ _ _ _ _ _ us hl => match us, (show us.length = 1 from hl) with | [_], _ => rfl) f_turned rfl (c_turned S_less S_neg) k_turned (cs_cons (.inl ⟨rfl, rfl⟩) cs0) ⟨⟨_, by omega, h_less⟩, ⟨_, by omega, h_neg⟩, trivial⟩
theorem o_slack_columns (T : Tx W mg h) : Cal W mg base 1 "slack_columns" (spOf W S_slack_columns) := cal_of T (n := 38) (m := 56) (N := n_slack_columns) (ps := a_slack_columns) rfl rfl (fun _ _ _ _ _ _ us hl => match us, (show us.length = 2 from hl) with | [_, _], _ => rfl) f_slack_columns rfl (c_slack_columns ) k_slack_columns cs0 trivial
theorem o_helper_columns (T : Tx W mg h) : Cal W mg base 1 "helper_columns" (spOf W S_helper_columns) := cal_of T (n := 39) (m := 57) (N := n_helper_columns) (ps := a_helper_columns) rfl rfl (fun _ _ _ _ _ _ us hl => match us, (show us.length = 2 from hl) with | [_, _], _ => rfl) f_helper_columns rfl (c_helper_columns ) k_helper_columns cs0 trivial
theorem o_first_rows (T : Tx W mg h) (h_neg : Cal W mg base 1 "neg" (spOf W S_neg)) : Cal W mg base 2 "first_rows" (spOf W S_first_rows) := cal_of T (n := 40) (m := 58) (N := n_first_rows) (ps := a_first_rows) rfl rfl (fun _ _ _ _ _ _ us hl => match us, (show us.length = 4 from hl) with | [_, _, _, _], _ => rfl) f_first_rows rfl (c_first_rows S_neg) k_first_rows (cs_cons (.inl ⟨rfl, rfl⟩) (cs_cons (.inr ⟨rfl, rfl⟩) cs0)) ⟨⟨_, by omega, h_neg⟩, trivial⟩
theorem o_first_basis (T : Tx W mg h) : Cal W mg base 1 "first_basis" (spOf W S_first_basis) := cal_of T (n := 41) (m := 59) (N := n_first_basis) (ps := a_first_basis) rfl rfl (fun _ _ _ _ _ _ us hl => match us, (show us.length = 2 from hl) with | [_, _], _ => rfl) f_first_basis rfl (c_first_basis ) k_first_basis cs0 trivial
theorem o_entering (T : Tx W mg h) (h_less : Cal W mg base 1 "less" (spOf W S_less)) : Cal W mg base 2 "entering" (spOf W S_entering) := cal_of T (n := 42) (m := 60) (N := n_entering) (ps := a_entering) rfl rfl (fun _ _ _ _ _ _ us hl => match us, (show us.length = 2 from hl) with | [_, _], _ => rfl) f_entering rfl (c_entering S_less) k_entering (cs_cons (.inl ⟨rfl, rfl⟩) cs0) ⟨⟨_, by omega, h_less⟩, trivial⟩
theorem o_leaving (T : Tx W mg h) (h_less : Cal W mg base 1 "less" (spOf W S_less)) (h_div : Cal W mg base 2 "div" (spOf W S_div)) : Cal W mg base 3 "leaving" (spOf W S_leaving) := cal_of T (n := 43) (m := 61) (N := n_leaving) (ps := a_leaving) rfl rfl (fun _ _ _ _ _ _ us hl => match us, (show us.length = 3 from hl) with | [_, _, _], _ => rfl) f_leaving rfl (c_leaving S_less S_div) k_leaving (cs_cons (.inl ⟨rfl, rfl⟩) cs0) ⟨⟨_, by omega, h_less⟩, ⟨_, by omega, h_div⟩, trivial⟩
theorem o_less_times (T : Tx W mg h) (h_sub : Cal W mg base 2 "sub" (spOf W S_sub)) (h_mul : Cal W mg base 2 "mul" (spOf W S_mul)) : Cal W mg base 3 "less_times" (spOf W S_less_times) := cal_of T (n := 44) (m := 62) (N := n_less_times) (ps := a_less_times) rfl rfl (fun _ _ _ _ _ _ us hl => match us, (show us.length = 3 from hl) with | [_, _, _], _ => rfl) f_less_times rfl (c_less_times S_sub S_mul) k_less_times (cs_cons (.inl ⟨rfl, rfl⟩) cs0) ⟨⟨_, by omega, h_sub⟩, ⟨_, by omega, h_mul⟩, trivial⟩
theorem o_pivot (T : Tx W mg h) (h_div : Cal W mg base 2 "div" (spOf W S_div)) (h_less_times : Cal W mg base 3 "less_times" (spOf W S_less_times)) : Cal W mg base 4 "pivot" (spOf W S_pivot) := cal_of T (n := 45) (m := 63) (N := n_pivot) (ps := a_pivot) rfl rfl (fun _ _ _ _ _ _ us hl => match us, (show us.length = 3 from hl) with | [_, _, _], _ => rfl) f_pivot rfl (c_pivot S_div S_less_times) k_pivot (cs_cons (.inl ⟨rfl, rfl⟩) cs0) ⟨⟨_, by omega, h_div⟩, ⟨_, by omega, h_less_times⟩, trivial⟩
theorem o_descend (T : Tx W mg h) (h_entering : Cal W mg base 2 "entering" (spOf W S_entering)) (h_leaving : Cal W mg base 3 "leaving" (spOf W S_leaving)) (h_pivot : Cal W mg base 4 "pivot" (spOf W S_pivot)) : Cal W mg base 5 "descend" (spOf W S_descend) := cal_of T (n := 46) (m := 64) (N := n_descend) (ps := a_descend) rfl rfl (fun _ _ _ _ _ _ us hl => match us, (show us.length = 3 from hl) with | [_, _, _], _ => rfl) f_descend rfl (c_descend S_entering S_leaving S_pivot) k_descend cs0 ⟨⟨_, by omega, h_entering⟩, ⟨_, by omega, h_leaving⟩, ⟨_, by omega, h_pivot⟩, trivial⟩
theorem o_reduced (T : Tx W mg h) (h_less_times : Cal W mg base 3 "less_times" (spOf W S_less_times)) : Cal W mg base 4 "reduced" (spOf W S_reduced) := cal_of T (n := 47) (m := 65) (N := n_reduced) (ps := a_reduced) rfl rfl (fun _ _ _ _ _ _ us hl => match us, (show us.length = 3 from hl) with | [_, _, _], _ => rfl) f_reduced rfl (c_reduced S_less_times) k_reduced (cs_cons (.inl ⟨rfl, rfl⟩) cs0) ⟨⟨_, by omega, h_less_times⟩, trivial⟩
theorem o_prices_of (T : Tx W mg h) (h_neg : Cal W mg base 1 "neg" (spOf W S_neg)) (h_sub : Cal W mg base 2 "sub" (spOf W S_sub)) : Cal W mg base 3 "prices_of" (spOf W S_prices_of) := cal_of T (n := 48) (m := 66) (N := n_prices_of) (ps := a_prices_of) rfl rfl (fun _ _ _ _ _ _ us hl => match us, (show us.length = 5 from hl) with | [_, _, _, _, _], _ => rfl) f_prices_of rfl (c_prices_of S_neg S_sub) k_prices_of cs0 ⟨⟨_, by omega, h_neg⟩, ⟨_, by omega, h_sub⟩, trivial⟩
theorem o_without_helpers (T : Tx W mg h) (h_pivot : Cal W mg base 4 "pivot" (spOf W S_pivot)) : Cal W mg base 5 "without_helpers" (spOf W S_without_helpers) := cal_of T (n := 49) (m := 67) (N := n_without_helpers) (ps := a_without_helpers) rfl rfl (fun _ _ _ _ _ _ us hl => match us, (show us.length = 3 from hl) with | [_, _, _], _ => rfl) f_without_helpers rfl (c_without_helpers S_pivot) k_without_helpers (cs_cons (.inl ⟨rfl, rfl⟩) cs0) ⟨⟨_, by omega, h_pivot⟩, trivial⟩
theorem o_values_of (T : Tx W mg h) : Cal W mg base 1 "values_of" (spOf W S_values_of) := cal_of T (n := 50) (m := 68) (N := n_values_of) (ps := a_values_of) rfl rfl (fun _ _ _ _ _ _ us hl => match us, (show us.length = 3 from hl) with | [_, _, _], _ => rfl) f_values_of rfl (c_values_of ) k_values_of (cs_cons (.inl ⟨rfl, rfl⟩) cs0) trivial
theorem o_solve (T : Tx W mg h) (h_turned : Cal W mg base 2 "turned" (spOf W S_turned)) (h_slack_columns : Cal W mg base 1 "slack_columns" (spOf W S_slack_columns)) (h_helper_columns : Cal W mg base 1 "helper_columns" (spOf W S_helper_columns)) (h_first_rows : Cal W mg base 2 "first_rows" (spOf W S_first_rows)) (h_first_basis : Cal W mg base 1 "first_basis" (spOf W S_first_basis)) (h_descend : Cal W mg base 5 "descend" (spOf W S_descend)) (h_reduced : Cal W mg base 4 "reduced" (spOf W S_reduced)) (h_less : Cal W mg base 1 "less" (spOf W S_less)) (h_prices_of : Cal W mg base 3 "prices_of" (spOf W S_prices_of)) (h_without_helpers : Cal W mg base 5 "without_helpers" (spOf W S_without_helpers)) (h_values_of : Cal W mg base 1 "values_of" (spOf W S_values_of)) (h_dot : Cal W mg base 3 "dot" (spOf W S_dot)) : Cal W mg base 6 "solve" (spOf W S_solve) := cal_of T (n := 51) (m := 69) (N := n_solve) (ps := a_solve) rfl rfl (fun _ _ _ _ _ _ us hl => match us, (show us.length = 2 from hl) with | [_, _], _ => rfl) f_solve rfl (c_solve S_turned S_slack_columns S_helper_columns S_first_rows S_first_basis S_descend S_reduced S_less S_prices_of S_without_helpers S_values_of S_dot) k_solve (cs_cons (.inl ⟨rfl, rfl⟩) (cs_cons (.inr ⟨rfl, rfl⟩) cs0)) ⟨⟨_, by omega, h_turned⟩, ⟨_, by omega, h_slack_columns⟩, ⟨_, by omega, h_helper_columns⟩, ⟨_, by omega, h_first_rows⟩, ⟨_, by omega, h_first_basis⟩, ⟨_, by omega, h_descend⟩, ⟨_, by omega, h_reduced⟩, ⟨_, by omega, h_less⟩, ⟨_, by omega, h_prices_of⟩, ⟨_, by omega, h_without_helpers⟩, ⟨_, by omega, h_values_of⟩, trivial, ⟨_, by omega, h_dot⟩, trivial⟩
theorem o_excess (T : Tx W mg h) (h_sub : Cal W mg base 2 "sub" (spOf W S_sub)) (h_spent : Cal W mg base 4 "spent" (spOf W S_spent)) (h_cost : Cal W mg base 4 "cost" (spOf W S_cost)) : Cal W mg base 5 "excess" (spOf W S_excess) := cal_of T (n := 52) (m := 70) (N := n_excess) (ps := a_excess) rfl rfl (fun _ _ _ _ _ _ us hl => match us, (show us.length = 4 from hl) with | [_, _, _, _], _ => rfl) f_excess rfl (c_excess S_sub S_spent S_cost) k_excess cs0 ⟨⟨_, by omega, h_sub⟩, ⟨_, by omega, h_spent⟩, ⟨_, by omega, h_cost⟩, trivial⟩
theorem o_minus (T : Tx W mg h) (h_sub : Cal W mg base 2 "sub" (spOf W S_sub)) : Cal W mg base 3 "minus" (spOf W S_minus) := cal_of T (n := 53) (m := 71) (N := n_minus) (ps := a_minus) rfl rfl (fun _ _ _ _ _ _ us hl => match us, (show us.length = 2 from hl) with | [_, _], _ => rfl) f_minus rfl (c_minus S_sub) k_minus cs0 ⟨⟨_, by omega, h_sub⟩, trivial⟩
theorem o_total_of (T : Tx W mg h) (h_add : Cal W mg base 2 "add" (spOf W S_add)) : Cal W mg base 3 "total_of" (spOf W S_total_of) := cal_of T (n := 54) (m := 72) (N := n_total_of) (ps := a_total_of) rfl rfl (fun _ _ _ _ _ _ us hl => match us, (show us.length = 1 from hl) with | [_], _ => rfl) f_total_of rfl (c_total_of S_add) k_total_of (cs_cons (.inl ⟨rfl, rfl⟩) cs0) ⟨⟨_, by omega, h_add⟩, trivial⟩
theorem o_number_entries (T : Tx W mg h) (h_add : Cal W mg base 2 "add" (spOf W S_add)) (h_sub : Cal W mg base 2 "sub" (spOf W S_sub)) : Cal W mg base 3 "number_entries" (spOf W S_number_entries) := cal_of T (n := 55) (m := 73) (N := n_number_entries) (ps := a_number_entries) rfl rfl (fun _ _ _ _ _ _ us hl => match us, (show us.length = 3 from hl) with | [_, _, _], _ => rfl) f_number_entries rfl (c_number_entries S_add S_sub) k_number_entries (cs_cons (.inl ⟨rfl, rfl⟩) (cs_cons (.inr ⟨rfl, rfl⟩) cs0)) ⟨⟨_, by omega, h_add⟩, ⟨_, by omega, h_sub⟩, trivial⟩
theorem o_pair_line (T : Tx W mg h) (h_excess : Cal W mg base 5 "excess" (spOf W S_excess)) (h_minus : Cal W mg base 3 "minus" (spOf W S_minus)) (h_total_of : Cal W mg base 3 "total_of" (spOf W S_total_of)) (h_number_entries : Cal W mg base 3 "number_entries" (spOf W S_number_entries)) (h_neg : Cal W mg base 1 "neg" (spOf W S_neg)) : Cal W mg base 6 "pair_line" (spOf W S_pair_line) := cal_of T (n := 56) (m := 74) (N := n_pair_line) (ps := a_pair_line) rfl rfl (fun _ _ _ _ _ _ us hl => match us, (show us.length = 4 from hl) with | [_, _, _, _], _ => rfl) f_pair_line rfl (c_pair_line S_excess S_minus S_total_of S_number_entries S_neg) k_pair_line (cs_cons (.inl ⟨rfl, rfl⟩) cs0) ⟨⟨_, by omega, h_excess⟩, ⟨_, by omega, h_minus⟩, ⟨_, by omega, h_total_of⟩, ⟨_, by omega, h_number_entries⟩, ⟨_, by omega, h_neg⟩, trivial⟩
theorem o_goal_pairs (T : Tx W mg h) : Cal W mg base 1 "goal_pairs" (spOf W S_goal_pairs) := cal_of T (n := 57) (m := 75) (N := n_goal_pairs) (ps := a_goal_pairs) rfl rfl (fun _ _ _ _ _ _ us hl => match us, (show us.length = 2 from hl) with | [_, _], _ => rfl) f_goal_pairs rfl (c_goal_pairs ) k_goal_pairs cs0 trivial
theorem o_liking_lines (T : Tx W mg h) (h_pair_line : Cal W mg base 6 "pair_line" (spOf W S_pair_line)) (h_number_entries : Cal W mg base 3 "number_entries" (spOf W S_number_entries)) (h_goal_pairs : Cal W mg base 1 "goal_pairs" (spOf W S_goal_pairs)) : Cal W mg base 7 "liking_lines" (spOf W S_liking_lines) := cal_of T (n := 58) (m := 76) (N := n_liking_lines) (ps := a_liking_lines) rfl rfl (fun _ _ _ _ _ _ us hl => match us, (show us.length = 3 from hl) with | [_, _, _], _ => rfl) f_liking_lines rfl (c_liking_lines S_pair_line S_number_entries S_goal_pairs) k_liking_lines (cs_cons (.inl ⟨rfl, rfl⟩) (cs_cons (.inr ⟨rfl, rfl⟩) cs0)) ⟨⟨_, by omega, h_pair_line⟩, ⟨_, by omega, h_number_entries⟩, ⟨_, by omega, h_goal_pairs⟩, trivial⟩
theorem o_refusal_from (T : Tx W mg h) : Cal W mg base 1 "refusal_from" (spOf W S_refusal_from) := cal_of T (n := 59) (m := 77) (N := n_refusal_from) (ps := a_refusal_from) rfl rfl (fun _ _ _ _ _ _ us hl => match us, (show us.length = 3 from hl) with | [_, _, _], _ => rfl) f_refusal_from rfl (c_refusal_from ) k_refusal_from (cs_cons (.inl ⟨rfl, rfl⟩) cs0) trivial
theorem o_liking_from (T : Tx W mg h) (h_add : Cal W mg base 2 "add" (spOf W S_add)) : Cal W mg base 3 "liking_from" (spOf W S_liking_from) := cal_of T (n := 60) (m := 78) (N := n_liking_from) (ps := a_liking_from) rfl rfl (fun _ _ _ _ _ _ us hl => match us, (show us.length = 3 from hl) with | [_, _, _], _ => rfl) f_liking_from rfl (c_liking_from S_add) k_liking_from (cs_cons (.inr ⟨rfl, rfl⟩) cs0) ⟨⟨_, by omega, h_add⟩, trivial⟩
theorem o_likes (T : Tx W mg h) (h_check : Cal W mg base 8 "check" (spOf W S_check)) (h_points_of : Cal W mg base 1 "points_of" (spOf W S_points_of)) (h_solve : Cal W mg base 6 "solve" (spOf W S_solve)) (h_liking_lines : Cal W mg base 7 "liking_lines" (spOf W S_liking_lines)) (h_refusal_from : Cal W mg base 1 "refusal_from" (spOf W S_refusal_from)) (h_liking_from : Cal W mg base 3 "liking_from" (spOf W S_liking_from)) : Cal W mg base 9 "likes" (spOf W S_likes) := cal_of T (n := 61) (m := 79) (N := n_likes) (ps := a_likes) rfl rfl (fun _ _ _ _ _ _ us hl => match us, (show us.length = 4 from hl) with | [_, _, _, _], _ => rfl) f_likes rfl (c_likes S_check S_points_of S_solve S_liking_lines S_refusal_from S_liking_from) (k_likes' NoRing) (cs_cons (.inl ⟨rfl, rfl⟩) cs0) ⟨⟨_, by omega, h_check⟩, ⟨_, by omega, h_points_of⟩, ⟨_, by omega, h_solve⟩, ⟨_, by omega, h_liking_lines⟩, ⟨_, by omega, h_refusal_from⟩, ⟨_, by omega, h_liking_from⟩, trivial⟩
theorem o__law_is_integer (T : Tx W mg h) : Cal W mg base 1 "_law_is_integer" (spOf W S__law_is_integer) := cal_of T (n := 62) (m := 80) (N := n__law_is_integer) (ps := a__law_is_integer) rfl rfl (fun _ _ _ _ _ _ us hl => match us, (show us.length = 1 from hl) with | [_], _ => rfl) f__law_is_integer rfl (c__law_is_integer ) k__law_is_integer cs0 trivial
theorem o__law_is_fraction (T : Tx W mg h) (h__law_is_integer : Cal W mg base 1 "_law_is_integer" (spOf W S__law_is_integer)) (h__law_gcd : Cal W mg base 1 "_law_gcd" (spOf W S__law_gcd)) : Cal W mg base 2 "_law_is_fraction" (spOf W S__law_is_fraction) := cal_of T (n := 63) (m := 81) (N := n__law_is_fraction) (ps := a__law_is_fraction) rfl rfl (fun _ _ _ _ _ _ us hl => match us, (show us.length = 1 from hl) with | [_], _ => rfl) f__law_is_fraction rfl (c__law_is_fraction S__law_is_integer S__law_gcd) k__law_is_fraction cs0 ⟨⟨_, by omega, h__law_is_integer⟩, ⟨_, by omega, h__law_gcd⟩, trivial⟩
theorem o__law_are_fractions (T : Tx W mg h) (h__law_is_fraction : Cal W mg base 2 "_law_is_fraction" (spOf W S__law_is_fraction)) : Cal W mg base 3 "_law_are_fractions" (spOf W S__law_are_fractions) := cal_of T (n := 64) (m := 82) (N := n__law_are_fractions) (ps := a__law_are_fractions) rfl rfl (fun _ _ _ _ _ _ us hl => match us, (show us.length = 2 from hl) with | [_, _], _ => rfl) f__law_are_fractions rfl (c__law_are_fractions S__law_is_fraction) k__law_are_fractions cs0 ⟨⟨_, by omega, h__law_is_fraction⟩, trivial⟩
theorem o__law_is_liking (T : Tx W mg h) (h__law_are_fractions : Cal W mg base 3 "_law_are_fractions" (spOf W S__law_are_fractions)) : Cal W mg base 4 "_law_is_liking" (spOf W S__law_is_liking) := cal_of T (n := 65) (m := 83) (N := n__law_is_liking) (ps := a__law_is_liking) rfl rfl (fun _ _ _ _ _ _ us hl => match us, (show us.length = 3 from hl) with | [_, _, _], _ => rfl) f__law_is_liking rfl (c__law_is_liking S__law_are_fractions) k__law_is_liking cs0 ⟨⟨_, by omega, h__law_are_fractions⟩, trivial⟩
theorem o_right_lengths (T : Tx W mg h) : Cal W mg base 1 "right_lengths" (spOf W S_right_lengths) := cal_of T (n := 66) (m := 84) (N := n_right_lengths) (ps := a_right_lengths) rfl rfl (fun _ _ _ _ _ _ us hl => match us, (show us.length = 3 from hl) with | [_, _, _], _ => rfl) f_right_lengths rfl (c_right_lengths ) k_right_lengths cs0 trivial
theorem o_all_above (T : Tx W mg h) (h_at_most : Cal W mg base 1 "at_most" (spOf W S_at_most)) : Cal W mg base 2 "all_above" (spOf W S_all_above) := cal_of T (n := 67) (m := 85) (N := n_all_above) (ps := a_all_above) rfl rfl (fun _ _ _ _ _ _ us hl => match us, (show us.length = 1 from hl) with | [_], _ => rfl) f_all_above rfl (c_all_above S_at_most) k_all_above (cs_cons (.inl ⟨rfl, rfl⟩) cs0) ⟨⟨_, by omega, h_at_most⟩, trivial⟩
theorem o_plane_at (T : Tx W mg h) (h_add : Cal W mg base 2 "add" (spOf W S_add)) (h_mul : Cal W mg base 2 "mul" (spOf W S_mul)) (h_excess : Cal W mg base 5 "excess" (spOf W S_excess)) (h_dot : Cal W mg base 3 "dot" (spOf W S_dot)) (h_minus : Cal W mg base 3 "minus" (spOf W S_minus)) : Cal W mg base 6 "plane_at" (spOf W S_plane_at) := cal_of T (n := 68) (m := 86) (N := n_plane_at) (ps := a_plane_at) rfl rfl (fun _ _ _ _ _ _ us hl => match us, (show us.length = 5 from hl) with | [_, _, _, _, _], _ => rfl) f_plane_at rfl (c_plane_at S_add S_mul S_excess S_dot S_minus) k_plane_at cs0 ⟨⟨_, by omega, h_add⟩, ⟨_, by omega, h_mul⟩, ⟨_, by omega, h_excess⟩, ⟨_, by omega, h_dot⟩, ⟨_, by omega, h_minus⟩, trivial⟩
theorem o_goal_holds (T : Tx W mg h) (h_less : Cal W mg base 1 "less" (spOf W S_less)) : Cal W mg base 2 "goal_holds" (spOf W S_goal_holds) := cal_of T (n := 69) (m := 87) (N := n_goal_holds) (ps := a_goal_holds) rfl rfl (fun _ _ _ _ _ _ us hl => match us, (show us.length = 3 from hl) with | [_, _, _], _ => rfl) f_goal_holds rfl (c_goal_holds S_less) k_goal_holds cs0 ⟨⟨_, by omega, h_less⟩, trivial⟩
theorem o_links_hold (T : Tx W mg h) (h_less : Cal W mg base 1 "less" (spOf W S_less)) : Cal W mg base 2 "links_hold" (spOf W S_links_hold) := cal_of T (n := 70) (m := 88) (N := n_links_hold) (ps := a_links_hold) rfl rfl (fun _ _ _ _ _ _ us hl => match us, (show us.length = 2 from hl) with | [_, _], _ => rfl) f_links_hold rfl (c_links_hold S_less) k_links_hold cs0 ⟨⟨_, by omega, h_less⟩, trivial⟩
theorem o_judge_liking (T : Tx W mg h) (h_right_lengths : Cal W mg base 1 "right_lengths" (spOf W S_right_lengths)) (h_all_above : Cal W mg base 2 "all_above" (spOf W S_all_above)) (h_points_of : Cal W mg base 1 "points_of" (spOf W S_points_of)) (h_less : Cal W mg base 1 "less" (spOf W S_less)) (h_plane_at : Cal W mg base 6 "plane_at" (spOf W S_plane_at)) (h_goal_holds : Cal W mg base 2 "goal_holds" (spOf W S_goal_holds)) (h_links_hold : Cal W mg base 2 "links_hold" (spOf W S_links_hold)) : Cal W mg base 7 "judge_liking" (spOf W S_judge_liking) := cal_of T (n := 71) (m := 89) (N := n_judge_liking) (ps := a_judge_liking) rfl rfl (fun _ _ _ _ _ _ us hl => match us, (show us.length = 5 from hl) with | [_, _, _, _, _], _ => rfl) f_judge_liking rfl (c_judge_liking S_right_lengths S_all_above S_points_of S_less S_plane_at S_goal_holds S_links_hold) k_judge_liking cs0 ⟨⟨_, by omega, h_right_lengths⟩, ⟨_, by omega, h_all_above⟩, ⟨_, by omega, h_points_of⟩, ⟨_, by omega, h_less⟩, ⟨_, by omega, h_plane_at⟩, ⟨_, by omega, h_goal_holds⟩, ⟨_, by omega, h_links_hold⟩, trivial⟩
theorem o__law_one_accepted (T : Tx W mg h) (h_judge_liking : Cal W mg base 7 "judge_liking" (spOf W S_judge_liking)) : Cal W mg base 8 "_law_one_accepted" (spOf W S__law_one_accepted) := cal_of T (n := 72) (m := 90) (N := n__law_one_accepted) (ps := a__law_one_accepted) rfl rfl (fun _ _ _ _ _ _ us hl => match us, (show us.length = 5 from hl) with | [_, _, _, _, _], _ => rfl) f__law_one_accepted rfl (c__law_one_accepted S_judge_liking) k__law_one_accepted cs0 ⟨⟨_, by omega, h_judge_liking⟩, trivial⟩
theorem o__law_add (T : Tx W mg h) : Cal W mg base 1 "_law_add" (spOf W S__law_add) := cal_of T (n := 73) (m := 91) (N := n__law_add) (ps := a__law_add) rfl rfl (fun _ _ _ _ _ _ us hl => match us, (show us.length = 2 from hl) with | [_, _], _ => rfl) f__law_add rfl (c__law_add ) k__law_add cs0 trivial
theorem o__law_put (T : Tx W mg h) : Cal W mg base 1 "_law_put" (spOf W S__law_put) := cal_of T (n := 74) (m := 92) (N := n__law_put) (ps := a__law_put) rfl rfl (fun _ _ _ _ _ _ us hl => match us, (show us.length = 3 from hl) with | [_, _, _], _ => rfl) f__law_put rfl (c__law_put ) k__law_put cs0 trivial
theorem o__law_likings (T : Tx W mg h) (h__law_add : Cal W mg base 1 "_law_add" (spOf W S__law_add)) (h__law_put : Cal W mg base 1 "_law_put" (spOf W S__law_put)) (h__law_lowest : Cal W mg base 2 "_law_lowest" (spOf W S__law_lowest)) : Cal W mg base 3 "_law_likings" (spOf W S__law_likings) := cal_of T (n := 75) (m := 93) (N := n__law_likings) (ps := a__law_likings) rfl rfl (fun _ _ _ _ _ _ us hl => match us, (show us.length = 3 from hl) with | [_, _, _], _ => rfl) f__law_likings rfl (c__law_likings S__law_add S__law_put S__law_lowest) k__law_likings cs0 ⟨⟨_, by omega, h__law_add⟩, ⟨_, by omega, h__law_put⟩, ⟨_, by omega, h__law_lowest⟩, trivial⟩
theorem o__law_is_refusal (T : Tx W mg h) (h__law_are_fractions : Cal W mg base 3 "_law_are_fractions" (spOf W S__law_are_fractions)) : Cal W mg base 4 "_law_is_refusal" (spOf W S__law_is_refusal) := cal_of T (n := 76) (m := 94) (N := n__law_is_refusal) (ps := a__law_is_refusal) rfl rfl (fun _ _ _ _ _ _ us hl => match us, (show us.length = 4 from hl) with | [_, _, _, _], _ => rfl) f__law_is_refusal rfl (c__law_is_refusal S__law_are_fractions) k__law_is_refusal cs0 ⟨⟨_, by omega, h__law_are_fractions⟩, trivial⟩
theorem o_none_below (T : Tx W mg h) (h_less : Cal W mg base 1 "less" (spOf W S_less)) : Cal W mg base 2 "none_below" (spOf W S_none_below) := cal_of T (n := 77) (m := 95) (N := n_none_below) (ps := a_none_below) rfl rfl (fun _ _ _ _ _ _ us hl => match us, (show us.length = 1 from hl) with | [_], _ => rfl) f_none_below rfl (c_none_below S_less) k_none_below (cs_cons (.inl ⟨rfl, rfl⟩) cs0) ⟨⟨_, by omega, h_less⟩, trivial⟩
theorem o_right_prices (T : Tx W mg h) (h_goal_pairs : Cal W mg base 1 "goal_pairs" (spOf W S_goal_pairs)) (h_none_below : Cal W mg base 2 "none_below" (spOf W S_none_below)) : Cal W mg base 3 "right_prices" (spOf W S_right_prices) := cal_of T (n := 78) (m := 96) (N := n_right_prices) (ps := a_right_prices) rfl rfl (fun _ _ _ _ _ _ us hl => match us, (show us.length = 3 from hl) with | [_, _, _], _ => rfl) f_right_prices rfl (c_right_prices S_goal_pairs S_none_below) k_right_prices cs0 ⟨⟨_, by omega, h_goal_pairs⟩, ⟨_, by omega, h_none_below⟩, trivial⟩
theorem o_balanced (T : Tx W mg h) (h_add : Cal W mg base 2 "add" (spOf W S_add)) (h_sub : Cal W mg base 2 "sub" (spOf W S_sub)) (h_goal_pairs : Cal W mg base 1 "goal_pairs" (spOf W S_goal_pairs)) : Cal W mg base 3 "balanced" (spOf W S_balanced) := cal_of T (n := 79) (m := 97) (N := n_balanced) (ps := a_balanced) rfl rfl (fun _ _ _ _ _ _ us hl => match us, (show us.length = 4 from hl) with | [_, _, _, _], _ => rfl) f_balanced rfl (c_balanced S_add S_sub S_goal_pairs) k_balanced (cs_cons (.inl ⟨rfl, rfl⟩) cs0) ⟨⟨_, by omega, h_add⟩, ⟨_, by omega, h_sub⟩, ⟨_, by omega, h_goal_pairs⟩, trivial⟩
theorem o_excesses (T : Tx W mg h) (h_add : Cal W mg base 2 "add" (spOf W S_add)) (h_mul : Cal W mg base 2 "mul" (spOf W S_mul)) (h_excess : Cal W mg base 5 "excess" (spOf W S_excess)) (h_sub : Cal W mg base 2 "sub" (spOf W S_sub)) : Cal W mg base 6 "excesses" (spOf W S_excesses) := cal_of T (n := 80) (m := 98) (N := n_excesses) (ps := a_excesses) rfl rfl (fun _ _ _ _ _ _ us hl => match us, (show us.length = 3 from hl) with | [_, _, _], _ => rfl) f_excesses rfl (c_excesses S_add S_mul S_excess S_sub) k_excesses (cs_cons (.inl ⟨rfl, rfl⟩) cs0) ⟨⟨_, by omega, h_add⟩, ⟨_, by omega, h_mul⟩, ⟨_, by omega, h_excess⟩, ⟨_, by omega, h_sub⟩, trivial⟩
theorem o_judge_refusal (T : Tx W mg h) (h_right_prices : Cal W mg base 3 "right_prices" (spOf W S_right_prices)) (h_points_of : Cal W mg base 1 "points_of" (spOf W S_points_of)) (h_balanced : Cal W mg base 3 "balanced" (spOf W S_balanced)) (h_less : Cal W mg base 1 "less" (spOf W S_less)) (h_excesses : Cal W mg base 6 "excesses" (spOf W S_excesses)) : Cal W mg base 7 "judge_refusal" (spOf W S_judge_refusal) := cal_of T (n := 81) (m := 99) (N := n_judge_refusal) (ps := a_judge_refusal) rfl rfl (fun _ _ _ _ _ _ us hl => match us, (show us.length = 5 from hl) with | [_, _, _, _, _], _ => rfl) f_judge_refusal rfl (c_judge_refusal S_right_prices S_points_of S_balanced S_less S_excesses) k_judge_refusal (cs_cons (.inl ⟨rfl, rfl⟩) cs0) ⟨⟨_, by omega, h_right_prices⟩, ⟨_, by omega, h_points_of⟩, ⟨_, by omega, h_balanced⟩, ⟨_, by omega, h_less⟩, ⟨_, by omega, h_excesses⟩, trivial⟩
theorem o__law_copy (T : Tx W mg h) : Cal W mg base 1 "_law_copy" (spOf W S__law_copy) := cal_of T (n := 82) (m := 100) (N := n__law_copy) (ps := a__law_copy) rfl rfl (fun _ _ _ _ _ _ us hl => match us, (show us.length = 1 from hl) with | [_], _ => rfl) f__law_copy rfl (c__law_copy ) k__law_copy cs0 trivial
theorem o__law_one_refused (T : Tx W mg h) (h_judge_refusal : Cal W mg base 7 "judge_refusal" (spOf W S_judge_refusal)) (h__law_copy : Cal W mg base 1 "_law_copy" (spOf W S__law_copy)) : Cal W mg base 8 "_law_one_refused" (spOf W S__law_one_refused) := cal_of T (n := 83) (m := 101) (N := n__law_one_refused) (ps := a__law_one_refused) rfl rfl (fun _ _ _ _ _ _ us hl => match us, (show us.length = 5 from hl) with | [_, _, _, _, _], _ => rfl) f__law_one_refused rfl (c__law_one_refused S_judge_refusal S__law_copy) k__law_one_refused cs0 ⟨⟨_, by omega, h_judge_refusal⟩, ⟨_, by omega, h__law_copy⟩, trivial⟩
theorem o__law_around (T : Tx W mg h) : Cal W mg base 1 "_law_around" (spOf W S__law_around) := cal_of T (n := 84) (m := 102) (N := n__law_around) (ps := a__law_around) rfl rfl (fun _ _ _ _ _ _ us hl => match us, (show us.length = 4 from hl) with | [_, _, _, _], _ => rfl) f__law_around rfl (c__law_around ) k__law_around cs0 trivial
theorem o__law_refusals (T : Tx W mg h) (h__law_around : Cal W mg base 1 "_law_around" (spOf W S__law_around)) (h__law_row : Cal W mg base 1 "_law_row" (spOf W S__law_row)) : Cal W mg base 2 "_law_refusals" (spOf W S__law_refusals) := cal_of T (n := 85) (m := 103) (N := n__law_refusals) (ps := a__law_refusals) rfl rfl (fun _ _ _ _ _ _ us hl => match us, (show us.length = 5 from hl) with | [_, _, _, _, _], _ => rfl) f__law_refusals rfl (c__law_refusals S__law_around S__law_row) k__law_refusals cs0 ⟨⟨_, by omega, h__law_around⟩, ⟨_, by omega, h__law_row⟩, trivial⟩
theorem bn_same : BindN "_law_same" 90 a__law_same := (fun _ _ _ _ _ _ us hl => match us, (show us.length = 2 from hl) with | [_, _], _ => rfl)
theorem o__law_same (T : Tx W mg h) (h_int : Cal W mg base 1 "_law_is_integer" (spOf W S__law_is_integer)) : ∀ d, Cal W mg base (d + 1) "_law_same" (spOf W (S__law_same d))
  | 0 => by
    obtain ⟨fd, F⟩ := T.c.1.def_ 86 (d := dD "_law_same" 90) rfl
    have F' : FunD W.K "_law_same" "_law_same" (defArgs (top 90)) (defBody (top 90)) (defScope (top 90)) [] [] (He.ga W.K "_law_same") fd := F
    refine ⟨_, fd, a__law_same, T.glo 104 rfl, F.kp, ?_, F.bindsN bn_same⟩
    exact F'.ok (k := 0) f__law_same (fun vs H Q E q => by obtain ⟨_, _, _, _, _, ⟨_, _, q, _⟩, _⟩ := q; exact q.elim) (fun cdv A outer s H vs Q E hr q => by obtain ⟨_, _, _, _, _, ⟨_, _, q, _⟩, _⟩ := q; exact q.elim)
  | d + 1 => cal_of T (n := 86) (m := 104) rfl rfl bn_same f__law_same rfl (c__law_same (S__law_same d) S__law_is_integer) (k__law_same d) cs0 ⟨⟨_, Nat.le_refl _, o__law_same T h_int d⟩, ⟨_, by omega, h_int⟩, trivial⟩
theorem o__law_unchanged (T : Tx W mg h) (h__law_same : Cal W mg base 6 "_law_same" (spOf W (S__law_same 5))) : Cal W mg base 7 "_law_unchanged" (spOf W S__law_unchanged) := cal_of T (n := 87) (m := 105) (N := n__law_unchanged) (ps := a__law_unchanged) rfl rfl (fun _ _ _ _ _ _ us hl => match us, (show us.length = 4 from hl) with | [_, _, _, _], _ => rfl) f__law_unchanged rfl (c__law_unchanged ((S__law_same 5))) k__law_unchanged cs0 ⟨⟨_, by omega, h__law_same⟩, trivial⟩
theorem law_fn (T : Tx W mg h) : ∃ fd : FuncData, (∀ (s : Shared) (v : Value), BindsTo s fd ⟨[v], []⟩ [("_law_script", v)]) ∧ ∀ base : Heap, FnOk W.P W.w W.K mg base CX0 10 (He.ga W.K "law") fd ["_law_script"] (spOf W S_law) := by
  obtain ⟨fd, F⟩ := T.c.1.def_ 88 (d := dD "law" 103) rfl
  have F' : FunD W.K "law" "law" (defArgs (top 103)) (defBody (top 103)) (defScope (top 103)) [] [] (He.ga W.K "law") fd := F
  have b := FunD.bindsA (ps := ["_law_script"]) F' fun _ _ _ _ _ _ us hl => match us, hl with | [_], _ => rfl
  refine ⟨fd, fun s v => b s [v] rfl, fun base => ?_⟩
  have h__law_row := o__law_row (base := base) T
  have h__law_gcd := o__law_gcd (base := base) T
  have h__law_lowest := o__law_lowest (base := base) T h__law_gcd
  have h__law_long := o__law_long (base := base) T
  have h__law_purchase := o__law_purchase (base := base) T h__law_lowest h__law_long
  have h__law_data := o__law_data (base := base) T h__law_row h__law_purchase
  have h__law_closure := o__law_closure (base := base) T
  have h__law_dot := o__law_dot (base := base) T
  have h__law_gap := o__law_gap (base := base) T h__law_dot
  have h__law_step := o__law_step (base := base) T h__law_gap
  have h__law_steps := o__law_steps (base := base) T h__law_step
  have h__law_small := o__law_small (base := base) T h__law_data h__law_closure h__law_steps
  have h__law_two_baskets := o__law_two_baskets (base := base) T h__law_row h__law_lowest
  have h__law_made := o__law_made (base := base) T
  have h_ratio := o_ratio (base := base) T
  have h_add := o_add (base := base) T h_ratio
  have h_mul := o_mul (base := base) T h_ratio
  have h_dot := o_dot (base := base) T h_add h_mul
  have h_cost := o_cost (base := base) T h_dot
  have h_spent := o_spent (base := base) T h_dot
  have h_at_most := o_at_most (base := base) T
  have h_less := o_less (base := base) T
  have h_step := o_step (base := base) T h_cost h_spent h_at_most h_less
  have h_step_table := o_step_table (base := base) T h_step
  have h_find_in := o_find_in (base := base) T
  have h_leads := o_leads (base := base) T h_step_table h_find_in
  have h_next_class := o_next_class (base := base) T
  have h_sub := o_sub (base := base) T h_ratio
  have h_plane := o_plane (base := base) T h_add h_mul h_sub h_spent h_cost
  have h_class_number := o_class_number (base := base) T h_plane h_less h_sub
  have h_div := o_div (base := base) T h_ratio
  have h_member_weight := o_member_weight (base := base) T h_spent h_div h_sub h_cost h_less
  have h_make_taste := o_make_taste (base := base) T h_next_class h_class_number h_member_weight
  have h_check := o_check (base := base) T h_leads h_make_taste
  have h_points_of := o_points_of (base := base) T
  have h_neg := o_neg (base := base) T
  have h_turned := o_turned (base := base) T h_less h_neg
  have h_slack_columns := o_slack_columns (base := base) T
  have h_helper_columns := o_helper_columns (base := base) T
  have h_first_rows := o_first_rows (base := base) T h_neg
  have h_first_basis := o_first_basis (base := base) T
  have h_entering := o_entering (base := base) T h_less
  have h_leaving := o_leaving (base := base) T h_less h_div
  have h_less_times := o_less_times (base := base) T h_sub h_mul
  have h_pivot := o_pivot (base := base) T h_div h_less_times
  have h_descend := o_descend (base := base) T h_entering h_leaving h_pivot
  have h_reduced := o_reduced (base := base) T h_less_times
  have h_prices_of := o_prices_of (base := base) T h_neg h_sub
  have h_without_helpers := o_without_helpers (base := base) T h_pivot
  have h_values_of := o_values_of (base := base) T
  have h_solve := o_solve (base := base) T h_turned h_slack_columns h_helper_columns h_first_rows h_first_basis h_descend h_reduced h_less h_prices_of h_without_helpers h_values_of h_dot
  have h_excess := o_excess (base := base) T h_sub h_spent h_cost
  have h_minus := o_minus (base := base) T h_sub
  have h_total_of := o_total_of (base := base) T h_add
  have h_number_entries := o_number_entries (base := base) T h_add h_sub
  have h_pair_line := o_pair_line (base := base) T h_excess h_minus h_total_of h_number_entries h_neg
  have h_goal_pairs := o_goal_pairs (base := base) T
  have h_liking_lines := o_liking_lines (base := base) T h_pair_line h_number_entries h_goal_pairs
  have h_refusal_from := o_refusal_from (base := base) T
  have h_liking_from := o_liking_from (base := base) T h_add
  have h_likes := o_likes (base := base) T h_check h_points_of h_solve h_liking_lines h_refusal_from h_liking_from
  have h__law_is_integer := o__law_is_integer (base := base) T
  have h__law_is_fraction := o__law_is_fraction (base := base) T h__law_is_integer h__law_gcd
  have h__law_are_fractions := o__law_are_fractions (base := base) T h__law_is_fraction
  have h__law_is_liking := o__law_is_liking (base := base) T h__law_are_fractions
  have h_right_lengths := o_right_lengths (base := base) T
  have h_all_above := o_all_above (base := base) T h_at_most
  have h_plane_at := o_plane_at (base := base) T h_add h_mul h_excess h_dot h_minus
  have h_goal_holds := o_goal_holds (base := base) T h_less
  have h_links_hold := o_links_hold (base := base) T h_less
  have h_judge_liking := o_judge_liking (base := base) T h_right_lengths h_all_above h_points_of h_less h_plane_at h_goal_holds h_links_hold
  have h__law_one_accepted := o__law_one_accepted (base := base) T h_judge_liking
  have h__law_add := o__law_add (base := base) T
  have h__law_put := o__law_put (base := base) T
  have h__law_likings := o__law_likings (base := base) T h__law_add h__law_put h__law_lowest
  have h__law_is_refusal := o__law_is_refusal (base := base) T h__law_are_fractions
  have h_none_below := o_none_below (base := base) T h_less
  have h_right_prices := o_right_prices (base := base) T h_goal_pairs h_none_below
  have h_balanced := o_balanced (base := base) T h_add h_sub h_goal_pairs
  have h_excesses := o_excesses (base := base) T h_add h_mul h_excess h_sub
  have h_judge_refusal := o_judge_refusal (base := base) T h_right_prices h_points_of h_balanced h_less h_excesses
  have h__law_copy := o__law_copy (base := base) T
  have h__law_one_refused := o__law_one_refused (base := base) T h_judge_refusal h__law_copy
  have h__law_around := o__law_around (base := base) T
  have h__law_refusals := o__law_refusals (base := base) T h__law_around h__law_row
  have h__law_same := o__law_same (base := base) T h__law_is_integer 5
  have h__law_unchanged := o__law_unchanged (base := base) T h__law_same
  exact def_ok (C := W.C) F' f_law rfl (gok T (k := 9) (G := (p_law S__law_small S__law_two_baskets S__law_made S__law_row S_likes S__law_is_liking S__law_one_accepted S__law_likings S__law_is_refusal S__law_one_refused S__law_refusals S__law_unchanged).G) ⟨⟨_, by omega, h__law_small⟩, ⟨_, by omega, h__law_two_baskets⟩, ⟨_, by omega, h__law_made⟩, ⟨_, by omega, h__law_row⟩, ⟨_, by omega, h_likes⟩, ⟨_, by omega, h__law_is_liking⟩, ⟨_, by omega, h__law_one_accepted⟩, ⟨_, by omega, h__law_likings⟩, ⟨_, by omega, h__law_is_refusal⟩, ⟨_, by omega, h__law_one_refused⟩, ⟨_, by omega, h__law_refusals⟩, ⟨_, by omega, h__law_unchanged⟩, trivial⟩ cs0 f_law.nd) (c_law S__law_small S__law_two_baskets S__law_made S__law_row S_likes S__law_is_liking S__law_one_accepted S__law_likings S__law_is_refusal S__law_one_refused S__law_refusals S__law_unchanged) k_law
end
theorem facts {P : Program} {w : World} {K : PySem.W.Frag} {h : Heap} {mg : Str → Option Value} {f : Addr} (X : K.In h) (G : h.Ns mainGlobals mg) (hfa : mg ("law" : Str) = some (.ref f)) (c : SaysP faL fnL exB K) :
    ∃ fd : FuncData, (∀ (s : Shared) (v : Value), BindsTo s fd ⟨[v], []⟩ [("_law_script", v)]) ∧ ∀ base : Heap, FnOk P w K mg base CX0 10 f fd ["_law_script"] (spOf ⟨P, w, K, He.ga K "Data"⟩ S_law) := by
  have T : Tx ⟨P, w, K, He.ga K "Data"⟩ mg h := ⟨X, G, c, rfl⟩
  have e := hfa.symm.trans (T.glo 106 (x := "law") rfl)
  cases e
  exact law_fn T
end BB
end
set_option maxRecDepth 100000
set_option maxHeartbeats 0
open PySem PySem.W PySem.Calls PyProof.Rows
theorem PySem.Challenge.cw_buybook_k60_whole_liking_and_refusal_nev_holds : PySem.Challenge.rw_buybook_k60_whole_liking_and_refusal_nev.Holds := by
  w_on; o_law
  refine HandSHeadRun.head_imp (r := OpenLaw.row PySem.Challenge.rw_buybook_k60_whole_liking_and_refusal_nev) (q := BB.qV) (H := BB.hk) (ob := BB.obH) (M := 8000) (loose := BB.loL) (d := HandSHeadRun.topDef (OpenLaw.row PySem.Challenge.rw_buybook_k60_whole_liking_and_refusal_nev).prog 103) (kwd := []) BB.ob_eq BB.run
    (by kernel_rfl) (by kernel_rfl) (by kernel_rfl) (by rfl) (by first | assumption | decide +kernel) (by decide +kernel) ⟨rfl, rfl, rfl, rfl, rfl, by decide +kernel⟩ ?hw ?hc
  case hw => w_witness2
  case hc =>
    refine L2.walk_ofE (l := PySem.Challenge.rw_buybook_k60_whole_liking_and_refusal_nev) (n := 63) (k := 10) (x := "_law_script") (CX := L2.CX0) rfl (by decide) (by kernel_rfl) ⟨rfl, by decide, by decide⟩ ?F (fun _ _ _ _ z => z)
    intro w mg fa h Y G hmg0
    obtain ⟨K, KX, c⟩ := Y
    have hmg : mg ("law" : PySem.Str) = some (.ref fa) := by
      have e : (HandSHeadRun.topDef (OpenLaw.row PySem.Challenge.rw_buybook_k60_whole_liking_and_refusal_nev).prog 103).name = ("law" : PySem.Str) := by kernel_rfl
      rw [← e]
      exact hmg0
    obtain ⟨fd, hb, hF⟩ := BB.facts (P := (PySem.Challenge.rw_buybook_k60_whole_liking_and_refusal_nev).prog) (w := w) KX G hmg c
    refine ⟨K, fd, _, KX, hb, fun H a ns hl _ hS => ?_, fun base _ _ => hF base⟩
    refine ⟨H, [.frz ns], fun d => d = .bl true, BB.Ex.refl H, ?_, ⟨ns, rfl, rfl⟩, fun d hd v H' e hi => ?_⟩
    · refine .one ?_
      simp only [BB.Is]
      exact ⟨a, rfl, hS⟩
    · subst hd
      simpa only [BB.Is] using hi
