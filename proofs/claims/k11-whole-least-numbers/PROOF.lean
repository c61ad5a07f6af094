import PyProof.Rows.All
import Wide.All
import OpenK.AllK
import Wide.FinOn
import HandS.ForMost
import HandS.DictComp
import HandS.Style
import HandS.IsInst
import HandS.SortInts
import HandS.TupAny
import HandS.Deep
import HandS.SetFor
import KE.SortData
import KE.DataEq
import KE.DataFind
import KE.KeyNested
import KE.KDictKeyed
import PyProof.ReprReads
import KE.KRevSl
import KE.GoesMore
import KE.GoesEnum
import PyProof.EnumMake
import PyProof.DictUpdate
import KE.KDictDisplayH
import HandS.TupLen
import PyProof.ReprRoads
import PySem.Challenge.RW_doublecut_k11_whole_least_numbers
import HandS.Conv
import HandS.Evl
set_option Elab.async false
set_option linter.all false
set_option maxRecDepth 100000
set_option maxHeartbeats 4000000
set_option autoImplicit false
namespace Dm
def sw (a b x : Nat) : Nat := if x = a then b else if x = b then a else x
def cj (f : Nat → Nat) (a b : Nat) : Nat → Nat := fun x => sw a b (f (sw a b x))
structure Cap (f : Nat → Nat) : Prop where
  inv : ∀ x, f (f x) = x
  nf : ∀ x, f x ≠ x
theorem sw_sw (a b x : Nat) : sw a b (sw a b x) = x := by grind [sw]
theorem Cap.cj {f : Nat → Nat} (h : Cap f) (a b : Nat) : Cap (cj f a b) := by
  refine ⟨fun x => ?_, fun x e => ?_⟩
  · simp only [Dm.cj, sw_sw, h.inv]
  · have e2 := congrArg (sw a b) e
    simp only [Dm.cj, sw_sw] at e2
    exact h.nf _ e2
theorem cj_cj (f : Nat → Nat) (a b : Nat) : cj (cj f a b) a b = f := by
  funext x
  simp only [cj, sw_sw]
theorem sw_self (a x : Nat) : sw a a x = x := by grind [sw]
theorem cj_self (f : Nat → Nat) (a : Nat) : cj f a a = f := by
  funext x
  simp only [cj, sw_self]
theorem cj_mate {f : Nat → Nat} (h : Cap f) (a : Nat) : cj f a (f a) = f := by
  funext x
  have := h.inv; have := h.nf
  grind [cj, sw]
theorem cj_comm (f : Nat → Nat) (a b : Nat) : cj f a b = cj f b a := by
  funext x
  grind [cj, sw]
theorem cj_other {f : Nat → Nat} (h : Cap f) (a b : Nat) : cj f (f a) (f b) = cj f a b := by
  funext x
  have := h.inv; have := h.nf
  grind [cj, sw]
def mk (f : Nat → Nat) (p q : Nat) : Nat → Nat := cj f p (f q)
theorem mk_has {f : Nat → Nat} (h : Cap f) {p q : Nat} (e : f p = q) : mk f p q = f := by
  have : f q = p := by rw [← e, h.inv]
  rw [mk, this, cj_self]
theorem mk_back {f : Nat → Nat} (h : Cap f) {p q a b : Nat} (e : f p = q) (n : cj f a b p ≠ q) : mk (cj f a b) p q = f := by
  have hi := h.inv
  have hn := h.nf
  have eq : f q = p := by rw [← e, hi]
  have key : ∀ a b, a = p ∨ a = q → b ≠ p → b ≠ q → mk (cj f a b) p q = f := by
    intro a b ha h1 h2
    have h3 : f b ≠ p := fun z => h2 (by rw [← e, ← z, hi])
    have h4 : f b ≠ q := fun z => h1 (by rw [← eq, ← z, hi])
    have hpq : p ≠ q := fun z => hn p (by rw [e, z])
    rcases ha with rfl | rfl
    · have e1 : cj f a b q = b := by simp only [cj]; grind [sw]
      rw [mk, e1, cj_cj]
    · have e1 : cj f a b a = f b := by simp only [cj]; grind [sw]
      rw [mk, e1]
      funext x
      simp only [cj]
      grind (splits := 30) [sw]
  by_cases h1 : a = p ∨ a = q
  · by_cases h2 : b = p ∨ b = q
    · exfalso
      apply n
      rcases h1 with rfl | rfl <;> rcases h2 with rfl | rfl
      · rw [cj_self, e]
      · have z : cj f a b = f := by rw [← e]; exact cj_mate h a
        rw [z, e]
      · have z : cj f a b = f := by rw [← eq]; exact cj_mate h a
        rw [z, e]
      · rw [cj_self, e]
    · exact key a b h1 (fun z => h2 (.inl z)) fun z => h2 (.inr z)
  · by_cases h2 : b = p ∨ b = q
    · rw [cj_comm]
      exact key b a h2 (fun z => h1 (.inl z)) fun z => h1 (.inr z)
    · exfalso
      apply n
      simp only [cj]
      grind [sw]
/-- made, then changed elsewhere -/
theorem mk_step {f : Nat → Nat} (h : Cap f) {p q a b : Nat} (hpq : p ≠ q) (n1 : f p ≠ q) (n2 : cj f a b p ≠ q) : ∃ c d, mk (cj f a b) p q = cj (mk f p q) c d := by
  have key : ∀ a b, a ≠ p → a ≠ q → b ≠ p → b ≠ q → mk (cj f a b) p q = cj (mk f p q) a b := by
    intro a b h1 h2 h3 h4
    have ep : sw a b p = p := by grind [sw]
    have eq : sw a b q = q := by grind [sw]
    have e1 : cj f a b q = sw a b (f q) := by simp only [cj, eq]
    funext x
    simp only [mk, e1]
    have e2 : ∀ y, sw p (sw a b (f q)) (sw a b y) = sw a b (sw p (f q) y) := by
      intro y
      grind (splits := 30) [sw]
    have e3 : ∀ y, sw p (sw a b (f q)) y = sw a b (sw p (f q) (sw a b y)) := by
      intro y
      have := e2 (sw a b y)
      rw [sw_sw] at this
      exact this
    show sw p (sw a b (f q)) (sw a b (f (sw a b (sw p (sw a b (f q)) x)))) = sw a b (sw p (f q) (f (sw p (f q) (sw a b x))))
    rw [e2, e3, sw_sw]
  by_cases h0 : a ≠ p ∧ a ≠ q ∧ b ≠ p ∧ b ≠ q
  · exact ⟨a, b, key a b h0.1 h0.2.1 h0.2.2.1 h0.2.2.2⟩
  by_cases ht : cj f a b = f
  · exact ⟨p, p, by rw [ht, cj_self]⟩
  refine ⟨f a, f b, ?_⟩
  rw [← cj_other h a b]
  have hi := h.inv
  have hn := h.nf
  have hab : a ≠ b := fun z => ht (by rw [z, cj_self])
  have hafb : f a ≠ b := fun z => ht (by rw [← z]; exact cj_mate h a)
  have n2' : cj f a b p ≠ q := n2
  simp only [cj] at n2'
  have n3 : f q ≠ p := fun z => n1 (by rw [← z, hi])
  apply key <;> grind (splits := 30) [sw]
/-! sums -/
def S (F : Nat → Nat) : Nat → Nat
  | 0 => 0
  | n + 1 => S F n + F n
def sy (F : Nat → Nat) (n : Nat) : List Nat → Nat
  | [] => 0
  | y :: Y => (if y < n then F y else 0) + sy F n Y
theorem sy_zero (F : Nat → Nat) : ∀ Y : List Nat, sy F 0 Y = 0
  | [] => rfl
  | y :: Y => by simp [sy, sy_zero F Y]
theorem sy_succ (F : Nat → Nat) (n : Nat) : ∀ Y : List Nat, Y.Nodup → sy F (n + 1) Y = sy F n Y + (if n ∈ Y then F n else 0)
  | [], _ => by simp [sy]
  | y :: Y, h => by
    have ih := sy_succ F n Y (List.nodup_cons.mp h).2
    have hn := (List.nodup_cons.mp h).1
    simp only [sy, ih, List.mem_cons]
    by_cases e : n = y
    · subst e
      simp [hn]
      omega
    · by_cases l : y < n
      · have : y < n + 1 := by omega
        simp [e, l, this]
        omega
      · have : ¬ y < n + 1 := by omega
        simp [e, l, this]
theorem S_swap {F G : Nat → Nat} {Y : List Nat} (hY : Y.Nodup) (h : ∀ x, x ∉ Y → F x = G x) : ∀ n, S F n + sy G n Y = S G n + sy F n Y
  | 0 => by simp [S, sy_zero]
  | n + 1 => by
    have ih := S_swap hY h n
    simp only [S, sy_succ _ _ _ hY]
    by_cases m : n ∈ Y
    · simp only [m, if_true]
      omega
    · have := h n m
      simp only [m, if_false]
      omega
def real (N : Nat) (f : Nat → Nat) (x : Nat) : Nat := if f x < N then 1 else 0
def cnt (N : Nat) (f : Nat → Nat) : Nat := S (real N f) N
theorem cnt_cj {f : Nat → Nat} (h : Cap f) (N a b : Nat) : cnt N f ≤ cnt N (cj f a b) + 2 := by
  have hi := h.inv
  have hn := h.nf
  by_cases ht : cj f a b = f
  · rw [ht]; omega
  have hab : a ≠ b := fun z => ht (by rw [z, cj_self])
  have hafb : f a ≠ b := fun z => ht (by rw [← z]; exact cj_mate h a)
  have hY : [a, b, f a, f b].Nodup := by
    simp only [List.nodup_cons, List.mem_cons, List.not_mem_nil, or_false, not_or, List.nodup_nil, and_true]
    grind
  have e := S_swap (F := real N f) (G := real N (cj f a b)) hY (fun x hx => by
    simp only [List.mem_cons, List.not_mem_nil, or_false, not_or] at hx
    have : cj f a b x = f x := by
      simp only [cj]
      grind [sw]
    simp only [real, this]) N
  have ga : cj f a b a = f b := by simp only [cj]; grind [sw]
  have gb : cj f a b b = f a := by simp only [cj]; grind [sw]
  have gfa : cj f a b (f a) = b := by simp only [cj]; grind [sw]
  have gfb : cj f a b (f b) = a := by simp only [cj]; grind [sw]
  simp only [sy, real, ga, gb, gfa, gfb, hi] at e
  simp only [cnt]
  split at e <;> split at e <;> split at e <;> split at e <;> grind
/-- twice the number of changes: the joints of L are made, one behind the other; what is left is cut -/
def KK (N : Nat) : (Nat → Nat) → List (Nat × Nat) → Nat
  | f, [] => cnt N f
  | f, (p, q) :: L => (if f p = q then 0 else 2) + KK N (mk f p q) L
theorem mk_cap {f : Nat → Nat} (h : Cap f) (p q : Nat) : Cap (mk f p q) := h.cj p (f q)
theorem lip (N : Nat) : ∀ (L : List (Nat × Nat)) (f : Nat → Nat) (a b : Nat), Cap f → (∀ j ∈ L, j.1 ≠ j.2) → KK N f L ≤ KK N (cj f a b) L + 2
  | [], f, a, b, h, _ => cnt_cj h N a b
  | (p, q) :: L, f, a, b, h, hL => by
    have hpq : p ≠ q := hL (p, q) List.mem_cons_self
    have hL' : ∀ j ∈ L, j.1 ≠ j.2 := fun j hj => hL j (List.mem_cons_of_mem _ hj)
    simp only [KK]
    by_cases e1 : f p = q
    · by_cases e2 : cj f a b p = q
      · rw [if_pos e1, if_pos e2, mk_has h e1, mk_has (h.cj a b) e2]
        have := lip N L f a b h hL'
        omega
      · rw [if_pos e1, if_neg e2, mk_has h e1, mk_back h e1 e2]
        omega
    · by_cases e2 : cj f a b p = q
      · have e3 : mk (cj (cj f a b) a b) p q = cj f a b := mk_back (h.cj a b) e2 (by rw [cj_cj]; exact e1)
        rw [cj_cj] at e3
        rw [if_neg e1, if_pos e2, mk_has (h.cj a b) e2, e3]
        omega
      · obtain ⟨c, d, e3⟩ := mk_step h hpq e1 e2
        rw [if_neg e1, if_neg e2, e3]
        have := lip N L (mk f p q) c d (mk_cap h p q) hL'
        omega
/-! plain lays: a free end is its own mate -/
structure Pl (N : Nat) (g : Nat → Nat) : Prop where
  inv : ∀ x, g (g x) = x
  out : ∀ x, N ≤ x → g x = x
theorem Pl.lt {N : Nat} {g : Nat → Nat} (h : Pl N g) {x : Nat} (hx : x < N) : g x < N := by
  by_cases e : g x < N
  · exact e
  · have := h.out (g x) (by omega)
    rw [h.inv] at this
    omega
def mkP (g : Nat → Nat) (p q x : Nat) : Nat :=
  if x = p then q else if x = q then p else if x = g p then (if g q = q then x else g q) else if x = g q then (if g p = p then x else g p) else g x
def cutP (g : Nat → Nat) (a x : Nat) : Nat := if x = a ∨ x = g a then x else g x
theorem Pl.mkp {N : Nat} {g : Nat → Nat} (h : Pl N g) {p q : Nat} (hp : p < N) (hq : q < N) (hpq : p ≠ q) : Pl N (mkP g p q) := by
  have hi := h.inv
  have hl := h.lt hp
  have hl2 := h.lt hq
  refine ⟨fun x => ?_, fun x hx => ?_⟩
  · have := hi x; have := hi p; have := hi q
    simp only [mkP]
    grind (splits := 40)
  · have := h.out x hx
    simp only [mkP]
    grind
theorem Pl.cut {N : Nat} {g : Nat → Nat} (h : Pl N g) (a : Nat) : Pl N (cutP g a) := by
  have hi := h.inv
  refine ⟨fun x => ?_, fun x hx => ?_⟩
  · simp only [cutP]
    grind
  · have := h.out x hx
    simp only [cutP]
    grind
theorem mkP_has {N : Nat} {g : Nat → Nat} (h : Pl N g) {p q : Nat} (e : g p = q) : mkP g p q = g := by
  have hi := h.inv
  funext x
  have := hi p
  simp only [mkP]
  grind
/-- a lay with caps for its free ends, more caps beside -/
def hat (N : Nat) (g : Nat → Nat) (x : Nat) : Nat :=
  if x < N then (if g x = x then N + x else g x) else if x < 2 * N then (if g (x - N) = x - N then x - N else N + g (x - N)) else if x % 2 = 0 then x + 1 else x - 1
theorem hat_cap {N : Nat} {g : Nat → Nat} (h : Pl N g) : Cap (hat N g) := by
  have hi := h.inv
  refine ⟨fun x => ?_, fun x => ?_⟩
  · by_cases h1 : x < N
    · have hl := h.lt h1
      by_cases e : g x = x
      · have e1 : hat N g x = N + x := by simp [hat, h1, e]
        have h3 : ¬ N + x < N := by omega
        have h4 : N + x < 2 * N := by omega
        have h5 : N + x - N = x := by omega
        rw [e1]
        simp only [hat, if_neg h3, if_pos h4, h5, if_pos e]
      · have e1 : hat N g x = g x := by simp [hat, h1, e]
        have e2 : g (g x) ≠ g x := by rw [hi]; exact fun z => e z.symm
        rw [e1]
        simp [hat, hl, hi]
        omega
    · by_cases h2 : x < 2 * N
      · have h6 : x - N < N := by omega
        have hl := h.lt h6
        by_cases e : g (x - N) = x - N
        · have e1 : hat N g x = x - N := by simp [hat, h1, h2, e]
          rw [e1]
          simp [hat, h6, e]
          omega
        · have e1 : hat N g x = N + g (x - N) := by simp [hat, h1, h2, e]
          have h3 : ¬ N + g (x - N) < N := by omega
          have h4 : N + g (x - N) < 2 * N := by omega
          have h5 : N + g (x - N) - N = g (x - N) := by omega
          have e2 : g (g (x - N)) ≠ g (x - N) := by rw [hi]; exact fun z => e z.symm
          rw [e1]
          simp only [hat, if_neg h3, if_pos h4, h5]
          rw [if_neg e2, hi]
          omega
      · by_cases m : x % 2 = 0
        · have e1 : hat N g x = x + 1 := by simp [hat, h1, h2, m]
          have h3 : ¬ x + 1 < N := by omega
          have h4 : ¬ x + 1 < 2 * N := by omega
          have h5 : ¬ (x + 1) % 2 = 0 := by omega
          rw [e1]
          simp [hat, h3, h4, h5]
        · have e1 : hat N g x = x - 1 := by simp [hat, h1, h2, m]
          have h3 : ¬ x - 1 < N := by omega
          have h4 : ¬ x - 1 < 2 * N := by omega
          have h5 : (x - 1) % 2 = 0 := by omega
          rw [e1]
          simp [hat, h3, h4, h5]
          omega
  · simp only [hat]
    by_cases h1 : x < N
    · have hl := h.lt h1
      grind
    · by_cases h2 : x < 2 * N
      · have hl := h.lt (show x - N < N by omega)
        grind
      · grind
/-- the lay without its caps -/
def rl (N : Nat) (f : Nat → Nat) (x : Nat) : Nat := if x < N then (if f x < N then f x else x) else x
theorem rl_hat {N : Nat} {g : Nat → Nat} (h : Pl N g) : rl N (hat N g) = g := by
  funext x
  simp only [rl, hat]
  by_cases h1 : x < N
  · have := h.lt h1
    grind
  · have := h.out x (by omega)
    grind
theorem rl_pl {N : Nat} {f : Nat → Nat} (h : Cap f) : Pl N (rl N f) := by
  have hi := h.inv
  refine ⟨fun x => ?_, fun x hx => ?_⟩
  · simp only [rl]
    grind
  · simp only [rl]
    grind
theorem rl_mk {N : Nat} {f : Nat → Nat} (h : Cap f) {p q : Nat} (hp : p < N) (hq : q < N) (hpq : p ≠ q) : rl N (mk f p q) = mkP (rl N f) p q := by
  have hi := h.inv
  have hn := h.nf
  funext x
  have := hi x; have := hi p; have := hi q; have := hn x; have := hn p; have := hn q
  simp only [rl, mk, cj, mkP]
  by_cases hx : x < N
  · grind (splits := 60) [sw]
  · grind (splits := 60) [sw]
theorem rl_cut {N : Nat} {g : Nat → Nat} (h : Pl N g) {a : Nat} (ha : a < N) (e : g a ≠ a) : rl N (cj (hat N g) a (2 * N)) = cutP g a := by
  have h1 : hat N g a = g a := by simp [hat, ha, e]
  have hl := h.lt ha
  have h2 : hat N g (2 * N) = 2 * N + 1 := by
    have q1 : ¬ 2 * N < N := by omega
    have q2 : 2 * N % 2 = 0 := by omega
    simp [hat, q1, q2]
  have hc := (hat_cap h).inv
  have hr := congrFun (rl_hat h)
  funext x
  have h3 := hr x
  simp only [rl] at h3
  simp only [rl, cj, cutP]
  by_cases hx : x < N
  · by_cases x1 : x = a
    · subst x1
      have : sw x (2 * N) x = 2 * N := by simp [sw]
      have t2 : sw x (2 * N) (2 * N + 1) = 2 * N + 1 := by grind [sw]
      simp only [this, h2, t2]
      grind
    · by_cases x2 : x = g a
      · have e1 : sw a (2 * N) x = x := by grind [sw]
        have e2 : hat N g x = a := by rw [x2, ← h1, hc]
        have e3 : sw a (2 * N) a = 2 * N := by simp [sw]
        simp only [e1, e2, e3]
        grind
      · have e1 : sw a (2 * N) x = x := by grind [sw]
        have e2 : hat N g x ≠ a := fun z => x2 (by rw [← h1, ← z, hc])
        have e3 : hat N g x ≠ 2 * N := fun z => by
          have := hc x
          rw [z, h2] at this
          omega
        have e4 : sw a (2 * N) (hat N g x) = hat N g x := by grind [sw]
        simp only [e1, e4]
        grind
  · have := h.out x (by omega)
    grind
def fre (g : Nat → Nat) (x : Nat) : Nat := if g x = x then 0 else 1
def KP (N : Nat) : (Nat → Nat) → List (Nat × Nat) → Nat
  | g, [] => S (fre g) N
  | g, (p, q) :: L => (if g p = q then 0 else 2) + KP N (mkP g p q) L
theorem S_congr {F G : Nat → Nat} : ∀ {n : Nat}, (∀ x, x < n → F x = G x) → S F n = S G n
  | 0, _ => rfl
  | n + 1, h => by
    simp only [S]
    rw [S_congr fun x hx => h x (by omega), h n (by omega)]
def JsOk (N : Nat) (L : List (Nat × Nat)) : Prop := ∀ j ∈ L, j.1 < N ∧ j.2 < N ∧ j.1 ≠ j.2
theorem KK_KP {N : Nat} : ∀ (L : List (Nat × Nat)) {f : Nat → Nat}, Cap f → JsOk N L → KK N f L = KP N (rl N f) L
  | [], f, h, _ => by
    simp only [KK, KP, cnt]
    refine S_congr fun x hx => ?_
    have := h.nf x
    simp only [real, fre, rl]
    grind
  | (p, q) :: L, f, h, hL => by
    obtain ⟨h1, h2, h3⟩ := hL (p, q) List.mem_cons_self
    simp only [KK, KP]
    rw [KK_KP L (mk_cap h p q) fun j hj => hL j (List.mem_cons_of_mem _ hj), rl_mk h h1 h2 h3]
    have : (rl N f p = q) = (f p = q) := by
      simp only [rl]
      have := h.nf p
      apply propext
      grind
    simp only [this]
theorem lipMk {N : Nat} {g : Nat → Nat} (h : Pl N g) {p q : Nat} (hp : p < N) (hq : q < N) (hpq : p ≠ q) {L : List (Nat × Nat)} (hL : JsOk N L) :
    KP N g L ≤ KP N (mkP g p q) L + 2 ∧ KP N (mkP g p q) L ≤ KP N g L + 2 := by
  have hc := hat_cap h
  have e1 := KK_KP L hc hL
  have e2 := KK_KP L (mk_cap hc p q) hL
  rw [rl_mk hc hp hq hpq] at e2
  rw [rl_hat h] at e1 e2
  have l1 := lip N L (hat N g) p (hat N g q) hc fun j hj => (hL j hj).2.2
  have l2 := lip N L (cj (hat N g) p (hat N g q)) p (hat N g q) (mk_cap hc p q) fun j hj => (hL j hj).2.2
  rw [cj_cj] at l2
  simp only [mk] at e2
  omega
theorem lipCut {N : Nat} {g : Nat → Nat} (h : Pl N g) {a : Nat} (ha : a < N) (e : g a ≠ a) {L : List (Nat × Nat)} (hL : JsOk N L) :
    KP N g L ≤ KP N (cutP g a) L + 2 ∧ KP N (cutP g a) L ≤ KP N g L + 2 := by
  have hc := hat_cap h
  have e1 := KK_KP L hc hL
  have e2 := KK_KP L (hc.cj a (2 * N)) hL
  rw [rl_cut h ha e] at e2
  rw [rl_hat h] at e1
  have l1 := lip N L (hat N g) a (2 * N) hc fun j hj => (hL j hj).2.2
  have l2 := lip N L (cj (hat N g) a (2 * N)) a (2 * N) (hc.cj a (2 * N)) fun j hj => (hL j hj).2.2
  rw [cj_cj] at l2
  omega
end Dm
namespace Dm
/-! lays as lists of joints -/
def fn : List (Nat × Nat) → Nat → Nat
  | [], x => x
  | (a, b) :: L, x => if x = a then b else if x = b then a else fn L x
def ends (L : List (Nat × Nat)) : List Nat := L.flatMap fun j => [j.1, j.2]
structure Good (N : Nat) (L : List (Nat × Nat)) : Prop where
  js : JsOk N L
  nd : (ends L).Nodup
theorem ends_cons (a b : Nat) (L : List (Nat × Nat)) : ends ((a, b) :: L) = a :: b :: ends L := by simp [ends]
theorem Good.tail {N a b : Nat} {L : List (Nat × Nat)} (h : Good N ((a, b) :: L)) : Good N L := by
  have := h.nd
  rw [ends_cons] at this
  exact ⟨fun j hj => h.js j (List.mem_cons_of_mem _ hj), ((List.nodup_cons.mp (List.nodup_cons.mp this).2)).2⟩
theorem Good.head {N a b : Nat} {L : List (Nat × Nat)} (h : Good N ((a, b) :: L)) : a < N ∧ b < N ∧ a ≠ b ∧ a ∉ ends L ∧ b ∉ ends L := by
  obtain ⟨h1, h2, h3⟩ := h.js (a, b) List.mem_cons_self
  have := h.nd
  rw [ends_cons] at this
  have q := List.nodup_cons.mp this
  have q2 := List.nodup_cons.mp q.2
  exact ⟨h1, h2, h3, fun z => q.1 (List.mem_cons_of_mem _ z), q2.1⟩
theorem mem_ends {L : List (Nat × Nat)} {x : Nat} : x ∈ ends L ↔ ∃ j ∈ L, x = j.1 ∨ x = j.2 := by
  simp [ends, List.mem_flatMap]
theorem fn_out {x : Nat} : ∀ {L : List (Nat × Nat)}, x ∉ ends L → fn L x = x
  | [], _ => rfl
  | (a, b) :: L, h => by
    rw [ends_cons] at h
    simp only [List.mem_cons, not_or] at h
    simp only [fn, if_neg h.1, if_neg h.2.1]
    exact fn_out h.2.2
theorem fn_mem {N : Nat} {p q : Nat} : ∀ {L : List (Nat × Nat)}, Good N L → (p, q) ∈ L → fn L p = q ∧ fn L q = p
  | (a, b) :: L, h, hm => by
    obtain ⟨h1, h2, h3, h4, h5⟩ := h.head
    rcases List.mem_cons.mp hm with e | hm
    · cases e
      simp only [fn]
      grind
    · have hp : p ∈ ends L := mem_ends.mpr ⟨_, hm, .inl rfl⟩
      have hq : q ∈ ends L := mem_ends.mpr ⟨_, hm, .inr rfl⟩
      obtain ⟨r1, r2⟩ := fn_mem h.tail hm
      simp only [fn]
      grind
theorem fn_ne {N : Nat} {L : List (Nat × Nat)} (h : Good N L) {x : Nat} (hx : x ∈ ends L) : fn L x ≠ x := by
  obtain ⟨⟨p, q⟩, hm, e⟩ := mem_ends.mp hx
  obtain ⟨r1, r2⟩ := fn_mem h hm
  have := (h.js _ hm).2.2
  simp only at this e
  rcases e with rfl | rfl
  · rw [r1]; exact fun z => this z.symm
  · rw [r2]; exact this
theorem fn_pl {N : Nat} {L : List (Nat × Nat)} (h : Good N L) : Pl N (fn L) := by
  refine ⟨fun x => ?_, fun x hx => ?_⟩
  · by_cases m : x ∈ ends L
    · obtain ⟨⟨p, q⟩, hm, e⟩ := mem_ends.mp m
      obtain ⟨r1, r2⟩ := fn_mem h hm
      simp only at e
      rcases e with rfl | rfl
      · rw [r1, r2]
      · rw [r2, r1]
    · rw [fn_out m, fn_out m]
  · refine fn_out fun m => ?_
    obtain ⟨j, hm, e⟩ := mem_ends.mp m
    have := h.js j hm
    omega
theorem S_fn {N : Nat} : ∀ {L : List (Nat × Nat)}, Good N L → S (fre (fn L)) N = 2 * L.length
  | [], _ => by
    have : S (fre (fn [])) N = S (fun _ => 0) N := S_congr fun x _ => by simp [fre, fn]
    rw [this]
    have z : ∀ n, S (fun _ => 0) n = 0 := fun n => by induction n with
      | zero => rfl
      | succ n ih => simp [S, ih]
    simp [z]
  | (a, b) :: L, h => by
    obtain ⟨h1, h2, h3, h4, h5⟩ := h.head
    have ih := S_fn h.tail
    have e := S_swap (F := fre (fn ((a, b) :: L))) (G := fre (fn L)) (Y := [a, b]) (by simp [h3]) (fun x hx => by
      simp only [List.mem_cons, List.not_mem_nil, or_false, not_or] at hx
      simp only [fre, fn, if_neg hx.1, if_neg hx.2]) N
    have f1 := fn_out h4
    have f2 := fn_out h5
    have g1 : fre (fn L) a = 0 := by simp [fre, f1]
    have g2 : fre (fn L) b = 0 := by simp [fre, f2]
    have g3 : fre (fn ((a, b) :: L)) a = 1 := by simp [fre, fn]; omega
    have g4 : fre (fn ((a, b) :: L)) b = 1 := by simp only [fre, fn]; grind
    simp only [sy, h1, h2, if_true, g1, g2, g3, g4] at e
    simp only [List.length_cons]
    omega
theorem S_le {F G : Nat → Nat} : ∀ {n : Nat}, (∀ x, x < n → F x ≤ G x) → S F n ≤ S G n
  | 0, _ => Nat.le_refl _
  | n + 1, h => by
    have := S_le (n := n) fun x hx => h x (by omega)
    have := h n (by omega)
    simp only [S]
    omega
/-- all joints of D are joints of g -/
def Has (g : Nat → Nat) (D : List (Nat × Nat)) : Prop := ∀ j ∈ D, g j.1 = j.2
theorem has_fn {N : Nat} {g : Nat → Nat} {T : List (Nat × Nat)} (hg : Pl N g) (hT : Good N T) (h : Has g T) {x : Nat} (e : fn T x ≠ x) : g x = fn T x := by
  have m : x ∈ ends T := Decidable.byContradiction fun z => e (fn_out z)
  obtain ⟨⟨p, q⟩, hm, e'⟩ := mem_ends.mp m
  obtain ⟨r1, r2⟩ := fn_mem hT hm
  have := h _ hm
  simp only at this e'
  rcases e' with rfl | rfl
  · rw [r1, this]
  · rw [r2, ← this, hg.inv]
theorem Good.mid {N : Nat} {D L : List (Nat × Nat)} {p q : Nat} (h : Good N (D ++ (p, q) :: L)) : p < N ∧ q < N ∧ p ≠ q ∧ p ∉ ends D ∧ q ∉ ends D ∧ p ∉ ends L ∧ q ∉ ends L := by
  obtain ⟨h1, h2, h3⟩ := h.js (p, q) (List.mem_append_right _ List.mem_cons_self)
  have := h.nd
  have e : ends (D ++ (p, q) :: L) = ends D ++ (p :: q :: ends L) := by simp [ends]
  rw [e, List.nodup_append] at this
  obtain ⟨n1, n2, n3⟩ := this
  have m := List.nodup_cons.mp n2
  have m2 := List.nodup_cons.mp m.2
  exact ⟨h1, h2, h3, fun z => n3 p z p List.mem_cons_self rfl, fun z => n3 q z q (List.mem_cons_of_mem _ List.mem_cons_self) rfl, fun z => m.1 (List.mem_cons_of_mem _ z), m2.1⟩
theorem Has.made {N : Nat} {g : Nat → Nat} {D : List (Nat × Nat)} {p q : Nat} (hg : Pl N g) (h : Has g D) (hp : p ∉ ends D) (hq : q ∉ ends D) : Has (mkP g p q) (D ++ [(p, q)]) := by
  intro j hj
  rcases List.mem_append.mp hj with hj | hj
  · have e := h j hj
    have n1 : j.1 ∈ ends D := mem_ends.mpr ⟨j, hj, .inl rfl⟩
    have n2 : j.2 ∈ ends D := mem_ends.mpr ⟨j, hj, .inr rfl⟩
    have hi := hg.inv
    have := hi j.1
    have := hi p
    have := hi q
    simp only [mkP]
    grind
  · simp only [List.mem_singleton] at hj
    subst hj
    simp [mkP]
theorem KP_ge {N : Nat} : ∀ {L D : List (Nat × Nat)} {g : Nat → Nat}, Pl N g → Good N (D ++ L) → Has g D → 2 * (D ++ L).length ≤ KP N g L
  | [], D, g, hg, hT, h => by
    rw [List.append_nil] at hT ⊢
    rw [← S_fn hT]
    simp only [KP]
    refine S_le fun x _ => ?_
    have : fn D x ≠ x → g x = fn D x := has_fn hg hT h
    simp only [fre]
    grind
  | (p, q) :: L, D, g, hg, hT, h => by
    obtain ⟨h1, h2, h3, h4, h5, _, _⟩ := hT.mid
    have e : D ++ (p, q) :: L = (D ++ [(p, q)]) ++ L := by simp
    have ih := KP_ge (L := L) (D := D ++ [(p, q)]) (g := mkP g p q) (hg.mkp h1 h2 h3) (by rw [← e]; exact hT) (h.made hg h4 h5)
    rw [← e] at ih
    simp only [KP]
    omega
/-- cutting what is too much -/
theorem S_cut {N : Nat} {g : Nat → Nat} (hg : Pl N g) {a : Nat} (ha : a < N) (e : g a ≠ a) : S (fre g) N = S (fre (cutP g a)) N + 2 := by
  have hl := hg.lt ha
  have hi := hg.inv a
  have r := S_swap (F := fre g) (G := fre (cutP g a)) (Y := [a, g a]) (by simp; exact fun z => e z.symm) (fun x hx => by
    simp only [List.mem_cons, List.not_mem_nil, or_false, not_or] at hx
    simp only [fre, cutP]
    grind) N
  have g1 : fre g a = 1 := by simp [fre, e]
  have g2 : fre g (g a) = 1 := by simp only [fre, hi]; grind
  have g3 : fre (cutP g a) a = 0 := by simp [fre, cutP]
  have g4 : fre (cutP g a) (g a) = 0 := by simp [fre, cutP]
  simp only [sy, ha, hl, if_true, g1, g2, g3, g4] at r
  omega
theorem Has.cut {N : Nat} {g : Nat → Nat} {T : List (Nat × Nat)} (hg : Pl N g) (hT : Good N T) (h : Has g T) {a : Nat} (e : fn T a = a) : Has (cutP g a) T := by
  intro j hj
  have e1 := h j hj
  obtain ⟨r1, r2⟩ := fn_mem hT (p := j.1) (q := j.2) hj
  have := (hT.js j hj).2.2
  have hi := hg.inv j.1
  have hi2 := hg.inv a
  simp only [cutP]
  grind
theorem same_of_has {N : Nat} {g : Nat → Nat} {T : List (Nat × Nat)} (hg : Pl N g) (hT : Good N T) (h : Has g T) (no : ¬ ∃ a, a < N ∧ g a ≠ a ∧ fn T a = a) : g = fn T := by
  funext x
  by_cases e : fn T x = x
  · by_cases hx : x < N
    · rw [e]
      exact Decidable.byContradiction fun z => no ⟨x, hx, z, e⟩
    · rw [hg.out x (by omega), e]
  · exact has_fn hg hT h e
theorem tri_base {N : Nat} {T L2 : List (Nat × Nat)} (hT : Good N T) (hL2 : JsOk N L2) : ∀ (n : Nat) {g : Nat → Nat}, S (fre g) N ≤ n → Pl N g → Has g T → KP N g L2 + 2 * T.length ≤ KP N (fn T) L2 + S (fre g) N := by
  intro n
  induction n with
  | zero =>
    intro g hn hg h
    have e : g = fn T := same_of_has hg hT h fun ⟨a, ha, ea, _⟩ => by
      have := S_cut hg ha ea
      omega
    have := S_fn hT
    rw [e]
    omega
  | succ n ih =>
    intro g hn hg h
    by_cases no : ∃ a, a < N ∧ g a ≠ a ∧ fn T a = a
    · obtain ⟨a, ha, ea, fa⟩ := no
      have c := S_cut hg ha ea
      have := ih (g := cutP g a) (by omega) (hg.cut a) (h.cut hg hT fa)
      have := (lipCut hg ha ea hL2).1
      omega
    · have e := same_of_has hg hT h no
      have := S_fn hT
      rw [e]
      omega
theorem tri_gen {N : Nat} {L2 : List (Nat × Nat)} (hL2 : JsOk N L2) : ∀ {L D : List (Nat × Nat)} {g : Nat → Nat}, Pl N g → Good N (D ++ L) → Has g D → KP N g L2 + 2 * (D ++ L).length ≤ KP N (fn (D ++ L)) L2 + KP N g L
  | [], D, g, hg, hT, h => by
    rw [List.append_nil] at hT ⊢
    exact tri_base hT hL2 _ (Nat.le_refl _) hg h
  | (p, q) :: L, D, g, hg, hT, h => by
    obtain ⟨h1, h2, h3, h4, h5, _, _⟩ := hT.mid
    have e : D ++ (p, q) :: L = (D ++ [(p, q)]) ++ L := by simp
    have ih := tri_gen hL2 (L := L) (D := D ++ [(p, q)]) (g := mkP g p q) (hg.mkp h1 h2 h3) (by rw [← e]; exact hT) (h.made hg h4 h5)
    rw [← e] at ih
    simp only [KP]
    by_cases c : g p = q
    · rw [mkP_has hg c] at ih ⊢
      rw [if_pos c]
      omega
    · rw [if_neg c]
      have := (lipMk hg h1 h2 h3 hL2).1
      omega
/-- the three sides -/
theorem triangle {N : Nat} {A B C : List (Nat × Nat)} (hA : Good N A) (hB : Good N B) (hC : Good N C) : KP N (fn A) B + 2 * C.length ≤ KP N (fn C) B + KP N (fn A) C :=
  tri_gen hB.js (L := C) (D := []) (fn_pl hA) hC fun _ hj => nomatch hj
/-- while there is something between, one change brings it nearer -/
theorem nearer_mk {N : Nat} {g : Nat → Nat} (hg : Pl N g) : ∀ {L : List (Nat × Nat)}, Good N L → ¬ Has g L → ∃ j ∈ L, g j.1 ≠ j.2 ∧ KP N (mkP g j.1 j.2) L + 2 = KP N g L
  | [], _, h => absurd (fun _ hj => nomatch hj) h
  | (p, q) :: L, hL, h => by
    obtain ⟨h1, h2, h3, h4, h5⟩ := hL.head
    by_cases c : g p = q
    · have h' : ¬ Has g L := fun z => h fun j hj => by
        rcases List.mem_cons.mp hj with e | hj
        · subst e; exact c
        · exact z j hj
      obtain ⟨j, hj, e1, e2⟩ := nearer_mk hg hL.tail h'
      refine ⟨j, List.mem_cons_of_mem _ hj, e1, ?_⟩
      have m1 : j.1 ∈ ends L := mem_ends.mpr ⟨j, hj, .inl rfl⟩
      have m2 : j.2 ∈ ends L := mem_ends.mpr ⟨j, hj, .inr rfl⟩
      obtain ⟨k1, k2, k3⟩ := hL.js j (List.mem_cons_of_mem _ hj)
      have c' : mkP g j.1 j.2 p = q := by
        have := hg.inv p
        have := hg.inv j.1
        have := hg.inv j.2
        simp only [mkP]
        grind
      simp only [KP]
      rw [if_pos c, if_pos c', mkP_has hg c, mkP_has (hg.mkp k1 k2 k3) c']
      omega
    · refine ⟨(p, q), List.mem_cons_self, c, ?_⟩
      have c' : mkP g p q p = q := by simp [mkP]
      simp only [KP]
      rw [if_neg c, if_pos c', mkP_has (hg.mkp h1 h2 h3) c']
      omega
theorem KP_all {N : Nat} {g : Nat → Nat} (hg : Pl N g) : ∀ {L : List (Nat × Nat)}, Has g L → KP N g L = S (fre g) N
  | [], _ => rfl
  | (p, q) :: L, h => by
    have c : g p = q := h (p, q) List.mem_cons_self
    simp only [KP]
    rw [if_pos c, mkP_has hg c, KP_all hg fun j hj => h j (List.mem_cons_of_mem _ hj)]
    omega
theorem nearer {N : Nat} {g : Nat → Nat} (hg : Pl N g) {L : List (Nat × Nat)} (hL : Good N L) (h : 2 * L.length < KP N g L) :
    (∃ j ∈ L, g j.1 ≠ j.2 ∧ KP N (mkP g j.1 j.2) L + 2 = KP N g L) ∨ ∃ a, a < N ∧ g a ≠ a ∧ KP N (cutP g a) L + 2 = KP N g L := by
  by_cases c : Has g L
  · refine .inr ?_
    have e := KP_all hg c
    by_cases no : ∃ a, a < N ∧ g a ≠ a ∧ fn L a = a
    · obtain ⟨a, ha, ea, fa⟩ := no
      refine ⟨a, ha, ea, ?_⟩
      rw [KP_all (hg.cut a) (c.cut hg hL fa), e]
      exact (S_cut hg ha ea).symm
    · have e2 := same_of_has hg hL c no
      have := S_fn hL
      rw [e, e2] at h
      omega
  · exact .inl (nearer_mk hg hL c)
theorem KP_self {N : Nat} {L : List (Nat × Nat)} (hL : Good N L) : KP N (fn L) L = 2 * L.length := by
  rw [KP_all (fn_pl hL) fun j hj => (fn_mem hL hj).1, S_fn hL]
theorem KP_zero {N : Nat} {g : Nat → Nat} (hg : Pl N g) {L : List (Nat × Nat)} (hL : Good N L) (h : KP N g L ≤ 2 * L.length) : g = fn L := by
  by_cases c : Has g L
  · refine same_of_has hg hL c fun ⟨a, ha, ea, fa⟩ => ?_
    have e := KP_all hg c
    have e2 := KP_ge (D := []) (hg.cut a) hL fun _ hj => nomatch hj
    rw [KP_all (hg.cut a) (c.cut hg hL fa)] at e2
    have := S_cut hg ha ea
    simp only [List.nil_append] at e2
    omega
  · obtain ⟨j, hj, _, e⟩ := nearer_mk hg hL c
    obtain ⟨k1, k2, k3⟩ := hL.js j hj
    have e2 := KP_ge (D := []) (hg.mkp k1 k2 k3) hL fun _ hj => nomatch hj
    simp only [List.nil_append] at e2
    omega
end Dm
namespace Dm
/-! the pieces of two lays: lists of ends that hang together -/
structure Part (N : Nat) (g t : Nat → Nat) (P : List (List Nat)) : Prop where
  nd : P.flatten.Nodup
  cov : ∀ x, x ∈ P.flatten ↔ x < N
  cl : ∀ c ∈ P, ∀ x ∈ c, g x ∈ c ∧ t x ∈ c
  irr : ∀ c ∈ P, ∀ W : Nat → Prop, (∀ x, W x → W (g x) ∧ W (t x)) → (∃ x ∈ c, W x) → ∀ x ∈ c, W x
def ring (g t : Nat → Nat) (c : List Nat) : Bool := !c.isEmpty && c.all fun x => decide (g x ≠ x) && decide (t x ≠ x)
/-- twice the halves; twice the rings -/
def tA (P : List (List Nat)) : Nat := (P.map fun c => 2 * (c.length / 2)).sum
def tR (g t : Nat → Nat) (P : List (List Nat)) : Nat := (P.map fun c => if ring g t c = true then 2 else 0).sum
theorem ring_iff {g t : Nat → Nat} {c : List Nat} : ring g t c = true ↔ c ≠ [] ∧ ∀ x ∈ c, g x ≠ x ∧ t x ≠ x := by
  simp [ring, List.all_eq_true]
theorem ring_congr {g g' t : Nat → Nat} {c : List Nat} (h : ∀ x ∈ c, g' x = g x) : ring g' t c = ring g t c := by
  rw [Bool.eq_iff_iff, ring_iff, ring_iff]
  constructor
  · rintro ⟨a, b⟩
    exact ⟨a, fun x hx => by have := b x hx; rwa [h x hx] at this⟩
  · rintro ⟨a, b⟩
    exact ⟨a, fun x hx => by have := b x hx; rwa [h x hx]⟩
theorem tR_congr {g g' t : Nat → Nat} : ∀ {P : List (List Nat)}, (∀ c ∈ P, ∀ x ∈ c, g' x = g x) → tR g' t P = tR g t P
  | [], _ => rfl
  | c :: P, h => by
    have ih := tR_congr (t := t) (P := P) fun d hd => h d (List.mem_cons_of_mem _ hd)
    simp only [tR, List.map_cons, List.sum_cons] at ih ⊢
    rw [ring_congr (h c List.mem_cons_self), ih]
theorem tA_app (P Q : List (List Nat)) : tA (P ++ Q) = tA P + tA Q := by simp [tA]
theorem tR_app (g t : Nat → Nat) (P Q : List (List Nat)) : tR g t (P ++ Q) = tR g t P + tR g t Q := by simp [tR]
theorem tA_cons (c : List Nat) (Q : List (List Nat)) : tA (c :: Q) = 2 * (c.length / 2) + tA Q := by simp [tA]
theorem tR_cons (g t : Nat → Nat) (c : List Nat) (Q : List (List Nat)) : tR g t (c :: Q) = (if ring g t c = true then 2 else 0) + tR g t Q := by simp [tR]
/-- the piece with p and q loses them -/
theorem Part.shrink {N : Nat} {g t : Nat → Nat} {A B : List (List Nat)} {c : List Nat} {p q : Nat} (hg : Pl N g) (ht : Pl N t) (hP : Part N g t (A ++ c :: B)) (hp : p ∈ c) (e : t p = q) (hpq : p ≠ q) (n : g p ≠ q) :
    ∃ c', c.length = c'.length + 2 ∧ Part N (mkP g p q) t ([p, q] :: (A ++ c' :: B)) ∧ tR (mkP g p q) t ([p, q] :: (A ++ c' :: B)) = 2 + tR g t (A ++ c :: B) := by
  have hcm : c ∈ A ++ c :: B := List.mem_append_right _ List.mem_cons_self
  have clc := hP.cl c hcm
  have hq : q ∈ c := by have := (clc p hp).2; rwa [e] at this
  have gi := hg.inv
  have ti := ht.inv
  have tq : t q = p := by rw [← e, ti]
  have nd := hP.nd
  rw [List.flatten_append, List.flatten_cons, List.nodup_append] at nd
  obtain ⟨ndA, ndcB, dA⟩ := nd
  rw [List.nodup_append] at ndcB
  obtain ⟨ndc, ndB, dB⟩ := ndcB
  -- the rest of the piece
  have p1 : c.Perm (p :: c.erase p) := List.perm_cons_erase hp
  have hq' : q ∈ c.erase p := by
    rw [List.Nodup.mem_erase_iff ndc]
    exact ⟨fun z => hpq z.symm, hq⟩
  have p2 : (c.erase p).Perm (q :: (c.erase p).erase q) := List.perm_cons_erase hq'
  have pc : c.Perm (p :: q :: (c.erase p).erase q) := p1.trans (p2.cons p)
  generalize hc' : (c.erase p).erase q = c' at pc
  have mem' : ∀ x, x ∈ c ↔ x = p ∨ x = q ∨ x ∈ c' := fun x => by
    rw [pc.mem_iff]
    simp
  have ndpc := pc.nodup_iff.mp ndc
  have np : p ∉ c' := fun z => (List.nodup_cons.mp ndpc).1 (List.mem_cons_of_mem _ z)
  have nq : q ∉ c' := (List.nodup_cons.mp (List.nodup_cons.mp ndpc).2).1
  have ndc' : c'.Nodup := (List.nodup_cons.mp (List.nodup_cons.mp ndpc).2).2
  have off : ∀ x, x ∉ c → mkP g p q x = g x := fun x hx => by
    have h1 : x ≠ p := fun z => hx (z ▸ hp)
    have h2 : x ≠ q := fun z => hx (z ▸ hq)
    have h3 : x ≠ g p := fun z => hx (z ▸ (clc p hp).1)
    have h4 : x ≠ g q := fun z => hx (z ▸ (clc q hq).1)
    simp only [mkP, if_neg h1, if_neg h2, if_neg h3, if_neg h4]
  have offA : ∀ d ∈ A, ∀ x ∈ d, x ∉ c := fun d hd x hx z => dA x (List.mem_flatten.mpr ⟨d, hd, hx⟩) x (List.mem_append_left _ z) rfl
  have offB : ∀ d ∈ B, ∀ x ∈ d, x ∉ c := fun d hd x hx z => dB x z x (List.mem_flatten.mpr ⟨d, hd, hx⟩) rfl
  have inc : ∀ x ∈ c', x ∈ c := fun x hx => (mem' x).mpr (.inr (.inr hx))
  have g'c : ∀ x ∈ c', mkP g p q x ∈ c' := fun x hx => by
    have x1 : x ≠ p := fun z => np (z ▸ hx)
    have x2 : x ≠ q := fun z => nq (z ▸ hx)
    have hgx := (clc x (inc x hx)).1
    have hgp := (clc p hp).1
    have hgq := (clc q hq).1
    have gx := gi x
    have gp := gi p
    have gq := gi q
    rw [mem'] at hgx hgp hgq
    simp only [mkP]
    grind
  have t'c : ∀ x ∈ c', t x ∈ c' := fun x hx => by
    have x1 : x ≠ p := fun z => np (z ▸ hx)
    have x2 : x ≠ q := fun z => nq (z ▸ hx)
    have htx := (clc x (inc x hx)).2
    have tx := ti x
    rw [mem'] at htx
    grind
  have gpq : mkP g p q p = q := by simp [mkP]
  have gqp : mkP g p q q = p := by simp only [mkP]; grind
  have pf : ([p, q] :: (A ++ c' :: B)).flatten.Perm (A ++ c :: B).flatten := by
    simp only [List.flatten_cons, List.flatten_append]
    have s1 : ([p, q] ++ (A.flatten ++ (c' ++ B.flatten))).Perm (A.flatten ++ ([p, q] ++ (c' ++ B.flatten))) := by
      have s2 : ([p, q] ++ A.flatten ++ (c' ++ B.flatten)).Perm (A.flatten ++ [p, q] ++ (c' ++ B.flatten)) := List.perm_append_comm.append_right _
      simpa only [List.append_assoc] using s2
    refine s1.trans (List.Perm.append_left _ ?_)
    rw [← List.append_assoc]
    exact pc.symm.append_right _
  refine ⟨c', by rw [pc.length_eq]; rfl, ⟨pf.nodup_iff.mpr hP.nd, fun x => by rw [pf.mem_iff]; exact hP.cov x, ?_, ?_⟩, ?_⟩
  · intro d hd x hx
    rcases List.mem_cons.mp hd with rfl | hd
    · simp only [List.mem_cons, List.not_mem_nil, or_false] at hx
      rcases hx with rfl | rfl
      · rw [gpq, e]; simp
      · rw [gqp, tq]; simp
    · rcases List.mem_append.mp hd with hd | hd
      · rw [off x (offA d hd x hx)]
        exact hP.cl d (List.mem_append_left _ hd) x hx
      · rcases List.mem_cons.mp hd with rfl | hd
        · exact ⟨g'c x hx, t'c x hx⟩
        · rw [off x (offB d hd x hx)]
          exact hP.cl d (List.mem_append_right _ (List.mem_cons_of_mem _ hd)) x hx
  · intro d hd W hW hx0
    have same : d ∈ A ++ c :: B → (∀ x ∈ d, x ∉ c) → ∀ x ∈ d, W x := by
      intro hd hoff
      obtain ⟨x0, hx0, w0⟩ := hx0
      have q := hP.irr d hd (fun x => x ∈ d ∧ W x) (fun x ⟨a, b⟩ => by
        have h1 := hP.cl d hd x a
        have h2 := hW x b
        rw [off x (hoff x a)] at h2
        exact ⟨⟨h1.1, h2.1⟩, h1.2, h2.2⟩) ⟨x0, hx0, hx0, w0⟩
      exact fun x hx => (q x hx).2
    rcases List.mem_cons.mp hd with rfl | hd
    · obtain ⟨x0, hx0, w0⟩ := hx0
      have h1 := hW x0 w0
      simp only [List.mem_cons, List.not_mem_nil, or_false] at hx0
      intro x hx
      simp only [List.mem_cons, List.not_mem_nil, or_false] at hx
      rcases hx0 with rfl | rfl
      · rw [e] at h1
        rcases hx with rfl | rfl
        · exact w0
        · exact h1.2
      · rw [tq] at h1
        rcases hx with rfl | rfl
        · exact h1.2
        · exact w0
    · rcases List.mem_append.mp hd with hd | hd
      · exact same (List.mem_append_left _ hd) (offA d hd)
      · rcases List.mem_cons.mp hd with rfl | hd
        · obtain ⟨x0, hx0, w0⟩ := hx0
          have gp := gi p
          have gq := gi q
          have hgp := (clc p hp).1
          have hgq := (clc q hq).1
          rw [mem'] at hgp hgq
          have q0 := hP.irr c hcm (fun x => (x ∈ d ∧ W x) ∨ ((x = p ∨ x = q) ∧ ∃ y ∈ d, W y ∧ (y = g p ∨ y = g q))) (fun x hx => ?_) ⟨x0, inc x0 hx0, .inl ⟨hx0, w0⟩⟩
          · intro x hx
            rcases q0 x (inc x hx) with h | ⟨h, _⟩
            · exact h.2
            · rcases h with rfl | rfl
              · exact absurd hx np
              · exact absurd hx nq
          · rcases hx with ⟨hx, wx⟩ | ⟨hx, y, hy, wy, ey⟩
            · have h1 := hW x wx
              have h2 := g'c x hx
              have h3 := t'c x hx
              refine ⟨?_, .inl ⟨h3, h1.2⟩⟩
              by_cases c1 : x = g p
              · exact .inr ⟨.inl (by rw [c1, gp]), x, hx, wx, .inl c1⟩
              · by_cases c2 : x = g q
                · exact .inr ⟨.inr (by rw [c2, gq]), x, hx, wx, .inr c2⟩
                · have x1 : x ≠ p := fun z => np (z ▸ hx)
                  have x2 : x ≠ q := fun z => nq (z ▸ hx)
                  have e3 : mkP g p q x = g x := by simp only [mkP, if_neg x1, if_neg x2, if_neg c1, if_neg c2]
                  rw [e3] at h1 h2
                  exact .inl ⟨h2, h1.1⟩
            · have hy1 := hW y wy
              have y1 : y ≠ p := fun z => np (z ▸ hy)
              have y2 : y ≠ q := fun z => nq (z ▸ hy)
              have key : ∀ z, (z = g p ∨ z = g q) → z ≠ p → z ≠ q → z ∈ d ∧ W z := by
                intro z hz z1 z2
                by_cases ez : z = y
                · rw [ez]; exact ⟨hy, wy⟩
                · have e3 : mkP g p q y = z := by
                    simp only [mkP, if_neg y1, if_neg y2]
                    rcases ey with ey | ey
                    · have e4 : z = g q := by
                        rcases hz with h | h
                        · exact absurd (h.trans ey.symm) ez
                        · exact h
                      rw [if_pos ey]
                      rw [if_neg (by rw [← e4]; exact z2), e4]
                    · have e4 : z = g p := by
                        rcases hz with h | h
                        · exact h
                        · exact absurd (h.trans ey.symm) ez
                      rw [if_neg (by rw [← e4]; exact fun w => ez w.symm), if_pos ey]
                      rw [if_neg (by rw [← e4]; exact z1), e4]
                  have := g'c y hy
                  rw [e3] at this hy1
                  exact ⟨this, hy1.1⟩
              have wit : ∃ y ∈ d, W y ∧ (y = g p ∨ y = g q) := ⟨y, hy, wy, ey⟩
              rcases hx with rfl | rfl
              · refine ⟨?_, .inr ⟨.inr e, wit⟩⟩
                by_cases c1 : g x = x
                · exact .inr ⟨.inl c1, wit⟩
                · exact .inl (key (g x) (.inl rfl) c1 n)
              · refine ⟨?_, .inr ⟨.inl tq, wit⟩⟩
                by_cases c1 : g x = x
                · exact .inr ⟨.inr c1, wit⟩
                · have c2 : g x ≠ p := fun z => n (by rw [← z, gi])
                  exact .inl (key (g x) (.inr rfl) c2 c1)
        · exact same (List.mem_append_right _ (List.mem_cons_of_mem _ hd)) (offB d hd)
  · rw [tR_cons, tR_app, tR_app, tR_cons, tR_cons, tR_congr (P := A) fun d hd x hx => off x (offA d hd x hx), tR_congr (P := B) fun d hd x hx => off x (offB d hd x hx)]
    have r1 : ring (mkP g p q) t [p, q] = true := by
      rw [ring_iff]
      refine ⟨by simp, fun x hx => ?_⟩
      simp only [List.mem_cons, List.not_mem_nil, or_false] at hx
      rcases hx with rfl | rfl
      · rw [gpq, e]; exact ⟨fun z => hpq z.symm, fun z => hpq z.symm⟩
      · rw [gqp, tq]; exact ⟨hpq, hpq⟩
    have r2 : ring (mkP g p q) t c' = ring g t c := by
      rw [Bool.eq_iff_iff, ring_iff, ring_iff]
      have hgp := (clc p hp).1
      have hgq := (clc q hq).1
      rw [mem'] at hgp hgq
      have gp := gi p
      have gq := gi q
      constructor
      · rintro ⟨hne, hall⟩
        have pfree : g p ≠ p := fun z => by
          by_cases z2 : g q = q
          · -- the piece is p and q alone
            obtain ⟨x0, hx0⟩ := List.exists_mem_of_ne_nil _ hne
            have q0 := hP.irr c hcm (fun x => x = p ∨ x = q) (fun x hx => by
              rcases hx with rfl | rfl
              · exact ⟨.inl z, .inr e⟩
              · exact ⟨.inr z2, .inl tq⟩) ⟨p, hp, .inl rfl⟩
            rcases q0 x0 (inc x0 hx0) with rfl | rfl
            · exact np hx0
            · exact nq hx0
          · have hm : g q ∈ c' := by
              rcases hgq with h | h | h
              · exact absurd (by rw [← h, gi]) (show g p ≠ q from n)
              · exact absurd h z2
              · exact h
            have h1 := (hall _ hm).1
            apply h1
            simp only [mkP]
            grind
        have qfree : g q ≠ q := fun z => by
          have hm : g p ∈ c' := by
            rcases hgp with h | h | h
            · exact absurd h pfree
            · exact absurd h n
            · exact h
          have h1 := (hall _ hm).1
          apply h1
          simp only [mkP]
          grind
        refine ⟨fun z => (by rw [z] at hp; exact nomatch hp), fun x hx => ?_⟩
        rcases (mem' x).mp hx with rfl | rfl | hx'
        · exact ⟨pfree, by rw [e]; exact fun z => hpq z.symm⟩
        · exact ⟨qfree, by rw [tq]; exact hpq⟩
        · have h1 := hall x hx'
          refine ⟨fun z => h1.1 ?_, h1.2⟩
          have x1 : x ≠ p := fun z => np (z ▸ hx')
          have x2 : x ≠ q := fun z => nq (z ▸ hx')
          simp only [mkP]
          grind
      · rintro ⟨hne, hall⟩
        have hgp0 := (hall p hp).1
        have hgq0 := (hall q hq).1
        have hm : g p ∈ c' := by
          rcases hgp with h | h | h
          · exact absurd h hgp0
          · exact absurd h n
          · exact h
        refine ⟨fun z => (by rw [z] at hm; exact nomatch hm), fun x hx => ?_⟩
        have h1 := hall x (inc x hx)
        refine ⟨?_, h1.2⟩
        have x1 : x ≠ p := fun z => np (z ▸ hx)
        have x2 : x ≠ q := fun z => nq (z ▸ hx)
        have gx := gi x
        simp only [mkP]
        grind
    rw [r1, r2]
    simp only [if_true]
/-! what they cost -/
theorem perm_range {P : List (List Nat)} {N : Nat} {g t : Nat → Nat} (h : Part N g t P) : P.flatten.Perm (List.range N) := by
  refine (List.perm_ext_iff_of_nodup h.nd List.nodup_range).mpr fun x => ?_
  rw [h.cov, List.mem_range]
theorem sum_range (F : Nat → Nat) : ∀ N, ((List.range N).map F).sum = S F N
  | 0 => rfl
  | N + 1 => by
    rw [List.range_succ, List.map_append, List.sum_append, sum_range F N]
    simp [S]
theorem sum_flat (F : Nat → Nat) : ∀ P : List (List Nat), (P.flatten.map F).sum = (P.map fun c => (c.map F).sum).sum
  | [] => rfl
  | c :: P => by rw [List.flatten_cons, List.map_append, List.sum_append, List.map_cons, List.sum_cons, sum_flat F P]
theorem Part.sum {N : Nat} {g t : Nat → Nat} {P : List (List Nat)} (h : Part N g t P) (F : Nat → Nat) : (P.map fun c => (c.map F).sum).sum = S F N := by
  rw [← sum_flat, ← sum_range, ((perm_range h).map F).sum_nat]
theorem piece_end {N : Nat} {g t : Nat → Nat} {P : List (List Nat)} (hg : Pl N g) (ht : Pl N t) (hP : Part N g t P) (sub : ∀ x, t x ≠ x → g x = t x) {c : List Nat} (hc : c ∈ P) (ndc : c.Nodup) :
    2 * (c.length / 2) + (c.map (fre t)).sum = (c.map (fre g)).sum + (if ring g t c = true then 2 else 0) := by
  cases c with
  | nil => simp [ring]
  | cons x r =>
    have cl := hP.cl _ hc x List.mem_cons_self
    have gi := hg.inv x
    have ti := ht.inv x
    have q := hP.irr _ hc (fun y => y = x ∨ y = g x) (fun y hy => by
      rcases hy with rfl | rfl
      · refine ⟨.inr rfl, ?_⟩
        by_cases e : t y = y
        · exact .inl e
        · exact .inr (sub y e).symm
      · refine ⟨.inl gi, ?_⟩
        by_cases e : t (g x) = g x
        · exact .inr e
        · have := sub _ e
          rw [gi] at this
          exact .inl this.symm) ⟨x, List.mem_cons_self, .inl rfl⟩
    have nx := (List.nodup_cons.mp ndc).1
    have ndr := (List.nodup_cons.mp ndc).2
    cases r with
    | nil =>
      have h1 : g x = x := by simpa using cl.1
      have h2 : t x = x := by simpa using cl.2
      have hr : ring g t [x] = false := by
        rw [← Bool.not_eq_true, ring_iff]
        exact fun z => (z.2 x List.mem_cons_self).1 h1
      simp [fre, h1, h2, hr]
    | cons y r =>
      have ey : y = g x := by
        rcases q y (by simp) with h | h
        · exact absurd (by rw [h]; exact List.mem_cons_self) nx
        · exact h
      have er : r = [] := by
        cases r with
        | nil => rfl
        | cons z r =>
          exfalso
          rcases q z (by simp) with h | h
          · exact nx (by rw [h]; simp)
          · exact (List.nodup_cons.mp ndr).1 (by rw [ey, ← h]; exact List.mem_cons_self)
      subst er
      have nxy : x ≠ y := fun z => nx (by rw [z]; exact List.mem_cons_self)
      have h1 : g x ≠ x := by rw [← ey]; exact fun z => nxy z.symm
      have h2 : g y ≠ y := by rw [ey, gi]; exact fun z => h1 z.symm
      have tx := cl.2
      simp only [List.mem_cons, List.not_mem_nil, or_false] at tx
      have ty := (hP.cl _ hc y (by simp)).2
      simp only [List.mem_cons, List.not_mem_nil, or_false] at ty
      by_cases h3 : t x = x
      · have h4 : t y = y := by
          rcases ty with h | h
          · exact absurd (by rw [← h3, ← h, ht.inv y]) nxy
          · exact h
        have hr : ring g t [x, y] = false := by
          rw [← Bool.not_eq_true, ring_iff]
          exact fun z => (z.2 x List.mem_cons_self).2 h3
        simp [fre, h1, h2, h3, h4, hr]
      · have e3 : t x = y := by
          rcases tx with h | h
          · exact absurd h h3
          · exact h
        have h4 : t y ≠ y := by rw [← e3, ti]; exact fun z => h3 z.symm
        have hr : ring g t [x, y] = true := by
          rw [ring_iff]
          refine ⟨by simp, fun z hz => ?_⟩
          simp only [List.mem_cons, List.not_mem_nil, or_false] at hz
          rcases hz with rfl | rfl
          · exact ⟨h1, h3⟩
          · exact ⟨h2, h4⟩
        simp [fre, h1, h2, h3, h4, hr]
theorem sum_pieces {N : Nat} {g t : Nat → Nat} {P Q : List (List Nat)} (hg : Pl N g) (ht : Pl N t) (hP : Part N g t P) (sub : ∀ x, t x ≠ x → g x = t x) : (∀ c ∈ Q, c ∈ P) → (∀ c ∈ Q, c.Nodup) →
    tA Q + (Q.map fun c => (c.map (fre t)).sum).sum = (Q.map fun c => (c.map (fre g)).sum).sum + tR g t Q := by
  induction Q with
  | nil => intro _ _; rfl
  | cons c Q ih =>
    intro h nd
    have := ih (fun d hd => h d (List.mem_cons_of_mem _ hd)) fun d hd => nd d (List.mem_cons_of_mem _ hd)
    have e := piece_end hg ht hP sub (h c List.mem_cons_self) (nd c List.mem_cons_self)
    rw [tA_cons, tR_cons]
    simp only [List.map_cons, List.sum_cons]
    omega
theorem nodup_of_flat {P : List (List Nat)} (h : P.flatten.Nodup) : ∀ c ∈ P, c.Nodup := fun c hc => by
  obtain ⟨A, B, rfl⟩ := List.append_of_mem hc
  rw [List.flatten_append, List.flatten_cons, List.nodup_append, List.nodup_append] at h
  exact h.2.1.1
/-- the pieces' cost is the number of changes -/
theorem cost_gen {N : Nat} : ∀ {L D : List (Nat × Nat)} {g : Nat → Nat} {P : List (List Nat)}, Pl N g → Good N (D ++ L) → Has g D → Part N g (fn (D ++ L)) P → tA P + 2 * (D ++ L).length = KP N g L + tR g (fn (D ++ L)) P
  | [], D, g, P, hg, hT, h, hP => by
    rw [List.append_nil] at hT hP ⊢
    have ht := fn_pl hT
    have e := sum_pieces hg ht hP (fun x e => has_fn hg hT h e) (fun c hc => hc) (nodup_of_flat hP.nd)
    rw [hP.sum, hP.sum, S_fn hT] at e
    exact e
  | (p, q) :: L, D, g, P, hg, hT, h, hP => by
    obtain ⟨h1, h2, h3, h4, h5, _, _⟩ := hT.mid
    have e : D ++ (p, q) :: L = (D ++ [(p, q)]) ++ L := by simp
    have ht := fn_pl hT
    have tp : fn (D ++ (p, q) :: L) p = q := (fn_mem hT (List.mem_append_right _ List.mem_cons_self)).1
    simp only [KP]
    by_cases c : g p = q
    · have h' : Has g (D ++ [(p, q)]) := by
        have := h.made (p := p) (q := q) hg h4 h5
        rwa [mkP_has hg c] at this
      rw [if_pos c, mkP_has hg c]
      have ih := cost_gen (L := L) (D := D ++ [(p, q)]) (P := P) hg (by rw [← e]; exact hT) h' (by rw [← e]; exact hP)
      rw [← e] at ih
      omega
    · rw [if_neg c]
      have hm : p ∈ P.flatten := (hP.cov p).mpr h1
      obtain ⟨d, hd, hpd⟩ := List.mem_flatten.mp hm
      obtain ⟨A, B, rfl⟩ := List.append_of_mem hd
      obtain ⟨d', hl, hP', hR⟩ := hP.shrink hg ht hpd tp h3 c
      have ih := cost_gen (L := L) (D := D ++ [(p, q)]) (P := [p, q] :: (A ++ d' :: B)) (hg.mkp h1 h2 h3) (by rw [← e]; exact hT) (h.made hg h4 h5) (by rw [← e]; exact hP')
      rw [← e, hR] at ih
      have e2 : tA ([p, q] :: (A ++ d' :: B)) = tA (A ++ d :: B) := by
        rw [tA_cons, tA_app, tA_app, tA_cons, tA_cons, hl]
        have : [p, q].length / 2 = 1 := by simp
        have : (d'.length + 2) / 2 = d'.length / 2 + 1 := by omega
        omega
      rw [e2] at ih
      omega
theorem cost_is {N : Nat} {A B : List (Nat × Nat)} {P : List (List Nat)} (hA : Good N A) (hB : Good N B) (hP : Part N (fn A) (fn B) P) : tA P + 2 * B.length = KP N (fn A) B + tR (fn A) (fn B) P :=
  cost_gen (D := []) (fn_pl hA) hB (fun _ hj => nomatch hj) hP
theorem Part.symm {N : Nat} {g t : Nat → Nat} {P : List (List Nat)} (h : Part N g t P) : Part N t g P :=
  ⟨h.nd, h.cov, fun c hc x hx => ⟨(h.cl c hc x hx).2, (h.cl c hc x hx).1⟩, fun c hc W hW => h.irr c hc W fun x hx => ⟨(hW x hx).2, (hW x hx).1⟩⟩
theorem tR_symm (g t : Nat → Nat) : ∀ P : List (List Nat), tR g t P = tR t g P
  | [] => rfl
  | c :: P => by
    have : ring g t c = ring t g c := by
      rw [Bool.eq_iff_iff, ring_iff, ring_iff]
      exact ⟨fun h => ⟨h.1, fun x hx => ⟨(h.2 x hx).2, (h.2 x hx).1⟩⟩, fun h => ⟨h.1, fun x hx => ⟨(h.2 x hx).2, (h.2 x hx).1⟩⟩⟩
    rw [tR_cons, tR_cons, tR_symm g t P, this]
end Dm
namespace Dm
/-! counting -/
theorem length_le {r : List Nat} {N : Nat} (nd : r.Nodup) (h : ∀ x ∈ r, x < N) : r.length ≤ N := by
  have p : r.Perm ((List.range N).filter fun x => decide (x ∈ r)) := by
    refine (List.perm_ext_iff_of_nodup nd (List.nodup_range.filter _)).mpr fun x => ?_
    simp only [List.mem_filter, List.mem_range, decide_eq_true_eq]
    exact ⟨fun z => ⟨h x z, z⟩, fun z => z.2⟩
  rw [p.length_eq]
  have := List.length_filter_le (fun x => decide (x ∈ r)) (List.range N)
  rwa [List.length_range] at this
theorem least {p : Nat → Prop} : ∀ n, (∃ m, m ≤ n ∧ p m) → ∃ m, m ≤ n ∧ p m ∧ ∀ k, k < m → ¬ p k := by
  intro n
  induction n with
  | zero =>
    rintro ⟨m, hm, pm⟩
    obtain rfl : m = 0 := by omega
    exact ⟨0, Nat.le_refl _, pm, fun k hk => by omega⟩
  | succ n ih =>
    rintro ⟨m, hm, pm⟩
    by_cases c : ∃ m, m ≤ n ∧ p m
    · obtain ⟨k, h1, h2, h3⟩ := ih c
      exact ⟨k, by omega, h2, h3⟩
    · obtain rfl : m = n + 1 := Decidable.byContradiction fun z => c ⟨m, by omega, pm⟩
      exact ⟨n + 1, Nat.le_refl _, pm, fun k hk pk => c ⟨k, by omega, pk⟩⟩
/-! rows: from an end on, by both lays in turn -/
def turnAt (b : Bool) (i : Nat) : Bool := if i % 2 = 0 then b else !b
def wk (f : Bool → Nat → Nat) (s : Nat) (b : Bool) : Nat → Nat
  | 0 => s
  | i + 1 => f (turnAt b i) (wk f s b i)
def Stop (f : Bool → Nat → Nat) (s : Nat) (b : Bool) (m : Nat) : Prop := wk f s b (m + 1) = wk f s b m ∨ wk f s b (m + 1) = s
def rowOf (f : Bool → Nat → Nat) (s : Nat) (b : Bool) (m : Nat) : List Nat := (List.range (m + 1)).map (wk f s b)
theorem turn_succ (b : Bool) (i : Nat) : turnAt b (i + 1) = !turnAt b i := by
  simp only [turnAt]
  by_cases h : i % 2 = 0
  · have : ¬ (i + 1) % 2 = 0 := by omega
    simp [h, this]
  · have : (i + 1) % 2 = 0 := by omega
    simp [h, this]
theorem turn_par (b : Bool) {i j : Nat} (h : i % 2 = j % 2) : turnAt b i = turnAt b j := by simp only [turnAt, h]
theorem wk_distinct {f : Bool → Nat → Nat} (hf : ∀ c x, f c (f c x) = x) {s : Nat} {b : Bool} {m : Nat} (h : ∀ k, k < m → ¬ Stop f s b k) : ∀ j, j ≤ m → ∀ i, i < j → wk f s b i ≠ wk f s b j := by
  intro j
  induction j using Nat.strongRecOn with
  | _ j ih =>
    intro hj i hi e
    have hj1 : j - 1 + 1 = j := by omega
    have st := h (j - 1) (by omega)
    simp only [Stop, not_or, hj1] at st
    cases i with
    | zero => exact st.2 e.symm
    | succ i =>
      have bk : f (turnAt b (j - 1)) (wk f s b j) = wk f s b (j - 1) := by
        have : wk f s b j = f (turnAt b (j - 1)) (wk f s b (j - 1)) := by
          conv => lhs; rw [← hj1]
          rfl
        rw [this, hf]
      by_cases par : i % 2 = (j - 1) % 2
      · have bi : f (turnAt b i) (wk f s b (i + 1)) = wk f s b i := by
          show f (turnAt b i) (f (turnAt b i) (wk f s b i)) = _
          rw [hf]
        rw [turn_par b par, e, bk] at bi
        exact ih (j - 1) (by omega) (by omega) i (by omega) bi.symm
      · have par2 : (i + 1) % 2 = (j - 1) % 2 := by omega
        have fi : wk f s b (i + 2) = f (turnAt b (i + 1)) (wk f s b (i + 1)) := rfl
        rw [turn_par b par2, e, bk] at fi
        by_cases c : i + 2 = j
        · have st2 := h (i + 1) (by omega)
          simp only [Stop, not_or] at st2
          rw [show i + 1 + 1 = j by omega] at st2
          exact st2.1 e.symm
        · exact ih (j - 1) (by omega) (by omega) (i + 2) (by omega) fi
theorem wk_lt {N : Nat} {f : Bool → Nat → Nat} (hf : ∀ c, Pl N (f c)) {s : Nat} (hs : s < N) (b : Bool) : ∀ i, wk f s b i < N
  | 0 => hs
  | i + 1 => (hf _).lt (wk_lt hf hs b i)
theorem row_nodup {N : Nat} {f : Bool → Nat → Nat} (hf : ∀ c, Pl N (f c)) {s : Nat} {b : Bool} {m : Nat} (h : ∀ k, k < m → ¬ Stop f s b k) : (rowOf f s b m).Nodup := by
  rw [rowOf, List.nodup_iff_pairwise_ne, List.pairwise_map]
  refine List.Pairwise.imp_of_mem (R := (· < ·)) (fun {i j} hi hj hlt => ?_) List.pairwise_lt_range
  rw [List.mem_range] at hi hj
  exact wk_distinct (fun c => (hf c).inv) h j (by omega) i hlt
theorem mem_row {f : Bool → Nat → Nat} {s : Nat} {b : Bool} {m x : Nat} : x ∈ rowOf f s b m ↔ ∃ i, i ≤ m ∧ wk f s b i = x := by
  simp only [rowOf, List.mem_map, List.mem_range]
  exact ⟨fun ⟨i, h, e⟩ => ⟨i, by omega, e⟩, fun ⟨i, h, e⟩ => ⟨i, by omega, e⟩⟩
/-- some turn is the last one -/
theorem row_stops {N : Nat} {f : Bool → Nat → Nat} (hf : ∀ c, Pl N (f c)) {s : Nat} (hs : s < N) (b : Bool) : ∃ m, m < N ∧ Stop f s b m ∧ ∀ k, k < m → ¬ Stop f s b k := by
  by_cases c : ∃ m, m ≤ N ∧ Stop f s b m
  · obtain ⟨m, h1, h2, h3⟩ := least N c
    refine ⟨m, ?_, h2, h3⟩
    have := length_le (row_nodup hf h3) (N := N) (fun x hx => by
      obtain ⟨i, _, rfl⟩ := mem_row.mp hx
      exact wk_lt hf hs b i)
    simp only [rowOf, List.length_map, List.length_range] at this
    omega
  · have := length_le (row_nodup hf (s := s) (b := b) (m := N) fun k hk z => c ⟨k, by omega, z⟩) (N := N) (fun x hx => by
      obtain ⟨i, _, rfl⟩ := mem_row.mp hx
      exact wk_lt hf hs b i)
    simp only [rowOf, List.length_map, List.length_range] at this
    omega
theorem row_irr {f : Bool → Nat → Nat} (hf : ∀ c x, f c (f c x) = x) {s : Nat} {b : Bool} {m : Nat} (W : Nat → Prop) (hW : ∀ x, W x → W (f false x) ∧ W (f true x)) (h : ∃ x ∈ rowOf f s b m, W x) : ∀ x ∈ rowOf f s b m, W x := by
  obtain ⟨x, hx, wx⟩ := h
  have cl : ∀ c x, W x → W (f c x) := fun c x hx => by cases c; exact (hW x hx).1; exact (hW x hx).2
  have back : ∀ i, W (wk f s b i) → W s := by
    intro i
    induction i with
    | zero => exact id
    | succ i ih =>
      intro h
      apply ih
      have := cl (turnAt b i) _ h
      rwa [show wk f s b (i + 1) = f (turnAt b i) (wk f s b i) from rfl, hf] at this
  obtain ⟨i, _, rfl⟩ := mem_row.mp hx
  have w0 := back i wx
  have fwd : ∀ j, W (wk f s b j) := by
    intro j
    induction j with
    | zero => exact w0
    | succ j ih => exact cl _ _ ih
  intro y hy
  obtain ⟨j, _, rfl⟩ := mem_row.mp hy
  exact fwd j
theorem free_one {f : Bool → Nat → Nat} {s : Nat} {b : Bool} {m : Nat} (h : ∀ k, k < m → ¬ Stop f s b k) {i : Nat} (hi : i < m) : f (turnAt b i) (wk f s b i) ≠ wk f s b i := fun z => h i hi (.inl z)
theorem back_one {f : Bool → Nat → Nat} (hf : ∀ c x, f c (f c x) = x) {s : Nat} {b : Bool} (i : Nat) : f (turnAt b i) (wk f s b (i + 1)) = wk f s b i := by
  show f (turnAt b i) (f (turnAt b i) (wk f s b i)) = _
  rw [hf]
/-- begun at a last end: it goes on to the other one -/
structure LastRow (f : Bool → Nat → Nat) (s : Nat) (b : Bool) (m : Nat) : Prop where
  stop : f (turnAt b m) (wk f s b m) = wk f s b m
  beg : f (!b) s = s
  mid : ∀ k, k < m → f (turnAt b k) (wk f s b k) ≠ wk f s b k
theorem last_row {f : Bool → Nat → Nat} (hf : ∀ c x, f c (f c x) = x) {s : Nat} {b : Bool} {m : Nat} (hb : f (!b) s = s) (hm : Stop f s b m) (h : ∀ k, k < m → ¬ Stop f s b k) : LastRow f s b m := by
  refine ⟨?_, hb, fun k hk => free_one h hk⟩
  rcases hm with hm | hm
  · exact hm
  · have dis := wk_distinct hf h
    have e : wk f s b m = f (turnAt b m) s := by
      have q := back_one hf (s := s) (b := b) m
      rw [hm] at q
      exact q.symm
    by_cases par : m % 2 = 0
    · have t0 : turnAt b m = b := by simp [turnAt, par]
      have e1 : wk f s b m = wk f s b 1 := by rw [e, t0]; rfl
      by_cases c : m = 0
      · subst c
        exact e1.symm
      · exact absurd e1.symm (dis m (Nat.le_refl _) 1 (by omega))
    · have t0 : turnAt b m = !b := by simp [turnAt, par]
      rw [t0, hb] at e
      exact absurd e.symm (dis m (Nat.le_refl _) 0 (by omega))
theorem LastRow.closed {f : Bool → Nat → Nat} (hf : ∀ c x, f c (f c x) = x) {s : Nat} {b : Bool} {m : Nat} (h : LastRow f s b m) : ∀ x ∈ rowOf f s b m, ∀ c, f c x ∈ rowOf f s b m := by
  intro x hx c
  obtain ⟨i, hi, rfl⟩ := mem_row.mp hx
  by_cases e : c = turnAt b i
  · subst e
    by_cases l : i = m
    · subst l
      rw [h.stop]
      exact mem_row.mpr ⟨i, Nat.le_refl _, rfl⟩
    · exact mem_row.mpr ⟨i + 1, by omega, rfl⟩
  · cases i with
    | zero =>
      have : c = !b := by
        have t0 : turnAt b 0 = b := rfl
        rw [t0] at e
        cases c <;> cases b <;> simp_all
      rw [this]
      show f (!b) s ∈ _
      rw [h.beg]
      exact mem_row.mpr ⟨0, by omega, rfl⟩
    | succ i =>
      have : c = turnAt b i := by
        rw [turn_succ] at e
        cases c <;> cases h : turnAt b i <;> simp_all
      rw [this, back_one hf]
      exact mem_row.mpr ⟨i, by omega, rfl⟩
/-- where it can be free: its first end ahead, its last one behind -/
theorem LastRow.free {f : Bool → Nat → Nat} (hf : ∀ c x, f c (f c x) = x) {s : Nat} {b : Bool} {m : Nat} (h : LastRow f s b m) {i : Nat} (hi : i ≤ m) {c : Bool} (e : f c (wk f s b i) = wk f s b i) : (i = 0 ∧ c = !b) ∨ (i = m ∧ c = turnAt b m) := by
  by_cases e2 : c = turnAt b i
  · by_cases l : i = m
    · subst l; exact .inr ⟨rfl, e2⟩
    · rw [e2] at e
      exact absurd e (h.mid i (by omega))
  · cases i with
    | zero =>
      refine .inl ⟨rfl, ?_⟩
      have t0 : turnAt b 0 = b := rfl
      rw [t0] at e2
      cases c <;> cases b <;> simp_all
    | succ i =>
      have : c = turnAt b i := by
        rw [turn_succ] at e2
        cases c <;> cases h : turnAt b i <;> simp_all
      rw [this, back_one hf] at e
      have := h.mid i (by omega)
      exact absurd e.symm this
/-- begun where no end is free: it comes round -/
theorem ring_row {f : Bool → Nat → Nat} (hf : ∀ c x, f c (f c x) = x) {s : Nat} {b : Bool} {m : Nat} {U : Nat → Prop} (hU : ∀ x, U x → ∀ c, U (f c x) ∧ f c x ≠ x) (hs : U s) (hm : Stop f s b m) (h : ∀ k, k < m → ¬ Stop f s b k) :
    (∀ x ∈ rowOf f s b m, ∀ c, f c x ∈ rowOf f s b m) ∧ ∀ x ∈ rowOf f s b m, U x := by
  have all : ∀ i, U (wk f s b i) := by
    intro i
    induction i with
    | zero => exact hs
    | succ i ih => exact (hU _ ih _).1
  have dis := wk_distinct hf h
  have e : wk f s b (m + 1) = s := by
    rcases hm with hm | hm
    · exact absurd hm (hU _ (all m) _).2
    · exact hm
  have em : wk f s b m = f (turnAt b m) s := by
    have q := back_one hf (s := s) (b := b) m
    rw [e] at q
    exact q.symm
  have par : ¬ m % 2 = 0 := fun par => by
    have t0 : turnAt b m = b := by simp [turnAt, par]
    have e1 : wk f s b m = wk f s b 1 := by rw [em, t0]; rfl
    by_cases c : m = 0
    · subst c
      exact (hU _ hs b).2 e1.symm
    · exact dis m (Nat.le_refl _) 1 (by omega) e1.symm
  have t0 : turnAt b m = !b := by simp [turnAt, par]
  refine ⟨fun x hx c => ?_, fun x hx => ?_⟩
  · obtain ⟨i, hi, rfl⟩ := mem_row.mp hx
    by_cases e2 : c = turnAt b i
    · subst e2
      by_cases l : i = m
      · subst l
        show wk f s b (i + 1) ∈ _
        rw [e]
        exact mem_row.mpr ⟨0, by omega, rfl⟩
      · exact mem_row.mpr ⟨i + 1, by omega, rfl⟩
    · cases i with
      | zero =>
        have : c = !b := by
          have t1 : turnAt b 0 = b := rfl
          rw [t1] at e2
          cases c <;> cases b <;> simp_all
        rw [this, ← t0]
        show f (turnAt b m) s ∈ _
        rw [← em]
        exact mem_row.mpr ⟨m, Nat.le_refl _, rfl⟩
      | succ i =>
        have : c = turnAt b i := by
          rw [turn_succ] at e2
          cases c <;> cases h : turnAt b i <;> simp_all
        rw [this, back_one hf]
        exact mem_row.mpr ⟨i, by omega, rfl⟩
  · obtain ⟨i, _, rfl⟩ := mem_row.mp hx
    exact all i
/-! a piece has at most two ends that are free in a lay -/
theorem filter_two {c : List Nat} {P : Nat → Prop} [DecidablePred P] (nd : c.Nodup) {u v : Nat} (h : ∀ x ∈ c, P x → x = u ∨ x = v) : (c.filter fun x => decide (P x)).length ≤ 2 := by
  have nf : (c.filter fun x => decide (P x)).Nodup := nd.filter _
  generalize hl : (c.filter fun x => decide (P x)) = l at nf
  have hm : ∀ x ∈ l, x = u ∨ x = v := fun x hx => by
    rw [← hl, List.mem_filter] at hx
    exact h x hx.1 (of_decide_eq_true hx.2)
  match l, nf, hm with
  | [], _, _ => simp
  | [_], _, _ => simp
  | [_, _], _, _ => simp
  | x :: y :: z :: r, nf, hm =>
    exfalso
    simp only [List.nodup_cons, List.mem_cons, not_or] at nf
    have h1 := hm x (by simp)
    have h2 := hm y (by simp)
    have h3 := hm z (by simp)
    grind
def two (g t : Nat → Nat) (c : Bool) : Nat → Nat := if c then t else g
theorem two_pl {N : Nat} {g t : Nat → Nat} (hg : Pl N g) (ht : Pl N t) : ∀ c, Pl N (two g t c) := fun c => by cases c; exact hg; exact ht
theorem free_le {N : Nat} {g t : Nat → Nat} {P : List (List Nat)} (hg : Pl N g) (ht : Pl N t) (hP : Part N g t P) {c : List Nat} (hc : c ∈ P) : (c.filter fun x => decide (g x = x)).length ≤ 2 := by
  have ndc := nodup_of_flat hP.nd c hc
  by_cases ex : ∃ s ∈ c, g s = s
  · obtain ⟨s, hs, es⟩ := ex
    have hsN : s < N := (hP.cov s).mp (List.mem_flatten.mpr ⟨c, hc, hs⟩)
    have hf := two_pl hg ht
    have hfi : ∀ b x, two g t b (two g t b x) = x := fun b => (hf b).inv
    obtain ⟨m, _, h2, h3⟩ := row_stops hf hsN true
    have L := last_row hfi (s := s) (b := true) (m := m) (by show g s = s; exact es) h2 h3
    have sub : ∀ x ∈ c, x ∈ rowOf (two g t) s true m := hP.irr c hc (fun x => x ∈ rowOf (two g t) s true m) (fun x hx => ⟨L.closed hfi x hx false, L.closed hfi x hx true⟩) ⟨s, hs, mem_row.mpr ⟨0, by omega, rfl⟩⟩
    refine filter_two ndc (u := s) (v := wk (two g t) s true m) fun x hx ex => ?_
    obtain ⟨i, hi, rfl⟩ := mem_row.mp (sub x hx)
    rcases L.free hfi hi (c := false) (by exact ex) with ⟨rfl, _⟩ | ⟨rfl, _⟩
    · exact .inl rfl
    · exact .inr rfl
  · have : (c.filter fun x => decide (g x = x)) = [] := by
      rw [List.filter_eq_nil_iff]
      intro x hx z
      exact ex ⟨x, hx, of_decide_eq_true z⟩
    rw [this]
    simp
theorem parity {g : Nat → Nat} (hi : ∀ x, g (g x) = x) : ∀ (n : Nat) {c : List Nat}, c.length ≤ n → c.Nodup → (∀ x ∈ c, g x ∈ c) → (c.filter fun x => decide (g x = x)).length % 2 = c.length % 2 := by
  intro n
  induction n with
  | zero =>
    intro c h _ _
    obtain rfl : c = [] := List.length_eq_zero_iff.mp (by omega)
    rfl
  | succ n ih =>
    intro c h nd cl
    cases c with
    | nil => rfl
    | cons x r =>
      have hr := (List.nodup_cons.mp nd)
      by_cases e : g x = x
      · have := ih (c := r) (by simpa using h) hr.2 (fun y hy => by
          have := cl y (List.mem_cons_of_mem _ hy)
          rcases List.mem_cons.mp this with z | z
          · exact absurd (by rw [← hi y, z, e] at hy; exact hy) hr.1
          · exact z)
        rw [List.filter_cons, if_pos (decide_eq_true e), List.length_cons, List.length_cons]
        omega
      · have hgx : g x ∈ r := by
          rcases List.mem_cons.mp (cl x List.mem_cons_self) with z | z
          · exact absurd z e
          · exact z
        have p : r.Perm (g x :: r.erase (g x)) := List.perm_cons_erase hgx
        have ndp := p.nodup_iff.mp hr.2
        have hmem : ∀ y, y ∈ r.erase (g x) → y ∈ r ∧ y ≠ g x := fun y hy => by
          rw [List.Nodup.mem_erase_iff hr.2] at hy
          exact ⟨hy.2, hy.1⟩
        have hl := p.length_eq
        rw [List.length_cons] at hl
        rw [List.length_cons] at h
        have := ih (c := r.erase (g x)) (by omega) (List.nodup_cons.mp ndp).2 (fun y hy => by
          obtain ⟨h1, h2⟩ := hmem y hy
          rw [List.Nodup.mem_erase_iff hr.2]
          refine ⟨fun z => hr.1 ?_, ?_⟩
          · have : y = x := by rw [← hi y, z, hi]
            rwa [← this]
          · rcases List.mem_cons.mp (cl y (List.mem_cons_of_mem _ h1)) with z | z
            · exact absurd (by rw [← hi y, z]) h2
            · exact z)
        have ff : (r.filter fun x => decide (g x = x)).length = ((r.erase (g x)).filter fun x => decide (g x = x)).length := by
          have q := (p.filter fun x => decide (g x = x)).length_eq
          rw [List.filter_cons, if_neg (by simp [hi]; exact fun z => e z.symm)] at q
          exact q
        rw [List.filter_cons, if_neg (by simpa using e), List.length_cons, ff, this]
        omega
theorem Part.perm {N : Nat} {g t : Nat → Nat} {P Q : List (List Nat)} (h : Part N g t P) (p : P.Perm Q) : Part N g t Q := by
  have pf := p.flatten
  exact ⟨pf.nodup_iff.mp h.nd, fun x => by rw [← pf.mem_iff]; exact h.cov x, fun c hc => h.cl c (p.mem_iff.mpr hc), fun c hc => h.irr c (p.mem_iff.mpr hc)⟩
end Dm
namespace Dm
/-! pieces found one by one -/
structure Pre (N : Nat) (g t : Nat → Nat) (P : List (List Nat)) : Prop where
  nd : P.flatten.Nodup
  lt : ∀ x ∈ P.flatten, x < N
  ne : ∀ c ∈ P, c ≠ []
  cl : ∀ c ∈ P, ∀ x ∈ c, g x ∈ c ∧ t x ∈ c
  irr : ∀ c ∈ P, ∀ W : Nat → Prop, (∀ x, W x → W (g x) ∧ W (t x)) → (∃ x ∈ c, W x) → ∀ x ∈ c, W x
theorem Pre.nil (N : Nat) (g t : Nat → Nat) : Pre N g t [] := by
  refine ⟨List.nodup_nil, ?_, ?_, ?_, ?_⟩ <;> simp
theorem Pre.part {N : Nat} {g t : Nat → Nat} {P : List (List Nat)} (h : Pre N g t P) (cov : ∀ x, x < N → x ∈ P.flatten) : Part N g t P :=
  ⟨h.nd, fun x => ⟨h.lt x, cov x⟩, h.cl, h.irr⟩
theorem Pre.shut {N : Nat} {g t : Nat → Nat} {P : List (List Nat)} (hg : Pl N g) (ht : Pl N t) (h : Pre N g t P) {x : Nat} (hx : x ∉ P.flatten) : g x ∉ P.flatten ∧ t x ∉ P.flatten := by
  constructor
  · intro m
    obtain ⟨c, hc, hm⟩ := List.mem_flatten.mp m
    have := (h.cl c hc _ hm).1
    rw [hg.inv] at this
    exact hx (List.mem_flatten.mpr ⟨c, hc, this⟩)
  · intro m
    obtain ⟨c, hc, hm⟩ := List.mem_flatten.mp m
    have := (h.cl c hc _ hm).2
    rw [ht.inv] at this
    exact hx (List.mem_flatten.mpr ⟨c, hc, this⟩)
theorem Pre.add {N : Nat} {g t : Nat → Nat} {P : List (List Nat)} (h : Pre N g t P) {c : List Nat} (nd : c.Nodup) (lt : ∀ x ∈ c, x < N) (off : ∀ x ∈ c, x ∉ P.flatten) (ne : c ≠ []) (cl : ∀ x ∈ c, g x ∈ c ∧ t x ∈ c)
    (irr : ∀ W : Nat → Prop, (∀ x, W x → W (g x) ∧ W (t x)) → (∃ x ∈ c, W x) → ∀ x ∈ c, W x) : Pre N g t (P ++ [c]) := by
  have mm : ∀ d ∈ P ++ [c], d ∈ P ∨ d = c := fun d hd => by simpa using hd
  refine ⟨?_, ?_, ?_, ?_, ?_⟩
  · rw [List.flatten_append, List.nodup_append]
    refine ⟨h.nd, by simpa using nd, fun x hx y hy e => ?_⟩
    subst e
    exact off x (by simpa using hy) hx
  · intro x hx
    rw [List.flatten_append, List.mem_append] at hx
    rcases hx with hx | hx
    · exact h.lt x hx
    · exact lt x (by simpa using hx)
  · intro d hd
    rcases mm d hd with hd | rfl
    · exact h.ne d hd
    · exact ne
  · intro d hd
    rcases mm d hd with hd | rfl
    · exact h.cl d hd
    · exact cl
  · intro d hd
    rcases mm d hd with hd | rfl
    · exact h.irr d hd
    · exact irr
theorem flat_snoc {P : List (List Nat)} {c : List Nat} {x : Nat} : x ∈ (P ++ [c]).flatten ↔ x ∈ P.flatten ∨ x ∈ c := by simp
/-! rows as pieces -/
/-- the row from s on, when s is not among the pieces found so far -/
theorem Pre.row {N : Nat} {g t : Nat → Nat} {P : List (List Nat)} (hg : Pl N g) (ht : Pl N t) (h : Pre N g t P) {s : Nat} (hs : s < N) (off : s ∉ P.flatten) {b : Bool}
    (hb : two g t (!b) s = s ∨ ∀ x, x < N → (g x = x ∨ t x = x) → x ∈ P.flatten) {m : Nat} (hm : Stop (two g t) s b m) (hk : ∀ k, k < m → ¬ Stop (two g t) s b k) :
    Pre N g t (P ++ [rowOf (two g t) s b m]) ∧ (ring g t (rowOf (two g t) s b m) = true ↔ g s ≠ s ∧ t s ≠ s) := by
  have hf := two_pl hg ht
  have hfi : ∀ b x, two g t b (two g t b x) = x := fun b => (hf b).inv
  have hs0 : s ∈ rowOf (two g t) s b m := mem_row.mpr ⟨0, by omega, rfl⟩
  have nd := row_nodup hf hk
  have lt : ∀ x ∈ rowOf (two g t) s b m, x < N := fun x hx => by
    obtain ⟨i, _, rfl⟩ := mem_row.mp hx
    exact wk_lt hf hs b i
  have offA : ∀ x ∈ rowOf (two g t) s b m, x ∉ P.flatten := row_irr hfi (fun x => x ∉ P.flatten) (fun x hx => h.shut hg ht hx) ⟨s, hs0, off⟩
  have irr : ∀ W : Nat → Prop, (∀ x, W x → W (g x) ∧ W (t x)) → (∃ x ∈ rowOf (two g t) s b m, W x) → ∀ x ∈ rowOf (two g t) s b m, W x := fun W hW => row_irr hfi W hW
  have ne : rowOf (two g t) s b m ≠ [] := fun z => by rw [z] at hs0; exact nomatch hs0
  rcases hb with hb | hb
  · have L := last_row hfi hb hm hk
    refine ⟨h.add nd lt offA ne (fun x hx => ⟨L.closed hfi x hx false, L.closed hfi x hx true⟩) irr, ?_⟩
    rw [ring_iff]
    constructor
    · exact fun z => z.2 s hs0
    · rintro ⟨h1, h2⟩
      cases b with
      | false => exact absurd hb h2
      | true => exact absurd hb h1
  · have free : ∀ x, x < N → x ∉ P.flatten → g x ≠ x ∧ t x ≠ x := fun x hx ox => ⟨fun z => ox (hb x hx (.inl z)), fun z => ox (hb x hx (.inr z))⟩
    have R := ring_row hfi (s := s) (b := b) (m := m) (U := fun x => x < N ∧ x ∉ P.flatten) (fun x ⟨h1, h2⟩ c => by
      have q := h.shut hg ht h2
      have r := free x h1 h2
      cases c with
      | false => exact ⟨⟨hg.lt h1, q.1⟩, r.1⟩
      | true => exact ⟨⟨ht.lt h1, q.2⟩, r.2⟩) ⟨hs, off⟩ hm hk
    refine ⟨h.add nd lt offA ne (fun x hx => ⟨R.1 x hx false, R.1 x hx true⟩) irr, ?_⟩
    rw [ring_iff]
    exact ⟨fun _ => free s hs off, fun _ => ⟨ne, fun x hx => free x (R.2 x hx).1 (R.2 x hx).2⟩⟩
/-! heaps: grown end by end -/
def put1 (h : List Nat) (u : Nat) : List Nat := if u ∈ h then h else h ++ [u]
structure HInv (N : Nat) (g t : Nat → Nat) (b : Nat) (h : List Nat) (k : Nat) : Prop where
  nd : h.Nodup
  lt : ∀ x ∈ h, x < N
  mem : b ∈ h
  reach : ∀ W : Nat → Prop, (∀ x, W x → W (g x) ∧ W (t x)) → W b → ∀ x ∈ h, W x
  done : ∀ i, i < k → ∀ x, h[i]? = some x → g x ∈ h ∧ t x ∈ h
  le : k ≤ h.length
theorem put1_sub {h : List Nat} {u x : Nat} (hx : x ∈ h) : x ∈ put1 h u := by
  simp only [put1]
  split
  · exact hx
  · exact List.mem_append_left _ hx
theorem put1_self {h : List Nat} {u : Nat} : u ∈ put1 h u := by
  simp only [put1]
  split
  · assumption
  · simp
theorem mem_put1 {h : List Nat} {u x : Nat} : x ∈ put1 h u ↔ x ∈ h ∨ x = u := by
  simp only [put1]
  split
  · rename_i hu
    exact ⟨.inl, fun z => z.elim id fun e => e ▸ hu⟩
  · simp
theorem put1_nodup {h : List Nat} {u : Nat} (nd : h.Nodup) : (put1 h u).Nodup := by
  simp only [put1]
  split
  · exact nd
  · rename_i hu
    rw [List.nodup_append]
    refine ⟨nd, by simp, fun x hx y hy e => ?_⟩
    simp only [List.mem_singleton] at hy
    exact hu (by rw [← hy, ← e]; exact hx)
theorem put1_get {h : List Nat} {u i : Nat} (hi : i < h.length) : (put1 h u)[i]? = h[i]? := by
  simp only [put1]
  split
  · rfl
  · rw [List.getElem?_append_left hi]
theorem put1_len {h : List Nat} {u : Nat} : h.length ≤ (put1 h u).length := by
  simp only [put1]
  split
  · exact Nat.le_refl _
  · simp
theorem HInv.start {N : Nat} {g t : Nat → Nat} {b : Nat} (hb : b < N) : HInv N g t b [b] 0 :=
  ⟨by simp, fun x hx => by rw [List.mem_singleton] at hx; rw [hx]; exact hb, by simp, fun W _ wb x hx => by rw [List.mem_singleton] at hx; rw [hx]; exact wb, fun i hi => by omega, by simp⟩
theorem HInv.step {N : Nat} {g t : Nat → Nat} (hg : Pl N g) (ht : Pl N t) {b : Nat} {h : List Nat} {k x : Nat} (H : HInv N g t b h k) (e : h[k]? = some x) : HInv N g t b (put1 (put1 h (g x)) (t x)) (k + 1) := by
  have hx : x ∈ h := List.mem_of_getElem? e
  have hk : k < h.length := (List.getElem?_eq_some_iff.mp e).1
  have l1 := put1_len (h := h) (u := g x)
  have l2 := put1_len (h := put1 h (g x)) (u := t x)
  refine ⟨put1_nodup (put1_nodup H.nd), fun y hy => ?_, put1_sub (put1_sub H.mem), fun W hW wb y hy => ?_, fun i hi y ey => ?_, by omega⟩
  · rw [mem_put1, mem_put1] at hy
    rcases hy with (hy | hy) | hy
    · exact H.lt y hy
    · rw [hy]; exact hg.lt (H.lt x hx)
    · rw [hy]; exact ht.lt (H.lt x hx)
  · have all := H.reach W hW wb
    rw [mem_put1, mem_put1] at hy
    rcases hy with (hy | hy) | hy
    · exact all y hy
    · rw [hy]; exact (hW x (all x hx)).1
    · rw [hy]; exact (hW x (all x hx)).2
  · rw [put1_get (by omega), put1_get (by omega)] at ey
    by_cases c : i = k
    · subst c
      rw [e] at ey
      cases ey
      exact ⟨put1_sub put1_self, put1_self⟩
    · have := H.done i (by omega) y ey
      exact ⟨put1_sub (put1_sub this.1), put1_sub (put1_sub this.2)⟩
theorem HInv.len {N : Nat} {g t : Nat → Nat} {b : Nat} {h : List Nat} {k : Nat} (H : HInv N g t b h k) : h.length ≤ N := length_le H.nd H.lt
/-- a heap that is whole, in whatever order -/
theorem Pre.heap {N : Nat} {g t : Nat → Nat} {P : List (List Nat)} (hg : Pl N g) (ht : Pl N t) (h : Pre N g t P) {b : Nat} {hp c : List Nat} (H : HInv N g t b hp hp.length) (off : b ∉ P.flatten) (p : c.Perm hp) : Pre N g t (P ++ [c]) := by
  refine h.add (p.nodup_iff.mpr H.nd) (fun x hx => H.lt x (p.mem_iff.mp hx)) (fun x hx => H.reach (fun x => x ∉ P.flatten) (fun x hx => h.shut hg ht hx) off x (p.mem_iff.mp hx)) (fun z => ?_) (fun x hx => ?_) fun W hW ⟨y, hy, wy⟩ x hx => ?_
  · have := p.mem_iff.mpr H.mem
    rw [z] at this
    exact nomatch this
  · rw [p.mem_iff, p.mem_iff]
    obtain ⟨i, hi, e⟩ := List.getElem_of_mem (p.mem_iff.mp hx)
    exact H.done i hi x (by rw [List.getElem?_eq_getElem hi, e])
  · have wb : W b := Classical.byContradiction fun nb => by
      have all := H.reach (fun x => ¬ W x) (fun x nx => ⟨fun w => nx (by have := (hW _ w).1; rwa [hg.inv] at this), fun w => nx (by have := (hW _ w).2; rwa [ht.inv] at this)⟩) nb
      exact all y (p.mem_iff.mp hy) wy
    exact H.reach W hW wb x (p.mem_iff.mp hx)
/-! the cost, as both tell it -/
def dst (N : Nat) (A B : List (Nat × Nat)) : Int := (KP N (fn A) B : Int) / 2 - (B.length : Int)
def ringI (g t : Nat → Nat) (c : List Nat) : Int := if ring g t c = true then 1 else 0
theorem sum_cost (g t : Nat → Nat) : ∀ P : List (List Nat), 2 * (P.map fun c => ((c.length / 2 : Nat) : Int) - ringI g t c).sum = (tA P : Int) - (tR g t P : Int)
  | [] => rfl
  | c :: P => by
    have ih := sum_cost g t P
    rw [tA_cons, tR_cons, List.map_cons, List.sum_cons]
    by_cases h : ring g t c = true
    · have h1 : ringI g t c = 1 := if_pos h
      rw [if_pos h]
      omega
    · have h1 : ringI g t c = 0 := if_neg h
      rw [if_neg h]
      omega
theorem even_tA : ∀ P : List (List Nat), tA P % 2 = 0
  | [] => rfl
  | c :: P => by
    have ih := even_tA P
    rw [tA_cons]
    omega
theorem even_tR (g t : Nat → Nat) : ∀ P : List (List Nat), tR g t P % 2 = 0
  | [] => rfl
  | c :: P => by
    have ih := even_tR g t P
    rw [tR_cons]
    split <;> omega
/-- the program's sum -/
theorem sum_dst {N : Nat} {A B : List (Nat × Nat)} {P : List (List Nat)} (hA : Good N A) (hB : Good N B) (hP : Part N (fn A) (fn B) P) : (P.map fun c => ((c.length / 2 : Nat) : Int) - ringI (fn A) (fn B) c).sum = dst N A B := by
  have e := cost_is hA hB hP
  have s := sum_cost (fn A) (fn B) P
  have e1 := even_tA P
  have e2 := even_tR (fn A) (fn B) P
  simp only [dst]
  omega
/-- the law's sum -/
theorem law_dst {N n : Nat} {A B : List (Nat × Nat)} {P : List (List Nat)} (hN : N = 2 * n) (hA : Good N A) (hB : Good N B) (hP : Part N (fn A) (fn B) P) :
    (n : Int) - ((P.filter fun c => ring (fn A) (fn B) c).length : Int) - (((P.filter fun c => decide (c.length % 2 = 1)).length / 2 : Nat) : Int) = dst N A B := by
  have e := cost_is hA hB hP
  have e1 := even_tA P
  have e3 : tR (fn A) (fn B) P = 2 * (P.filter fun c => ring (fn A) (fn B) c).length := by
    clear e e1 hP
    induction P with
    | nil => rfl
    | cons c P ih =>
      rw [tR_cons, ih, List.filter_cons]
      split <;> simp <;> omega
  have e4 : ∀ Q : List (List Nat), tA Q + (Q.filter fun c => decide (c.length % 2 = 1)).length = Q.flatten.length := by
    intro Q
    induction Q with
    | nil => rfl
    | cons c Q ih =>
      rw [tA_cons, List.filter_cons, List.flatten_cons, List.length_append]
      by_cases o : c.length % 2 = 1
      · rw [if_pos (decide_eq_true o), List.length_cons]
        omega
      · rw [if_neg (by simpa using o)]
        omega
  have e5 := e4 P
  have e6 := (perm_range hP).length_eq
  rw [List.length_range] at e6
  simp only [dst]
  omega
theorem dst_symm {N : Nat} {A B : List (Nat × Nat)} {P : List (List Nat)} (hA : Good N A) (hB : Good N B) (hP : Part N (fn A) (fn B) P) : dst N B A = dst N A B := by
  have e := cost_is hA hB hP
  have e' := cost_is hB hA hP.symm
  rw [tR_symm] at e'
  have e1 := even_tA P
  have e2 := even_tR (fn A) (fn B) P
  simp only [dst]
  omega
end Dm
namespace Dm
/-! both ways round -/
theorem irt_base {N : Nat} {T L2 : List (Nat × Nat)} (hT : Good N T) (hL2 : JsOk N L2) : ∀ (n : Nat) {g : Nat → Nat}, S (fre g) N ≤ n → Pl N g → Has g T → KP N (fn T) L2 + 2 * T.length ≤ KP N g L2 + S (fre g) N := by
  intro n
  induction n with
  | zero =>
    intro g hn hg h
    have e : g = fn T := same_of_has hg hT h fun ⟨a, ha, ea, _⟩ => by
      have := S_cut hg ha ea
      omega
    have := S_fn hT
    rw [e]
    omega
  | succ n ih =>
    intro g hn hg h
    by_cases no : ∃ a, a < N ∧ g a ≠ a ∧ fn T a = a
    · obtain ⟨a, ha, ea, fa⟩ := no
      have c := S_cut hg ha ea
      have := ih (g := cutP g a) (by omega) (hg.cut a) (h.cut hg hT fa)
      have := (lipCut hg ha ea hL2).2
      omega
    · have e := same_of_has hg hT h no
      have := S_fn hT
      rw [e]
      omega
theorem irt_gen {N : Nat} {L2 : List (Nat × Nat)} (hL2 : JsOk N L2) : ∀ {L D : List (Nat × Nat)} {g : Nat → Nat}, Pl N g → Good N (D ++ L) → Has g D → KP N (fn (D ++ L)) L2 + 2 * (D ++ L).length ≤ KP N g L2 + KP N g L
  | [], D, g, hg, hT, h => by
    rw [List.append_nil] at hT ⊢
    exact irt_base hT hL2 _ (Nat.le_refl _) hg h
  | (p, q) :: L, D, g, hg, hT, h => by
    obtain ⟨h1, h2, h3, h4, h5, _, _⟩ := hT.mid
    have e : D ++ (p, q) :: L = (D ++ [(p, q)]) ++ L := by simp
    have ih := irt_gen hL2 (L := L) (D := D ++ [(p, q)]) (g := mkP g p q) (hg.mkp h1 h2 h3) (by rw [← e]; exact hT) (h.made hg h4 h5)
    rw [← e] at ih
    simp only [KP]
    by_cases c : g p = q
    · rw [mkP_has hg c] at ih ⊢
      rw [if_pos c]
      omega
    · rw [if_neg c]
      have := (lipMk hg h1 h2 h3 hL2).2
      omega
theorem KP_swap {N : Nat} {A B : List (Nat × Nat)} (hA : Good N A) (hB : Good N B) : KP N (fn A) B + 2 * A.length = KP N (fn B) A + 2 * B.length := by
  have h1 := irt_gen hB.js (L := A) (D := []) (fn_pl hB) hA fun _ hj => nomatch hj
  have h2 := irt_gen hA.js (L := B) (D := []) (fn_pl hA) hB fun _ hj => nomatch hj
  have e1 := KP_self hA
  have e2 := KP_self hB
  simp only [List.nil_append] at h1 h2
  omega
theorem dst_comm {N : Nat} {A B : List (Nat × Nat)} (hA : Good N A) (hB : Good N B) : dst N A B = dst N B A := by
  have := KP_swap hA hB
  simp only [dst]
  omega
theorem dst_self {N : Nat} {A : List (Nat × Nat)} (hA : Good N A) : dst N A A = 0 := by
  have := KP_self hA
  simp only [dst]
  omega
theorem dst_nonneg {N : Nat} {A B : List (Nat × Nat)} (hA : Good N A) (hB : Good N B) : 0 ≤ dst N A B := by
  have := KP_ge (D := []) (fn_pl hA) hB fun _ hj => nomatch hj
  simp only [List.nil_append] at this
  simp only [dst]
  omega
theorem KP_even {N : Nat} : ∀ (L : List (Nat × Nat)) {g : Nat → Nat}, Pl N g → JsOk N L → KP N g L % 2 = 0
  | [], g, hg, _ => by
    simp only [KP]
    have : ∀ n {g : Nat → Nat}, S (fre g) N ≤ n → Pl N g → S (fre g) N % 2 = 0 := by
      intro n
      induction n with
      | zero => intro g h _; omega
      | succ n ih =>
        intro g h hg
        by_cases ex : ∃ a, a < N ∧ g a ≠ a
        · obtain ⟨a, ha, ea⟩ := ex
          have c := S_cut hg ha ea
          have := ih (g := cutP g a) (by omega) (hg.cut a)
          omega
        · have : S (fre g) N = S (fre (fn [])) N := S_congr fun x hx => by
            have : g x = x := Decidable.byContradiction fun z => ex ⟨x, hx, z⟩
            simp [fre, fn, this]
          rw [this, S_fn (N := N) (L := []) ⟨(fun _ h => nomatch h), List.nodup_nil⟩]
          rfl
    exact this _ (Nat.le_refl _) hg
  | (p, q) :: L, g, hg, hL => by
    obtain ⟨h1, h2, h3⟩ := hL (p, q) List.mem_cons_self
    have := KP_even L (hg.mkp h1 h2 h3) fun j hj => hL j (List.mem_cons_of_mem _ hj)
    simp only at this
    simp only [KP]
    split <;> omega
theorem dst_tri {N : Nat} {A B C : List (Nat × Nat)} (hA : Good N A) (hB : Good N B) (hC : Good N C) : dst N A B ≤ dst N A C + dst N C B := by
  have := triangle hA hB hC
  have e1 := KP_even B (fn_pl hA) hB.js
  have e2 := KP_even C (fn_pl hA) hC.js
  have e3 := KP_even B (fn_pl hC) hB.js
  simp only [dst]
  omega
/-! lays in order -/
structure Ok (N : Nat) (J : List (Nat × Nat)) : Prop where
  good : Good N J
  asc : ∀ j ∈ J, j.1 < j.2
  so : J.Pairwise fun a b => a.1 < b.1
theorem Ok.mem {N : Nat} {J : List (Nat × Nat)} (h : Ok N J) (j : Nat × Nat) : j ∈ J ↔ j.1 < fn J j.1 ∧ j.2 = fn J j.1 := by
  constructor
  · intro hj
    have e := (fn_mem h.good (p := j.1) (q := j.2) hj).1
    rw [e]
    exact ⟨h.asc j hj, rfl⟩
  · rintro ⟨h1, h2⟩
    have m : j.1 ∈ ends J := Decidable.byContradiction fun z => by
      rw [fn_out z] at h1
      omega
    obtain ⟨⟨p, q⟩, hm, e⟩ := mem_ends.mp m
    obtain ⟨r1, r2⟩ := fn_mem h.good hm
    have ha := h.asc _ hm
    simp only at e ha
    rcases e with e | e
    · rw [e, r1] at h2
      have : j = (p, q) := Prod.ext e h2
      rw [this]
      exact hm
    · rw [e, r2] at h1
      omega
theorem eq_of_so : ∀ {J K : List (Nat × Nat)}, (J.Pairwise fun a b => a.1 < b.1) → (K.Pairwise fun a b => a.1 < b.1) → (∀ j, j ∈ J ↔ j ∈ K) → J = K
  | [], [], _, _, _ => rfl
  | [], k :: K, _, _, h => nomatch (h k).mpr List.mem_cons_self
  | j :: J, [], _, _, h => nomatch (h j).mp List.mem_cons_self
  | j :: J, k :: K, hJ, hK, h => by
    have pj := List.pairwise_cons.mp hJ
    have pk := List.pairwise_cons.mp hK
    have e : j = k := by
      have h1 := (h j).mp List.mem_cons_self
      have h2 := (h k).mpr List.mem_cons_self
      rcases List.mem_cons.mp h1 with e | h1
      · exact e
      · rcases List.mem_cons.mp h2 with e | h2
        · exact e.symm
        · have a := pk.1 j h1
          have b := pj.1 k h2
          omega
    subst e
    congr 1
    refine eq_of_so pj.2 pk.2 fun x => ?_
    constructor
    · intro hx
      rcases List.mem_cons.mp ((h x).mp (List.mem_cons_of_mem _ hx)) with e | q
      · have := pj.1 x hx
        rw [e] at this
        omega
      · exact q
    · intro hx
      rcases List.mem_cons.mp ((h x).mpr (List.mem_cons_of_mem _ hx)) with e | q
      · have := pk.1 x hx
        rw [e] at this
        omega
      · exact q
theorem Ok.eq {N : Nat} {J K : List (Nat × Nat)} (hJ : Ok N J) (hK : Ok N K) (h : fn J = fn K) : J = K :=
  eq_of_so hJ.so hK.so fun j => by rw [hJ.mem, hK.mem, h]
/-! all lays of so many links -/
def extE (N e : Nat) (A : List (List (Nat × Nat))) : List (List (Nat × Nat)) :=
  A ++ A.flatMap fun J => (((List.range N).drop (e + 1)).filter fun m => !(ends J).contains m).map fun m => (e, m) :: J
def allE (N : Nat) : Nat → List (List (Nat × Nat))
  | 0 => [[]]
  | k + 1 => extE N (N - (k + 1)) (allE N k)
def allM (N : Nat) : List (List (Nat × Nat)) := allE N N
theorem allE_mono {N : Nat} {J : List (Nat × Nat)} : ∀ {k l : Nat}, k ≤ l → J ∈ allE N k → J ∈ allE N l
  | k, l, h, hm => by
    induction l with
    | zero =>
      obtain rfl : k = 0 := by omega
      exact hm
    | succ l ih =>
      by_cases c : k = l + 1
      · rw [← c]; exact hm
      · exact List.mem_append_left _ (ih (by omega))
theorem allE_has {N : Nat} : ∀ {J : List (Nat × Nat)} {k : Nat}, Ok N J → k ≤ N → (∀ j ∈ J, N - k ≤ j.1) → J ∈ allE N k
  | [], k, _, _, _ => allE_mono (Nat.zero_le _) (by simp [allE])
  | (a, b) :: J, k, h, hk, hlow => by
    obtain ⟨h1, h2, h3, h4, h5⟩ := h.good.head
    have hab := h.asc _ List.mem_cons_self
    have so := List.pairwise_cons.mp h.so
    have la := hlow _ List.mem_cons_self
    simp only at hab la so
    have hJ : Ok N J := ⟨h.good.tail, fun j hj => h.asc j (List.mem_cons_of_mem _ hj), so.2⟩
    have ih := allE_has (k := N - (a + 1)) hJ (by omega) fun j hj => by
      have := so.1 j hj
      omega
    refine allE_mono (k := N - (a + 1) + 1) (by omega) ?_
    show _ ∈ extE N _ _
    have e : N - (N - (a + 1) + 1) = a := by omega
    rw [e]
    refine List.mem_append_right _ (List.mem_flatMap.mpr ⟨J, ih, List.mem_map.mpr ⟨b, ?_, rfl⟩⟩)
    rw [List.mem_filter]
    refine ⟨?_, by simpa using h5⟩
    rw [List.mem_drop_iff_getElem]
    refine ⟨b - (a + 1), by rw [List.length_range]; omega, ?_⟩
    rw [List.getElem_range]
    omega
theorem all_has {N : Nat} {J : List (Nat × Nat)} (h : Ok N J) : J ∈ allM N := allE_has h (Nat.le_refl _) fun j _ => by omega
/-! steps -/
def leJ (a b : Nat × Nat) : Bool := decide (a.1 < b.1) || (decide (a.1 = b.1) && decide (a.2 ≤ b.2))
def insJ (j : Nat × Nat) : List (Nat × Nat) → List (Nat × Nat)
  | [] => [j]
  | k :: r => if leJ j k then j :: k :: r else k :: insJ j r
def srtJ : List (Nat × Nat) → List (Nat × Nat)
  | [] => []
  | j :: r => insJ j (srtJ r)
def mm (a b : Nat) : Nat × Nat := (min a b, max a b)
def loose (N : Nat) (J : List (Nat × Nat)) : List Nat := (List.range N).filter fun x => !(ends J).contains x
abbrev Stp := List (Nat × Nat) × List (Nat × Nat)
def tailsM {α β : Type} (f : α → List α → List β) : List α → List β
  | [] => []
  | x :: r => f x r ++ tailsM f r
def stepsM (N : Nat) (J : List (Nat × Nat)) : List Stp :=
  (tailsM (fun j r => ([j], []) :: ((loose N J).flatMap (fun e => [([j], [mm j.1 e]), ([j], [mm j.2 e])]) ++
    r.flatMap (fun o => [([j, o], srtJ [mm j.1 o.1, mm j.2 o.2]), ([j, o], srtJ [mm j.1 o.2, mm j.2 o.1])]))) J) ++
  tailsM (fun x r => r.map fun y => ([], [(x, y)])) (loose N J)
def afterM (J : List (Nat × Nat)) (s : Stp) : List (Nat × Nat) := srtJ ((J.filter fun j => !s.1.contains j) ++ s.2)
def nbs (N : Nat) (J : List (Nat × Nat)) : List (List (Nat × Nat)) := (stepsM N J).map (afterM J)
def fnl (N : Nat) (g : Nat → Nat) : List Nat := (List.range N).map g
def tgt (N : Nat) (J : List (Nat × Nat)) : List (List Nat) :=
  ((List.range N).flatMap fun p => ((List.range N).filter fun q => decide (p < q)).map fun q => fnl N (mkP (fn J) p q)) ++
  (((List.range N).filter fun a => decide (fn J a ≠ a)).map fun a => fnl N (cutP (fn J) a))
def okB (N : Nat) : List (Nat × Nat) → Bool
  | [] => true
  | (a, b) :: r => decide (a < b) && decide (b < N) && r.all (fun j => decide (a < j.1)) && !(ends r).contains a && !(ends r).contains b && okB N r
theorem okB_ok {N : Nat} : ∀ {J : List (Nat × Nat)}, okB N J = true → Ok N J
  | [], _ => ⟨⟨(fun _ h => nomatch h), List.nodup_nil⟩, (fun _ h => nomatch h), List.Pairwise.nil⟩
  | (a, b) :: r, h => by
    simp only [okB, Bool.and_eq_true, decide_eq_true_eq, List.all_eq_true, Bool.not_eq_true', List.contains_eq_mem, decide_eq_false_iff_not] at h
    obtain ⟨⟨⟨⟨⟨h1, h2⟩, h3⟩, h4⟩, h5⟩, h6⟩ := h
    have ih := okB_ok h6
    refine ⟨⟨fun j hj => ?_, ?_⟩, fun j hj => ?_, List.pairwise_cons.mpr ⟨h3, ih.so⟩⟩
    · rcases List.mem_cons.mp hj with rfl | hj
      · exact ⟨by simp only; omega, h2, by simp only; omega⟩
      · exact ih.good.js j hj
    · rw [ends_cons]
      refine List.nodup_cons.mpr ⟨fun z => ?_, List.nodup_cons.mpr ⟨h5, ih.good.nd⟩⟩
      rcases List.mem_cons.mp z with z | z
      · omega
      · exact h4 z
    · rcases List.mem_cons.mp hj with rfl | hj
      · exact h1
      · exact ih.asc j hj
/-- looked at one by one -/
def chk (N : Nat) : Bool := (allM N).all fun J => okB N J && decide (srtJ J = J) && (nbs N J).all (fun K => (allM N).contains K && (tgt N J).contains (fnl N (fn K)) && (nbs N K).contains J) &&
  (tgt N J).all fun v => v == fnl N (fn J) || ((nbs N J).map fun K => fnl N (fn K)).contains v
end Dm
namespace Dm
theorem chk4 : chk 4 = true := by decide +kernel
theorem chk6 : chk 6 = true := by decide +kernel
theorem nod4 : (allM 4).Nodup := by decide +kernel
theorem nod6 : (allM 6).Nodup := by decide +kernel
/-- what the look has shown -/
structure Small (N : Nat) : Prop where
  look : chk N = true
  nodup : (allM N).Nodup
theorem small4 : Small 4 := ⟨chk4, nod4⟩
theorem small6 : Small 6 := ⟨chk6, nod6⟩
theorem fnl_eq {N : Nat} {g f : Nat → Nat} (hg : ∀ x, N ≤ x → g x = x) (hf : ∀ x, N ≤ x → f x = x) (h : fnl N g = fnl N f) : g = f := by
  funext x
  by_cases hx : x < N
  · have e := congrArg (fun l : List Nat => l[x]?) h
    simpa [fnl, hx] using e
  · rw [hg x (by omega), hf x (by omega)]
section
variable {N : Nat} (S : Small N) {J K : List (Nat × Nat)}
include S
theorem Small.at (hJ : J ∈ allM N) : okB N J = true ∧ srtJ J = J ∧ (∀ K ∈ nbs N J, K ∈ allM N ∧ fnl N (fn K) ∈ tgt N J ∧ J ∈ nbs N K) ∧ ∀ v ∈ tgt N J, v = fnl N (fn J) ∨ ∃ K ∈ nbs N J, fnl N (fn K) = v := by
  have h := List.all_eq_true.mp S.look J hJ
  simp only [Bool.and_eq_true, decide_eq_true_eq, List.all_eq_true, List.contains_eq_mem, Bool.or_eq_true, beq_iff_eq, List.mem_map] at h
  obtain ⟨⟨⟨h1, h2⟩, h3⟩, h4⟩ := h
  exact ⟨h1, h2, fun K hK => ⟨(h3 K hK).1.1, (h3 K hK).1.2, (h3 K hK).2⟩, h4⟩
theorem Small.ok (hJ : J ∈ allM N) : Ok N J := okB_ok (S.at hJ).1
theorem Small.iff : J ∈ allM N ↔ Ok N J := ⟨S.ok, all_has⟩
theorem Small.srt (hJ : Ok N J) : srtJ J = J := (S.at (all_has hJ)).2.1
theorem Small.nb_ok (hJ : Ok N J) (hK : K ∈ nbs N J) : Ok N K := S.ok ((S.at (all_has hJ)).2.2.1 K hK).1
theorem Small.nb_symm (hJ : Ok N J) (hK : K ∈ nbs N J) : J ∈ nbs N K := ((S.at (all_has hJ)).2.2.1 K hK).2.2
theorem Small.lip (hJ : Ok N J) (hK : K ∈ nbs N J) {L : List (Nat × Nat)} (hL : JsOk N L) : KP N (fn J) L ≤ KP N (fn K) L + 2 ∧ KP N (fn K) L ≤ KP N (fn J) L + 2 := by
  have h := ((S.at (all_has hJ)).2.2.1 K hK).2.1
  have pJ := fn_pl hJ.good
  have pK := fn_pl (S.nb_ok hJ hK).good
  simp only [tgt, List.mem_append, List.mem_flatMap, List.mem_map, List.mem_filter, List.mem_range, decide_eq_true_eq] at h
  rcases h with ⟨p, hp, q, ⟨hq, hpq⟩, e⟩ | ⟨a, ⟨ha, ea⟩, e⟩
  · have : mkP (fn J) p q = fn K := fnl_eq (pJ.mkp hp hq (by omega)).out pK.out e
    rw [← this]
    exact lipMk pJ hp hq (by omega) hL
  · have : cutP (fn J) a = fn K := fnl_eq (pJ.cut a).out pK.out e
    rw [← this]
    exact lipCut pJ ha ea hL
/-- the number of steps to T, as long as it is not the lay itself, is lessened by some step -/
theorem Small.near (hJ : Ok N J) {T : List (Nat × Nat)} (hT : Ok N T) (h : 2 * T.length < KP N (fn J) T) : ∃ K ∈ nbs N J, KP N (fn K) T + 2 = KP N (fn J) T := by
  have pJ := fn_pl hJ.good
  have done : ∀ g : Nat → Nat, (∀ x, N ≤ x → g x = x) → fnl N g ∈ tgt N J → KP N g T + 2 = KP N (fn J) T → ∃ K ∈ nbs N J, KP N (fn K) T + 2 = KP N (fn J) T := by
    intro g hg hm e
    rcases (S.at (all_has hJ)).2.2.2 _ hm with q | ⟨K, hK, q⟩
    · have : g = fn J := fnl_eq hg pJ.out q
      rw [this] at e
      omega
    · have : fn K = g := fnl_eq (fn_pl (S.nb_ok hJ hK).good).out hg q
      exact ⟨K, hK, by rw [this]; exact e⟩
  rcases nearer pJ hT.good h with ⟨j, hj, _, e⟩ | ⟨a, ha, ea, e⟩
  · obtain ⟨k1, k2, k3⟩ := hT.good.js j hj
    have k4 := hT.asc j hj
    refine done _ (pJ.mkp k1 k2 k3).out (List.mem_append_left _ (List.mem_flatMap.mpr ⟨j.1, by simpa using k1, List.mem_map.mpr ⟨j.2, ?_, rfl⟩⟩)) e
    simp [k2, k4]
  · refine done _ (pJ.cut a).out (List.mem_append_right _ (List.mem_map.mpr ⟨a, ?_, rfl⟩)) e
    simp [ha, ea]
end
/-! lap by lap -/
def dn (N : Nat) (T J : List (Nat × Nat)) : Nat := (KP N (fn J) T - 2 * T.length) / 2
abbrev Fd := List (List (Nat × Nat) × Nat)
structure B0 (N : Nat) (T : List (Nat × Nat)) (k : Nat) (F : Fd) (last : List (List (Nat × Nat))) : Prop where
  nd : (F.map (·.1)).Nodup
  val : ∀ p ∈ F, Ok N p.1 ∧ p.2 = dn N T p.1 ∧ dn N T p.1 ≤ k
  all : ∀ J, Ok N J → dn N T J ≤ k → J ∈ F.map (·.1)
  last : ∀ J, J ∈ last ↔ Ok N J ∧ dn N T J = k
structure B1 (N : Nat) (T : List (Nat × Nat)) (k : Nat) (F : Fd) (fresh : List (List (Nat × Nat))) (seen : List (Nat × Nat) → Prop) : Prop where
  nd : (F.map (·.1)).Nodup
  val : ∀ p ∈ F, Ok N p.1 ∧ p.2 = dn N T p.1 ∧ dn N T p.1 ≤ k + 1
  all : ∀ J, Ok N J → dn N T J ≤ k → J ∈ F.map (·.1)
  fresh : ∀ J, J ∈ fresh ↔ J ∈ F.map (·.1) ∧ dn N T J = k + 1
  seen : ∀ x, seen x → x ∈ F.map (·.1)
section
variable {N : Nat} (S : Small N) {T : List (Nat × Nat)} (hT : Ok N T)
include hT in
theorem dn_zero {J : List (Nat × Nat)} (hJ : Ok N J) (h : dn N T J = 0) : J = T := by
  have e := KP_even T (fn_pl hJ.good) hT.good.js
  refine hJ.eq hT (KP_zero (fn_pl hJ.good) hT.good ?_)
  simp only [dn] at h
  omega
include hT in
theorem dn_self : dn N T T = 0 := by
  have := KP_self hT.good
  simp only [dn]
  omega
include hT in
theorem dn_dst {J : List (Nat × Nat)} (hJ : Ok N J) : (dn N T J : Int) = dst N J T := by
  have := KP_ge (D := []) (fn_pl hJ.good) hT.good fun _ hj => nomatch hj
  simp only [List.nil_append] at this
  simp only [dn, dst]
  omega
include S hT in
theorem dn_lip {J K : List (Nat × Nat)} (hJ : Ok N J) (hK : K ∈ nbs N J) : dn N T K ≤ dn N T J + 1 := by
  have := (S.lip hJ hK hT.good.js).2
  simp only [dn]
  omega
include S hT in
theorem dn_near {J : List (Nat × Nat)} {k : Nat} (hJ : Ok N J) (h : dn N T J = k + 1) : ∃ K, Ok N K ∧ dn N T K = k ∧ J ∈ nbs N K := by
  have h0 : 2 * T.length < KP N (fn J) T := by
    simp only [dn] at h
    omega
  obtain ⟨K, hK, e⟩ := S.near hJ hT h0
  refine ⟨K, S.nb_ok hJ hK, ?_, S.nb_symm hJ hK⟩
  simp only [dn] at h ⊢
  omega
theorem KP_le {N : Nat} : ∀ (L : List (Nat × Nat)) {g : Nat → Nat}, KP N g L ≤ N + 2 * L.length
  | [], g => by
    have : ∀ n, Dm.S (fre g) n ≤ n := by
      intro n
      induction n with
      | zero => exact Nat.le_refl _
      | succ n ih =>
        simp only [Dm.S, fre]
        split <;> omega
    simp only [KP]
    have := this N
    simp only [List.length_nil]
    omega
  | (p, q) :: L, g => by
    have := KP_le L (N := N) (g := mkP g p q)
    simp only [KP, List.length_cons]
    split <;> omega
theorem dn_le (J : List (Nat × Nat)) {n : Nat} (hN : N = 2 * n) : dn N T J ≤ n := by
  have := KP_le T (N := N) (g := fn J)
  simp only [dn]
  omega
include hT in
theorem B0.start : B0 N T 0 [(T, 0)] [T] := by
  refine ⟨by simp, fun p hp => ?_, fun J hJ h => ?_, fun J => ?_⟩
  · simp only [List.mem_singleton] at hp
    subst hp
    exact ⟨hT, (dn_self hT).symm, by rw [dn_self hT]; exact Nat.le_refl _⟩
  · rw [dn_zero hT hJ (by omega)]
    simp
  · rw [List.mem_singleton]
    exact ⟨fun e => by rw [e]; exact ⟨hT, dn_self hT⟩, fun ⟨h1, h2⟩ => dn_zero hT h1 h2⟩
theorem B0.lap {k : Nat} {F : Fd} {last : List (List (Nat × Nat))} (h : B0 N T k F last) : B1 N T k F [] fun _ => False := by
  refine ⟨h.nd, fun p hp => ⟨(h.val p hp).1, (h.val p hp).2.1, by have := (h.val p hp).2.2; omega⟩, h.all, fun J => ?_, fun _ z => z.elim⟩
  constructor
  · intro z; exact nomatch z
  · rintro ⟨h1, h2⟩
    obtain ⟨p, hp, rfl⟩ := List.mem_map.mp h1
    have := (h.val p hp).2.2
    omega
theorem B1.see {k : Nat} {F : Fd} {fresh : List (List (Nat × Nat))} {seen seen' : List (Nat × Nat) → Prop} (h : B1 N T k F fresh seen) (hs : ∀ x, seen' x → seen x ∨ x ∈ F.map (·.1)) : B1 N T k F fresh seen' :=
  ⟨h.nd, h.val, h.all, h.fresh, fun x hx => (hs x hx).elim (h.seen x) id⟩
include S hT in
theorem B1.new {k : Nat} {F : Fd} {fresh : List (List (Nat × Nat))} {seen : List (Nat × Nat) → Prop} (h : B1 N T k F fresh seen) {J K : List (Nat × Nat)} (hJ : Ok N J) (hk : dn N T J = k) (hK : K ∈ nbs N J) (hn : K ∉ F.map (·.1)) :
    B1 N T k (F ++ [(K, k + 1)]) (fresh ++ [K]) seen := by
  have hKo := S.nb_ok hJ hK
  have dK : dn N T K = k + 1 := by
    have h1 := dn_lip S hT hJ hK
    by_cases c : dn N T K ≤ k
    · exact absurd (h.all K hKo c) hn
    · omega
  have em : (F ++ [(K, k + 1)]).map (·.1) = F.map (·.1) ++ [K] := by simp
  refine ⟨?_, fun p hp => ?_, fun J' hJ' hle => ?_, fun J' => ?_, fun x hx => ?_⟩
  · rw [em, List.nodup_append]
    refine ⟨h.nd, by simp, fun x hx y hy e => ?_⟩
    rw [List.mem_singleton] at hy
    exact hn (by rw [← hy, ← e]; exact hx)
  · rcases List.mem_append.mp hp with hp | hp
    · exact h.val p hp
    · rw [List.mem_singleton] at hp
      subst hp
      exact ⟨hKo, dK.symm, by rw [dK]; exact Nat.le_refl _⟩
  · rw [em]
    exact List.mem_append_left _ (h.all J' hJ' hle)
  · rw [em, List.mem_append, List.mem_append, h.fresh, List.mem_singleton]
    constructor
    · rintro (⟨h1, h2⟩ | e)
      · exact ⟨.inl h1, h2⟩
      · exact ⟨.inr e, by rw [e]; exact dK⟩
    · rintro ⟨h1 | h1, h2⟩
      · exact .inl ⟨h1, h2⟩
      · exact .inr h1
  · rw [em]
    exact List.mem_append_left _ (h.seen x hx)
include S hT in
theorem B1.done {k : Nat} {F : Fd} {fresh : List (List (Nat × Nat))} {seen : List (Nat × Nat) → Prop} (h : B1 N T k F fresh seen) (hs : ∀ J, Ok N J → dn N T J = k → ∀ K ∈ nbs N J, seen K) : B0 N T (k + 1) F fresh := by
  have all : ∀ J, Ok N J → dn N T J ≤ k + 1 → J ∈ F.map (·.1) := by
    intro J hJ hle
    by_cases c : dn N T J ≤ k
    · exact h.all J hJ c
    · obtain ⟨K, h1, h2, h3⟩ := dn_near S hT hJ (show dn N T J = k + 1 by omega)
      exact h.seen J (hs K h1 h2 J h3)
  refine ⟨h.nd, h.val, all, fun J => ?_⟩
  rw [h.fresh]
  constructor
  · rintro ⟨h1, h2⟩
    obtain ⟨p, hp, rfl⟩ := List.mem_map.mp h1
    exact ⟨(h.val p hp).1, h2⟩
  · rintro ⟨h1, h2⟩
    exact ⟨all J h1 (by omega), h2⟩
include S in
theorem B0.length {n : Nat} {F : Fd} {last : List (List (Nat × Nat))} (hN : N = 2 * n) (h : B0 N T n F last) : F.length = (allM N).length := by
  have p : (F.map (·.1)).Perm (allM N) := by
    refine (List.perm_ext_iff_of_nodup h.nd S.nodup).mpr fun J => ?_
    rw [S.iff]
    constructor
    · intro hm
      obtain ⟨q, hq, rfl⟩ := List.mem_map.mp hm
      exact (h.val q hq).1
    · exact fun hJ => h.all J hJ (dn_le J hN)
  have := p.length_eq
  rwa [List.length_map] at this
end
end Dm
namespace DC
open PySem PySem.Spec PyProof.Rows L2
/-! data and heaps -/
section
variable {K : PySem.W.Frag} {H H' : Hp}
theorem DpAll.len : ∀ {vs : List V} {ds : List PyData}, DpAll K H vs ds → vs.length = ds.length
  | _, _, .nil => rfl
  | _, _, .cons _ t => congrArg (· + 1) (DpAll.len t)
theorem DpAll.app : ∀ {vs ws : List V} {ds es : List PyData}, DpAll K H vs ds → DpAll K H ws es → DpAll K H (vs ++ ws) (ds ++ es)
  | _, _, _, _, .nil, h => h
  | _, _, _, _, .cons a t, h => .cons a (DpAll.app t h)
theorem DpAll.at : ∀ {vs : List V} {ds : List PyData} {i : Nat} {v : V}, DpAll K H vs ds → vs[i]? = some v → ∃ d, ds[i]? = some d ∧ Dp K H v d
  | _, _, _, _, .nil, e => by simp at e
  | _, _, 0, _, .cons a _, e => by simp at e; subst e; exact ⟨_, rfl, a⟩
  | _, _, i + 1, v, .cons _ t, e => by
    obtain ⟨d, h1, h2⟩ := DpAll.at (i := i) (v := v) t (by simpa using e)
    exact ⟨d, by simpa using h1, h2⟩
theorem DpAll.at' : ∀ {vs : List V} {ds : List PyData} {i : Nat} {d : PyData}, DpAll K H vs ds → ds[i]? = some d → ∃ v, vs[i]? = some v ∧ Dp K H v d
  | _, _, _, _, .nil, e => by simp at e
  | _, _, 0, _, .cons a _, e => by simp at e; subst e; exact ⟨_, rfl, a⟩
  | _, _, i + 1, v, .cons _ t, e => by
    obtain ⟨d, h1, h2⟩ := DpAll.at' (i := i) (d := v) t (by simpa using e)
    exact ⟨d, by simpa using h1, h2⟩
/-- a list's, a tuple's objects stay -/
def Seqs (H H' : Hp) : Prop := ∀ b o, H b = some o → (∀ kvs, o ≠ .dK kvs) → (∀ f, o ≠ .ext f) → H' b = some o
theorem _root_.L2.Same.seqs (h : Same H H') : Seqs H H' := fun b o e _ _ => h b o e
theorem Seqs.refl (H : Hp) : Seqs H H := fun _ _ e _ _ => e
theorem Seqs.trans {H1 : Hp} (a : Seqs H H1) (b : Seqs H1 H') : Seqs H H' := fun c o e h1 h2 => b c o (a c o e h1 h2) h1 h2
theorem Seqs.l {a : Addr} {xs : List V} (s : Seqs H H') (h : SqL K H a xs) : SqL K H' a xs := by
  rcases h with (h | ⟨o, h⟩) | h
  · exact .inl (.inl (s _ _ h (fun _ z => by cases z) fun _ z => by cases z))
  · exact .inl (.inr ⟨o, s _ _ h (fun _ z => by cases z) fun _ z => by cases z⟩)
  · exact .inr h
theorem Seqs.t {a : Addr} {xs : List V} (s : Seqs H H') (h : SqT K H a xs) : SqT K H' a xs := by
  rcases h with (h | ⟨o, h⟩) | h
  · exact .inl (.inl (s _ _ h (fun _ z => by cases z) fun _ z => by cases z))
  · exact .inl (.inr ⟨o, s _ _ h (fun _ z => by cases z) fun _ z => by cases z⟩)
  · exact .inr h
mutual
theorem Dp.seqs (s : Seqs H H') : ∀ {v : V} {d : PyData}, Dp K H v d → Dp K H' v d
  | _, _, .non => .non
  | _, _, .bl b => .bl b
  | _, _, .int i => .int i
  | _, _, .str x => .str x
  | _, _, .lst h t => .lst (s.l h) (DpAll.seqs s t)
  | _, _, .tup h t => .tup (s.t h) (DpAll.seqs s t)
theorem DpAll.seqs (s : Seqs H H') : ∀ {vs : List V} {ds : List PyData}, DpAll K H vs ds → DpAll K H' vs ds
  | _, _, .nil => .nil
  | _, _, .cons a t => .cons (Dp.seqs s a) (DpAll.seqs s t)
end
theorem same_new {p : Addr} {o : HO} (h : H p = none) : Same H (upd H p o) := fun b u e => by rw [upd_ne (ne_of_none e h)]; exact e
theorem DpAll.zip_dp : ∀ {vs : List V} {ds : List PyData}, DpAll K H vs ds → ∀ b ∈ vs.zip ds, Dp K H b.1 b.2
  | _, _, .nil, b, hb => by simp at hb
  | _, _, .cons a t, b, hb => by
    rw [List.zip_cons_cons] at hb
    rcases List.mem_cons.mp hb with e | hb
    · subst e; exact a
    · exact DpAll.zip_dp t b hb
theorem DpAll.of_pairs : ∀ {bs : List (V × PyData)}, (∀ b ∈ bs, Dp K H b.1 b.2) → DpAll K H (bs.map (·.1)) (bs.map (·.2))
  | [], _ => .nil
  | b :: bs, h => .cons (h b List.mem_cons_self) (DpAll.of_pairs fun c hc => h c (List.mem_cons_of_mem _ hc))
end
section
variable {X : Cx} {pins : List (Addr × Obj)} {σ : L2.St} {H : Hp} {s : Shared}
/-! sorted(list of data) -/
theorem each_rel : ∀ {xs : List V} {us : List Value} {ds : List PyData}, Vals xs us → DpAll X.K H xs ds → PySem.W.EachIs (fun v (b : V × PyData) => RelV b.1 v) us (xs.zip ds)
  | _, _, _, .nil, .nil => .nil
  | _, _, _, .cons r t, .cons _ t' => .cons r (each_rel t t')
theorem each_reads (I : Inv X pins σ H s) : ∀ {xs : List V} {us : List Value} {ds : List PyData}, Vals xs us → DpAll X.K H xs ds → PySem.W.EachIs (fun v (b : V × PyData) => ∃ as, Reads s.heap v b.2 as) us (xs.zip ds)
  | _, _, _, .nil, .nil => .nil
  | _, _, _, .cons r t, .cons a t' => .cons (Dp.reads I _ _ _ a r) (each_reads I t t')
theorem vals_each : ∀ {us : List Value} {bs : List (V × PyData)}, PySem.W.EachIs (fun v (b : V × PyData) => RelV b.1 v) us bs → Vals (bs.map (·.1)) us
  | _, _, .nil => .nil
  | _, _, .cons r t => .cons r (vals_each t)
theorem zip_snd : ∀ {xs : List V} {ds : List PyData}, xs.length = ds.length → (xs.zip ds).map (·.2) = ds
  | [], [], _ => rfl
  | [], _ :: _, h => by simp at h
  | _ :: _, [], h => by simp at h
  | x :: xs, d :: ds, h => by rw [List.zip_cons_cons, List.map_cons, zip_snd (by simpa using h)]
abbrev srtD (ds : List PyData) : List PyData := ds.mergeSort (PySem.W.dataLe false id)
def rSortedD (K : PySem.W.Frag) : List V → Hp → VK → Prop := fun vs H Q => ∃ (a : Addr) (xs : List V) (ds : List PyData), vs = [V.ref a] ∧ SqL K H a xs ∧ DpAll K H xs ds ∧
  PySem.W.AllAlike ds ∧ PySem.W.Sortable ds ∧ (∀ d ∈ ds, d.depth ≤ 50) ∧ ∀ ys p, DpAll K H ys (srtD ds) → H p = none → Q (.ref p) (upd H p (.lst ys))
theorem call_sortedD (hu : X.A.units + 64 < cLine) : CallR X (.builtin "sorted") (rSortedD X.K) := by
  intro pins s σ H vs us Q I r h
  obtain ⟨a, xs, ds, rfl, hs, hd, hal, hso, hdep, q⟩ := h
  obtain ⟨its, rv, hl, hz⟩ := I.list hs
  rw [Vals.ref1 r]
  have hlen := DpAll.len hd
  have em : (xs.zip ds).map (·.2) = ds := zip_snd hlen
  refine PySem.W.sorted_data (bs := xs.zip ds) (enc := Prod.snd) (R := fun v b => RelV b.1 v) hl.isList (each_rel rv hd) (each_reads I rv hd) (by rw [em]; exact hal) (by rw [em]; exact hso) (by rw [List.length_zip]; omega) (fun b hb => ?_) fun out ho he => ?_
  · have hm : b.2 ∈ ds := by rw [← em]; exact List.mem_map.mpr ⟨b, hb, rfl⟩
    have := hdep _ hm
    omega
  · obtain ⟨ep, he'⟩ := PyProof.Rows.sortedAll_at s.heap its out.toArray
    have hp : (((xs.zip ds).mergeSort (PySem.W.dataLe false Prod.snd))).Perm (xs.zip ds) := List.mergeSort_perm _ _
    have hv := vals_each he
    have hdp : DpAll X.K H (((xs.zip ds).mergeSort (PySem.W.dataLe false Prod.snd)).map (·.1)) (srtD ds) := by
      have e2 : srtD ds = ((xs.zip ds).mergeSort (PySem.W.dataLe false Prod.snd)).map (·.2) := by
        have e3 := List.map_mergeSort (f := fun x : V × PyData => x.2) (r := PySem.W.dataLe false Prod.snd) (s := PySem.W.dataLe false id) (l := xs.zip ds) (fun a _ b _ => rfl)
        rw [em] at e3
        exact e3.symm
      rw [e2]
      exact DpAll.of_pairs fun b hb => DpAll.zip_dp hd b (hp.mem_iff.mp hb)
    have hlen2 : (((xs.zip ds).mergeSort (PySem.W.dataLe false Prod.snd)).map (·.1)).length ≤ sizeLine := by
      rw [List.length_map, hp.length_eq, List.length_zip]; omega
    exact ⟨.ref _, upd H (s.heap.objs.size + 1) (.lst (((xs.zip ds).mergeSort (PySem.W.dataLe false Prod.snd)).map (·.1))), I.laid (t' := s.toks) (fun _ _ => PyProof.Rows.sortedAll_old) (Nat.le_succ _)
      ⟨hlen2, out, ep, hv, he'⟩, rfl, q _ _ hdp (I.hok.fresh (Nat.le_succ _))⟩
/-! x in a tuple of data -/
def rInTD (K : PySem.W.Frag) (neg : Bool) : R2 := fun x y H Q => ∃ d ds, Dp K H x d ∧ Dp K H y (.tuple ds) ∧ PyData.plainAll ds = true ∧ d.plain = true ∧ d.depth ≤ 50 ∧
  Q (.bl (if neg then !ds.any fun z => PyData.eqv z d else ds.any fun z => PyData.eqv z d)) H
theorem op_notInTD (hu : X.A.units + 64 < cLine) : OpR X (compareOp .NotIn) (rInTD X.K true) := by
  intro pins s σ H x y v u Q I rx ry h
  obtain ⟨d, ds, hd, he, p1, p2, hdep, q⟩ := h
  obtain ⟨as, r1⟩ := Dp.reads I d x v hd rx
  obtain ⟨bs, r2⟩ := Dp.reads I (.tuple ds) y u he ry
  exact SeqAt.notIn_tuple_data r2 r1 p1 p2 (by omega) ⟨.bl _, H, I, rfl, q⟩
/-! list.count of data -/
def rCntD (K : PySem.W.Frag) : V → List V → Hp → VK → Prop := fun x xs H Q => ∃ (p : Addr) (ys : List V) (y : V) (d : PyData) (ds : List PyData), x = .ref p ∧ xs = [y] ∧ SqL K H p ys ∧ DpAll K H ys ds ∧ Dp K H y d ∧
  PyData.plainAll ds = true ∧ d.plain = true ∧ d.depth ≤ 50 ∧ Q (.int ((ds.countP fun y => PyData.eqv y d : Nat) : Int)) H
theorem mt_countD (hu : X.A.units + 64 < cLine) : MtR X "list.count" (rCntD X.K) := by
  intro pins s σ H x xs v us Q I rx rxs h
  obtain ⟨p, ys, y, d, ds, rfl, rfl, hs, ha, hy, p1, p2, hdep, q⟩ := h
  cases rx
  obtain ⟨u, rfl, ru⟩ := rxs.one
  obtain ⟨its, rv, hl, hlen⟩ := I.list hs
  obtain ⟨as, r1⟩ := Dp.readsAll I ds _ its ha rv
  obtain ⟨bs, r2⟩ := Dp.reads I d y u hy ru
  exact SeqAt.count_list_data hl.isList (vs := its.toArray) (by simpa using r1) r2 p1 p2 (by omega) ⟨.int _, H, I.tok _, ⟨_, rfl⟩, q⟩
end
end DC
namespace DC
open PySem PySem.Spec PyProof.Rows L2
/-! a pair, turned round: t[::-1] -/
section
variable {prog : Program} {w : World} {A : Around} {E : Value → Shared → Prop} {s : Shared}
theorem applied_rev {sl : Addr} {tk : Tok} {Q : Int × Int × Nat → Shared → Prop} (hs : s.heap.IsSliceOf sl .none .none (.int (-1) tk))
    (h : Q (1, -1, 2) s) : wpAny (model prog w) A (Builtin.Slice.sliceApplied (.ref sl) (pure (2 : Int))) Q E s := by
  obtain ⟨os, hos, hcs, hds⟩ := id hs
  unfold Builtin.Slice.sliceApplied Builtin.Slice.sliceFields
  refine wpAny_bind (wpAny_bind (wpAny_field hos hds (x := .none) rfl (wpAny_bind (wpAny_field hos hds (x := .none) rfl
    (wpAny_bind (wpAny_field hos hds (x := .int (-1) tk) rfl (wpAny_pure ?_)))))))
  refine wpAny_bind (HT.slicePart_ (.int (-1) tk) ?_)
  show wpAny _ _ (if ((-1 : Int) == 0) = true then _ else _) _ _ s
  rw [if_neg (by decide)]
  refine wpAny_bind (HT.slicePart_ .none (wpAny_bind (HT.slicePart_ .none (wpAny_bind (wpAny_pure ?_)))))
  exact wpAny_pure h
theorem getItem_tup_rev2 {t sl : Addr} {x y : Value} {tk : Tok} {Q : Value → Shared → Prop} (ht : IsTup s.heap t #[x, y]) (hs : s.heap.IsSliceOf sl .none .none (.int (-1) tk))
    (h : Q (.ref s.heap.objs.size) { s with heap := s.heap.push { cls := .type "tuple", data := .seq #[y, x] } }) : wpAny (model prog w) A (getItem (.ref t) (.ref sl)) Q E s := by
  obtain ⟨os, hos, hcs, hds⟩ := id hs
  have hTs : s.TypeIs (.ref sl) "slice" := ⟨os, hos, hcs⟩
  have hz : sizeOk (.seq #[y, x]) := by show 2 ≤ sizeLine; decide
  unfold getItem
  try with_reducible refine wpAny_holding ?_
  first | refine wpAny_bind (wpAny_pure ?_) | skip
  refine wpAny_bind (wpAny_sequenceKey ht.typeIs (by decide) ?_)
  refine wpAny_bind (wpAny_callSpecial?_slot (name := Str.ofString "__getitem__") ht.typeIs PyProof.Rows.slot_tuple_getitem
    (wpAny_call_entry slot_tuple_getitem ht.typeIs entry_tuple_getitem ?_ (args_tuple_getitem _ _)))
  show wpAny _ _ (Builtin.Tuple.tupleItemsOf (.ref t) >>= _) _ _ s
  refine wpAny_bind (tupleItemsOf_ ht ?_)
  refine wpAny_bind (wpAny_typeOf hTs ?_)
  rw [if_pos (by decide)]
  refine wpAny_bind (applied_rev hs ?_)
  show wpAny _ _ (if ((1 : Int) == 0 && (-1 : Int) == 1 && (2 : Nat) == 2) = true then _ else _) _ _ s
  rw [if_neg (by decide)]
  have ep : ((List.range 2).filterMap fun (k : Nat) => (#[x, y] : Array Value)[((1 : Int) + (k : Int) * -1).toNat]?).toArray = #[y, x] := rfl
  rw [ep]
  first
    | exact wpAny_bind (m := Builtin.Tuple.tupleExact _) (wpAny_newObj_type (wpAny_pure ⟨_, rfl, wpAny_pure h⟩) hz)
    | exact wpAny_bind (m := Builtin.Tuple.tupleExact _) (wpAny_newObj_type (wpAny_bind (wpAny_pure (wpAny_pure ⟨_, rfl, wpAny_pure h⟩))) hz)
    | exact wpAny_bind (wpAny_bind (m := Builtin.Tuple.tupleExact _) (wpAny_newObj_type (wpAny_pure (wpAny_pure ⟨_, rfl, wpAny_pure h⟩)) hz))
    | exact wpAny_bind (wpAny_bind (m := Builtin.Tuple.tupleExact _) (wpAny_newObj_type (wpAny_pure ⟨_, rfl, wpAny_pure h⟩) hz))
end
def tRevT2 (K : PySem.W.Frag) (te : TE) : TE := fun σ H Q => te σ H fun x H1 => ∃ (a : Addr) (y z : V), x = .ref a ∧ SqT K H1 a [y, z] ∧ ∀ p, H1 p = none → Q (.ref p) (upd H1 p (.tup [z, y]))
theorem pe_revT2 {X : Cx} {e : Expr} {te : TE} {k : Nat} {p1 p2 p3 pos : Pos} (he : PE X e te) : PE X (.Subscript e (.Slice none none (some (.UnaryOp .USub (.Constant (.int 1) k p1) p2)) p3) pos) (tRevT2 X.K te) := by
  refine ⟨fun pins s σ H Q I h => ?_⟩
  refine Subscript_ (thn (he.run pins s σ H _ I h) fun v s1 ⟨x, H1, I1, r1, q1⟩ => ?_)
  obtain ⟨a, y, z, ex, hx, q⟩ := q1
  subst ex
  cases r1
  have hst : PO X (some (.UnaryOp .USub (.Constant (.int 1) k p1) p2)) (tPart (tUn (rU fun i => .int (-i)) (tC (.int 1)))) := po_some (pe_un un_neg pe_int)
  refine wpAny_Slice (thn (po_none.run pins s1 σ H1 (fun o H2 => o = none ∧ H2 = H1) I1 ⟨rfl, rfl⟩) fun vl s2 ⟨l, H2, I2, pl, el, e2⟩ => ?_)
  subst el e2
  refine thn (po_none.run pins s2 σ H2 (fun o H3 => o = none ∧ H3 = H2) I2 ⟨rfl, rfl⟩) fun vu s3 ⟨u, H3, I3, pu, eu, e3⟩ => ?_
  subst eu e3
  refine thn (hst.run pins s3 σ H3 (fun o H4 => o = some (-1) ∧ H4 = H3) I3 ⟨1, rfl, -1, rfl, rfl, rfl⟩) fun vs s4 ⟨o, H4, I4, ps, eo, e4⟩ => ?_
  subst eo e4
  cases pl
  cases pu
  obtain ⟨tk, rfl⟩ : ∃ tk, vs = Value.int (-1) tk := by
    cases ps with
    | int i t => exact ⟨t, rfl⟩
  have I5 : L2.Inv X pins σ H4 { s4 with heap := s4.heap.push { cls := .type "slice", data := .fields #[.none, .none, .int (-1) tk] } } :=
    I4.kept (t' := s4.toks) fun b ob q => Heap.get?_push_of_some _ q
  obtain ⟨its, r, ht, hz⟩ := I5.tuple hx
  obtain ⟨u1, u2, rfl, r1, r2⟩ := vals2 r
  show wpAny (model X.prog X.w) X.A (subscriptTail e (.Slice none none (some (.UnaryOp .USub (.Constant (.int 1) k p1) p2)) p3) (.ref a) (.ref s4.heap.objs.size)) (EP X pins σ Q) X.xe
    { s4 with heap := s4.heap.push { cls := .type "slice", data := .fields #[.none, .none, .int (-1) tk] } }
  refine tail_any (ops := [.ref a, .ref s4.heap.objs.size]) ht.typeIs (PyProof.Rows.slot_tuple_getitem.lookup) ?_ (by with_unfolding_all rfl)
  refine getItem_tup_rev2 ht (Heap.IsSliceOf.new _ _ _ _) ?_
  refine ⟨.ref _, _, I5.laid (t' := s4.toks) (o := .tup [z, y]) (fun b ob q => Heap.get?_push_of_some _ q) (Nat.le_refl _) ?_, rfl, q _ (I5.hok.fresh (Nat.le_refl _))⟩
  exact ⟨by show 2 ≤ sizeLine; decide, [u2, u1], .cons r2 (.cons r1 .nil), ⟨_, Heap.get?_push_size _ rfl, rfl, _, rfl⟩⟩
end DC
namespace DC
open PySem PySem.Spec PyProof.Rows L2
/-! enumerate(tuple) -/
theorem meets_enumT {v : Value} {o : Obj} {Hh : Heap → Prop} (B : Begins v o Hh) :
    Meets (Builtin.«enumerate.__new__» ⟨[.type "enumerate", v], []⟩) (fun _ R s => Hh s.heap ∧ R (.ok (.ret (.ref (s.heap.push o).objs.size)))
      { s with heap := (s.heap.push o).push { cls := .type "enumerate", data := .fields #[.none, .bool false, .ref s.heap.objs.size, rawInt 0, .none, .none] } }) :=
  .of_wp fun prog w A R s h => by
    obtain ⟨hp, g, d, tk, os⟩ := s
    obtain ⟨h1, h⟩ := h
    have hsub := sub_enumerate
    have q1 : ∀ {A' : Around} {E Q : Value → Shared → Prop}, Q (.ref hp.objs.size) ⟨hp.push o, g, d, tk, os⟩ → wpAny (model prog w) A' (pyIter v) Q E ⟨hp, g, d, tk, os⟩ := fun q =>
      B.iter prog w _ _ ⟨hp, g, d, tk, os⟩ _ h1 q
    wp_walk using q1
    refine wpAny_stack_any fun st => wpAny_pure ?_
    split
    · rename_i c _ _ _ _ _
      cases (c == Value.type "enumerate") <;>
      · wp_walk using q1
        exact ⟨_, rfl, h⟩
    · wp_walk using q1
      exact ⟨_, rfl, h⟩
section
variable {prog : Program} {w : World} {A : Around} {E : Value → Shared → Prop} {s : Shared}
theorem call_enumT {v : Value} {o : Obj} {Hh : Heap → Prop} {Q : Value → Shared → Prop} (B : Begins v o Hh) (h1 : Hh s.heap)
    (h : ∀ h', IsEnum h' (s.heap.objs.size + 1) s.heap.objs.size 0 .none → h'.get? s.heap.objs.size = some o →
      (∀ b o, s.heap.get? b = some o → h'.get? b = some o) → Q (.ref (s.heap.objs.size + 1)) { s with heap := h' }) : wpAny (model prog w) A (call (.type "enumerate") [v]) Q E s := by
  refine callType_new F.called_enumerate (by decide) (F.typeCall_enumerate_1 _) (F.newCall_enumerate_1 _) (fun obj => F.args_object_init_2 obj _) F.entry_enumerate_new (meets_enumT B) ⟨h1, ?_⟩
  have hz : (s.heap.push o).objs.size = s.heap.objs.size + 1 := Heap.size_push ..
  show _ ∧ _
  rw [hz]
  have he : IsEnum ((s.heap.push o).push { cls := .type "enumerate", data := .fields #[.none, .bool false, .ref s.heap.objs.size, rawInt 0, .none, .none] }) (s.heap.objs.size + 1) s.heap.objs.size 0 .none := by
    have q := Heap.get?_push_size (s.heap.push o) (o := { cls := .type "enumerate", data := .fields #[.none, .bool false, .ref s.heap.objs.size, rawInt 0, .none, .none] }) rfl
    rw [hz] at q
    exact q
  exact ⟨⟨_, he, rfl⟩, h _ he (Heap.get?_push_of_some _ (Heap.get?_push_size _ B.free)) fun b o x => Heap.get?_push_of_some _ (Heap.get?_push_of_some _ x)⟩
end
/-- the tuple at a, each item in a new pair -/
def Itet (K : PySem.W.Frag) (a : Addr) : It :=
  ⟨fun i H => ∃ (xs : List V) (x : V), SqT K H a xs ∧ xs[i]? = some x,
   fun i H v H' => ∃ T x, v = .ref T ∧ H T = none ∧ H' = upd H T (.tup [.int (i : Nat), x]) ∧ ∀ xs, SqT K H a xs → xs[i]? = some x,
   fun i H => ∃ xs : List V, SqT K H a xs ∧ xs.length ≤ i⟩
theorem tupIter_ne {h : Heap} {it a : Addr} {i : Nat} {items : Array Value} (h1 : h.IsTupleIter it a i) (h2 : h.IsTuple a items) : a ≠ it := by
  rintro rfl
  obtain ⟨o, e, c, _⟩ := h1
  obtain ⟨o', e', c', _⟩ := h2
  rw [e] at e'; cases e'
  rw [c] at c'
  injection c' with c'
  exact absurd c' (by decide)
theorem turn_enumT {P : Program} {w : World} {K : PySem.W.Frag} {elts : List Expr} {kk : Nat} {tpos : Pos} (a e it : Addr) :
    Turn P w K (.Tuple elts kk tpos) (Itet K a) [e, it] e (fun i h => (∃ old, IsEnum h e it ((i : Nat) : Int) old) ∧ h.IsTupleIter it a i ∧ e ≠ it ∧ e ≠ a) where
  mem := by simp
  obj := fun i h st b hb => by
    obtain ⟨⟨old, he⟩, ⟨o, ho, hc, hd⟩, _⟩ := st
    have e' : b = e ∨ b = it := by simpa using hb
    rcases e' with z | z
    · rw [z]; exact ⟨_, he, fun v q => nomatch q⟩
    · rw [z]; exact ⟨o, ho, fun v q => by rw [hd] at q; cases q⟩
  keep := fun i h h' st k => let ⟨⟨old, he⟩, hi, hne, hna⟩ := st; ⟨⟨old, k e (by simp) _ he⟩, hi.at fun o q => k it (by simp) o q, hne, hna⟩
  item := by
    intro X hP hw hK hc i pins s σ H E I hf st hg
    subst hP hw hK
    obtain ⟨⟨old, he⟩, hit, hne, hna⟩ := st
    obtain ⟨xs, x, hq, hx⟩ := hg
    obtain ⟨its, rv, p, hz⟩ := I.tuple hq
    obtain ⟨u, hu, ru⟩ := rv.get hx
    have hel : e < s.heap.objs.size := Heap.lt_size he
    have hil : it < s.heap.objs.size := by obtain ⟨_, q, _⟩ := hit; exact Heap.lt_size q
    have pT : s.heap.IsTuple a its.toArray := p
    have hai := tupIter_ne hit pT
    have hlt : i < its.toArray.size := by
      have := (List.getElem?_eq_some_iff.mp hu).1
      simpa using this
    refine wpAny_pyNext_enum_itemD (Draws.tuple (A := X.A.in1) (I.ok.hd hc) it a hai its.toArray) he ⟨hit, pT⟩ hlt hne (by simp [hne, hna]) fun y h' tk hy ho hst' hT hsz hk => ?_
    obtain ⟨hit', pT'⟩ := hst'
    have ey : y = u := by
      have q : its.toArray[i]? = some u := by simpa using hu
      exact Option.some.inj (hy.symm.trans q)
    subst ey
    refine ⟨_, rfl, wpAny_letOwnedTupleGo_enum (s := { s with heap := h', toks := tk + 1 }) ho fun h'' he' sb => ?_⟩
    have hT2 : h''.get? s.heap.objs.size = some { cls := .type "tuple", data := .seq #[.int i tk, y] } := (sb.2 _ (Nat.ne_of_gt hel)).trans hT
    have new : ObjOk X.prog X.w (upd H s.heap.objs.size (.tup [.int (i : Nat), x])) h'' s.heap.objs.size (.tup [.int (i : Nat), x]) :=
      ⟨by show 2 ≤ sizeLine; decide, [.int i tk, y], .cons ⟨_, rfl⟩ (.cons ru .nil), ⟨_, hT2, rfl, _, rfl⟩⟩
    have I1 : L2.Inv X pins σ (upd H s.heap.objs.size (.tup [.int (i : Nat), x])) { s with heap := h'', toks := tk + 1 } :=
      I.turnedNew (ch := [e, it]) (fun b ob hb q => (sb.2 b (fun z => hb (by simp [z]))).trans (hk b ob (fun z => hb (by simp [z])) (fun z => hb (by simp [z])) q)) hf (Nat.le_refl _) new
    refine ⟨.ref s.heap.objs.size, _, I1, rfl, ⟨_, x, rfl, I.hok.fresh (Nat.le_refl _), rfl, fun ys hy' => by rw [I.tuple_inj hy' hq]; exact hx⟩,
      ⟨⟨y, ?_⟩, hit'.at fun o q => (sb.2 it (Ne.symm hne)).trans q, hne, hna⟩, fun b hb => ?_⟩
    · have e1 : ((i + 1 : Nat) : Int) = (i : Int) + 1 := by omega
      rw [e1]; exact he'
    · have hb' : b < s.heap.objs.size := by
        have e' : b = e ∨ b = it := by simpa using hb
        rcases e' with z | z
        · rw [z]; exact hel
        · rw [z]; exact hil
      rw [upd_ne (Nat.ne_of_lt hb')]
      exact (hf b hb).1
  done := by
    intro X hP hw hK hc i pins s σ H E I hf st hg
    subst hP hw hK
    obtain ⟨⟨old, he⟩, hit, hne, hna⟩ := st
    obtain ⟨xs, hq, hx⟩ := hg
    obtain ⟨its, rv, p, hz⟩ := I.tuple hq
    have pT : s.heap.IsTuple a its.toArray := p
    have hai := tupIter_ne hit pT
    obtain ⟨f0, f1, f2, f3, f4, f5⟩ := hf it (by simp)
    have hl := rv.length
    have hT : s.TypeIs (.ref e) "enumerate" := ⟨_, he, rfl⟩
    unfold pyNext
    refine wpAny_bind (wpAny_attempt (wpAny_callSpecial?_slot (name := Str.ofString "__next__") hT F.slot_enumerate_next
      (wpAny_call_entry F.slot_enumerate_next hT F.entry_enumerate_next ?_ (F.args_enumerate_next_1 _))))
    show wpAny _ _ (field (.ref e) 2 >>= _) _ _ _
    refine wpAny_bind (wpAny_field he rfl (x := .ref it) rfl ?_)
    refine wpAny_bind (wpAny_nextOf_tuple_end (I.ok.hd hc) hit pT (by simp; omega) fun h' x he2 hx' => ?_)
    obtain ⟨o, ho, hc'⟩ := hx'
    refine wpAny_bind (wpAny_isInstance (T := "StopIteration") (b := true) ⟨o, ho, hc'⟩ isSubtype_stop ?_)
    exact wpAny_pure ⟨rfl, I.turned (t' := s.toks) (fun b o hb q => he2 b o hb q) f0 f1 f3 f4 f5⟩
  self := fun A i s Q E st h => let ⟨⟨_, he⟩, _⟩ := st; wpAny_pyIter_enum he h
def iEnumT (K : PySem.W.Frag) (ta : TA) : TI := fun σ H R => ta σ H fun vs H1 => ∃ a xs, vs = [.ref a] ∧ SqT K H1 a xs ∧ R (Itet K a) H1
theorem pi_enumT {X : Cx} {e : Expr} {ta : TA} {p pos tpos : Pos} {elts : List Expr} {kk : Nat} (hg : Gl X "enumerate") (hm : X.mg "enumerate" = none) (ha : PA X [e] ta) (hs : starEach [e] X.env = [(false, eval e X.env)] := by rfl) :
    PI X (.Tuple elts kk tpos) (.Call (.Name "enumerate" p) [e] [] pos) (iEnumT X.K ta) := by
  refine ⟨fun pins s σ H R I h => ?_⟩
  refine Call_ (ld_blt I hg hm boot_enumerate (PyProof.Rows.callWith_type1 (thn (ha.run pos pins s σ H _ I h) fun us s1 ⟨vs, H1, I1, r1, q1⟩ => ?_) hs rfl))
  obtain ⟨a, xs, ex, hq, q⟩ := q1
  subst ex
  obtain ⟨u, rfl, ru⟩ := vals1 r1
  cases ru
  obtain ⟨its, rv, p', hz⟩ := I1.tuple hq
  have pT : s1.heap.IsTuple a its.toArray := p'
  refine call_enumT (begins_tuple a its.toArray) pT fun h' he hit hk => wpAny_pyIter_enum he ?_
  have I2 : L2.Inv X pins σ H1 { s1 with heap := h' } := I1.kept (t' := s1.toks) hk
  have hal : a < s1.heap.objs.size := by obtain ⟨_, q, _⟩ := pT; exact Heap.lt_size q
  refine ⟨s1.heap.objs.size + 1, [s1.heap.objs.size + 1, s1.heap.objs.size], _, _, H1, rfl, I2, turn_enumT a (s1.heap.objs.size + 1) s1.heap.objs.size,
    ⟨⟨.none, he⟩, ⟨_, hit, rfl, rfl⟩, Nat.succ_ne_self _, Nat.ne_of_gt (Nat.lt_succ_of_lt hal)⟩, fun b hb => ?_, q⟩
  have e' : b = s1.heap.objs.size + 1 ∨ b = s1.heap.objs.size := by simpa using hb
  have hle : s1.heap.objs.size ≤ b := by
    rcases e' with z | z
    · rw [z]; exact Nat.le_add_right _ _
    · rw [z]; exact Nat.le_refl _
  exact I1.fpOk hle (I1.hok.fresh hle)
end DC
namespace DC
open PySem PySem.Spec PyProof.Rows L2
/-! d.update(e), keys ints and texts -/
section
variable {X : Cx}
theorem mt_update : MtR X "dict.update" (fun x xs H Q => ∃ (d o : Addr) (kvs more : List (Key × V)), x = .ref d ∧ xs = [.ref o] ∧ H d = some (.dK kvs) ∧ H o = some (.dK more) ∧ d ≠ o ∧ kvs.length + more.length ≤ sizeLine ∧
    Q .non (upd H d (.dK (mergeK kvs more)))) := by
  intro pins s σ H x xs v us Q I rx rxs h
  obtain ⟨d, o, kvs, more, rfl, rfl, hd, ho, hne, hz, q⟩ := h
  cases rx
  obtain ⟨u, rfl, ru⟩ := rxs.one
  cases ru
  obtain ⟨z1, s1, vs, rel, dd⟩ := dk_of I.hok hd
  obtain ⟨z2, s2, ws, rel2, dd2⟩ := dk_of I.hok ho
  refine call_meetsIn PySem.F.slot_dict_update dd.typeIs PySem.F.entry_dict_update (PySem.F.args_dict_update_2 _ _) (meets_dict_update (mixKind X.prog X.w) d o hne s2) ⟨vs, ws, dd, dd2, by rw [← rel.length, ← rel2.length]; exact hz, fun h' a _ c => ?_⟩
  have hl : (mergeK kvs more).length ≤ sizeLine := Nat.le_trans (length_mergeK more kvs) hz
  have he : ∃ q, h'.get? d = some q := let ⟨q, _, _, hq, _⟩ := a; ⟨q, hq⟩
  exact ⟨.non, _, d_write (t' := s.toks) I (by rw [hd]; exact True.intro) c he (dk_new hl s1 (rel2.merge rel) a), rfl, q⟩
end
/-! lays as data -/
abbrev Jt := Nat × Nat
abbrev Lay := Nat × List Jt
def eJ (j : Jt) : PyData := .tuple [.int (j.1 : Int), .int (j.2 : Int)]
def eJs (J : List Jt) : PyData := .tuple (J.map eJ)
def eLay (L : Lay) : PyData := .tuple [.int (L.1 : Int), eJs L.2]
/-! dicts whose keys are lays -/
mutual
def nk : PyData → NestedKey
  | .int i => .num i
  | .tuple ds => .tup (nks ds)
  | _ => .none
def nks : List PyData → List NestedKey
  | [] => []
  | d :: ds => nk d :: nks ds
end
mutual
def okN : PyData → Bool
  | .int _ => true
  | .tuple ds => okNs ds
  | _ => false
def okNs : List PyData → Bool
  | [] => true
  | d :: ds => okN d && okNs ds
end
mutual
theorem nest_of {h : Heap} : ∀ (d : PyData) (v : Value) (as : List Addr), okN d = true → Reads h v d as → NestedIs h (nk d) v
  | .int i, _, _, _, r => by
    cases r
    rw [nk]
    exact .int _ _
  | .tuple ds, _, _, ok, r => by
    cases r with
    | tuple h1 h2 h3 h4 =>
      rw [nk]
      exact .tup h1 h2 h3 (nests_of ds _ _ (by simpa [okN] using ok) h4)
  | .none, _, _, ok, _ => by simp [okN] at ok
  | .bool _, _, _, ok, _ => by simp [okN] at ok
  | .str _, _, _, ok, _ => by simp [okN] at ok
  | .list _, _, _, ok, _ => by simp [okN] at ok
  | .dict _, _, _, ok, _ => by simp [okN] at ok
theorem nests_of {h : Heap} : ∀ (ds : List PyData) (vs : List Value) (as : List Addr), okNs ds = true → ReadsAll h vs ds as → NestedAll h (nks ds) vs
  | [], _, _, _, r => by
    cases r
    rw [nks]
    exact .nil
  | d :: ds, _, _, ok, r => by
    cases r with
    | cons h1 h2 =>
      rw [okNs, Bool.and_eq_true] at ok
      rw [nks]
      exact .cons (nest_of d _ _ ok.1 h1) (nests_of ds _ _ ok.2 h2)
end
theorem okN_eJs (J : List Jt) : okN (eJs J) = true := by
  unfold eJs
  rw [okN]
  induction J with
  | nil => rfl
  | cons j J ih =>
    rw [List.map_cons, okNs, ih]
    rfl
theorem okN_lay (L : Lay) : okN (eLay L) = true := by
  simp [eLay, okN, okNs, okN_eJs]
def nkL (L : Lay) : NestedKey := nk (eLay L)
theorem nks_inj : ∀ {J K : List Jt}, nks (J.map eJ) = nks (K.map eJ) → J = K
  | [], [], _ => rfl
  | [], _ :: _, e => by simp [nks] at e
  | _ :: _, [], e => by simp [nks] at e
  | (a, b) :: J, (c, d) :: K, e => by
    simp only [List.map_cons, nks, eJ, nk, List.cons.injEq, NestedKey.tup.injEq, NestedKey.num.injEq, and_true] at e
    obtain ⟨⟨h1, h2⟩, h3⟩ := e
    rw [nks_inj h3, Int.ofNat_inj.mp h1, Int.ofNat_inj.mp h2]
theorem nkL_inj {L M : Lay} (e : nkL L = nkL M) : L = M := by
  obtain ⟨a, J⟩ := L
  obtain ⟨b, K⟩ := M
  simp only [nkL, eLay, eJs, nk, nks, List.cons.injEq, NestedKey.tup.injEq, NestedKey.num.injEq, and_true] at e
  rw [nks_inj e.2, Int.ofNat_inj.mp e.1]
mutual
theorem nk_depth : ∀ d : PyData, (nk d).depth ≤ d.depth
  | .int i => by simp [nk, NestedKey.depth]
  | .tuple ds => by
    have := nks_depth ds
    simp only [nk, NestedKey.depth, PyData.depth]
    omega
  | .none => by simp [nk, NestedKey.depth]
  | .bool _ => by simp [nk, NestedKey.depth]
  | .str _ => by simp [nk, NestedKey.depth]
  | .list _ => by simp [nk, NestedKey.depth]
  | .dict _ => by simp [nk, NestedKey.depth]
theorem nks_depth : ∀ ds : List PyData, NestedKey.depthAll (nks ds) ≤ PyData.depthAll ds
  | [] => by simp [nks, NestedKey.depthAll]
  | d :: ds => by
    have h1 := nk_depth d
    have h2 := nks_depth ds
    simp only [nks, NestedKey.depthAll, PyData.depthAll]
    omega
end
theorem eJs_depth (J : List Jt) : (eJs J).depth ≤ 2 := by
  have h : PyData.depthAll (J.map eJ) ≤ 1 := by
    induction J with
    | nil => simp [PyData.depthAll]
    | cons j J ih =>
      simp only [List.map_cons, PyData.depthAll, eJ, PyData.depth]
      omega
  simp only [eJs, PyData.depth]
  omega
theorem eLay_depth (L : Lay) : (eLay L).depth ≤ 3 := by
  have := eJs_depth L.2
  simp only [eLay, PyData.depth, PyData.depthAll]
  omega
/-- a dict with lays as keys: the lay, where its tuple stands, the value -/
abbrev DNs := List (Lay × Addr × V)
def pr3 (p : Lay × Addr × V) (q : NestedKey × Addr × Value) : Prop := nkL p.1 = q.1 ∧ p.2.1 = q.2.1 ∧ L2.RelV p.2.2 q.2.2
def dN (P : Program) (w : World) (a : Addr) (kvs : DNs) : HO := .ext fun h => kvs.length ≤ sizeLine ∧ (a == sysModules) = false ∧ ∃ xs, Paired pr3 kvs xs ∧
  ∃ o es ep, h.get? a = some o ∧ o.ExactDict ∧ o.data = .dict es ep ∧ es.toList = xs.map (entryOfKey (nestedKind P w)) ∧ (xs.map (·.1)).Nodup
/-- its keys stand -/
def Keyed (K : PySem.W.Frag) (H : Hp) (kvs : DNs) : Prop := ∀ p ∈ kvs, Dp K H (.ref p.2.1) (eLay p.1)
def lk (kvs : DNs) (L : Lay) : Option V := (kvs.find? fun p => decide (p.1 = L)).map (·.2.2)
section
variable {X : Cx} {pins : List (Addr × Obj)} {σ : L2.St} {H : Hp} {s : Shared} {a b : Addr} {kvs : DNs} {L : Lay}
theorem key_is (I : L2.Inv X pins σ H s) (h : Dp X.K H (.ref b) (eLay L)) : (nestedKind X.prog X.w).is s.heap (nkL L) b := by
  obtain ⟨as, r⟩ := Dp.reads I _ _ (Value.ref b) h rfl
  refine ⟨nest_of _ _ _ (okN_lay L) r, ?_⟩
  have h1 := nk_depth (eLay L)
  have h2 := eLay_depth L
  show (nk (eLay L)).depth ≤ 8
  omega
theorem pr3_all {xs : List (NestedKey × Addr × Value)} (I : L2.Inv X pins σ H s) (r : Paired pr3 kvs xs) (k : Keyed X.K H kvs) : ∀ x ∈ xs, (nestedKind X.prog X.w).is s.heap x.1 x.2.1 := by
  induction r with
  | nil => intro x hx; exact nomatch hx
  | @cons p q ps qs h t ih =>
    intro x hx
    rcases List.mem_cons.mp hx with e | hx
    · subst e
      have := key_is I (k p List.mem_cons_self)
      rw [h.1, h.2.1] at this
      exact this
    · exact ih (fun z hz => k z (List.mem_cons_of_mem _ hz)) x hx
theorem dN_of (I : L2.Inv X pins σ H s) (e : H a = some (dN X.prog X.w a kvs)) (k : Keyed X.K H kvs) : kvs.length ≤ sizeLine ∧ (a == sysModules) = false ∧
    ∃ xs, Paired pr3 kvs xs ∧ s.heap.DictOfH (nestedKind X.prog X.w) a xs := by
  obtain ⟨⟨z, hd, xs, r, o, es, ep, h1, h2, h3, h4, h5⟩, _⟩ := I.hok a _ e
  exact ⟨z, hd, xs, r, o, es, ep, h1, h2, h3, h4, pr3_all I r k, h5⟩
theorem pr3_lk {xs : List (NestedKey × Addr × Value)} (r : Paired pr3 kvs xs) (L : Lay) : RelO (lk kvs L) ((atKey xs (nkL L)).map (·.2)) := by
  induction r with
  | nil => exact True.intro
  | @cons p q ps qs h t ih =>
    obtain ⟨h1, h2, h3⟩ := h
    by_cases e : p.1 = L
    · have e' : q.1 = nkL L := by rw [← h1, e]
      have h1' : atKey (q :: qs) (nkL L) = some q.2 := by simp [atKey, List.find?_cons, e']
      have h2' : lk (p :: ps) L = some p.2.2 := by simp [lk, List.find?_cons, e]
      rw [h1', h2']
      exact h3
    · have e' : ¬ q.1 = nkL L := fun z => e (nkL_inj (h1.trans z))
      have h1' : atKey (q :: qs) (nkL L) = atKey qs (nkL L) := by simp [atKey, List.find?_cons, e']
      have h2' : lk (p :: ps) L = lk ps L := by simp [lk, List.find?_cons, e]
      rw [h1', h2']
      exact ih
theorem room8 {A : Around} (hu : A.units + 64 < cLine) : (nestedKind X.prog X.w).room A.in1 := by
  show A.units + 1 + 8 < cLine
  omega
theorem dN_ok {P : Program} {w : World} {H' : Hp} {h' : Heap} {ys : DNs} {xs : List (NestedKey × Addr × Value)} (z : ys.length ≤ sizeLine) (hd : (a == sysModules) = false) (r : Paired pr3 ys xs) (dd : h'.DictOfH (nestedKind P w) a xs) :
    ObjOk P w H' h' a (dN P w a ys) := by
  obtain ⟨o, es, ep, h1, h2, h3, h4, _, h5⟩ := dd
  refine ⟨⟨z, hd, xs, r, o, es, ep, h1, h2, h3, h4, h5⟩, ⟨o, h1⟩, fun g1 g2 ⟨z', hd', ys', r', o', es', ep', k1, k2, k3, k4, k5⟩ st => ?_⟩
  exact ⟨z', hd', ys', r', o', es', ep', st _ k1, k2, k3, k4, k5⟩
theorem op_notInN (hu : X.A.units + 64 < cLine) : OpR X (compareOp .NotIn) (fun x y H Q => ∃ a b kvs L, x = .ref b ∧ y = .ref a ∧ H a = some (dN X.prog X.w a kvs) ∧ Keyed X.K H kvs ∧ Dp X.K H (.ref b) (eLay L) ∧
    Q (.bl (!(lk kvs L).isSome)) H) := by
  intro pins s σ H x y v u Q I rx ry h
  obtain ⟨a, b, kvs, L, rfl, rfl, ha, hk, hb, q⟩ := h
  cases rx
  cases ry
  obtain ⟨z, hd, xs, r, dd⟩ := dN_of I ha hk
  refine wpAny_notIn_heap (room8 hu) (key_is I hb) hd dd ?_
  have e := (pr3_lk r L).isSome_eq
  rw [Option.isSome_map] at e
  rw [← e]
  exact ⟨.bl _, H, I.tok _, rfl, q⟩
theorem pe_getN {o i : Expr} {td ty : TE} {pos : Pos} (hu : X.A.units + 64 < cLine) (ho : PE X o td) (hi : PE X i ty) (hs : NoSl i) : PE X (.Subscript o i pos)
    (fun σ H Q => td σ H fun x H1 => ty σ H1 fun y H2 => ∃ a b kvs L v, x = .ref a ∧ y = .ref b ∧ H2 a = some (dN X.prog X.w a kvs) ∧ Keyed X.K H2 kvs ∧ Dp X.K H2 (.ref b) (eLay L) ∧ lk kvs L = some v ∧ Q v H2) := by
  refine ⟨fun pins s σ H Q I h => ?_⟩
  refine subD_of PySem.F.slot_dict_getitem.lookup hs (thn (ho.run pins s σ H _ I h) fun u s1 ⟨x, H1, I1, rx, q1⟩ =>
    thn (hi.run pins s1 σ H1 _ I1 q1) fun iv s2 ⟨y, H2, I2, ry, a, b, kvs, L, v, ex, ey, ha, hk, hb, hl, q2⟩ => ?_)
  subst ex ey
  cases rx
  cases ry
  obtain ⟨z, hd, xs, r, dd⟩ := dN_of I2 ha hk
  refine ⟨dd.typeIs, ?_⟩
  have e := pr3_lk r L
  rw [hl] at e
  cases hf : atKey xs (nkL L) with
  | none => rw [hf] at e; exact False.elim e
  | some p =>
    rw [hf] at e
    refine wpAny_getItem_heap (room8 hu) (key_is I2 hb) dd hf ⟨v, H2, I2.tok _, e, q2⟩
theorem call_lenN : CallR X (.builtin "len") (fun xs H Q => ∃ a kvs, xs = [.ref a] ∧ H a = some (dN X.prog X.w a kvs) ∧ Keyed X.K H kvs ∧ Q (.int ((kvs.length : Nat) : Int)) H) := by
  intro pins s σ H xs us Q I r h
  obtain ⟨a, kvs, rfl, ha, hk, q⟩ := h
  obtain ⟨u, rfl, ru⟩ := vals1 r
  cases ru
  obtain ⟨z, hd, xs, rel, dd⟩ := dN_of I ha hk
  have hl : kvs.length = xs.length := Paired.length rel
  refine PySem.call_len_dictH hd dd (by rw [sizeLine_eq] at z; omega) ?_
  rw [← hl]
  exact ⟨.int _, H, I.tok _, ⟨_, rfl⟩, q⟩
/-- d[lay] = v, the lay not among the keys -/
def rSetN (K : PySem.W.Frag) (P : Program) (w : World) : TSet := fun o i v H Q => ∃ a b kvs L, o = .ref a ∧ i = .ref b ∧ H a = some (dN P w a kvs) ∧ Keyed K H kvs ∧ Dp K H (.ref b) (eLay L) ∧ lk kvs L = none ∧ kvs.length < sizeLine ∧
  Q (upd H a (dN P w a (kvs ++ [(L, b, v)])))
theorem set_N (hu : X.A.units + 64 < cLine) : PSet X (rSetN X.K X.prog X.w) := by
  intro pins s σ H o i v ov iv u Q I ro ri rv h
  obtain ⟨a, b, kvs, L, rfl, rfl, ha, hk, hb, hl, hz, q⟩ := h
  cases ro
  cases ri
  obtain ⟨z, hd, xs, r, dd⟩ := dN_of I ha hk
  have hlen : kvs.length = xs.length := Paired.length r
  refine wpAny_setItem_heap (hsz := by omega) (room8 hu) (key_is I hb) dd fun h' dd' hs => ?_
  have e := pr3_lk r L
  rw [hl] at e
  have hn : atKey xs (nkL L) = none := by
    cases hf : atKey xs (nkL L) with
    | none => rfl
    | some p => rw [hf] at e; exact False.elim e
  rw [storedH_new hn] at dd'
  have he : ∃ q, h'.get? a = some q := let ⟨q, _, _, hq, _⟩ := dd'; ⟨q, hq⟩
  refine ⟨_, d_write (t' := s.toks + _) I (by rw [ha]; exact True.intro) hs he (dN_ok ?_ hd (Paired.snoc r ⟨rfl, rfl, rv⟩) dd'), q⟩
  rw [List.length_append, List.length_singleton]
  omega
/-- {lay: v} -/
def tDispN (K : PySem.W.Frag) (P : Program) (w : World) (tk tv : TE) : TE := fun σ H Q => ∀ p, H p = none → tPairs [(tk, tv)] σ (upd H p (dN P w p [])) fun ps H2 => H2 p = some (dN P w p []) ∧
  ∃ L b v, ps = [(V.ref b, v)] ∧ Dp K H2 (.ref b) (eLay L) ∧ Q (.ref p) (upd H2 p (dN P w p [(L, b, v)]))
theorem dN_empty {P : Program} {w : World} {H : Hp} (h : Heap) (hb : sysModules < h.objs.size) : ObjOk P w H (h.push { cls := .type "dict", data := .dict #[] }) h.objs.size (dN P w h.objs.size []) := by
  have hd : (h.objs.size == sysModules) = false := beq_eq_false_iff_ne.mpr (Nat.ne_of_gt hb)
  exact dN_ok (Nat.zero_le _) hd .nil (Heap.DictOfH.new h)
theorem pe_dispN {pos : Pos} {k v : Expr} {tk tv : TE} (hu : X.A.units + 64 < cLine) (hk : PE X k tk) (hv : PE X v tv) : PE X (.Dict [some k] [v] pos) (tDispN X.K X.prog X.w tk tv) := by
  refine ⟨fun pins s σ H Q I q => ?_⟩
  have hn := I.hok.fresh (Nat.le_refl s.heap.objs.size)
  have I1 := I.laid (a := s.heap.objs.size) (o := dN X.prog X.w s.heap.objs.size []) (h' := s.heap.push { cls := .type "dict", data := .dict #[] }) (t' := s.toks) (fun _ _ q => Heap.get?_push_of_some _ q) (Nat.le_refl _) (dN_empty s.heap I.big)
  have h : PPs X pos [some k] [v] [(tk, tv)] := pps_cons hk hv pps_nil
  rw [arm_eval_Dict, zip_pairTrees [some k] [v] X.env pos rfl rfl, dictDisplay_pairs (pairTrees [some k] [v] X.env pos) (fun e => by have := pairTrees_length [some k] [v] X.env pos rfl rfl; rw [e] at this; simp at this) (by rw [pairTrees_length [some k] [v] X.env pos rfl rfl]; show 1 < 17; decide)]
  refine wpAny_bind (wpAny_standAt (wpAny_bind (wpAny_subDictH (knd := nestedKind X.prog X.w) (by show X.A.units + 8 < cLine; omega) (by rw [pairTrees_length [some k] [v] X.env pos rfl rfl]; show 1 ≤ 15; decide) ?_)))
  refine thn (h.run pins _ σ _ _ I1 (q _ hn)) fun ws s2 ⟨ps, H2, I2, rel, e, L, b, x, ep, hb, q2⟩ => ?_
  subst ep
  obtain ⟨⟨w1, w2⟩, rfl, r1, r2⟩ : ∃ p : Value × Value, ws = [p] ∧ L2.RelV (.ref b) p.1 ∧ L2.RelV x p.2 := by
    cases rel with
    | cons r t =>
      cases t
      exact ⟨_, rfl, r.1, r.2⟩
  cases r1
  obtain ⟨z, hd, xs0, r0, dd⟩ := dN_of I2 e (fun p hp => nomatch hp)
  cases r0
  refine ⟨[(nkL L, b, w2)], ⟨rfl, rfl, key_is I2 hb, trivial⟩, dd, fun h' tk dd' hs => wpAny_pure ⟨.ref s.heap.objs.size, _, ?_, rfl, q2⟩⟩
  have he : ∃ q, h'.get? s.heap.objs.size = some q := let ⟨q, _, _, hq, _⟩ := dd'; ⟨q, hq⟩
  exact d_write I2 (by rw [e]; exact True.intro) hs he (dN_ok (by rw [sizeLine_eq]; show 1 ≤ 16777216; decide) hd (.cons ⟨rfl, rfl, r2⟩ .nil) dd')
end
end DC
namespace DC
open PySem PySem.Spec PyProof.Rows L2
/-! repr of data: how long it is -/
theorem textFrom_le : ∀ (ts : List Str) (k : Nat) (acc : Str), (textFrom k acc ts).length ≤ acc.length + piled ts
  | [], _, acc => by show acc.length ≤ _; omega
  | t :: ts, k, acc => by
    have h := textFrom_le ts (k + 1) (acc ++ (if k > 0 then ", " else "" : String) ++ t)
    have e : (acc ++ (if k > 0 then ", " else "" : String) ++ t).length = acc.length + (if k > 0 then 2 else 0) + t.length := by
      rw [strLen_append, strLen_append]
      split <;> rfl
    rw [e] at h
    show (textFrom (k + 1) _ ts).length ≤ _
    rw [piled_cons]
    have d : (if k > 0 then 2 else 0 : Nat) ≤ 2 := by split <;> omega
    omega
theorem listText_le (ts : List Str) : (listText ts).length ≤ 2 + piled ts := by
  unfold listText
  rw [strLen_append]
  have h := textFrom_le ts 0 (("[" : String) : Str)
  have e1 : (("[" : String) : Str).length = 1 := rfl
  have e2 : (("]" : String) : Str).length = 1 := rfl
  rw [e1] at h
  rw [e2]
  omega
theorem tupleText_le (ts : List Str) : (tupleText ts).length ≤ 3 + piled ts := by
  unfold tupleText
  rw [strLen_append, strLen_append]
  have e1 : (("(" : String) : Str).length = 1 := rfl
  have e3 : (((if ts.length == 1 then ",)" else ")" : String) : Str)).length ≤ 2 := by split <;> decide
  rw [e1]
  by_cases h : ts = []
  · subst h
    have : (Str.join ", " ([] : List Str)).length = 0 := rfl
    rw [this]
    omega
  · have := join_length_add ts h
    omega
mutual
def wt : PyData → Nat
  | .int _ => 30
  | .bool _ => 5
  | .list ds | .tuple ds => wts ds + 3
  | _ => 0
def wts : List PyData → Nat
  | [] => 0
  | d :: ds => wt d + 2 + wts ds
end
mutual
/-- small numbers, truth values, lists and tuples of these -/
def smallD : PyData → Bool
  | .int i => decide (i.natAbs < 10 ^ 20)
  | .bool _ => true
  | .list ds | .tuple ds => smallDs ds
  | _ => false
def smallDs : List PyData → Bool
  | [] => true
  | d :: ds => smallD d && smallDs ds
end
mutual
theorem shown_le : ∀ d : PyData, smallD d = true → d.showable = true ∧ d.hasDict = false ∧ d.shown.length ≤ wt d
  | .int i, h => by
    have h' : i.natAbs < 10 ^ 20 := of_decide_eq_true (by simpa [smallD] using h)
    have h2 : i.natAbs.log2 < 1920 := by
      by_cases e : i.natAbs = 0
      · rw [e]; decide
      · have h3 : i.natAbs.log2 < 70 := (Nat.log2_lt e).mpr (Nat.lt_trans h' (by decide))
        omega
    refine ⟨by simpa [PyData.showable] using h2, by simp [PyData.hasDict], ?_⟩
    have e := int_text_length_le10 (k := 20) (by decide) h'
    simp only [PyData.shown, wt]
    show (Str.ofString (toString i)).length ≤ 30
    rw [PySem.ofString_length]
    omega
  | .bool b, _ => by
    refine ⟨by simp [PyData.showable], by simp [PyData.hasDict], ?_⟩
    simp only [PyData.shown, wt]
    cases b <;> decide
  | .list ds, h => by
    obtain ⟨h1, h2, h3⟩ := showns_le ds (by simpa [smallD] using h)
    refine ⟨by simpa [PyData.showable] using h1, by simpa [PyData.hasDict] using h2, ?_⟩
    have := listText_le (PyData.shownAll ds)
    simp only [PyData.shown, wt]
    omega
  | .tuple ds, h => by
    obtain ⟨h1, h2, h3⟩ := showns_le ds (by simpa [smallD] using h)
    refine ⟨by simpa [PyData.showable] using h1, by simpa [PyData.hasDict] using h2, ?_⟩
    have := tupleText_le (PyData.shownAll ds)
    simp only [PyData.shown, wt]
    omega
  | .none, h => by simp [smallD] at h
  | .str _, h => by simp [smallD] at h
  | .dict _, h => by simp [smallD] at h
theorem showns_le : ∀ ds : List PyData, smallDs ds = true → PyData.showableAll ds = true ∧ PyData.hasDictAll ds = false ∧ piled (PyData.shownAll ds) ≤ wts ds
  | [], _ => ⟨by simp [PyData.showableAll], by simp [PyData.hasDictAll], by simp [PyData.shownAll, piled, wts]⟩
  | d :: ds, h => by
    rw [smallDs, Bool.and_eq_true] at h
    obtain ⟨a1, a2, a3⟩ := shown_le d h.1
    obtain ⟨b1, b2, b3⟩ := showns_le ds h.2
    refine ⟨by simp [PyData.showableAll, a1, b1], by simp [PyData.hasDictAll, a2, b2], ?_⟩
    rw [PyData.shownAll, piled_cons, wts]
    omega
end
section
variable {X : Cx}
theorem call_reprD (hg : X.A.guards = some []) (hu : X.A.units + 64 < cLine) : CallR X (.builtin "repr") (fun xs H Q => ∃ v d, xs = [v] ∧ Dp X.K H v d ∧ smallD d = true ∧ wt d ≤ 100000 ∧ d.depth ≤ 50 ∧ Q (.str d.shown) H) := by
  intro pins s σ H xs us Q I r h
  obtain ⟨v, d, rfl, hd, hs, hw, hdep, q⟩ := h
  obtain ⟨u, rfl, ru⟩ := vals1 r
  obtain ⟨as, rd⟩ := Dp.reads I d v u hd ru
  obtain ⟨h1, h2, h3⟩ := shown_le d hs
  have hz : d.shown.length ≤ sizeLine := by rw [sizeLine_eq]; omega
  have done : ∀ {a : Addr}, Reads s.heap (.ref a) d as → wpAny (model X.prog X.w) X.A (call (.builtin "repr") [.ref a]) (EP X pins σ Q) X.xe s := fun {a} rd =>
    repr_of_reads' rd h1 (PyData.noDict_hsm h2) hg (by omega) (fun _ _ e => e) (fun h' t tk hk => ⟨.str d.shown, H, I.kept (t' := tk) hk, ⟨t, rfl⟩, q⟩) hz
  cases rd with
  | none => simp [smallD] at hs
  | bool b =>
    refine PySem.P.repr_of_bool ⟨.str _, H, I.tok _, ⟨s.toks, ?_⟩, q⟩
    simp only [PyData.shown]
  | int i t =>
    refine PySem.P.repr_of_int (by simpa [PyData.showable] using h1) ⟨.str _, H, I.tok _, ⟨s.toks, ?_⟩, q⟩
    simp only [PyData.shown]
  | str x t => simp [smallD] at hs
  | list a1 a2 a3 a4 => exact done (.list a1 a2 a3 a4)
  | tuple a1 a2 a3 a4 => exact done (.tuple a1 a2 a3 a4)
  | dict _ _ _ _ _ => simp [smallD] at hs
end
/-! a def's promise where no repr is being made around it -/
section
variable (P : Program) (w : World) (K : PySem.W.Frag) (mg : Str → Option Value) (base : Heap)
structure FnG (k : Nat) (f : Addr) (fd : FuncData) (ps : List Str) (sp : Sp) : Prop where
  len : ∀ vs H Q E, sp vs H Q E → vs.length = ps.length
  run : ∀ (A : Around) (outer : List Env) (s : Shared) (H : Hp) (args : Args) (us : List Value) (vs : List V) (Q : VK) (E : XK), A.guards = some [] → Room k A →
    Env0 P w K mg base A outer s H → BindsTo s fd args (ps.zip us) → Vals vs us → sp vs H Q E → codeAny (model P w) A (.call (.ref f) args) (CR CX0 outer P w H s Q E) s
/-- a def that may be called, by its name -/
structure Cal (k : Nat) (name : Str) (ps : List Str) (sp : Sp) : Prop where
  ex : ∃ f fd, FnOk P w K mg base CX0 k f fd ps sp ∧ PySem.W.keepIn K (.ref f) = true ∧ Binds K fd ps [] ∧ mg name = some (.ref f)
structure CalG (k : Nat) (name : Str) (ps : List Str) (sp : Sp) : Prop where
  ex : ∃ f fd, FnG P w K mg base k f fd ps sp ∧ PySem.W.keepIn K (.ref f) = true ∧ Binds K fd ps [] ∧ mg name = some (.ref f)
end
section
variable {P : Program} {w : World} {K : PySem.W.Frag} {mg : Str → Option Value} {base : Heap}
theorem FnG.of {k : Nat} {f : Addr} {fd : FuncData} {ps : List Str} {sp : Sp} (F : FnOk P w K mg base CX0 k f fd ps sp) : FnG P w K mg base k f fd ps sp :=
  ⟨F.len, fun A outer s H args us vs Q E _ hr e b r h => F.run A outer s H args us vs Q E hr e b r h⟩
/-- where a def of the text stands -/
structure Df (K : PySem.W.Frag) (mg : Str → Option Value) (x : Str) (st : Stmt) (ps : List Str) (f : Addr) (fd : FuncData) : Prop where
  F : Fun K x x st f fd
  b : Binds K fd ps []
  g : mg x = some (.ref f)
theorem Df.cal {x : Str} {st : Stmt} {ps : List Str} {f : Addr} {fd : FuncData} {k : Nat} {sp : Sp} (D : Df K mg x st ps f fd) (G : FnOk P w K mg base CX0 k f fd ps sp) : Cal P w K mg base k x ps sp := ⟨f, fd, G, D.F.kp, D.b, D.g⟩
theorem Df.calG {x : Str} {st : Stmt} {ps : List Str} {f : Addr} {fd : FuncData} {k : Nat} {sp : Sp} (D : Df K mg x st ps f fd) (G : FnG P w K mg base k f fd ps sp) : CalG P w K mg base k x ps sp := ⟨f, fd, G, D.F.kp, D.b, D.g⟩
/-- a body, nothing being shown around it -/
theorem fnG_of {x qual : Str} {st : Stmt} {f : Addr} {fd : FuncData} {N ps : List Str} {k : Nat} {sp : Sp} (F : Fun K x qual st f fd) (S : FnScope N ps (defScope st)) (len : ∀ vs H Q E, sp vs H Q E → vs.length = ps.length)
    (hbody : ∀ (cdv : Value) (A : Around) (outer : List Env) (s : Shared) (H : Hp) (vs : List V) (Q : VK) (E : XK), A.guards = some [] → Room k (A.deeper (envOfC qual (defScope st) s.heap.objs.size f cdv)) → sp vs H Q E →
      ∃ t, PSs (cxOf CX0 P w K mg base N qual (defScope st) f cdv A outer s H E).nox (defBody st) t ∧ t { nx := fun _ H' => Q .non H', rt := Q } (start N vs) H) : FnG P w K mg base (k + 1) f fd ps sp := by
  obtain ⟨oc, od, kV, doc, pm, an, cdv, ct, osl, rfl, lk, hcd⟩ := F.ex
  refine ⟨len, fun A outer s H args us vs Q E hgd hr e0 hb r hsp => ?_⟩
  have KX : K.In s.heap := e0.mod.kin.keeps fun b o q => (e0.bs b o q).1
  have lim : s.heap.NoLimit := e0.mod.nolimit.keeps fun b o q => (e0.bs b o q).1
  have hk : ∀ y ∈ ps.zip us, (defScope st).names.lookup y.1 = some .local ∨ ((defScope st).names.lookup y.1 = some .cell ∧ ((cellsFrom (s.heap.objs.size + 1) (defScope st).names []).lookup y.1).isSome = true) := by
    intro ⟨n, v⟩ hy
    rcases S.par n (List.of_mem_zip hy).1 with q | q
    · exact .inl q
    · exact .inr ⟨q, PySem.W.cellsFrom_some _ _ _ (.inl q)⟩
  refine codeAny_call_function hr.depth (KX _ _ lk) rfl S.co S.gen rfl (PySem.W.codeRec_of KX hcd) (hb _ _ _ _ ?_)
  refine wpAny_newFunctionEnv_cells S.kind hk fun env he s1 x => ?_
  subst he
  refine ⟨lim.keeps x.toInCall.keep, codeAny_func ?_⟩
  obtain ⟨t, ht, hq⟩ := hbody cdv A outer s H vs Q E hgd (hr.deeper _) hsp
  have I := inv_start (CX := CX0) (mg := mg) (E := E) S hr.hd e0 (len _ _ _ _ hsp) r x
  refine wpAny_mono (ht.nox.run [] s1 (start N vs) H _ I hq) (fun fl s' hs => ?_) fun e s' hs => hs
  cases fl with
  | ret u =>
    obtain ⟨v, σ', H', J, rv, q⟩ := hs
    exact ⟨v, H', J.os, J.bare, J.base, J.hok, rv, q⟩
  | next =>
    obtain ⟨σ', H', J, q⟩ := hs
    exact ⟨.non, H', J.os, J.bare, J.base, J.hok, rfl, q⟩
  | brk =>
    obtain ⟨_, _, _, q⟩ := hs
    exact q.elim
  | cont =>
    obtain ⟨_, _, _, q⟩ := hs
    exact q.elim
end
section
variable {X : Cx} {k : Nat} {x : Str} {ps : List Str} {sp : Sp} {p pos : Pos} {e : Expr} {es : List Expr} {t : TA}
theorem pe_c (C : Cal X.prog X.w X.K X.mg X.base k x ps sp) (hr : Room k X.A) (hg : Gl X x) (ha : PA X (e :: es) t) (hdb : (x == ("__debug__" : Str)) = false := by decide)
    (he : starEach (e :: es) X.env = (false, eval e X.env) :: starEach es X.env := by rfl) (hpl : (backTo pos (starEach es X.env)).any (·.1) = false := by rfl) :
    PE X (.Call (.Name x p) (e :: es) [] pos) (tCall sp [] E0 t) := by
  obtain ⟨f, fd, F, kp, b, m⟩ := C.ex
  exact pe_call F hr hg m kp b .nil pass0 ha hdb he hpl
theorem pe_g (C : CalG X.prog X.w X.K X.mg X.base k x ps sp) (hgd : X.A.guards = some []) (hr : Room k X.A) (hg : Gl X x) (ha : PA X (e :: es) t) (hdb : (x == ("__debug__" : Str)) = false := by decide)
    (he : starEach (e :: es) X.env = (false, eval e X.env) :: starEach es X.env := by rfl) (hpl : (backTo pos (starEach es X.env)).any (·.1) = false := by rfl) :
    PE X (.Call (.Name x p) (e :: es) [] pos) (tCall sp [] E0 t) := by
  obtain ⟨f, fd, F, kp, b, m⟩ := C.ex
  refine ⟨fun pins s σ H Q I h => wpAny_Call_Name_kw (ld_glob I hg m ?_ hdb)⟩
  refine PySem.W.callWith_K (h₀ := X.base) I.ok.mod.kin kp (thn (ha.run pos pins s σ H _ I h) fun us s1 ⟨vs, H1, I1, r, q⟩ => ⟨I1.kIn, ?_⟩) he hpl
  have q' : sp vs H1 Q E0 := by simpa using q
  have hl : us.length = ps.length := by rw [← r.length]; exact F.len _ _ _ _ q'
  have hb2 := b s1 us I1.kIn (by simpa using hl)
  rw [List.append_nil] at hb2
  refine wpAny_call (codeAny_mono (F.run X.A X.stack s1 H1 ⟨us, []⟩ us vs Q E0 hgd hr I1.env0 hb2 r q') fun r s' hq => ?_)
  cases r with
  | error e => exact False.elim hq
  | ok fl =>
    cases fl with
    | ret u => exact I1.after hq
    | next => exact False.elim hq
    | brk => exact False.elim hq
    | cont => exact False.elim hq
end
end DC
namespace DC
open PySem PySem.Spec PyProof.Rows L2
/-! the law's call, by a promise of that kind -/
section
variable {P : Program} {w : World} {K : PySem.W.Frag} {mg mb : Str → Option Value} {k : Nat} {fa a : Addr} {fd : FuncData} {x : Str} {sp : Sp} {s₁ : Shared} {vs : List Value} {ns : List Int}
/-- from one abstract heap that tracks the script at most -/
theorem lawG_core (KX : K.In s₁.heap) (hns : s₁.heap.Ns mainGlobals mg) (hb : s₁.heap.Ns builtinsNs mb) (hbb : ∀ x : Str, x ≠ "__name__" → mb x = bootBuiltins x) (hlim : s₁.heap.NoLimit) (hg : s₁.gens = #[])
    (ha : s₁.heap.get? a = some { cls := .type "list", data := .seq vs.toArray }) (hr : Room k callerA) (F : ∀ base : Heap, K.In base → base.Ns mainGlobals mg → FnG P w K mg base k fa fd [x] sp)
    (hbind : ∀ (s : Shared) (u : Value), BindsTo s fd ⟨[u], []⟩ [(x, u)]) (H : Hp) (hO : Only H) (hsp : sp [.ref a] H (fun v _ => v = .bl true) fun _ _ _ => False)
    (hok : HOk P w H s₁.heap) (hA : ∀ b, H b ≠ none → b = a) (hK : H a ≠ none → K.lookup a = none) :
    codeAny (model P w) callerA (.call (.ref fa) ⟨[.ref a], []⟩) (fun r s' => r = .ok (.ret (.bool true)) ∧ OldK s₁.heap s'.heap ∧ s'.os = s₁.os ∧ AllBare s'.gens) s₁ := by
  have noDict : ∀ {b : Addr} {o : Obj} {es : Array DictEntry} {ep : Nat}, s₁.heap.get? b = some o → o.data = .dict es ep → H b = none := by
    intro b o es ep e d
    cases q : H b with
    | none => rfl
    | some u =>
      obtain rfl : b = a := hA b (by rw [q]; exact Option.some_ne_none u)
      rw [ha] at e
      cases e
      exact nomatch (show Data.seq vs.toArray _ = Data.dict es ep from d)
  have nsK : ∀ {b : Addr} {m : Str → Option Value}, s₁.heap.Ns b m → (hidT s₁.heap H).Ns b m := fun ⟨o, es, ep, e, d, r⟩ => ⟨o, es, ep, hidT_get e (noDict e d), d, r⟩
  have kIn : K.In (hidT s₁.heap H) := by
    intro b o e
    refine hidT_get (KX b o e) ?_
    cases q : H b with
    | none => rfl
    | some u =>
      have qn : H b ≠ none := by rw [q]; exact Option.some_ne_none u
      obtain rfl : b = a := hA b qn
      rw [hK qn] at e
      cases e
  obtain ⟨mc, l1, l2⟩ := hlim
  have e0 : Env0 P w K mg (hidT s₁.heap H) callerA [] s₁ H := by
    refine ⟨rfl, ⟨kIn, nsK hns, ⟨mb, nsK hb, hbb⟩, ⟨mc, nsK l1, l2⟩⟩, fun b o e => of_hidT e, Nat.le_of_eq (hidT_size _ _), trivial, fun b hb => ?_, hok, .of_eq hg⟩
    exact nomatch (show b ∈ ([] : List Addr) from hb)
  refine codeAny_mono ((F _ kIn (nsK hns)).run callerA [] s₁ H ⟨[.ref a], []⟩ [.ref a] [.ref a] _ _ rfl hr e0 (hbind s₁ (.ref a)) (.cons rfl .nil) hsp) fun r s' h => ?_
  cases r with
  | error e => exact h.elim
  | ok fl =>
    cases fl with
    | next => exact False.elim h
    | brk => exact False.elim h
    | cont => exact False.elim h
    | ret u =>
      obtain ⟨v, H', os, bare, un, hok', r', q⟩ := h
      obtain rfl : v = .bl true := q
      obtain rfl : u = Value.bool true := r'
      refine ⟨rfl, OldK.of_keep fun b o e => ?_, os, bare⟩
      cases q : H b with
      | none =>
        refine un.keep b o e q (fun z => ?_) (fun z => nomatch z)
        exact nomatch (show b ∈ ([] : List Addr) from z)
      | some u =>
        rcases hO b with z | ⟨ob, xs, z⟩
        · rw [q] at z
          cases z
        · obtain ⟨e1, _⟩ := hok b _ z
          obtain ⟨e2, _⟩ := hok' b _ (un.frzs b ob _ z)
          rw [e] at e1
          cases e1
          exact e2
theorem lawG_call (KX : K.In s₁.heap) (hns : s₁.heap.Ns mainGlobals mg) (hb : s₁.heap.Ns builtinsNs mb) (hbb : ∀ x : Str, x ≠ "__name__" → mb x = bootBuiltins x) (hlim : s₁.heap.NoLimit) (hg : s₁.gens = #[])
    (ha : s₁.heap.get? a = some { cls := .type "list", data := .seq vs.toArray }) (hi : IntsAre vs ns) (hl : ns.length ≤ sizeLine) (hr : Room k callerA)
    (F : ∀ base : Heap, K.In base → base.Ns mainGlobals mg → FnG P w K mg base k fa fd [x] sp) (hbind : ∀ (s : Shared) (u : Value), BindsTo s fd ⟨[u], []⟩ [(x, u)])
    (hsp : ∀ H : Hp, Only H → SqL K H a (ns.map V.int) → sp [.ref a] H (fun v _ => v = .bl true) fun _ _ _ => False) :
    codeAny (model P w) callerA (.call (.ref fa) ⟨[.ref a], []⟩) (fun r s' => r = .ok (.ret (.bool true)) ∧ OldK s₁.heap s'.heap ∧ s'.os = s₁.os ∧ AllBare s'.gens) s₁ := by
  have rv := vals_ints hi
  have lenV := hi.length
  cases hk : K.lookup a with
  | some o =>
    have e := KX a o hk
    rw [ha] at e
    cases e
    have hO : Only fun _ => none := fun _ => .inl rfl
    refine lawG_core KX hns hb hbb hlim hg ha hr F hbind (fun _ => none) hO (hsp _ hO (.inr ⟨_, vs.toArray, _, hk, rfl, rfl, rfl, ?_, by simpa using rv⟩)) (fun b u z => nomatch (show (none : Option HO) = some u from z)) (fun b z => absurd rfl z) fun z => absurd rfl z
    rw [List.size_toArray, lenV]
    exact hl
  | none =>
    let H : Hp := fun b => if b = a then some (.frz { cls := .type "list", data := .seq vs.toArray } (.lst (ns.map V.int))) else none
    have hO : Only H := fun b => by
      by_cases h : b = a
      · exact .inr ⟨_, _, if_pos h⟩
      · exact .inl (if_neg h)
    refine lawG_core KX hns hb hbb hlim hg ha hr F hbind H hO (hsp _ hO (.inl (.inr ⟨_, if_pos rfl⟩))) (fun b u z => ?_) (fun b z => ?_) fun _ => hk
    · by_cases h : b = a
      · have z' := (if_pos h).symm.trans z
        cases z'
        subst h
        exact ⟨ha, by rw [List.length_map]; exact hl, vs, _, rv, ha⟩
      · have z' := (if_neg h).symm.trans z
        cases z'
    · by_cases h : b = a
      · exact h
      · exact absurd (if_neg h) z
end
theorem walkG {l : PySem.W.OpenLaw} {n k : Nat} {q : Program} {loose : List Str} {XP : (Str → Option Value) → Heap → Prop} {YP : World → Heap → Prop} {d : DefRec} {K : Params → PySem.W.Frag} {sp : PySem.W.Frag → Sp} {x : Str}
    (hn : l.most = some n) (hn2 : n ≤ sizeLine) (hdf : d.params.defaults = []) (hr : Room k callerA) (hY : ∀ (w : World) (h : Heap), YP w h → (K w.params).In h)
    (F : ∀ (w : World) (mg : Str → Option Value) (fa : Addr) (h : Heap), (K w.params).In h → h.Ns mainGlobals mg → mg d.name = some (.ref fa) → ∃ fd : FuncData, (∀ (s : Shared) (u : Value), BindsTo s fd ⟨[u], []⟩ [(x, u)]) ∧
      ∀ base : Heap, (K w.params).In base → base.Ns mainGlobals mg → FnG l.prog w (K w.params) mg base k fa fd [x] (sp (K w.params)))
    (hsp : ∀ (K : PySem.W.Frag) (H : Hp) (a : Addr) (ns : List Int), ns.length ≤ n → Only H → SqL K H a (ns.map V.int) → sp K [.ref a] H (fun v _ => v = .bl true) fun _ _ _ => False) :
    PySem.W.WalkO q loose XP YP l.row.toRowW d [] (fun f vs => PySem.call f vs) := by
  refine Att.attach_call hn hdf fun w s₀ s₁ mg mb fa o pm cd doc a vs ns G Y ho hd hcd hmg hobj hints hlen hg => ?_
  obtain ⟨fd, hb, hF⟩ := F w mg fa _ (hY w _ Y) G.T.g hmg
  exact lawG_call (hY w _ Y) G.T.g G.T.b G.T.builtins G.T.nolimit hg hobj hints (Nat.le_trans hlen hn2) hr hF hb fun H hO hS => hsp _ H a ns hlen hO hS
end DC
namespace DC
open PySem PySem.Spec PySem.Calls PySem.W PyProof.Rows L2
/-! sorted(a tuple of data) -/
section
variable {prog : Program} {w : World} {A : Around} {E : Value → Shared → Prop} {s : Shared} {a : Addr} {us : List Value}
theorem collect_tup {Q : List Value → Shared → Prop} (ht : s.heap.IsTuple a us.toArray) (hz : us.length ≤ sizeLine)
    (q : Q us { s with heap := (s.heap.push (seqObj "list" #[] 0)).update s.heap.objs.size (Obj.mapSeq (· ++ us.toArray)) }) : wpAny (model prog w) A (collect (.ref a)) Q E s := by
  obtain ⟨ob, e1, e2, k, e3⟩ := ht
  let hp := s.heap.push (seqObj "list" #[] 0)
  have old : hp.get? a = some ob := Heap.get?_push_of_some _ e1
  have new : hp.get? s.heap.objs.size = some (seqObj "list" #[] 0) := Heap.get?_push_size _ rfl
  unfold collect
  refine wpAny_bind (wpAny_runValue (codeAny_builtin (id entry_proto_collect') ?_))
  show wpAny (model prog w) _ (newList [] >>= fun l => again (.builtin "list.__iadd__" ⟨[l, .ref a], []⟩)) _ _ s
  refine wpAny_bind (wpAny_newList (wpAny_pure ⟨Code.quiet_builtin _ (by decide +kernel), codeAny_builtin (id entry_list_iadd') ?_⟩))
  show wpAny (model prog w) _ (Builtin.List.listExtendWith (.ref s.heap.objs.size) (.ref a) (.ref s.heap.objs.size)) _ _ { s with heap := hp }
  unfold Builtin.List.listExtendWith
  refine wpAny_bind (wpAny_typeOf (T := "tuple") ⟨ob, old, e2⟩ ?_)
  have tt : (Value.type "tuple" == Value.type "tuple") = true := by rfl
  rw [if_pos (by rw [tt]; simp)]
  refine wpAny_bind (listItems_at old e3 (wpAny_bind (listItems_at (xs := #[]) (n := 0) new rfl ?_)))
  rw [if_neg (by simp)]
  refine wpAny_bind (listUpdate_at (xs := #[]) (n := 0) new rfl (wpAny_pure ?_) (Nat.zero_le _) (by show (#[] ++ us.toArray).size ≤ sizeLine + 1; simp only [Array.size_append, List.size_toArray, List.length_nil]; omega))
  refine wpAny_bind (wpAny_load (get?_update_seq new _) ?_)
  show wpAny _ _ (pure ((#[] : Array Value) ++ us.toArray).toList) Q E _
  have e : ((#[] : Array Value) ++ us.toArray).toList = us := by simp
  rw [e]
  exact wpAny_pure q
theorem sorted_tup {κ : PyProof.Rows.KeyKind} {Q : Value → Shared → Prop} (ht : s.heap.IsTuple a us.toArray) (S : SortsAt prog w A.in1.in1 { s with heap := sortingHeap (copyHeap s.heap us) (s.heap.objs.size + 1) us } κ us) (hz : us.length ≤ sizeLine)
    (q : Q (.ref (s.heap.objs.size + 1)) { s with heap := sortedAll s.heap us (sortVals κ false us us).toArray }) : wpAny (model prog w) A (call (.builtin "sorted") [.ref a]) Q E s := by
  refine call_function_entry_kw kind_sorted plain_sorted entry_sorted (args_sorted1 _) ?_
  unfold Builtin.«sorted»
  refine wpAny_bind (m := checkCount "sorted" 1 1 _) (wpAny_pure (wpAny_bind (collect_tup ht hz (wpAny_bind (wpAny_newList ?_ hz)))))
  have e0 : ((s.heap.push (seqObj "list" #[] 0)).update s.heap.objs.size (Obj.mapSeq (· ++ us.toArray))).objs.size = s.heap.objs.size + 1 := (Heap.size_update _ _ _).trans (size_push' _ _)
  show wpAny _ _ _ _ _ { s with heap := copyHeap s.heap us }
  rw [e0]
  refine wpAny_bind (wpAny_holding (wpAny_call_entry_kw slot_list_sort ⟨_, copyHeap_at s.heap us, rfl⟩ entry_list_sort ?_ (args_list_sort _)))
  show wpAny (model prog w) A.in1.in1 (Builtin.«list.sort» ⟨[.ref (s.heap.objs.size + 1)], []⟩) _ _ _
  refine list_sort_vals (s := { s with heap := copyHeap s.heap us }) (copyHeap_at s.heap us) S hz ?_
  exact ⟨_, rfl, wpAny_pure ⟨_, rfl, q⟩⟩
end
section
variable {X : Cx}
def rSortedDT (K : PySem.W.Frag) : List V → Hp → VK → Prop := fun vs H Q => ∃ (a : Addr) (xs : List V) (ds : List PyData), vs = [V.ref a] ∧ SqT K H a xs ∧ DpAll K H xs ds ∧
  PySem.W.AllAlike ds ∧ PySem.W.Sortable ds ∧ (∀ d ∈ ds, d.depth ≤ 50) ∧ ∀ ys p, DpAll K H ys (srtD ds) → H p = none → Q (.ref p) (upd H p (.lst ys))
theorem call_sortedDT (hu : X.A.units + 64 < cLine) : CallR X (.builtin "sorted") (rSortedDT X.K) := by
  intro pins s σ H vs us Q I r h
  obtain ⟨a, xs, ds, rfl, hs, hd, hal, hso, hdep, q⟩ := h
  obtain ⟨its, rv, hl, hz⟩ := I.tuple hs
  have hl : s.heap.IsTuple a its.toArray := hl
  rw [Vals.ref1 r]
  have hlen := DpAll.len hd
  have hvl := rv.length
  have em : (xs.zip ds).map (·.2) = ds := zip_snd hlen
  have er := each_reads I rv hd
  have er' : EachIs (fun v (b : V × PyData) => ∃ as, Reads (sortingHeap (copyHeap s.heap its) (s.heap.objs.size + 1) its) v b.2 as) its (xs.zip ds) := er.mono fun _ _ ⟨as, r⟩ => ⟨as, PyProof.Rows.Reads.keeps (fun _ _ => sorting_copy_old) r⟩
  have em2 : (xs.zip ds).map Prod.snd = ds := em
  refine sorted_tup hl (SortsAt.data (ds := (xs.zip ds).map Prod.snd) (s := { s with heap := sortingHeap (copyHeap s.heap its) (s.heap.objs.size + 1) its })
    (each_map (R := fun v d => ∃ as, Reads (sortingHeap (copyHeap s.heap its) (s.heap.objs.size + 1) its) v d as) Prod.snd er') (by rw [em2]; exact hal) (by rw [em2]; exact hso) (bound_map (enc := Prod.snd) fun b hb => ?_)) (by omega) ?_
  · have hm : b.2 ∈ ds := by rw [← em2]; exact List.mem_map.mpr ⟨b, hb, rfl⟩
    have := hdep _ hm
    show X.A.units + 2 + b.2.depth < cLine
    omega
  · have he := sortVals_data (R := fun v (b : V × PyData) => RelV b.1 v) (enc := Prod.snd) false (each_rel rv hd) er' (by rw [em2]; exact hal)
    generalize sortVals (dataKind (sortingHeap (copyHeap s.heap its) (s.heap.objs.size + 1) its) ((xs.zip ds).map Prod.snd)) false its its = out at *
    obtain ⟨ep, he'⟩ := PyProof.Rows.sortedAll_at s.heap its out.toArray
    have hp : (((xs.zip ds).mergeSort (PySem.W.dataLe false Prod.snd))).Perm (xs.zip ds) := List.mergeSort_perm _ _
    have hv := vals_each he
    have hdp : DpAll X.K H (((xs.zip ds).mergeSort (PySem.W.dataLe false Prod.snd)).map (·.1)) (srtD ds) := by
      have e2 : srtD ds = ((xs.zip ds).mergeSort (PySem.W.dataLe false Prod.snd)).map (·.2) := by
        have e3 := List.map_mergeSort (f := fun x : V × PyData => x.2) (r := PySem.W.dataLe false Prod.snd) (s := PySem.W.dataLe false id) (l := xs.zip ds) (fun a _ b _ => rfl)
        rw [em] at e3
        exact e3.symm
      rw [e2]
      exact DpAll.of_pairs fun b hb => DpAll.zip_dp hd b (hp.mem_iff.mp hb)
    have hlen2 : (((xs.zip ds).mergeSort (PySem.W.dataLe false Prod.snd)).map (·.1)).length ≤ sizeLine := by
      rw [List.length_map, hp.length_eq, List.length_zip]; omega
    exact ⟨.ref _, upd H (s.heap.objs.size + 1) (.lst (((xs.zip ds).mergeSort (PySem.W.dataLe false Prod.snd)).map (·.1))), I.laid (t' := s.toks) (fun _ _ => PyProof.Rows.sortedAll_old) (Nat.le_succ _)
      ⟨hlen2, out, ep, hv, he'⟩, rfl, q _ _ hdp (I.hok.fresh (Nat.le_succ _))⟩
end
end DC
namespace DC
open PySem PySem.Spec PyProof.Rows L2
/-! the text by places -/
def topS (i : Nat) : Stmt := PySem.Challenge.pw_doublecut_k11_whole_least_numbers.main.body.getD i (.Pass ⟨0, 0, 0, 0⟩)
abbrev s_is_whole : Stmt := topS 6
theorem sc_is_whole : FnScope ["value", "least", "most"] ["value", "least", "most"] (defScope s_is_whole) := ⟨rfl, rfl, rfl, by decide +kernel, rfl, by decide +kernel, by decide +kernel⟩
abbrev s_is_joint : Stmt := topS 7
theorem sc_is_joint : FnScope ["links", "value", "end"] ["links", "value"] (defScope s_is_joint) := ⟨rfl, rfl, rfl, by decide +kernel, rfl, by decide +kernel, by decide +kernel⟩
abbrev s_wrong_place : Stmt := topS 8
theorem sc_wrong_place : FnScope ["value", "used", "last", "number", "joint"] ["value"] (defScope s_wrong_place) := ⟨rfl, rfl, rfl, by decide +kernel, rfl, by decide +kernel, by decide +kernel⟩
abbrev s_need_lay : Stmt := topS 9
theorem sc_need_lay : FnScope ["lay", "place"] ["lay"] (defScope s_need_lay) := ⟨rfl, rfl, rfl, by decide +kernel, rfl, by decide +kernel, by decide +kernel⟩
abbrev s_need_two : Stmt := topS 10
theorem sc_need_two : FnScope ["one", "other"] ["one", "other"] (defScope s_need_two) := ⟨rfl, rfl, rfl, by decide +kernel, rfl, by decide +kernel, by decide +kernel⟩
abbrev s_mates_in : Stmt := topS 11
theorem sc_mates_in : FnScope ["lay", "found", "one", "other"] ["lay"] (defScope s_mates_in) := ⟨rfl, rfl, rfl, by decide +kernel, rfl, by decide +kernel, by decide +kernel⟩
abbrev s_row_from : Stmt := topS 17
theorem sc_row_from : FnScope ["mates", "begin", "turn", "found", "here"] ["mates", "begin", "turn"] (defScope s_row_from) := ⟨rfl, rfl, rfl, by decide +kernel, rfl, by decide +kernel, by decide +kernel⟩
abbrev s_rows_in : Stmt := topS 18
theorem sc_rows_in : FnScope ["one", "other", "mates", "taken", "found", "end", "lasts", "row", "here"] ["one", "other"] (defScope s_rows_in) := ⟨rfl, rfl, rfl, by decide +kernel, rfl, by decide +kernel, by decide +kernel⟩
abbrev s_kind_of : Stmt := topS 19
theorem sc_kind_of : FnScope ["one", "other", "row", "mates"] ["one", "other", "row"] (defScope s_kind_of) := ⟨rfl, rfl, rfl, by decide +kernel, rfl, by decide +kernel, by decide +kernel⟩
abbrev s_pieces_in : Stmt := topS 20
theorem sc_pieces_in : FnScope ["one", "other", "row"] ["one", "other"] (defScope s_pieces_in) := ⟨rfl, rfl, rfl, by decide +kernel, rfl, by decide +kernel, by decide +kernel⟩
abbrev s_cost_of : Stmt := topS 21
theorem sc_cost_of : FnScope ["piece"] ["piece"] (defScope s_cost_of) := ⟨rfl, rfl, rfl, by decide +kernel, rfl, by decide +kernel, by decide +kernel⟩
abbrev s_cost_in : Stmt := topS 22
theorem sc_cost_in : FnScope ["one", "other", "piece"] ["one", "other"] (defScope s_cost_in) := ⟨rfl, rfl, rfl, by decide +kernel, rfl, by decide +kernel, by decide +kernel⟩
abbrev s_least_steps : Stmt := topS 24
theorem sc_least_steps : FnScope ["one", "other"] ["one", "other"] (defScope s_least_steps) := ⟨rfl, rfl, rfl, by decide +kernel, rfl, by decide +kernel, by decide +kernel⟩
abbrev s_is_between : Stmt := topS 25
theorem sc_is_between : FnScope ["one", "third", "other", "lay"] ["one", "third", "other"] (defScope s_is_between) := ⟨rfl, rfl, rfl, by decide +kernel, rfl, by decide +kernel, by decide +kernel⟩
abbrev s__law_begun : Stmt := topS 27
theorem sc__law_begun : FnScope ["_law_script", "_law_mixed", "_law_cell", "_law_great"] ["_law_script"] (defScope s__law_begun) := ⟨rfl, rfl, rfl, by decide +kernel, rfl, by decide +kernel, by decide +kernel⟩
abbrev s__law_draw : Stmt := topS 28
theorem sc__law_draw : FnScope ["_law_m", "_law_limit", "_law_cell"] ["_law_m", "_law_limit"] (defScope s__law_draw) := ⟨rfl, rfl, rfl, by decide +kernel, rfl, by decide +kernel, by decide +kernel⟩
abbrev s__law_of : Stmt := topS 29
theorem sc__law_of : FnScope ["_law_m", "_law_some"] ["_law_m", "_law_some"] (defScope s__law_of) := ⟨rfl, rfl, rfl, by decide +kernel, rfl, by decide +kernel, by decide +kernel⟩
abbrev s__law_like : Stmt := topS 30
theorem sc__law_like : FnScope ["_law_told", "_law_due"] ["_law_told", "_law_due"] (defScope s__law_like) := ⟨rfl, rfl, rfl, by decide +kernel, rfl, by decide +kernel, by decide +kernel⟩
abbrev s__law_lay : Stmt := topS 31
theorem sc__law_lay : FnScope ["_law_m", "_law_links", "_law_left", "_law_joints_so", "_law_share", "_law_turn", "_law_end", "_law_mate", "_law_other"] ["_law_m", "_law_links"] (defScope s__law_lay) := ⟨rfl, rfl, rfl, by decide +kernel, rfl, by decide +kernel, by decide +kernel⟩
abbrev s__law_mates : Stmt := topS 32
theorem sc__law_mates : FnScope ["_law_lay_here", "_law_found", "_law_near", "_law_far_here"] ["_law_lay_here"] (defScope s__law_mates) := ⟨rfl, rfl, rfl, by decide +kernel, rfl, by decide +kernel, by decide +kernel⟩
abbrev s__law_heaps : Stmt := topS 33
theorem sc__law_heaps : FnScope ["_law_one", "_law_other", "_law_mates_here", "_law_left", "_law_found", "_law_turn", "_law_heap", "_law_at", "_law_walk", "_law_known", "_law_end"] ["_law_one", "_law_other"] (defScope s__law_heaps) := ⟨rfl, rfl, rfl, by decide +kernel, rfl, by decide +kernel, by decide +kernel⟩
abbrev s__law_kind : Stmt := topS 34
theorem sc__law_kind : FnScope ["_law_one", "_law_other", "_law_heap", "_law_near", "_law_far_here", "_law_lacks", "_law_end"] ["_law_one", "_law_other", "_law_heap"] (defScope s__law_kind) := ⟨rfl, rfl, rfl, by decide +kernel, rfl, by decide +kernel, by decide +kernel⟩
abbrev s__law_pieces : Stmt := topS 35
theorem sc__law_pieces : FnScope ["_law_one", "_law_other", "_law_heap"] ["_law_one", "_law_other"] (defScope s__law_pieces) := ⟨rfl, rfl, rfl, by decide +kernel, rfl, by decide +kernel, by decide +kernel⟩
abbrev s__law_cost : Stmt := topS 36
theorem sc__law_cost : FnScope ["_law_one", "_law_other", "_law_some", "_law_piece"] ["_law_one", "_law_other"] (defScope s__law_cost) := ⟨rfl, rfl, rfl, by decide +kernel, rfl, by decide +kernel, by decide +kernel⟩
abbrev s__law_steps : Stmt := topS 37
theorem sc__law_steps : FnScope ["_law_lay_here", "_law_known", "_law_end", "_law_loose", "_law_found", "_law_k", "_law_joint", "_law_near", "_law_other", "_law_swap", "_law_made", "_law_far_here"] ["_law_lay_here"] (defScope s__law_steps) := ⟨rfl, rfl, rfl, by decide +kernel, rfl, by decide +kernel, by decide +kernel⟩
abbrev s__law_after : Stmt := topS 38
theorem sc__law_after : FnScope ["_law_lay_here", "_law_step_so", "_law_stay", "_law_joint"] ["_law_lay_here", "_law_step_so"] (defScope s__law_after) := ⟨rfl, rfl, rfl, by decide +kernel, rfl, by decide +kernel, by decide +kernel⟩
abbrev s__law_all : Stmt := topS 39
theorem sc__law_all : FnScope ["_law_links", "_law_found", "_law_end", "_law_longer", "_law_joints_so", "_law_taken", "_law_mate", "_law_joint"] ["_law_links"] (defScope s__law_all) := ⟨rfl, rfl, rfl, by decide +kernel, rfl, by decide +kernel, by decide +kernel⟩
abbrev s__law_far : Stmt := topS 40
theorem sc__law_far : FnScope ["_law_one", "_law_found", "_law_last", "_law_lap", "_law_fresh", "_law_lay_here", "_law_step_so", "_law_there"] ["_law_one"] (defScope s__law_far) := ⟨rfl, rfl, rfl, by decide +kernel, rfl, by decide +kernel, by decide +kernel⟩
abbrev s__law_small_right : Stmt := topS 41
theorem sc__law_small_right : FnScope ["_law_m", "_law_links", "_law_one", "_law_every", "_law_found", "_law_kept_so", "_law_some", "_law_other", "_law_told", "_law_third", "_law_beyond", "_law_turn"] ["_law_m", "_law_links"] (defScope s__law_small_right) := ⟨rfl, rfl, rfl, by decide +kernel, rfl, by decide +kernel, by decide +kernel⟩
abbrev s__law_great_right : Stmt := topS 42
theorem sc__law_great_right : FnScope ["_law_m", "_law_links", "_law_one", "_law_other", "_law_third", "_law_sums", "_law_told"] ["_law_m"] (defScope s__law_great_right) := ⟨rfl, rfl, rfl, by decide +kernel, rfl, by decide +kernel, by decide +kernel⟩
abbrev s_law : Stmt := topS 43
theorem sc_law : FnScope ["_law_script", "_law_m", "_law_turn", "_law_ring", "_law_alone", "_law_told", "_law_line"] ["_law_script"] (defScope s_law) := ⟨rfl, rfl, rfl, by decide +kernel, rfl, by decide +kernel, by decide +kernel⟩
/-- what the module's names hold: built-ins that are not covered, constants -/
structure Tx (mg : Str → Option Value) : Prop where
  isinstance : mg "isinstance" = none
  int : mg "int" = none
  bool : mg "bool" = none
  tuple : mg "tuple" = none
  len : mg "len" = none
  all : mg "all" = none
  enumerate : mg "enumerate" = none
  range : mg "range" = none
  list : mg "list" = none
  sorted : mg "sorted" = none
  sum : mg "sum" = none
  repr : mg "repr" = none
  min : mg "min" = none
  max : mg "max" = none
  MOST_LINKS : ∃ t, mg "MOST_LINKS" = some (.int 12 t)
  RING : ∃ t, mg "RING" = some (.str "ring" t)
  ODD : ∃ t, mg "ODD" = some (.str "odd" t)
  OPEN : ∃ t, mg "OPEN" = some (.str "open" t)
  SHUT : ∃ t, mg "SHUT" = some (.str "shut" t)
section
variable {X : Cx}
theorem pe_gs {x y : Str} {pos : Pos} (h : ∃ t, X.mg x = some (.str y t)) (hg : Gl X x) (hd : (x == ("__debug__" : Str)) = false := by decide) : PE X (.Name x pos) (tC (.str y)) := by
  obtain ⟨t, h⟩ := h
  exact pe_glob hg h ⟨t, rfl⟩ hd
theorem pe_gi {x : Str} {i : Int} {pos : Pos} (h : ∃ t, X.mg x = some (.int i t)) (hg : Gl X x) (hd : (x == ("__debug__" : Str)) = false := by decide) : PE X (.Name x pos) (tC (.int i)) := by
  obtain ⟨t, h⟩ := h
  exact pe_glob hg h ⟨t, rfl⟩ hd
end
/-! small facts -/
theorem yes_then {te : TE} {σ : L2.St} {H : Hp} {k : VK} {C : Hp → Prop} (h : te σ H k) : tYes σ H (fun b H3 => if b = true then te σ H3 k else C H3) := by
  show if true = true then te σ H k else C H
  exact iteT h
theorem nott {k : Bool} {A B : Prop} (e : k = true) (h : B) : if (!k) = true then A else B := by
  rw [e]
  exact iteF h
theorem nots {o : Option V} {A B : Prop} (e : o = none) (h : B) : if o.isSome = true then A else B := by
  rw [e]
  exact iteF h
theorem itef {k : Bool} {A B : Prop} (e : k = false) (h : B) : if k = true then A else B := by
  rw [e]
  exact iteF h
theorem itet {k : Bool} {A B : Prop} (e : k = true) (h : A) : if k = true then A else B := by
  rw [e]
  exact iteT h
theorem merge_some (k : Key) : ∀ (more kvs : List (Key × V)), (valV (mergeK kvs more) k).isSome = ((valV kvs k).isSome || more.any fun p => decide (p.1 = k))
  | [], kvs => by simp [mergeK]
  | p :: more, kvs => by
    have ih := merge_some k more (putK kvs p.1 p.2)
    show (valV (mergeK (putK kvs p.1 p.2) more) k).isSome = _
    rw [ih, valV_put, List.any_cons]
    by_cases e : k = p.1
    · rw [if_pos e, decide_eq_true e.symm]
      simp
    · rw [if_neg e, decide_eq_false (fun z => e z.symm)]
      simp
/-- over enumerate of a tuple -/
theorem for_enumT {K : PySem.W.Frag} {a : Addr} {xs : List V} {g : TG} {tb : TS} {D : Ends} {σ : L2.St} {H : Hp} (Pv : Nat → L2.St → Hp → Prop) (h0 : Pv 0 σ H) (hl : ∀ i σ H, Pv i σ H → SqT K H a xs)
    (hs : ∀ i x σ H, xs[i]? = some x → Pv i σ H → ∀ T, H T = none → g (.ref T) σ (upd H T (.tup [.int (i : Nat), x])) fun σ2 H2 => tb { D with nx := Pv (i + 1), ct := Pv (i + 1), bk := D.nx } σ2 H2)
    (hd : ∀ σ H, Pv xs.length σ H → D.nx σ H) :
    ∃ W : Nat → Nat → L2.St → Hp → Prop, (∃ m, W 0 m σ H) ∧ ∀ i m σ H, W i m σ H → ((Itet K a).stop i H ∧ D.nx σ H) ∨
      ((Itet K a).go i H ∧ ∃ N : L2.St → Hp → Prop, (∀ σ' H', N σ' H' → ∃ m', m' < m ∧ W (i + 1) m' σ' H') ∧ ∀ x H', (Itet K a).yld i H x H' → g x σ H' fun σ2 H2 => tb { D with nx := N, ct := N, bk := D.nx } σ2 H2) := by
  refine ⟨fun i m σ H => m = xs.length - i ∧ i ≤ xs.length ∧ Pv i σ H, ⟨xs.length, by simp, Nat.zero_le _, h0⟩, ?_⟩
  rintro i m σ H ⟨rfl, hi, p⟩
  have q := hl i σ H p
  by_cases hlt : i < xs.length
  · refine .inr ⟨⟨xs, xs[i], q, by simp [hlt]⟩, Pv (i + 1), fun σ' H' p' => ⟨xs.length - (i + 1), by omega, rfl, hlt, p'⟩, fun x H' y => ?_⟩
    obtain ⟨T, z, rfl, hT, rfl, hz⟩ := y
    exact hs i z σ H (hz xs q) p T hT
  · obtain rfl : i = xs.length := by omega
    exact .inl ⟨⟨xs, q, Nat.le_refl _⟩, hd σ H p⟩
theorem bl_is {Q : VK} {H : Hp} {b c : Bool} (e : b = c) (q : Q (.bl c) H) : Q (.bl b) H := by
  rw [e]
  exact q
section
variable {K : PySem.W.Frag} {H H' : Hp} {α : Type}
theorem at0 {x : α} {xs : List α} : atI (x :: xs) 0 = some x := atI_nat (j := 0) rfl
theorem at1 {x y : α} {xs : List α} : atI (x :: y :: xs) 1 = some y := atI_nat (j := 1) rfl
theorem at2 {x y z : α} {xs : List α} : atI (x :: y :: z :: xs) 2 = some z := atI_nat (j := 2) rfl
theorem lay_open {v : V} {L : Lay} (h : Dp K H v (eLay L)) : ∃ a b xs, v = .ref a ∧ SqT K H a [.int (L.1 : Int), .ref b] ∧ SqT K H b xs ∧ DpAll K H xs (L.2.map eJ) := by
  have h' : Dp K H v (.tuple [.int (L.1 : Int), eJs L.2]) := h
  cases h' with
  | @tup a xs _ hs ha =>
    cases ha with
    | cons h1 h2 =>
      cases h1
      cases h2 with
      | cons h3 h4 =>
        cases h4
        have h5 : Dp K H _ (.tuple (L.2.map eJ)) := h3
        cases h5 with
        | @tup b ys _ hb hy => exact ⟨a, b, ys, rfl, hs, hb, hy⟩
theorem joint_open {v : V} {j : Jt} (h : Dp K H v (eJ j)) : ∃ a, v = .ref a ∧ SqT K H a [.int (j.1 : Int), .int (j.2 : Int)] := by
  have h' : Dp K H v (.tuple [.int (j.1 : Int), .int (j.2 : Int)]) := h
  cases h' with
  | @tup a xs _ hs ha =>
    cases ha with
    | cons h1 h2 =>
      cases h1
      cases h2 with
      | cons h3 h4 =>
        cases h4
        cases h3
        exact ⟨a, rfl, hs⟩
theorem joint_mk {a : Addr} {j : Jt} (h : SqT K H a [.int (j.1 : Int), .int (j.2 : Int)]) : Dp K H (.ref a) (eJ j) := .tup h (.cons (.int _) (.cons (.int _) .nil))
theorem lay_mk {a b : Addr} {xs : List V} {L : Lay} (h1 : SqT K H a [.int (L.1 : Int), .ref b]) (h2 : SqT K H b xs) (h3 : DpAll K H xs (L.2.map eJ)) : Dp K H (.ref a) (eLay L) :=
  .tup h1 (.cons (.int _) (.cons (.tup h2 h3) .nil))
theorem js_at {xs : List V} {J : List Jt} {i : Nat} {v : V} (h : DpAll K H xs (J.map eJ)) (e : xs[i]? = some v) : ∃ j t, J[i]? = some j ∧ v = .ref t ∧ SqT K H t [.int (j.1 : Int), .int (j.2 : Int)] := by
  obtain ⟨d, h1, h2⟩ := DpAll.at h e
  rw [List.getElem?_map] at h1
  cases hj : J[i]? with
  | none => rw [hj] at h1; cases h1
  | some j =>
    rw [hj] at h1
    cases h1
    obtain ⟨t, rfl, ht⟩ := joint_open h2
    exact ⟨j, t, rfl, rfl, ht⟩
theorem ty_tup {a : Addr} {xs : List V} (h : SqT K H a xs) : TyX K H (.ref a) (.type "tuple") := by
  rcases h with (h | ⟨o, h⟩) | ⟨o, its, n, h, hc, _⟩
  · exact .base (.tup h)
  · exact .fTuple h
  · exact .kTuple h hc
theorem kit1 : PySem.W.kitOne K (.type "tuple") (.type "tuple") = some true := kit_ty (by decide +kernel)
theorem kit2 : PySem.W.kitOne K (.type "int") (.type "int") = some true := kit_ty (by decide +kernel)
theorem kit3 : PySem.W.kitOne K (.type "int") (.type "bool") = some false := kit_ty (by decide +kernel)
theorem _root_.L2.Same.sq {a : Addr} {xs : List V} (s : Same H H') (h : SqT K H a xs) : SqT K H' a xs := (s.seqs).t h
theorem _root_.L2.Same.dp {v : V} {d : PyData} (s : Same H H') (h : Dp K H v d) : Dp K H' v d := Dp.seqs (s.seqs) h
theorem _root_.L2.Same.dps {vs : List V} {ds : List PyData} (s : Same H H') (h : DpAll K H vs ds) : DpAll K H' vs ds := DpAll.seqs (s.seqs) h
theorem small_sz {n : Nat} (h : n ≤ 100000) : n ≤ sizeLine := by rw [sizeLine_eq]; omega
theorem small_lt {n : Nat} (h : n ≤ 100000) : n < sizeLine := by rw [sizeLine_eq]; omega
end
theorem js_len {N : Nat} {J : List Jt} (h : Dm.Good N J) : 2 * J.length ≤ N := by
  have h1 := Dm.length_le h.nd (N := N) fun x hx => by
    obtain ⟨j, hj, e⟩ := Dm.mem_ends.mp hx
    have := h.js j hj
    omega
  have h2 : ∀ J : List Jt, (Dm.ends J).length = 2 * J.length := by
    intro J
    induction J with
    | nil => rfl
    | cons j J ih =>
      obtain ⟨a, b⟩ := j
      rw [Dm.ends_cons]
      simp only [List.length_cons, ih]
      omega
  have := h2 J
  omega
theorem _root_.L2.Same.none {H H' : Hp} (s : Same H H') {D : Addr} (h : H' D = .none) : H D = .none := by
  cases e : H D with
  | none => rfl
  | some o => rw [s D o e] at h; cases h
theorem _root_.L2.Same.wr {H H' : Hp} (s : Same H H') {D : Addr} {o : HO} (h : H D = .none) : Same H (upd H' D o) := fun b u e => by rw [upd_ne (ne_of_none e h)]; exact s b u e
abbrev rLenK (K : PySem.W.Frag) : List V → Hp → VK → Prop := fun xs H Q => ∃ p ys, xs = [.ref p] ∧ (SqL K H p ys ∨ SqT K H p ys) ∧ Q (.int ys.length) H
abbrev rTupK (K : PySem.W.Frag) : List V → Hp → VK → Prop := fun xs H Q => ∃ p ys, xs = [.ref p] ∧ ((SqL K H p ys ∧ ∀ l, H l = none → Q (.ref l) (upd H l (.tup ys))) ∨ (SqT K H p ys ∧ Q (.ref p) H))
/-! data without lists: it stands as long as the tuples do -/
mutual
def nol : PyData → Bool
  | .list _ => false
  | .tuple ds => nols ds
  | .dict _ => false
  | _ => true
def nols : List PyData → Bool
  | [] => true
  | d :: ds => nol d && nols ds
end
def isTup : HO → Prop
  | .tup _ => True
  | .frz _ (.tup _) => True
  | _ => False
def Tps (H H' : Hp) : Prop := ∀ b o, H b = some o → isTup o → H' b = some o
section
variable {K : PySem.W.Frag} {H H' : Hp}
theorem _root_.L2.Same.tps (h : Same H H') : Tps H H' := fun b o e _ => h b o e
theorem Tps.trans {H1 : Hp} (a : Tps H H1) (b : Tps H1 H') : Tps H H' := fun c o e t => b c o (a c o e t) t
theorem tps_lst {D : Addr} {xs : List V} {o : HO} (h : H D = some (.lst xs)) : Tps H (upd H D o) := fun b u e t => by
  by_cases c : b = D
  · subst c; rw [h] at e; cases e; exact t.elim
  · rw [upd_ne c]; exact e
theorem tps_dk {D : Addr} {xs : List (Key × V)} {o : HO} (h : H D = some (.dK xs)) : Tps H (upd H D o) := fun b u e t => by
  by_cases c : b = D
  · subst c; rw [h] at e; cases e; exact t.elim
  · rw [upd_ne c]; exact e
theorem tps_ext {D : Addr} {f : Heap → Prop} {o : HO} (h : H D = some (.ext f)) : Tps H (upd H D o) := fun b u e t => by
  by_cases c : b = D
  · subst c; rw [h] at e; cases e; exact t.elim
  · rw [upd_ne c]; exact e
theorem Tps.t {a : Addr} {xs : List V} (s : Tps H H') (h : SqT K H a xs) : SqT K H' a xs := by
  rcases h with (h | ⟨o, h⟩) | h
  · exact .inl (.inl (s _ _ h trivial))
  · exact .inl (.inr ⟨o, s _ _ h trivial⟩)
  · exact .inr h
mutual
theorem Dp.tps (s : Tps H H') : ∀ {v : V} {d : PyData}, nol d = true → Dp K H v d → Dp K H' v d
  | _, _, _, .non => .non
  | _, _, _, .bl b => .bl b
  | _, _, _, .int i => .int i
  | _, _, _, .str x => .str x
  | _, _, n, .lst h t => by simp [nol] at n
  | _, _, n, .tup h t => .tup (s.t h) (DpAll.tps s (by simpa [nol] using n) t)
theorem DpAll.tps (s : Tps H H') : ∀ {vs : List V} {ds : List PyData}, nols ds = true → DpAll K H vs ds → DpAll K H' vs ds
  | _, _, _, .nil => .nil
  | _, _, n, .cons a t => by
    rw [nols, Bool.and_eq_true] at n
    exact .cons (Dp.tps s n.1 a) (DpAll.tps s n.2 t)
end
theorem nols_all : ∀ {ds : List PyData}, nols ds = true ↔ ∀ d ∈ ds, nol d = true
  | [] => by simp [nols]
  | d :: ds => by rw [nols, Bool.and_eq_true, nols_all]; simp
theorem nols_app {ds es : List PyData} (h1 : nols ds = true) (h2 : nols es = true) : nols (ds ++ es) = true := by
  rw [nols_all] at *
  intro d hd
  rcases List.mem_append.mp hd with h | h
  · exact h1 d h
  · exact h2 d h
theorem nol_j (j : Jt) : nol (eJ j) = true := by simp [eJ, nol, nols]
theorem nols_js (J : List Jt) : nols (J.map eJ) = true := nols_all.mpr fun d hd => by
  obtain ⟨j, _, rfl⟩ := List.mem_map.mp hd
  exact nol_j j
theorem nol_js (J : List Jt) : nol (eJs J) = true := by simp [eJs, nol, nols_js]
theorem nol_lay (L : Lay) : nol (eLay L) = true := by simp [eLay, nol, nols, nol_js]
/-- a list in the making -/
def Acc (K : PySem.W.Frag) (H0 : Hp) (D : Addr) (ds : List PyData) (H' : Hp) : Prop := Same H0 H' ∧ ∃ acc, H' D = some (.lst acc) ∧ DpAll K H' acc ds
theorem Acc.start {D : Addr} {H0 : Hp} (h : H0 D = none) : Acc K H0 D [] (upd H0 D (.lst [])) := ⟨same_new h, [], upd_same, .nil⟩
theorem Acc.start' {D : Addr} {H0 H1 : Hp} (s : Same H0 H1) (h : H1 D = none) : Acc K H0 D [] (upd H1 D (.lst [])) := ⟨s.trans (same_new h), [], upd_same, .nil⟩
theorem Acc.step {D : Addr} {H0 H4 : Hp} {ds : List PyData} {d : PyData} {y : V} (h : Acc K H0 D ds H') (hn : H0 D = none) (s : Same H' H4) (hy : Dp K H4 y d) (nl : nols ds = true) (nd : nol d = true) (hl : ds.length ≤ 100000) :
    ∃ acc, H4 D = some (.lst acc) ∧ acc.length < sizeLine ∧ Acc K H0 D (ds ++ [d]) (upd H4 D (.lst (acc ++ [y]))) := by
  obtain ⟨s0, acc, e, a⟩ := h
  have e4 := s _ _ e
  refine ⟨acc, e4, small_lt (by rw [DpAll.len a]; exact hl), (s0.trans s).wr hn, _, upd_same, ?_⟩
  exact DpAll.app (DpAll.tps (tps_lst e4) nl (s.dps a)) (.cons (Dp.tps (tps_lst e4) nd hy) .nil)
theorem Acc.keep {D : Addr} {H0 H4 : Hp} {ds : List PyData} (h : Acc K H0 D ds H') (s : Same H' H4) : Acc K H0 D ds H4 :=
  let ⟨s0, acc, e, a⟩ := h
  ⟨s0.trans s, acc, s _ _ e, s.dps a⟩
theorem dps_int : ∀ {vs : List V} {ns : List Int}, DpAll K H vs (ns.map PyData.int) → vs = ns.map V.int
  | _, [], .nil => rfl
  | _, n :: ns, .cons a t => by
    have e := dps_int t
    cases a
    rw [e]
    rfl
theorem int_dps : ∀ {ns : List Int}, DpAll K H (ns.map V.int) (ns.map PyData.int)
  | [] => .nil
  | n :: ns => .cons (.int n) int_dps
theorem nols_int (ns : List Int) : nols (ns.map PyData.int) = true := nols_all.mpr fun d hd => by
  obtain ⟨j, _, rfl⟩ := List.mem_map.mp hd
  rfl
end
end DC
namespace DC
open PySem PySem.Spec PyProof.Rows L2 Dm
section
variable {P : Program} {w : World} {K : PySem.W.Frag} {mg : Str → Option Value} {base : Heap} {f : Addr} {fd : FuncData}
def sp_is_whole : Sp := fun vs H Q _ => ∃ v a b : Int, vs = [.int v, .int a, .int b] ∧ Q (.bl (decide (a ≤ v ∧ v ≤ b))) H
abbrev C1 (P : Program) (w : World) (K : PySem.W.Frag) (mg : Str → Option Value) (base : Heap) : Prop := Cal P w K mg base 1 "is_whole" ["value", "least", "most"] sp_is_whole
theorem ok_is_whole (D : Df K mg "is_whole" s_is_whole ["value", "least", "most"] f fd) (T : Tx mg) : C1 P w K mg base := by
  refine D.cal (D.F.ok sc_is_whole (fun vs H Q E h => ?_) (fun cdv A outer s H vs Q E hr h => ?_))
  · obtain ⟨v, a, b, rfl, _⟩ := h
    rfl
  obtain ⟨v, a, b, rfl, q⟩ := h
  refine ⟨_, (pss_one (ps_ret (pe_and (pe_callB call_isi (by rfl) T.isinstance (by decide +kernel) (pa_cons (pv 0) (pa_cons (pe_bltn (v := .ty "int") (by rfl) T.int (by decide +kernel) rfl) pa_nil))) (pe_and (pe_not (pe_callB call_isi (by rfl) T.isinstance (by decide +kernel) (pa_cons (pv 0) (pa_cons (pe_bltn (v := .ty "bool") (by rfl) T.bool (by decide +kernel) rfl) pa_nil)))) (pe_one (pe_chain op_le op_le (pv 1) (pv 0) (pv 2))))))), ?_⟩
  refine ⟨_, rfl, _, _, _, _, _, rfl, .ty _, .base (.int _), kit2, true, rfl, iteT ?_⟩
  refine ⟨_, rfl, _, _, _, _, _, rfl, .ty _, .base (.int _), kit3, false, rfl, true, rfl, iteT ?_⟩
  refine ⟨_, rfl, _, rfl, _, _, rfl, rfl, _, rfl, ?_⟩
  by_cases c : a ≤ v
  · rw [if_pos (decide_eq_true c)]
    refine ⟨_, rfl, _, _, rfl, rfl, ?_⟩
    have e : decide (a ≤ v ∧ v ≤ b) = decide (v ≤ b) := by simp [c]
    rw [e] at q
    exact q
  · rw [if_neg (by simpa using c)]
    have e : decide (a ≤ v ∧ v ≤ b) = false := by simp [c]
    rw [e] at q
    exact q
theorem replb (n : Nat) : ((List.replicate n true).map V.bl) ++ [V.bl true] = (List.replicate (n + 1) true).map V.bl := by
  rw [List.replicate_succ', List.map_append]
  rfl
def sp_is_joint (K : PySem.W.Frag) : Sp := fun vs H Q _ => ∃ (n : Nat) (v : V) (j : Jt), vs = [.int (n : Int), v] ∧ Dp K H v (eJ j) ∧ j.1 < j.2 ∧ j.2 < 2 * n ∧ ∀ H', Same H H' → Q (.bl true) H'
abbrev C2 (P : Program) (w : World) (K : PySem.W.Frag) (mg : Str → Option Value) (base : Heap) : Prop := Cal P w K mg base 2 "is_joint" ["links", "value"] (sp_is_joint K)
theorem ok_is_joint (D : Df K mg "is_joint" s_is_joint ["links", "value"] f fd) (T : Tx mg) (C_is_whole : C1 P w K mg base) : C2 P w K mg base := by
  refine D.cal (D.F.ok sc_is_joint (fun vs H Q E h => ?_) (fun cdv A outer s H vs Q E hr h => ?_))
  · obtain ⟨n, v, j, rfl, _⟩ := h
    rfl
  obtain ⟨n, v, j, rfl, hd, h1, h2, q⟩ := h
  obtain ⟨a, rfl, hS⟩ := joint_open hd
  refine ⟨_, (pss_cons (ps_if (PW.pt (pw_or (pt_not (pt_val (pe_callB call_isi (by rfl) T.isinstance (by decide +kernel) (pa_cons (pv 1) (pa_cons (pe_bltn (v := .ty "tuple") (by rfl) T.tuple (by decide +kernel) rfl) pa_nil))))) (pw_or1 (pt_cmpR op_ne (pe_callB call_len_seq (by rfl) T.len (by decide +kernel) (pa_cons (pv 1) pa_nil)) pe_int (nomark _))))) (pss_one (ps_ret pe_bl)) pss_nil)
      (pss_one (ps_ret (pe_and (pe_callB (cr_all rfl) (by rfl) T.all (by decide +kernel) (pa_cons (pe_lc (own := [("end", 2)]) (g := gName 2) (tt := tYes) (by rfl) sc_is_joint.nd (pi_tup (pv 1)) (blkOk_by (N := ["links", "value", "end"]) (sc := defScope s_is_joint) (by decide +kernel)) (fun _ _ _ _ _ => (pg_name (i := 2) sc_is_joint.nd rfl (.inl rfl))) (fun _ _ _ _ _ => pts_nil) (fun _ _ _ _ _ => (pe_c C_is_whole hr (by rfl) (pa_cons (pv 2) (pa_cons pe_int (pa_cons (pe_op op_sub (pe_op op_mul pe_int (pv 0)) pe_int) pa_nil)))))) pa_nil)) (pe_one (pe_cmpR op_lt (pe_ix ix_tup (pv 1) pe_int (fun _ _ => rfl)) (pe_ix ix_tup (pv 1) pe_int (fun _ _ => rfl)) (nomark _))))))), ?_⟩
  refine ⟨_, rfl, _, _, _, _, _, rfl, .ty _, ty_tup hS, kit1, true, rfl, iteF ?_⟩
  refine ⟨_, rfl, a, _, rfl, .inr hS, rfl, _, rfl, iteNS rfl ?_⟩
  refine ⟨_, rfl, a, rfl, ⟨_, hS⟩, fun D hD => lc_tup (K := K) (a := a) (xs := [V.int (j.1 : Int), V.int (j.2 : Int)]) (fun i H' => Same H H' ∧ H' D = some (.lst ((List.replicate i true).map V.bl))) ⟨same_new hD, upd_same⟩ (fun i H' _ h => h.1.sq hS) ?_ ?_⟩
  · rintro i x H' hi ⟨sm, hl⟩
    obtain ⟨z, rfl, h0, h3⟩ : ∃ z : Int, x = .int z ∧ 0 ≤ z ∧ z ≤ 2 * (n : Int) - 1 := by
      match i, hi with
      | 0, hi => exact ⟨_, (Option.some.inj hi).symm, by omega, by omega⟩
      | 1, hi => exact ⟨_, (Option.some.inj hi).symm, by omega, by omega⟩
    have hi2 : i < 2 := (List.getElem?_eq_some_iff.mp hi).1
    refine ⟨rfl, yes_then ?_⟩
    refine ⟨_, rfl, _, rfl, _, _, rfl, rfl, .inl ⟨by decide, by decide⟩, _, _, rfl, rfl, _, _, _, rfl, ?_⟩
    rw [decide_eq_true (show 0 ≤ z ∧ z ≤ 2 * (n : Int) - 1 from ⟨h0, h3⟩)]
    refine ⟨_, hl, small_lt (by simp; omega), ?_, ?_⟩
    · exact fun b o e => by rw [upd_ne (ne_of_none e hD)]; exact sm b o e
    · rw [upd_same, replb]
  · rintro H' ⟨sm, hl⟩
    refine ⟨D, _, rfl, .inl (.inl hl), true, rfl, iteT ?_⟩
    refine ⟨_, rfl, a, _, _, _, rfl, rfl, sm.sq hS, at0, _, rfl, a, _, _, _, rfl, rfl, sm.sq hS, at1, _, _, rfl, rfl, ?_⟩
    exact bl_is (Q := Q) (decide_eq_true (by omega)) (q H' sm)
/-- a lay of one to twelve links -/
structure LayOk (L : Lay) : Prop where
  lo : 1 ≤ L.1
  hi : L.1 ≤ 12
  ok : Ok (2 * L.1) L.2
def lastT (J : List Jt) : Nat → List Int
  | 0 => []
  | i + 1 => match J[i]? with
    | some j => [(j.1 : Int), (j.2 : Int)]
    | none => []
theorem last_lt {N : Nat} {J : List Jt} (h : Ok N J) {i : Nat} {j : Jt} (e : J[i]? = some j) : HT.lexLt (lastT J i) [(j.1 : Int), (j.2 : Int)] = true := by
  cases i with
  | zero => rfl
  | succ i =>
    have hi : i + 1 < J.length := (List.getElem?_eq_some_iff.mp e).1
    have e2 : J[i]? = some J[i] := List.getElem?_eq_getElem (by omega)
    have e3 : J[i + 1] = j := (List.getElem?_eq_some_iff.mp e).2
    have lt : J[i].1 < J[i + 1].1 := List.pairwise_iff_getElem.mp h.so i (i + 1) (by omega) hi (by omega)
    rw [e3] at lt
    have n1 : ¬ ((J[i].1 : Nat) : Int) = (j.1 : Int) := by omega
    simp only [lastT, e2, HT.lexLt]
    rw [if_neg n1]
    exact decide_eq_true (by omega)
theorem ends_take {N : Nat} {J : List Jt} (h : Good N J) {i : Nat} {j : Jt} (e : J[i]? = some j) : j.1 ∉ ends (J.take i) ∧ j.2 ∉ ends (J.take i) := by
  have hi : i < J.length := (List.getElem?_eq_some_iff.mp e).1
  have e3 : J[i] = j := (List.getElem?_eq_some_iff.mp e).2
  have sp : J = J.take i ++ j :: J.drop (i + 1) := by
    have := List.take_append_drop i J
    rw [List.drop_eq_getElem_cons hi, e3] at this
    exact this.symm
  have nd := h.nd
  rw [sp] at nd
  have e4 : ends (J.take i ++ j :: J.drop (i + 1)) = ends (J.take i) ++ (j.1 :: j.2 :: ends (J.drop (i + 1))) := by simp [ends]
  rw [e4, List.nodup_append] at nd
  exact ⟨fun z => nd.2.2 _ z _ List.mem_cons_self rfl, fun z => nd.2.2 _ z _ (List.mem_cons_of_mem _ List.mem_cons_self) rfl⟩
theorem ends_take_succ {J : List Jt} {i : Nat} {j : Jt} (e : J[i]? = some j) : ends (J.take (i + 1)) = ends (J.take i) ++ [j.1, j.2] := by
  rw [List.take_add_one, e]
  simp [ends]
theorem two_keys {a b : Key} {u v : V} (p : Key × V) (h : p ∈ (mergeK [] [(a, u), (b, v)] : List (Key × V))) : p.1 = a ∨ p.1 = b := by
  have h1 : (valV (mergeK [] [(a, u), (b, v)] : List (Key × V)) p.1).isSome = true := by
    simp only [valV, Option.isSome_map, List.find?_isSome]
    exact ⟨p, h, by simp⟩
  rw [merge_some, valV_nil] at h1
  simp at h1
  rcases h1 with e | e
  · exact .inl e.symm
  · exact .inr e.symm
def sp_wrong_place (K : PySem.W.Frag) : Sp := fun vs H Q _ => ∃ (v : V) (L : Lay), vs = [v] ∧ Dp K H v (eLay L) ∧ LayOk L ∧ ∀ H', Same H H' → Q .non H'
abbrev C3 (P : Program) (w : World) (K : PySem.W.Frag) (mg : Str → Option Value) (base : Heap) : Prop := Cal P w K mg base 3 "wrong_place" ["value"] (sp_wrong_place K)
theorem ok_wrong_place (D : Df K mg "wrong_place" s_wrong_place ["value"] f fd) (T : Tx mg) (C_is_whole : C1 P w K mg base) (C_is_joint : C2 P w K mg base) : C3 P w K mg base := by
  refine D.cal (D.F.ok sc_wrong_place (fun vs H Q E h => ?_) (fun cdv A outer s H vs Q E hr h => ?_))
  · obtain ⟨v, L, rfl, _⟩ := h
    rfl
  obtain ⟨v, L, rfl, hd, hL, q⟩ := h
  obtain ⟨a, b, xs, rfl, hA, hB, hx⟩ := lay_open hd
  have n12 : (1 : Int) ≤ (L.1 : Int) ∧ (L.1 : Int) ≤ 12 := ⟨by have := hL.lo; omega, by have := hL.hi; omega⟩
  refine ⟨_, (pss_cons (ps_if (PW.pt (pw_or (pt_not (pt_val (pe_callB call_isi (by rfl) T.isinstance (by decide +kernel) (pa_cons (pv 0) (pa_cons (pe_bltn (v := .ty "tuple") (by rfl) T.tuple (by decide +kernel) rfl) pa_nil))))) (pw_or1 (pt_cmpR op_ne (pe_callB call_len_seq (by rfl) T.len (by decide +kernel) (pa_cons (pv 0) pa_nil)) pe_int (nomark _))))) (pss_one (ps_ret (pe_tup pa_nil))) pss_nil)
      (pss_cons (ps_if (pt_not (pt_val (pe_c C_is_whole (hr.mono (by decide)) (by rfl) (pa_cons (pe_ix ix_tup (pv 0) pe_int (fun _ _ => rfl)) (pa_cons pe_int (pa_cons (pe_gi T.MOST_LINKS (by rfl)) pa_nil)))))) (pss_one (ps_ret (pe_tup (pa_cons pe_int pa_nil)))) pss_nil)
      (pss_cons (ps_if (pt_not (pt_val (pe_callB call_isi (by rfl) T.isinstance (by decide +kernel) (pa_cons (pe_ix ix_tup (pv 0) pe_int (fun _ _ => rfl)) (pa_cons (pe_bltn (v := .ty "tuple") (by rfl) T.tuple (by decide +kernel) rfl) pa_nil))))) (pss_one (ps_ret (pe_tup (pa_cons pe_int pa_nil)))) pss_nil)
      (pss_cons (ps_par (i := 1) (j := 2) rfl sc_wrong_place.nd rfl rfl (by decide) rfl rfl (pa_cons pe_dnewK (pa_cons (pe_tup pa_nil) pa_nil)) (by rfl))
      (pss_cons (ps_for PassesOwn.never rfl (pi_enumT (by rfl) T.enumerate (pa_cons (pe_ix ix_tup (pv 0) pe_int (fun _ _ => rfl)) pa_nil)) (pg_tup (by rfl) (pgs_cons (pg_name (i := 3) sc_wrong_place.nd rfl (.inl rfl)) (pgs_cons (pg_name (i := 4) sc_wrong_place.nd rfl (.inl rfl)) pgs_nil))) (pss_cons (ps_if (PW.pt (pw_or (pt_not (pt_val (pe_c C_is_joint hr (by rfl) (pa_cons (pe_ix ix_tup (pv 0) pe_int (fun _ _ => rfl)) (pa_cons (pv 4) pa_nil))))) (pw_or (pt_not (pt_cmpR (op_ltT hr.units0) (pv 2) (pv 4) (nomark _))) (pw_or (pt_cmp (pc_din (hu_of hr) (pe_ix ix_tup (pv 4) pe_int (fun _ _ => rfl)) (pv 1))) (pw_or1 (pt_cmp (pc_din (hu_of hr) (pe_ix ix_tup (pv 4) pe_int (fun _ _ => rfl)) (pv 1)))))))) (pss_one (ps_ret (pe_tup (pa_cons pe_int (pa_cons (pv 3) pa_nil))))) pss_nil)
      (pss_cons (ps_expr (pe_bm PySem.F.plainAttrs_dict PySem.F.slot_dict_update PySem.F.type_dict_update mt_update (pv 1) (pa_cons (pe_disp (pps_cons (pe_ix ix_tup (pv 4) pe_int (fun _ _ => rfl)) pe_bl (pps_cons (pe_ix ix_tup (pv 4) pe_int (fun _ _ => rfl)) pe_bl pps_nil)) (by rfl) (by rfl) (fun z => by cases z) (by decide)) pa_nil)))
      (pss_one (ps_set (i := 2) sc_wrong_place.nd rfl (.inl rfl) (pv 4))))))
      (pss_one (ps_ret pe_non))))))), ?_⟩
  refine ⟨_, rfl, _, _, _, _, _, rfl, .ty _, ty_tup hA, kit1, true, rfl, iteF ?_⟩
  refine ⟨_, rfl, a, _, rfl, .inr hA, rfl, _, rfl, iteNS rfl ?_⟩
  refine ⟨_, rfl, a, _, _, _, rfl, rfl, hA, at0, _, _, _, rfl, _, rfl, nott (decide_eq_true n12) ?_⟩
  refine ⟨_, rfl, a, _, _, _, rfl, rfl, hA, at1, _, _, _, _, _, rfl, .ty _, ty_tup hB, kit1, true, rfl, iteF ?_⟩
  refine fun d nd => ⟨small_sz (by simp), fun t nt => ⟨_, _, rfl, ?_⟩⟩
  have s0 : Same H (upd (upd H d (.dK [])) t (.tup [])) := (same_new nd).trans (same_new nt)
  have ntd : d ≠ t := fun e => by rw [← e, upd_same] at nt; cases nt
  refine ⟨_, rfl, a, _, _, _, rfl, rfl, s0.sq hA, at1, b, xs, rfl, s0.sq hB, ?_⟩
  refine for_enumT (K := K) (a := b) (xs := xs) (fun i σ H' => ∃ (lt : Addr) (kvs : List (Key × V)) (y3 y4 : Option V), σ = [some (.ref a), some (.ref d), some (.ref lt), y3, y4] ∧ Same H H' ∧ H' d = some (.dK kvs) ∧ kvs.length ≤ 2 * i ∧
    (∀ x : Int, (valV kvs (.inl x)).isSome = true → ∃ e ∈ ends (L.2.take i), x = (e : Int)) ∧ SqT K H' lt ((lastT L.2 i).map V.int))
    ⟨t, [], none, none, rfl, s0, by rw [upd_ne ntd, upd_same], Nat.zero_le _, fun x h => by simp [valV_nil] at h, .inl (.inl upd_same)⟩ ?_ ?_ ?_
  · rintro i σ H' ⟨_, _, _, _, _, sm, _⟩
    exact sm.sq hB
  · rintro i x σ H' hi ⟨lt, kvs, y3, y4, rfl, sm, hD, hlen, hkeys, hlast⟩ T1 nT
    obtain ⟨j, tj, hj, rfl, hj2⟩ := js_at hx hi
    have sT : Same H' (upd H' T1 (.tup [.int (i : Nat), .ref tj])) := same_new nT
    refine ⟨T1, _, rfl, .inl (.inl upd_same), rfl, _, _, rfl, _, _, rfl, rfl, ?_⟩
    have jm : j ∈ L.2 := List.mem_of_getElem? hj
    have jok := hL.ok.good.js j jm
    refine ⟨_, rfl, a, _, _, _, rfl, rfl, sT.sq (sm.sq hA), at0, _, rfl, L.1, _, j, rfl, joint_mk (sT.sq (sm.sq hj2)), hL.ok.asc j jm, jok.2.1, fun H2 sm2 => ⟨true, rfl, iteF ?_⟩⟩
    have s2 : Same H' H2 := sT.trans sm2
    have hD2 := s2 _ _ hD
    refine ⟨_, rfl, _, rfl, lt, tj, _, [(j.1 : Int), (j.2 : Int)], rfl, rfl, s2.sq hlast, s2.sq (sm.sq hj2), _, rfl, nott (last_lt hL.ok hj) ?_⟩
    have no : ∀ e : Nat, e ∉ ends (L.2.take i) → valV kvs (Sum.inl (e : Int)) = none := fun e he => by
      cases z : valV kvs (Sum.inl (e : Int)) with
      | none => rfl
      | some y =>
        obtain ⟨e', h1, h2⟩ := hkeys (e : Int) (by rw [z]; rfl)
        exact absurd (by rwa [show e = e' by omega]) he
    obtain ⟨nj1, nj2⟩ := ends_take hL.ok.good hj
    refine ⟨_, rfl, tj, _, _, _, rfl, rfl, s2.sq (sm.sq hj2), at0, _, rfl, d, _, rfl, DGet.k (k := Sum.inl (j.1 : Int)) hD2, _, rfl, nots (no _ nj1) ?_⟩
    refine ⟨_, rfl, tj, _, _, _, rfl, rfl, s2.sq (sm.sq hj2), at1, _, rfl, d, _, rfl, DGet.k (k := Sum.inl (j.2 : Int)) hD2, _, rfl, nots (no _ nj2) ?_⟩
    refine ⟨_, rfl, .inr (.inr (.inl ⟨rfl, .inl ⟨_, hD2⟩⟩)), fun u nu => ?_⟩
    have s3 : Same H2 (upd H2 u (.dK [])) := same_new nu
    have ndu : d ≠ u := ne_of_none hD2 nu
    refine ⟨_, rfl, tj, _, _, _, rfl, rfl, s3.sq (s2.sq (sm.sq hj2)), at0, ?_⟩
    refine ⟨_, rfl, tj, _, _, _, rfl, rfl, s3.sq (s2.sq (sm.sq hj2)), at1, ?_⟩
    refine ⟨upd_same, [(Sum.inl (j.1 : Int), .bl true), (Sum.inl (j.2 : Int), .bl true)], rfl, by simp, ?_⟩
    rw [upd_upd]
    have hm2 : (mergeK [] [(Sum.inl (j.1 : Int), V.bl true), (Sum.inl (j.2 : Int), V.bl true)] : List (Key × V)).length ≤ 2 := length_mergeK _ _
    have hz : kvs.length + (mergeK [] [(Sum.inl (j.1 : Int), V.bl true), (Sum.inl (j.2 : Int), V.bl true)] : List (Key × V)).length ≤ sizeLine := small_sz (by
      have h1 := (List.getElem?_eq_some_iff.mp hj).1
      have h2 := js_len hL.ok.good
      have h3 := hL.hi
      omega)
    refine ⟨d, u, kvs, _, rfl, rfl, by rw [upd_ne ndu]; exact hD2, upd_same, ndu, hz, ?_⟩
    have s5 := fun o => ((sm.trans s2).trans (same_new (o := .dK (mergeK [] [(Sum.inl (j.1 : Int), V.bl true), (Sum.inl (j.2 : Int), V.bl true)])) nu)).wr (o := o) nd
    refine ⟨_, rfl, tj, _, _, _, rfl, s5 _, upd_same, ?_, ?_, ?_⟩
    · exact Nat.le_trans (length_mergeK _ _) (by omega)
    · intro x hx
      rw [merge_some, Bool.or_eq_true] at hx
      rw [ends_take_succ hj]
      rcases hx with hx | hx
      · obtain ⟨e, he, r⟩ := hkeys x hx
        exact ⟨e, List.mem_append_left _ he, r⟩
      · rw [List.any_eq_true] at hx
        obtain ⟨p, hp, e⟩ := hx
        have e' := of_decide_eq_true e
        have hp' : p.1 = Sum.inl (j.1 : Int) ∨ p.1 = Sum.inl (j.2 : Int) := two_keys p hp
        rcases hp' with q1 | q1
        · rw [q1] at e'
          exact ⟨j.1, by simp, (Sum.inl.inj e').symm⟩
        · rw [q1] at e'
          exact ⟨j.2, by simp, (Sum.inl.inj e').symm⟩
    · simp only [lastT, hj]
      exact (s5 _).sq hj2
  · rintro σ H' ⟨lt, kvs, y3, y4, rfl, sm, _⟩
    exact q H' sm
end
end DC
namespace DC
open PySem PySem.Spec PyProof.Rows L2 Dm
section
variable {P : Program} {w : World} {K : PySem.W.Frag} {mg : Str → Option Value} {base : Heap} {f : Addr} {fd : FuncData}
def sp_need_lay (K : PySem.W.Frag) : Sp := fun vs H Q _ => ∃ (v : V) (L : Lay), vs = [v] ∧ Dp K H v (eLay L) ∧ LayOk L ∧ ∀ H', Same H H' → Q v H'
abbrev C4 (P : Program) (w : World) (K : PySem.W.Frag) (mg : Str → Option Value) (base : Heap) : Prop := Cal P w K mg base 4 "need_lay" ["lay"] (sp_need_lay K)
theorem ok_need_lay (D : Df K mg "need_lay" s_need_lay ["lay"] f fd) (T : Tx mg) (C_wrong_place : C3 P w K mg base) : C4 P w K mg base := by
  refine D.cal (D.F.ok sc_need_lay (fun vs H Q E h => ?_) (fun cdv A outer s H vs Q E hr h => ?_))
  · obtain ⟨v, L, rfl, _⟩ := h
    rfl
  obtain ⟨v, L, rfl, hd, hL, q⟩ := h
  refine ⟨_, (pss_cons (ps_set (i := 1) sc_need_lay.nd rfl (.inl rfl) (pe_c C_wrong_place hr (by rfl) (pa_cons (pv 0) pa_nil)))
      (pss_cons (ps_if (pt_cmp (pc_notN (pv 1))) (pss_one ps_never) pss_nil)
      (pss_one (ps_ret (pv 0))))), ?_⟩
  refine ⟨_, rfl, v, L, rfl, hd, hL, fun H' sm => ⟨_, rfl, _, rfl, itef (by decide) ?_⟩⟩
  exact ⟨_, rfl, q H' sm⟩
def sp_need_two (K : PySem.W.Frag) : Sp := fun vs H Q _ => ∃ (v u : V) (L M : Lay), vs = [v, u] ∧ Dp K H v (eLay L) ∧ Dp K H u (eLay M) ∧ LayOk L ∧ LayOk M ∧ L.1 = M.1 ∧ ∀ r H', Same H H' → Q r H'
abbrev C5 (P : Program) (w : World) (K : PySem.W.Frag) (mg : Str → Option Value) (base : Heap) : Prop := Cal P w K mg base 5 "need_two" ["one", "other"] (sp_need_two K)
theorem ok_need_two (D : Df K mg "need_two" s_need_two ["one", "other"] f fd) (T : Tx mg) (C_need_lay : C4 P w K mg base) : C5 P w K mg base := by
  refine D.cal (D.F.ok sc_need_two (fun vs H Q E h => ?_) (fun cdv A outer s H vs Q E hr h => ?_))
  · obtain ⟨v, u, L, M, rfl, _⟩ := h
    rfl
  obtain ⟨v, u, L, M, rfl, hd, he, hL, hM, en, q⟩ := h
  refine ⟨_, (pss_cons (ps_expr (pe_c C_need_lay hr (by rfl) (pa_cons (pv 0) pa_nil)))
      (pss_cons (ps_expr (pe_c C_need_lay hr (by rfl) (pa_cons (pv 1) pa_nil)))
      (pss_cons (ps_if (pt_cmpR op_ne (pe_ix ix_tup (pv 0) pe_int (fun _ _ => rfl)) (pe_ix ix_tup (pv 1) pe_int (fun _ _ => rfl)) (nomark _)) (pss_one ps_never) pss_nil)
      (pss_one (ps_ret (pe_tup (pa_cons (pv 0) (pa_cons (pv 1) pa_nil)))))))), ?_⟩
  refine ⟨_, rfl, v, L, rfl, hd, hL, fun H1 s1 => ?_⟩
  refine ⟨_, rfl, u, M, rfl, s1.dp he, hM, fun H2 s2 => ?_⟩
  obtain ⟨a, b, xs, rfl, hA, hB, hx⟩ := lay_open hd
  obtain ⟨c, d, ys, rfl, hA', hB', hx'⟩ := lay_open he
  refine ⟨_, rfl, a, _, _, _, rfl, rfl, (s1.trans s2).sq hA, at0, _, rfl, c, _, _, _, rfl, rfl, (s1.trans s2).sq hA', at0, rfl, _, rfl, itef (by simp [en]) ?_⟩
  exact ⟨_, rfl, _, rfl, small_sz (by simp), fun p np => q _ _ ((s1.trans s2).trans (same_new np))⟩
theorem ixN_at {n j : Nat} (hj : j < n) : ixN n (j : Int) = some j := by
  unfold ixN
  rw [if_pos (by omega), if_pos (by omega)]
  simp
/-! mates -/
def mate (J : List Jt) (x : Nat) : V := if fn J x = x then .non else .int (fn J x : Int)
def mates (N : Nat) (J : List Jt) : List V := (List.range N).map (mate J)
theorem fn_snoc {a b : Nat} : ∀ {D : List Jt}, a ∉ ends D → b ∉ ends D → ∀ x, fn (D ++ [(a, b)]) x = if x = a then b else if x = b then a else fn D x
  | [], _, _, x => rfl
  | (p, q) :: D, ha, hb, x => by
    rw [ends_cons] at ha hb
    simp only [List.mem_cons, not_or] at ha hb
    have ih := fn_snoc ha.2.2 hb.2.2 x
    simp only [List.cons_append, fn, ih]
    grind
theorem mates_snoc {N : Nat} {D : List Jt} {j : Jt} (h1 : j.1 ∉ ends D) (h2 : j.2 ∉ ends D) (hne : j.1 ≠ j.2) (l1 : j.1 < N) (l2 : j.2 < N) : ((mates N D).set j.1 (.int (j.2 : Int))).set j.2 (.int (j.1 : Int)) = mates N (D ++ [j]) := by
  refine List.ext_getElem (by simp [mates]) fun i hi hi2 => ?_
  have e := fn_snoc (a := j.1) (b := j.2) h1 h2 i
  have ej : ((j.1, j.2) : Jt) = j := rfl
  rw [ej] at e
  simp only [mates, List.getElem_set, List.getElem_map, List.getElem_range, mate, e]
  grind
theorem mates_at {N : Nat} {J : List Jt} {x : Nat} (h : x < N) : atI (mates N J) (x : Int) = some (mate J x) := atI_nat (by simp [mates, h])
theorem mates_nil {N : Nat} : (List.replicate N [V.non]).flatten = mates N [] := by
  refine List.ext_getElem (by simp [mates]) fun i hi hi2 => ?_
  simp [mates, mate, fn]
def sp_mates_in (K : PySem.W.Frag) : Sp := fun vs H Q _ => ∃ (v : V) (L : Lay), vs = [v] ∧ Dp K H v (eLay L) ∧ LayOk L ∧ ∀ p H', Same H H' → H' p = some (.lst (mates (2 * L.1) L.2)) → Q (.ref p) H'
abbrev C6 (P : Program) (w : World) (K : PySem.W.Frag) (mg : Str → Option Value) (base : Heap) : Prop := Cal P w K mg base 1 "mates_in" ["lay"] (sp_mates_in K)
theorem ok_mates_in (D : Df K mg "mates_in" s_mates_in ["lay"] f fd) (T : Tx mg) : C6 P w K mg base := by
  refine D.cal (D.F.ok sc_mates_in (fun vs H Q E h => ?_) (fun cdv A outer s H vs Q E hr h => ?_))
  · obtain ⟨v, L, rfl, _⟩ := h
    rfl
  obtain ⟨v, L, rfl, hd, hL, q⟩ := h
  obtain ⟨a, b, xs, rfl, hA, hB, hx⟩ := lay_open hd
  have hi := hL.hi
  refine ⟨_, (pss_cons (ps_set (i := 1) sc_mates_in.nd rfl (.inl rfl) (pe_op op_rep (pe_lst (pa_cons pe_non pa_nil)) (pe_op op_mul pe_int (pe_ix ix_tup (pv 0) pe_int (fun _ _ => rfl)))))
      (pss_cons (ps_for PassesOwn.never rfl (pi_tup (pe_ix ix_tup (pv 0) pe_int (fun _ _ => rfl))) (pg_tup (by rfl) (pgs_cons (pg_name (i := 2) sc_mates_in.nd rfl (.inl rfl)) (pgs_cons (pg_name (i := 3) sc_mates_in.nd rfl (.inl rfl)) pgs_nil))) (pss_cons (ps_asg (pv 3) (pg_sub (pv 1) (pv 2) set_list))
      (pss_one (ps_asg (pv 2) (pg_sub (pv 1) (pv 3) set_list)))))
      (pss_one (ps_ret (pv 1))))), ?_⟩
  refine ⟨small_sz (by simp), fun l nl => ?_⟩
  have s0 : Same H (upd H l (.lst [.non])) := same_new nl
  refine ⟨_, rfl, a, _, _, _, rfl, rfl, s0.sq hA, at0, _, _, rfl, rfl, .inl ⟨by decide, by decide⟩, ?_⟩
  have eN : ((2 : Int) * (L.1 : Int)).toNat = 2 * L.1 := by omega
  refine ⟨l, _, _, rfl, rfl, upd_same, by omega, by omega, small_sz (by rw [eN]; simp; omega), fun p np => ?_⟩
  have s1 := s0.trans (same_new (o := .lst (List.replicate ((2 : Int) * (L.1 : Int)).toNat [V.non]).flatten) np)
  have np0 : H p = none := s0.none np
  refine ⟨_, rfl, a, _, _, _, rfl, rfl, s1.sq hA, at1, b, rfl, ⟨xs, s1.sq hB⟩, ?_⟩
  refine for_tup (K := K) (a := b) (xs := xs) (fun i σ H' => ∃ y2 y3 : Option V, σ = [some (.ref a), some (.ref p), y2, y3] ∧ Same H H' ∧ H' p = some (.lst (mates (2 * L.1) (L.2.take i))))
    ⟨none, none, rfl, s1, by rw [upd_same, eN, mates_nil]; rfl⟩ ?_ ?_ ?_
  · rintro i σ H' _ ⟨_, _, _, sm, _⟩
    exact sm.sq hB
  · rintro i x σ H' hi' ⟨y2, y3, rfl, sm, hp⟩
    obtain ⟨j, tj, hj, rfl, hj2⟩ := js_at hx hi'
    have jm : j ∈ L.2 := List.mem_of_getElem? hj
    obtain ⟨k1, k2, k3⟩ := hL.ok.good.js j jm
    obtain ⟨n1, n2⟩ := ends_take hL.ok.good hj
    refine ⟨tj, _, rfl, sm.sq hj2, rfl, _, _, rfl, _, _, rfl, rfl, ?_⟩
    refine ⟨_, rfl, _, rfl, _, rfl, p, _, _, j.1, rfl, rfl, hp, ixN_at (by simp [mates]; omega), ?_⟩
    refine ⟨_, rfl, _, rfl, _, rfl, p, _, _, j.2, rfl, rfl, upd_same, ixN_at (by simp [mates]; omega), ?_⟩
    refine ⟨_, _, rfl, (sm.wr np0).wr np0, ?_⟩
    rw [upd_same, mates_snoc n1 n2 k3 k1 k2, List.take_add_one, hj]
    rfl
  · rintro σ H' ⟨y2, y3, rfl, sm, hp⟩
    have e : L.2.take xs.length = L.2 := by
      have := DpAll.len hx
      rw [List.length_map] at this
      rw [this, List.take_length]
    rw [e] at hp
    exact ⟨_, rfl, q p H' sm hp⟩
end
end DC
namespace DC
open PySem PySem.Spec PyProof.Rows L2 Dm
def bi (b : Bool) : Int := if b then 1 else 0
theorem bi_not (b : Bool) : 1 - bi b = bi (!b) := by cases b <;> rfl
theorem mt_at {x y : V} (b : Bool) : atI [x, y] (bi b) = some (if b then y else x) := by cases b; exact at0; exact at1
def nV (xs : List Nat) : List V := xs.map fun (x : Nat) => V.int (x : Int)
theorem row_succ {f : Bool → Nat → Nat} {s : Nat} {b : Bool} {k : Nat} : nV (rowOf f s b k) ++ [V.int (wk f s b (k + 1) : Int)] = nV (rowOf f s b (k + 1)) := by
  have e : Dm.rowOf f s b (k + 1) = Dm.rowOf f s b k ++ [wk f s b (k + 1)] := by
    show (List.range (k + 1 + 1)).map _ = _
    rw [List.range_succ, List.map_append]
    rfl
  rw [e]
  simp only [nV, List.map_append]
  rfl
theorem mate_two {A B : List Jt} {c : Bool} {x : Nat} : mate (if c then B else A) x = if two (fn A) (fn B) c x = x then .non else .int (two (fn A) (fn B) c x : Int) := by cases c <;> rfl
section
variable {P : Program} {w : World} {K : PySem.W.Frag} {mg : Str → Option Value} {base : Heap} {f : Addr} {fd : FuncData}
def sp_row_from (K : PySem.W.Frag) : Sp := fun vs H Q _ => ∃ (a p0 p1 : Addr) (N s : Nat) (A B : List Jt) (b : Bool), vs = [.ref a, .int (s : Int), .int (bi b)] ∧ SqT K H a [.ref p0, .ref p1] ∧ H p0 = some (.lst (mates N A)) ∧ H p1 = some (.lst (mates N B)) ∧
  Good N A ∧ Good N B ∧ s < N ∧ N ≤ 24 ∧ ∀ r H' m, Same H H' → Stop (two (fn A) (fn B)) s b m → (∀ k, k < m → ¬ Stop (two (fn A) (fn B)) s b k) → H' r = some (.lst (nV (rowOf (two (fn A) (fn B)) s b m))) → Q (.ref r) H'
abbrev C7 (P : Program) (w : World) (K : PySem.W.Frag) (mg : Str → Option Value) (base : Heap) : Prop := Cal P w K mg base 1 "row_from" ["mates", "begin", "turn"] (sp_row_from K)
theorem ok_row_from (D : Df K mg "row_from" s_row_from ["mates", "begin", "turn"] f fd) (T : Tx mg) : C7 P w K mg base := by
  refine D.cal (D.F.ok sc_row_from (fun vs H Q E h => ?_) (fun cdv A outer s H vs Q E hr h => ?_))
  · obtain ⟨a, p0, p1, N, s, A, B, b, rfl, _⟩ := h
    rfl
  obtain ⟨a, p0, p1, N, s, A, B, b, rfl, hM, h0, h1, gA, gB, hs, hN, q⟩ := h
  have hf := two_pl (fn_pl gA) (fn_pl gB)
  obtain ⟨m, hmN, hm, hk⟩ := row_stops hf hs b
  have wl := wk_lt hf hs b
  have hc : ∀ {H' : Hp} (c : Bool), Same H H' → H' (if c then p1 else p0) = some (.lst (mates N (if c then B else A))) := fun c sm => by
    cases c
    · exact sm _ _ h0
    · exact sm _ _ h1
  have ic : ∀ c : Bool, atI [V.ref p0, V.ref p1] (bi c) = some (.ref (if c then p1 else p0)) := fun c => by
    rw [mt_at]
    cases c <;> rfl
  refine ⟨_, (pss_cons (ps_par (i := 3) (j := 4) rfl sc_row_from.nd rfl rfl (by decide) rfl rfl (pa_cons (pe_lst (pa_cons (pv 1) pa_nil)) (pa_cons (pe_ix ix_list (pe_ix ix_tup (pv 0) (pv 2) (fun _ _ => rfl)) (pv 1) (fun _ _ => rfl)) pa_nil)) (by rfl))
      (pss_cons (ps_while PassesOwn.never (PW.pt (pw_and (pt_cmp (pc_notN (pv 4))) (pw_and1 (pt_cmpR op_ne (pv 4) (pv 1) (nomark _))))) (pss_cons (ps_expr (pe_bm PySem.F.plainAttrs_list PySem.F.slot_list_append PySem.F.type_list_append mt_append (pv 3) (pa_cons (pv 4) pa_nil)))
      (pss_cons (ps_set (i := 2) sc_row_from.nd rfl (.inl rfl) (pe_op op_sub pe_int (pv 2)))
      (pss_one (ps_set (i := 4) sc_row_from.nd rfl (.inl rfl) (pe_ix ix_list (pe_ix ix_tup (pv 0) (pv 2) (fun _ _ => rfl)) (pv 4) (fun _ _ => rfl)))))))
      (pss_one (ps_ret (pv 3))))), ?_⟩
  refine ⟨_, rfl, small_sz (by simp), fun p np => ?_⟩
  have s0 : Same H (upd H p (.lst [.int (s : Int)])) := same_new np
  refine ⟨_, rfl, _, rfl, a, _, _, _, rfl, rfl, s0.sq hM, ic b, _, rfl, _, _, _, _, rfl, rfl, .inl (.inl (hc b s0)), mates_at hs, _, _, rfl, ?_⟩
  refine ⟨fun n σ H' => ∃ k, k + n = m ∧ σ = [some (.ref a), some (.int (s : Int)), some (.int (bi (turnAt b k))), some (.ref p), some (mate (if turnAt b k then B else A) (wk (two (fn A) (fn B)) s b k))] ∧ Same H H' ∧
    H' p = some (.lst (nV (rowOf (two (fn A) (fn B)) s b k))), ⟨m, 0, by omega, rfl, s0, upd_same⟩, ?_⟩
  rintro n σ H' ⟨k, hkn, rfl, sm, hp⟩
  have st : wk (two (fn A) (fn B)) s b (k + 1) = two (fn A) (fn B) (turnAt b k) (wk (two (fn A) (fn B)) s b k) := rfl
  rw [mate_two, ← st]
  by_cases c1 : wk (two (fn A) (fn B)) s b (k + 1) = wk (two (fn A) (fn B)) s b k
  · rw [if_pos c1]
    have ek : k = m := by
      by_cases l : k < m
      · exact absurd (.inl c1) (hk k l)
      · omega
    subst ek
    refine ⟨_, rfl, _, rfl, itef rfl ?_⟩
    refine iteF ?_
    exact ⟨_, rfl, q p H' k sm hm hk hp⟩
  · rw [if_neg c1]
    refine ⟨_, rfl, _, rfl, itet rfl ?_⟩
    by_cases c2 : wk (two (fn A) (fn B)) s b (k + 1) = s
    · have ek : k = m := by
        by_cases l : k < m
        · exact absurd (.inr c2) (hk k l)
        · omega
      subst ek
      refine ⟨_, rfl, _, rfl, rfl, _, rfl, itef (by rw [c2]; simp) ?_⟩
      exact ⟨_, rfl, q p H' k sm hm hk hp⟩
    · have lk : k < m := Decidable.byContradiction fun l => by
        have : k = m := by omega
        subst this
        rcases hm with z | z
        · exact c1 z
        · exact c2 z
      refine ⟨_, rfl, _, rfl, rfl, _, rfl, itet (by simp only [V.int.injEq]; rw [decide_eq_false (by omega)]; rfl) ?_⟩
      refine ⟨_, fun σ' H' h => ⟨n - 1, by omega, h⟩, ?_⟩
      refine ⟨_, rfl, .inl ⟨rfl, _, .inl (.inl hp)⟩, _, rfl, p, _, _, rfl, rfl, hp, small_lt (by simp [nV, Dm.rowOf]; omega), ?_⟩
      rw [row_succ]
      have s3 : Same H (upd H' p (.lst (nV (rowOf (two (fn A) (fn B)) s b (k + 1))))) := sm.wr np
      refine ⟨_, rfl, _, _, rfl, rfl, ?_⟩
      have et : bi (turnAt b (k + 1)) = 1 - bi (turnAt b k) := by rw [turn_succ, bi_not]
      have ic' := ic (turnAt b (k + 1))
      rw [et] at ic'
      refine ⟨_, rfl, _, rfl, a, _, _, _, rfl, rfl, s3.sq hM, ic', _, rfl, _, _, _, _, rfl, rfl, .inl (.inl (hc _ s3)), mates_at (wl (k + 1)), ?_⟩
      exact ⟨k + 1, by omega, by rw [et]; rfl, s3, upd_same⟩
end
end DC
namespace DC
open PySem PySem.Spec PyProof.Rows L2 Dm
/-! order -/
theorem srtD_map {α : Type} (g : α → PyData) (xs : List α) : srtD (xs.map g) = (xs.mergeSort (PySem.W.dataLe false g)).map g := by
  have e3 := List.map_mergeSort (f := g) (r := PySem.W.dataLe false g) (s := PySem.W.dataLe false id) (l := xs) (fun a _ b _ => rfl)
  exact e3.symm
theorem srtD_perm {α : Type} (g : α → PyData) (xs : List α) : ∃ ys : List α, ys.Perm xs ∧ srtD (xs.map g) = ys.map g := ⟨_, List.mergeSort_perm _ _, srtD_map g xs⟩
theorem insJ_perm (j : Jt) : ∀ J : List Jt, (insJ j J).Perm (j :: J)
  | [] => .refl _
  | k :: r => by
    unfold insJ
    split
    · exact .refl _
    · exact ((insJ_perm j r).cons k).trans (.swap _ _ _)
theorem srtJ_perm : ∀ J : List Jt, (srtJ J).Perm J
  | [] => .refl _
  | j :: r => (insJ_perm j (srtJ r)).trans ((srtJ_perm r).cons j)
theorem leJ_trans {a b c : Jt} (h : leJ a b = true) (g : leJ b c = true) : leJ a c = true := by
  simp only [leJ, Bool.or_eq_true, Bool.and_eq_true, decide_eq_true_eq] at *
  omega
theorem leJ_total (a b : Jt) : leJ a b = true ∨ leJ b a = true := by
  simp only [leJ, Bool.or_eq_true, Bool.and_eq_true, decide_eq_true_eq]
  omega
theorem leJ_anti {a b : Jt} (h : leJ a b = true) (g : leJ b a = true) : a = b := by
  obtain ⟨a1, a2⟩ := a
  obtain ⟨b1, b2⟩ := b
  simp only [leJ, Bool.or_eq_true, Bool.and_eq_true, decide_eq_true_eq] at *
  have : a1 = b1 := by omega
  have : a2 = b2 := by omega
  simp [*]
theorem insJ_so {j : Jt} : ∀ {J : List Jt}, J.Pairwise (fun a b => leJ a b = true) → (insJ j J).Pairwise fun a b => leJ a b = true
  | [], _ => by simp [insJ]
  | k :: r, h => by
    have h' := List.pairwise_cons.mp h
    unfold insJ
    split
    · rename_i c
      refine List.pairwise_cons.mpr ⟨fun x hx => ?_, h⟩
      rcases List.mem_cons.mp hx with rfl | hx
      · exact c
      · exact leJ_trans c (h'.1 x hx)
    · rename_i c
      refine List.pairwise_cons.mpr ⟨fun x hx => ?_, insJ_so h'.2⟩
      rcases List.mem_cons.mp ((insJ_perm j r).mem_iff.mp hx) with rfl | hx
      · exact (leJ_total k x).resolve_right c
      · exact h'.1 x hx
theorem srtJ_so : ∀ J : List Jt, (srtJ J).Pairwise fun a b => leJ a b = true
  | [] => .nil
  | j :: r => insJ_so (srtJ_so r)
theorem srtD_js (J : List Jt) : srtD (J.map eJ) = (srtJ J).map eJ := by
  rw [srtD_map]
  have e : PySem.W.dataLe false eJ = leJ := by
    have := PySem.W.dataLe_ii (β := Jt) (fun j => (j.1 : Int)) (fun j => (j.2 : Int))
    refine this.trans ?_
    funext p q
    simp only [leJ]
    rw [Bool.eq_iff_iff]
    simp only [decide_eq_true_eq, Bool.or_eq_true, Bool.and_eq_true]
    omega
  rw [e]
  congr 1
  have h1 : (J.mergeSort leJ).Pairwise (fun a b => leJ a b = true) := List.pairwise_mergeSort (le := leJ) (fun a b c h g => leJ_trans h g) (fun a b => by rw [Bool.or_eq_true]; exact leJ_total a b) J
  exact List.Perm.eq_of_pairwise (le := fun a b => leJ a b = true) (fun a b _ _ h g => leJ_anti h g) h1 (srtJ_so J) ((List.mergeSort_perm _ _).trans (srtJ_perm J).symm)
theorem alikeAll_map {α : Type} (g : α → PyData) (h : ∀ a b, PySem.W.alike (g a) (g b) = true) : ∀ xs ys : List α, PySem.W.alikeAll (xs.map g) (ys.map g) = true
  | [], _ => by simp [PySem.W.alikeAll]
  | _ :: _, [] => by simp [PySem.W.alikeAll]
  | x :: xs, y :: ys => by
    simp only [List.map_cons, PySem.W.alikeAll, h, alikeAll_map g h xs ys, Bool.and_self]
theorem alike_j (a b : Jt) : PySem.W.alike (eJ a) (eJ b) = true := by simp [eJ, PySem.W.alike, PySem.W.alikeAll]
theorem alike_js (a b : List Jt) : PySem.W.alike (eJs a) (eJs b) = true := by simp [eJs, PySem.W.alike, alikeAll_map eJ alike_j]
theorem alike_lay (a b : Lay) : PySem.W.alike (eLay a) (eLay b) = true := by simp [eLay, PySem.W.alike, PySem.W.alikeAll, alike_js]
def eI (x : Nat) : PyData := .int (x : Int)
def eR (c : List Nat) : PyData := .tuple (c.map eI)
theorem alike_r (a b : List Nat) : PySem.W.alike (eR a) (eR b) = true := by simp [eR, PySem.W.alike, alikeAll_map eI (fun a b => by simp [eI, PySem.W.alike])]
theorem allAlike_map {α : Type} {g : α → PyData} (h : ∀ a b, PySem.W.alike (g a) (g b) = true) (xs : List α) : PySem.W.AllAlike (xs.map g) := by
  intro d hd d' hd'
  obtain ⟨a, _, rfl⟩ := List.mem_map.mp hd
  obtain ⟨b, _, rfl⟩ := List.mem_map.mp hd'
  exact h a b
theorem depthAll_le {n : Nat} : ∀ {ds : List PyData}, (∀ d ∈ ds, d.depth ≤ n) → PyData.depthAll ds ≤ n
  | [], _ => by simp [PyData.depthAll]
  | d :: ds, h => by
    have h1 := h d List.mem_cons_self
    have h2 := depthAll_le fun e he => h e (List.mem_cons_of_mem _ he)
    simp only [PyData.depthAll]
    omega
theorem eR_depth (c : List Nat) : (eR c).depth ≤ 2 := by
  have := depthAll_le (n := 1) (ds := c.map eI) fun d hd => by
    obtain ⟨x, _, rfl⟩ := List.mem_map.mp hd
    simp [eI, PyData.depth]
  simp only [eR, PyData.depth]
  omega
theorem nol_r (c : List Nat) : nol (eR c) = true := by
  simp only [eR, nol]
  exact nols_all.mpr fun d hd => by
    obtain ⟨x, _, rfl⟩ := List.mem_map.mp hd
    rfl
theorem nols_map {α : Type} {g : α → PyData} (h : ∀ a, nol (g a) = true) (xs : List α) : nols (xs.map g) = true := nols_all.mpr fun d hd => by
  obtain ⟨a, _, rfl⟩ := List.mem_map.mp hd
  exact h a
section
variable {K : PySem.W.Frag} {H H' : Hp}
theorem nV_dps : ∀ {xs : List Nat}, DpAll K H (nV xs) (xs.map eI)
  | [] => .nil
  | x :: xs => .cons (.int _) nV_dps
theorem dps_nV : ∀ {vs : List V} {xs : List Nat}, DpAll K H vs (xs.map eI) → vs = nV xs
  | _, [], .nil => rfl
  | _, x :: xs, .cons a t => by
    have e := dps_nV t
    cases a
    rw [e]
    rfl
theorem row_open {v : V} {c : List Nat} (h : Dp K H v (eR c)) : ∃ a, v = .ref a ∧ SqT K H a (nV c) := by
  have h' : Dp K H v (.tuple (c.map eI)) := h
  cases h' with
  | tup h1 h2 =>
    rw [dps_nV h2] at h1
    exact ⟨_, rfl, h1⟩
theorem row_mk {a : Addr} {c : List Nat} (h : SqT K H a (nV c)) : Dp K H (.ref a) (eR c) := .tup h nV_dps
/-- a dict from a list's items -/
theorem dc_list {a : Addr} {xs : List V} {g : TG} {tt : TT} {tk tv : TE} {vs : List Nat} {σ : L2.St} {H1 : Hp} {D : Addr} {Qd : Hp → Prop} (Pv : Nat → Hp → Prop) (h0 : Pv 0 (upd H1 D (.dK []))) (hl : ∀ i H, i ≤ xs.length → Pv i H → SqL K H a xs)
    (hs : ∀ i x H, xs[i]? = some x → Pv i H → g x (wipe σ vs) H fun σ2 H2 => wipe σ2 vs = wipe σ vs ∧ tt σ2 H2 fun b H3 =>
      if b = true then tk σ2 H3 fun y H4 => tv σ2 H4 fun z H5 => ∃ kvs k, y = kV k ∧ H5 D = some (.dK kvs) ∧ kvs.length < sizeLine ∧ Pv (i + 1) (upd H5 D (.dK (putK kvs k z))) else Pv (i + 1) H3) (hd : ∀ H, Pv xs.length H → Qd H) :
    ∃ W : Nat → Nat → Hp → Prop, (∃ m, W 0 m (upd H1 D (.dK []))) ∧ ∀ i m H, W i m H →
      ((Itl K a).stop i H ∧ Qd H) ∨ ((Itl K a).go i H ∧ ∃ Nx : Hp → Prop, (∀ H', Nx H' → ∃ m', m' < m ∧ W (i + 1) m' H') ∧ ∀ x H', (Itl K a).yld i H x H' → g x (wipe σ vs) H' fun σ2 H2 => wipe σ2 vs = wipe σ vs ∧ tt σ2 H2 fun b H3 =>
        if b = true then tk σ2 H3 fun y H4 => tv σ2 H4 fun z H5 => ∃ kvs k, y = kV k ∧ H5 D = some (.dK kvs) ∧ kvs.length < sizeLine ∧ Nx (upd H5 D (.dK (putK kvs k z))) else Nx H3) := by
  refine ⟨fun i m H => m = xs.length - i ∧ i ≤ xs.length ∧ Pv i H, ⟨xs.length, by simp, Nat.zero_le _, h0⟩, ?_⟩
  rintro i m H ⟨rfl, hi, p⟩
  have q := hl i H hi p
  by_cases hlt : i < xs.length
  · refine .inr ⟨⟨xs, xs[i], q, by simp [hlt]⟩, Pv (i + 1), fun H' p' => ⟨xs.length - (i + 1), by omega, rfl, hlt, p'⟩, fun x H' y => ?_⟩
    obtain ⟨e, y⟩ := y
    subst e
    exact hs i x _ (y xs q) p
  · have e : i = xs.length := by omega
    subst e
    exact .inl ⟨⟨xs, q, Nat.le_refl _⟩, hd H p⟩
end
end DC
namespace DC
open PySem PySem.Spec PyProof.Rows L2 Dm
theorem flat_mate (J : List Jt) (x : Nat) : flatV (mate J x) = true := by
  unfold mate
  split <;> rfl
theorem flat_two (A B : List Jt) (x : Nat) : [mate A x, mate B x].all flatV = true := by simp [flat_mate]
theorem in_two (A B : List Jt) (x : Nat) : inV .non [mate A x, mate B x] = decide (fn A x = x ∨ fn B x = x) := by
  unfold inV mate
  by_cases h1 : fn A x = x <;> by_cases h2 : fn B x = x <;> simp [h1, h2, eqV]
theorem is_non (J : List Jt) (x : Nat) : decide (mate J x = V.non) = decide (fn J x = x) := by
  unfold mate
  by_cases h1 : fn J x = x <;> simp [h1]
def kindS (A B : List Jt) (s n : Nat) : Str := if fn A s = s ∨ fn B s = s then (if n % 2 = 1 then "odd" else if fn A s = s then "open" else "shut") else "ring"
section
variable {P : Program} {w : World} {K : PySem.W.Frag} {mg : Str → Option Value} {base : Heap} {f : Addr} {fd : FuncData}
def sp_kind_of (K : PySem.W.Frag) : Sp := fun vs H Q _ => ∃ (v u r : V) (L M : Lay) (s : Nat) (c : List Nat), vs = [v, u, r] ∧ Dp K H v (eLay L) ∧ Dp K H u (eLay M) ∧ LayOk L ∧ LayOk M ∧ L.1 = M.1 ∧ Dp K H r (eR (s :: c)) ∧ s < 2 * L.1 ∧
  ∀ H', Same H H' → Q (.str (kindS L.2 M.2 s (s :: c).length)) H'
abbrev C8 (P : Program) (w : World) (K : PySem.W.Frag) (mg : Str → Option Value) (base : Heap) : Prop := Cal P w K mg base 2 "kind_of" ["one", "other", "row"] (sp_kind_of K)
theorem ok_kind_of (D : Df K mg "kind_of" s_kind_of ["one", "other", "row"] f fd) (T : Tx mg) (C_mates_in : C6 P w K mg base) : C8 P w K mg base := by
  refine D.cal (D.F.ok sc_kind_of (fun vs H Q E h => ?_) (fun cdv A outer s H vs Q E hr h => ?_))
  · obtain ⟨v, u, r, L, M, s, c, rfl, _⟩ := h
    rfl
  obtain ⟨v, u, r, L, M, s, c, rfl, hd, he, hL, hM, en, hR, hs, q⟩ := h
  obtain ⟨ra, rfl, hR'⟩ := row_open hR
  have hR : SqT K H ra (V.int (s : Int) :: nV c) := hR'
  refine ⟨_, (pss_cons (ps_set (i := 3) sc_kind_of.nd rfl (.inl rfl) (pe_tup (pa_cons (pe_c C_mates_in hr (by rfl) (pa_cons (pv 0) pa_nil)) (pa_cons (pe_c C_mates_in hr (by rfl) (pa_cons (pv 1) pa_nil)) pa_nil))))
      (pss_cons (ps_if (pt_cmpR op_notIn_seq pe_non (pe_tup (pa_cons (pe_ix ix_list (pe_ix ix_tup (pv 3) pe_int (fun _ _ => rfl)) (pe_ix ix_tup (pv 2) pe_int (fun _ _ => rfl)) (fun _ _ => rfl)) (pa_cons (pe_ix ix_list (pe_ix ix_tup (pv 3) pe_int (fun _ _ => rfl)) (pe_ix ix_tup (pv 2) pe_int (fun _ _ => rfl)) (fun _ _ => rfl)) pa_nil))) (by rfl)) (pss_one (ps_ret (pe_gs T.RING (by rfl)))) pss_nil)
      (pss_cons (ps_if (pt_cmpR op_eq (pe_op op_mod (pe_callTy call_int1 (by rfl) T.int (by decide +kernel) (pa_cons (pe_callB call_len_seq (by rfl) T.len (by decide +kernel) (pa_cons (pv 2) pa_nil)) pa_nil)) pe_int) pe_int (nomark _)) (pss_one (ps_ret (pe_gs T.ODD (by rfl)))) pss_nil)
      (pss_one (ps_ret (pe_ifExp (pt_cmp (pc_isN (pe_ix ix_list (pe_ix ix_tup (pv 3) pe_int (fun _ _ => rfl)) (pe_ix ix_tup (pv 2) pe_int (fun _ _ => rfl)) (fun _ _ => rfl)))) (pe_gs T.OPEN (by rfl)) (pe_gs T.SHUT (by rfl)))))))), ?_⟩
  refine ⟨_, rfl, v, L, rfl, hd, hL, fun p0 H1 s1 h0 => ?_⟩
  refine ⟨_, rfl, u, M, rfl, s1.dp he, hM, fun p1 H2 s2 h1 => ?_⟩
  refine ⟨small_sz (by simp), fun m nm => ?_⟩
  have s3 := s2.trans (same_new (o := .tup [.ref p0, .ref p1]) nm)
  have s4 := s1.trans s3
  have hM3 : SqT K (upd H2 m (.tup [.ref p0, .ref p1])) m [.ref p0, .ref p1] := .inl (.inl upd_same)
  have g0 := s3 _ _ h0
  have g1 := same_new (o := .tup [.ref p0, .ref p1]) nm _ _ h1
  rw [← en] at g1
  generalize upd H2 m (.tup [.ref p0, .ref p1]) = H3 at *
  refine ⟨_, rfl, m, _, _, _, rfl, rfl, hM3, at0, _, rfl, ra, _, _, _, rfl, rfl, s4.sq hR, at0, p0, _, _, _, rfl, rfl, .inl (.inl g0), mates_at hs, ?_⟩
  refine ⟨_, rfl, m, _, _, _, rfl, rfl, hM3, at1, _, rfl, ra, _, _, _, rfl, rfl, s4.sq hR, at0, p1, _, _, _, rfl, rfl, .inl (.inl g1), mates_at hs, ?_⟩
  refine ⟨small_sz (by simp), fun z nz => ⟨z, _, rfl, .inr (.inl (.inl upd_same)), rfl, flat_two _ _ _, _, rfl, ?_⟩⟩
  have s5 : Same H3 (upd H3 z (.tup [mate L.2 s, mate M.2 s])) := same_new nz
  have s6 := s4.trans s5
  have hM3 := s5.sq hM3
  have g0 := s5 _ _ g0
  generalize upd H3 z (.tup [mate L.2 s, mate M.2 s]) = H4 at *
  by_cases c1 : fn L.2 s = s ∨ fn M.2 s = s
  · refine itef (by rw [in_two, decide_eq_true c1]; rfl) ?_
    refine ⟨_, rfl, ra, _, rfl, .inr (s6.sq hR), .inl ⟨_, rfl, _, _, rfl, rfl, (by decide : (0 : Int) < 2), rfl, _, rfl, ?_⟩⟩
    have hl : (V.int (s : Int) :: nV c).length = (s :: c).length := by simp [nV]
    rw [hl]
    by_cases c2 : (s :: c).length % 2 = 1
    · refine itet (by simp only [V.int.injEq]; exact decide_eq_true (by omega)) ?_
      have e : kindS L.2 M.2 s (s :: c).length = "odd" := by simp only [kindS]; rw [if_pos c1, if_pos c2]
      rw [e] at q
      exact q H4 s6
    · refine itef (by simp only [V.int.injEq]; exact decide_eq_false (by omega)) ?_
      refine ⟨_, rfl, m, _, _, _, rfl, rfl, hM3, at0, _, rfl, ra, _, _, _, rfl, rfl, s6.sq hR, at0, p0, _, _, _, rfl, rfl, .inl (.inl g0), mates_at hs, ?_⟩
      refine ⟨_, rfl, ?_⟩
      by_cases c3 : fn L.2 s = s
      · refine itet (by rw [is_non]; exact decide_eq_true c3) ?_
        have e : kindS L.2 M.2 s (s :: c).length = "open" := by simp only [kindS]; rw [if_pos c1, if_neg c2, if_pos c3]
        rw [e] at q
        exact q H4 s6
      · refine itef (by rw [is_non]; exact decide_eq_false c3) ?_
        have e : kindS L.2 M.2 s (s :: c).length = "shut" := by simp only [kindS]; rw [if_pos c1, if_neg c2, if_neg c3]
        rw [e] at q
        exact q H4 s6
  · refine itet (by rw [in_two, decide_eq_false c1]; rfl) ?_
    have e : kindS L.2 M.2 s (s :: c).length = "ring" := if_neg c1
    rw [e] at q
    exact q H4 s6
end
end DC
namespace DC
open PySem PySem.Spec PyProof.Rows L2 Dm
/-- a heap without two objects -/
def hid2 (H : Hp) (d t : Addr) : Hp := fun b => if b = d ∨ b = t then none else H b
theorem hid2_of {H : Hp} {d t b : Addr} {o : HO} (e : H b = some o) (h1 : b ≠ d) (h2 : b ≠ t) : hid2 H d t b = some o := by
  unfold hid2
  rw [if_neg (by simp [h1, h2])]
  exact e
theorem hid2_d {H : Hp} {d t : Addr} : hid2 H d t d = none := if_pos (.inl rfl)
theorem hid2_t {H : Hp} {d t : Addr} : hid2 H d t t = none := if_pos (.inr rfl)
theorem hid2_same {H : Hp} {d t : Addr} : Same (hid2 H d t) H := fun b o e => by
  unfold hid2 at e
  split at e
  · cases e
  · exact e
theorem same_hid2 {H0 H : Hp} {d t : Addr} (s : Same H0 H) (h1 : H0 d = none) (h2 : H0 t = none) : Same H0 (hid2 H d t) := fun b o e => hid2_of (s b o e) (ne_of_none e h1) (ne_of_none e h2)
theorem any_val (k : Key) (more : List (Key × V)) : (more.any fun p => decide (p.1 = k)) = (valV more k).isSome := by
  simp only [valV, Option.isSome_map]
  rw [Bool.eq_iff_iff, List.find?_isSome, List.any_eq_true]
theorem if_bi {k : Bool} {H : Hp} {σ : L2.St} {Q : VK} (h : Q (.int (bi k)) H) : if k = true then tC (.int 1) σ H Q else tC (.int 0) σ H Q := by
  cases k
  · exact h
  · exact h
theorem rgV_nV {N : Nat} : rgV 0 ((N : Nat) : Int) = nV (List.range N) := by
  unfold rgV nV
  have : ((N : Int) - 0).toNat = N := by omega
  rw [this]
  simp
theorem nV_at {xs : List Nat} {i : Nat} {v : V} (h : (nV xs)[i]? = some v) : ∃ x, xs[i]? = some x ∧ v = .int (x : Int) := by
  simp only [nV, List.getElem?_map, Option.map_eq_some_iff] at h
  obtain ⟨x, h1, h2⟩ := h
  exact ⟨x, h1, h2.symm⟩
theorem nV_app (xs ys : List Nat) : nV xs ++ nV ys = nV (xs ++ ys) := by simp [nV]
theorem nV_len (xs : List Nat) : (nV xs).length = xs.length := by simp [nV]
theorem row_head (f : Bool → Nat → Nat) (s : Nat) (b : Bool) (m : Nat) : ∃ r, Dm.rowOf f s b m = s :: r := ⟨_, by
  show (List.range (m + 1)).map _ = _
  rw [List.range_succ_eq_map, List.map_cons]
  rfl⟩
theorem filt_succ {p : Nat → Bool} {i : Nat} : (List.range (i + 1)).filter p = (List.range i).filter p ++ (if p i = true then [i] else []) := by
  rw [List.range_succ, List.filter_append, List.filter_cons, List.filter_nil]
def isLast (A B : List Jt) (x : Nat) : Bool := decide (fn A x = x ∨ fn B x = x)
structure RI (K : PySem.W.Frag) (A B : List Jt) (N : Nat) (d t : Addr) (zs : List Nat) (i : Nat) (H' : Hp) (P : List (List Nat)) (acc : List V) (kvs : List (Key × V)) : Prop where
  ht : H' t = some (.lst acc)
  dp : DpAll K H' acc (P.map eR)
  hd : H' d = some (.dK kvs)
  pre : Pre N (fn A) (fn B) P
  kl : kvs.length ≤ P.flatten.length
  ks : ∀ x : Int, (valV kvs (.inl x)).isSome = true ↔ ∃ e ∈ P.flatten, x = (e : Int)
  cov : ∀ x ∈ zs.take i, x ∈ P.flatten
  rg : ∀ c ∈ P, ∃ s r, c = s :: r ∧ (ring (fn A) (fn B) c = true ↔ fn A s ≠ s ∧ fn B s ≠ s)
section
variable {P : Program} {w : World} {K : PySem.W.Frag} {mg : Str → Option Value} {base : Heap} {f : Addr} {fd : FuncData}
def sp_rows_in (K : PySem.W.Frag) : Sp := fun vs H Q _ => ∃ (v u : V) (L M : Lay), vs = [v, u] ∧ Dp K H v (eLay L) ∧ Dp K H u (eLay M) ∧ LayOk L ∧ LayOk M ∧ L.1 = M.1 ∧
  ∀ p H' acc (Ps : List (List Nat)), Same H H' → H' p = some (.lst acc) → DpAll K H' acc (Ps.map eR) → Part (2 * L.1) (fn L.2) (fn M.2) Ps → (∀ c ∈ Ps, ∃ s r, c = s :: r ∧ (ring (fn L.2) (fn M.2) c = true ↔ fn L.2 s ≠ s ∧ fn M.2 s ≠ s)) → Q (.ref p) H'
abbrev C9 (P : Program) (w : World) (K : PySem.W.Frag) (mg : Str → Option Value) (base : Heap) : Prop := Cal P w K mg base 2 "rows_in" ["one", "other"] (sp_rows_in K)
theorem ok_rows_in (D : Df K mg "rows_in" s_rows_in ["one", "other"] f fd) (T : Tx mg) (C_mates_in : C6 P w K mg base) (C_row_from : C7 P w K mg base) : C9 P w K mg base := by
  refine D.cal (D.F.ok sc_rows_in (fun vs H Q E h => ?_) (fun cdv A outer s H vs Q E hr h => ?_))
  · obtain ⟨v, u, L, M, rfl, _⟩ := h
    rfl
  obtain ⟨v, u, L, M, rfl, hd, he, hL, hM, en, q⟩ := h
  obtain ⟨a, b, xs, rfl, hA, hB, hx⟩ := lay_open hd
  have hi := hL.hi
  have eN : (2 : Int) * (L.1 : Int) = ((2 * L.1 : Nat) : Int) := by omega
  refine ⟨_, (pss_cons (ps_asg (pe_tup (pa_cons (pe_tup (pa_cons (pe_c C_mates_in hr (by rfl) (pa_cons (pv 0) pa_nil)) (pa_cons (pe_c C_mates_in hr (by rfl) (pa_cons (pv 1) pa_nil)) pa_nil))) (pa_cons pe_dnewK (pa_cons (pe_lst pa_nil) pa_nil)))) (pg_tup (by rfl) (pgs_cons (pg_name (i := 2) sc_rows_in.nd rfl (.inr rfl)) (pgs_cons (pg_name (i := 3) sc_rows_in.nd rfl (.inl rfl)) (pgs_cons (pg_name (i := 4) sc_rows_in.nd rfl (.inl rfl)) pgs_nil)))))
      (pss_cons (ps_setLc (i := 6) (own := [("end", 5)]) (g := gName 5) (by rfl) sc_rows_in.nd rfl rfl (sw_true rfl rfl rfl (by decide +kernel)) (pi_range1 (by rfl) T.range (pa_cons (pe_op op_mul pe_int (pe_ix ix_tup (pv 0) pe_int (fun _ _ => rfl))) pa_nil)) (blkOk_by (N := ["one", "other", "mates", "taken", "found", "end", "lasts", "row", "here"]) (sc := defScope s_rows_in) (by decide +kernel)) (fun _ _ _ _ _ => (pg_name (i := 5) sc_rows_in.nd rfl (.inl rfl))) (fun _ _ _ _ _ => (pts_one (pt_cmpR (show OpR _ _ (rIn K false) from op_in_seq) pe_non (pe_tup (pa_cons (pe_ix (show IxR _ (rIxL K) from ix_list) (pe_ix (show IxR _ (rIxT K) from ix_tup) (pv 2) pe_int (fun _ _ => rfl)) (pv 5) (fun _ _ => rfl)) (pa_cons (pe_ix (show IxR _ (rIxL K) from ix_list) (pe_ix (show IxR _ (rIxT K) from ix_tup) (pv 2) pe_int (fun _ _ => rfl)) (pv 5) (fun _ _ => rfl)) pa_nil))) (by rfl)))) (fun _ _ _ _ _ => (pv 5)))
      (pss_cons (ps_for PassesOwn.never rfl (pi_list (pe_op op_cat (pv 6) (pe_listRg rfl (by rfl) T.list (prg_1 (by rfl) T.range (pe_op op_mul pe_int (pe_ix ix_tup (pv 0) pe_int (fun _ _ => rfl))))))) (pg_name (i := 5) sc_rows_in.nd rfl (.inl rfl)) (pss_one (ps_if (pt_cmp (pc_dnotin (hu_of hr) (pv 5) (pv 3))) (pss_cons (ps_set (i := 7) sc_rows_in.nd rfl (.inl rfl) (pe_c C_row_from hr (by rfl) (pa_cons (pv 2) (pa_cons (pv 5) (pa_cons (pe_ifExp (pt_cmp (pc_isN (pe_ix ix_list (pe_ix ix_tup (pv 2) pe_int (fun _ _ => rfl)) (pv 5) (fun _ _ => rfl)))) pe_int pe_int) pa_nil)))))
      (pss_cons (ps_expr (pe_bm PySem.F.plainAttrs_dict PySem.F.slot_dict_update PySem.F.type_dict_update mt_update (pv 3) (pa_cons (pe_dc (own := [("here", 8)]) (g := gName 8) (tt := tYes) (by rfl) sc_rows_in.nd (pi_list (pv 7)) (blkOk_by (N := ["one", "other", "mates", "taken", "found", "end", "lasts", "row", "here"]) (sc := defScope s_rows_in) (by decide +kernel)) (fun _ _ _ _ _ => (pg_name (i := 8) sc_rows_in.nd rfl (.inl rfl))) (fun _ _ _ _ _ => pts_nil) (fun _ _ _ _ _ => (pv 8)) (fun _ _ _ _ _ => pe_bl)) pa_nil)))
      (pss_one (ps_expr (pe_bm PySem.F.plainAttrs_list PySem.F.slot_list_append PySem.F.type_list_append mt_append (pv 4) (pa_cons (pe_callTy call_tuple_of (by rfl) T.tuple (by decide +kernel) (pa_cons (pv 7) pa_nil)) pa_nil)))))) pss_nil)))
      (pss_one (ps_ret (pe_callB (call_sortedD hr.units) (by rfl) T.sorted (by decide +kernel) (pa_cons (pv 4) pa_nil))))))), ?_⟩
  refine ⟨_, rfl, _, L, rfl, hd, hL, fun p0 H1 s1 h0 => ?_⟩
  refine ⟨_, rfl, _, M, rfl, s1.dp he, hM, fun p1 H2 s2 h1 => ?_⟩
  refine ⟨small_sz (by simp), fun m nm => ?_⟩
  have s3 := s2.trans (same_new (o := .tup [.ref p0, .ref p1]) nm)
  have s4 := s1.trans s3
  have hm : (upd H2 m (.tup [.ref p0, .ref p1])) m = some (.tup [.ref p0, .ref p1]) := upd_same
  have g0 := s3 _ _ h0
  have g1 := same_new (o := .tup [.ref p0, .ref p1]) nm _ _ h1
  rw [← en] at g1
  generalize upd H2 m (.tup [.ref p0, .ref p1]) = H3 at *
  refine fun d nd => ⟨small_sz (by simp), fun t nt => ⟨small_sz (by simp), fun z nz => ⟨z, _, rfl, .inl (.inl upd_same), rfl, _, _, rfl, _, _, rfl, _, _, rfl, rfl, ?_⟩⟩⟩
  have ndt : d ≠ t := fun e => by rw [← e, upd_same] at nt; cases nt
  have nt3 : H3 t = none := by rwa [upd_ne (Ne.symm ndt)] at nt
  have nd0 : H d = none := s4.none nd
  have nt0 : H t = none := s4.none nt3
  have s5 := ((same_new (o := .dK []) nd).trans (same_new (o := .lst []) nt)).trans (same_new (o := .tup [.ref m, .ref d, .ref t]) nz)
  have hd4 : (upd (upd (upd H3 d (.dK [])) t (.lst [])) z (.tup [.ref m, .ref d, .ref t])) d = some (.dK []) := same_new (o := .tup [.ref m, .ref d, .ref t]) nz _ _ (by rw [upd_ne ndt, upd_same])
  have ht4 : (upd (upd (upd H3 d (.dK [])) t (.lst [])) z (.tup [.ref m, .ref d, .ref t])) t = some (.lst []) := same_new (o := .tup [.ref m, .ref d, .ref t]) nz _ _ upd_same
  generalize upd (upd (upd H3 d (.dK [])) t (.lst [])) z (.tup [.ref m, .ref d, .ref t]) = H4 at *
  refine ⟨_, rfl, a, _, _, _, rfl, rfl, (s4.trans s5).sq hA, at0, _, _, rfl, rfl, .inl ⟨by decide, by decide⟩, _, rfl, by omega, by omega, ?_⟩
  rw [eN]
  refine fun l nl => lc_range (fun i H' => Same H4 H' ∧ H' l = some (.lst (nV ((List.range i).filter (isLast L.2 M.2))))) ⟨same_new nl, upd_same⟩ ?_ ?_
  · rintro i H' hiN ⟨sm, hl⟩
    have hiN : i < 2 * L.1 := by omega
    have s6 := s5.trans sm
    refine ⟨rfl, ?_⟩
    refine ⟨_, rfl, m, _, _, _, rfl, rfl, .inl (.inl (s6 _ _ hm)), at0, _, rfl, p0, _, _, _, rfl, rfl, .inl (.inl (s6 _ _ g0)), by rw [Int.zero_add]; exact mates_at hiN, ?_⟩
    refine ⟨_, rfl, m, _, _, _, rfl, rfl, .inl (.inl (s6 _ _ hm)), at1, _, rfl, p1, _, _, _, rfl, rfl, .inl (.inl (s6 _ _ g1)), by rw [Int.zero_add]; exact mates_at hiN, ?_⟩
    refine ⟨small_sz (by simp), fun z2 nz2 => ⟨z2, _, rfl, .inr (.inl (.inl upd_same)), rfl, flat_two _ _ _, _, rfl, ?_⟩⟩
    have s7 := sm.trans (same_new (o := .tup [mate L.2 i, mate M.2 i]) nz2)
    have hl7 := same_new (o := .tup [mate L.2 i, mate M.2 i]) nz2 _ _ hl
    generalize upd H' z2 (.tup [mate L.2 i, mate M.2 i]) = H5 at *
    by_cases c : fn L.2 i = i ∨ fn M.2 i = i
    · refine itet (by rw [in_two]; exact decide_eq_true c) ?_
      refine ⟨_, rfl, _, hl7, small_lt (by rw [nV_len]; have := List.length_filter_le (isLast L.2 M.2) (List.range i); rw [List.length_range] at this; omega), s7.wr nl, ?_⟩
      rw [upd_same, filt_succ, if_pos (by exact decide_eq_true c), Int.zero_add, ← nV_app]
      rfl
    · refine itef (by rw [in_two]; exact decide_eq_false c) ?_
      refine ⟨s7, ?_⟩
      rw [hl7, filt_succ, if_neg (by simp [isLast, c]), List.append_nil]
  · rintro H5 ⟨s6, hl⟩
    have et : ((2 * L.1 : Nat) : Int).toNat = 2 * L.1 := by omega
    rw [et] at hl
    refine ⟨_, rfl, _, rfl, a, _, _, _, rfl, rfl, (s4.trans (s5.trans s6)).sq hA, at0, _, _, rfl, rfl, .inl ⟨by decide, by decide⟩, _, rfl, ?_⟩
    rw [eN]
    refine ⟨⟨by omega, by omega, by omega, by omega, by omega⟩, fun qa nq => ?_⟩
    rw [rgV_nV]
    have hll : ((List.range (2 * L.1)).filter (isLast L.2 M.2)).length ≤ 2 * L.1 := by
      have := List.length_filter_le (isLast L.2 M.2) (List.range (2 * L.1))
      rwa [List.length_range] at this
    refine ⟨l, qa, _, _, rfl, rfl, same_new nq _ _ hl, upd_same, small_sz (by rw [nV_len, nV_len, List.length_range]; omega), fun r nr => ⟨r, rfl, ⟨_, .inl (.inl upd_same)⟩, ?_⟩⟩
    rw [nV_app]
    have s7 := (same_new (o := .lst (nV (List.range (2 * L.1)))) nq).trans (same_new (o := .lst (nV ((List.range (2 * L.1)).filter (isLast L.2 M.2) ++ List.range (2 * L.1)))) nr)
    have hrr : (upd (upd H5 qa (.lst (nV (List.range (2 * L.1))))) r (.lst (nV ((List.range (2 * L.1)).filter (isLast L.2 M.2) ++ List.range (2 * L.1))))) r = _ := upd_same
    have ndr : d ≠ r := ne_of_none (same_new nq _ _ (s6 _ _ hd4)) nr
    have ntr : t ≠ r := ne_of_none (same_new nq _ _ (s6 _ _ ht4)) nr
    generalize upd (upd H5 qa (.lst (nV (List.range (2 * L.1))))) r (.lst (nV ((List.range (2 * L.1)).filter (isLast L.2 M.2) ++ List.range (2 * L.1)))) = Hb at *
    have s8 := (s5.trans s6).trans s7
    have sH : Same H (hid2 Hb d t) := same_hid2 (s4.trans s8) nd0 nt0
    have w0 : hid2 Hb d t p0 = _ := hid2_of (s8 _ _ g0) (ne_of_none g0 nd) (ne_of_none g0 nt3)
    have w1 : hid2 Hb d t p1 = _ := hid2_of (s8 _ _ g1) (ne_of_none g1 nd) (ne_of_none g1 nt3)
    have wm : hid2 Hb d t m = _ := hid2_of (s8 _ _ hm) (ne_of_none hm nd) (ne_of_none hm nt3)
    have wr : hid2 Hb d t r = _ := hid2_of hrr (Ne.symm ndr) (Ne.symm ntr)
    have hdb := (s6.trans s7) _ _ hd4
    have htb := (s6.trans s7) _ _ ht4
    have sw : Same (hid2 Hb d t) Hb := hid2_same
    have wd : hid2 Hb d t d = none := hid2_d
    have wt : hid2 Hb d t t = none := hid2_t
    generalize hid2 Hb d t = Hw at *
    have hfl : ∀ x, x ∈ (List.range (2 * L.1)).filter (isLast L.2 M.2) ↔ x < 2 * L.1 ∧ (fn L.2 x = x ∨ fn M.2 x = x) := fun x => by simp [isLast]
    generalize hzs : (List.range (2 * L.1)).filter (isLast L.2 M.2) ++ List.range (2 * L.1) = zs at *
    have zlt : ∀ x ∈ zs, x < 2 * L.1 := fun x hx => by
      rw [← hzs, List.mem_append] at hx
      rcases hx with hx | hx
      · exact ((hfl x).mp hx).1
      · simpa using hx
    have gA := hL.ok.good
    have gB : Good (2 * L.1) M.2 := by rw [en]; exact hM.ok.good
    refine for_list (K := K) (a := r) (xs := nV zs) (fun i σ H' => ∃ (Ps : List (List Nat)) (acc : List V) (kvs : List (Key × V)) (y5 y7 y8 : Option V), σ = [some (.ref a), some u, some (.ref m), some (.ref d), some (.ref t), y5, some (.ref l), y7, y8] ∧
      Same Hw H' ∧ RI K L.2 M.2 (2 * L.1) d t zs i H' Ps acc kvs) ⟨[], [], [], none, none, none, rfl, sw, ⟨htb, .nil, hdb, Pre.nil _ _ _, by simp, fun x => by simp [valV_nil], by simp, by simp⟩⟩ ?_ ?_ ?_
    · rintro i σ H' _ ⟨_, _, _, _, _, _, _, sm, _⟩
      exact .inl (.inl (sm _ _ wr))
    · rintro i x σ H' hx' ⟨Ps, acc, kvs, y5, y7, y8, rfl, sm, R⟩
      obtain ⟨s, hs, rfl⟩ := nV_at hx'
      have sN := zlt s (List.mem_of_getElem? hs)
      have tk : ∀ x, x ∈ zs.take (i + 1) ↔ x ∈ zs.take i ∨ x = s := fun x => by
        rw [List.take_add_one, hs, List.mem_append]
        simp
      refine ⟨_, rfl, _, rfl, d, _, rfl, DGet.k (k := Sum.inl (s : Int)) R.hd, _, rfl, ?_⟩
      by_cases cv : s ∈ Ps.flatten
      · refine itef (by rw [(R.ks s).mpr ⟨s, cv, rfl⟩]; rfl) ?_
        exact ⟨Ps, acc, kvs, _, _, _, rfl, sm, ⟨R.ht, R.dp, R.hd, R.pre, R.kl, R.ks, fun x hx => by
          rcases (tk x).mp hx with h | rfl
          · exact R.cov x h
          · exact cv, R.rg⟩⟩
      · refine itet (by
          cases e : valV kvs (Sum.inl (s : Int)) with
          | none => rfl
          | some y =>
            obtain ⟨e', h1, h2⟩ := (R.ks s).mp (by rw [e]; rfl)
            exact absurd (by rwa [show s = e' by omega]) cv) ?_
        refine ⟨_, rfl, _, rfl, _, rfl, m, _, _, _, rfl, rfl, .inl (.inl (sm _ _ wm)), at0, _, rfl, p0, _, _, _, rfl, rfl, .inl (.inl (sm _ _ w0)), mates_at sN, _, rfl, if_bi ?_⟩
        refine ⟨m, p0, p1, 2 * L.1, s, L.2, M.2, _, rfl, .inl (.inl (sm _ _ wm)), sm _ _ w0, sm _ _ w1, gA, gB, sN, by omega, fun r2 H6 mm sm6 st nst hr2 => ?_⟩
        rw [is_non] at st nst hr2
        have PR := Pre.row (fn_pl gA) (fn_pl gB) R.pre sN cv (b := decide (fn L.2 s = s)) (by
          by_cases c1 : fn L.2 s = s
          · exact .inl (by rw [decide_eq_true c1]; exact c1)
          · by_cases c2 : fn M.2 s = s
            · exact .inl (by rw [decide_eq_false c1]; exact c2)
            · refine .inr fun x hx hf => R.cov x ?_
              have hxF := (hfl x).mpr ⟨hx, hf⟩
              have nsF : s ∉ (List.range (2 * L.1)).filter (isLast L.2 M.2) := fun z => ((hfl s).mp z).2.elim c1 c2
              generalize (List.range (2 * L.1)).filter (isLast L.2 M.2) = F at *
              have hiF : F.length ≤ i := by
                by_cases c3 : i < F.length
                · rw [← hzs, List.getElem?_append_left c3] at hs
                  exact absurd (List.mem_of_getElem? hs) nsF
                · omega
              rw [← hzs, List.take_append, List.take_of_length_le hiF]
              exact List.mem_append_left _ hxF) st nst
        obtain ⟨rt, ert⟩ := row_head (two (fn L.2) (fn M.2)) s (decide (fn L.2 s = s)) mm
        generalize Dm.rowOf (two (fn L.2) (fn M.2)) s (decide (fn L.2 s = s)) mm = row at *
        have hrl : row.length ≤ 24 := by
          have h1 := length_le PR.1.nd PR.1.lt
          rw [List.flatten_append, List.length_append] at h1
          simp at h1
          omega
        have hpl : Ps.flatten.length ≤ 24 := by
          have h1 := length_le R.pre.nd R.pre.lt
          omega
        have sm7 := sm.trans sm6
        have hd6 := sm6 _ _ R.hd
        have ht6 := sm6 _ _ R.ht
        have dp6 := sm6.dps R.dp
        refine ⟨_, rfl, .inr (.inr (.inl ⟨rfl, .inl ⟨_, hd6⟩⟩)), ?_⟩
        refine ⟨_, rfl, r2, rfl, ⟨_, .inl (.inl hr2)⟩, fun ud nud => dc_list (K := K) (a := r2) (xs := nV row) (fun j H7 => Same H6 H7 ∧ ∃ more, H7 ud = some (.dK more) ∧ more.length ≤ j ∧ ∀ x : Int, (valV more (.inl x)).isSome = true ↔ ∃ e ∈ row.take j, x = (e : Int))
          ⟨same_new nud, [], upd_same, by simp, fun x => by simp [valV_nil]⟩ (fun j H7 _ h7 => .inl (.inl (h7.1 _ _ hr2))) ?_ ?_⟩
        · rintro j y H7 hy ⟨s7', more, hu, ml, mk⟩
          obtain ⟨y, hy', rfl⟩ := nV_at hy
          have hj : j < row.length := (List.getElem?_eq_some_iff.mp hy').1
          refine ⟨rfl, yes_then ?_⟩
          refine ⟨_, rfl, _, Sum.inl (y : Int), rfl, hu, small_lt (by omega), s7'.wr nud, _, upd_same, ?_, ?_⟩
          · have := length_putK more (Sum.inl (y : Int)) (.bl true)
            omega
          · intro x
            rw [valV_put, List.take_add_one, hy']
            by_cases c : x = (y : Int)
            · rw [if_pos (by rw [c])]
              simp only [Option.isSome_some, true_iff]
              exact ⟨y, by simp, c⟩
            · rw [if_neg (fun z => c (Sum.inl.inj z)), mk]
              constructor
              · rintro ⟨e, he, rfl⟩
                exact ⟨e, List.mem_append_left _ he, rfl⟩
              · rintro ⟨e, he, rfl⟩
                rcases List.mem_append.mp he with he | he
                · exact ⟨e, he, rfl⟩
                · simp at he
                  exact absurd (by rw [he]) c
        · rintro H7 ⟨s7', more, hu, ml, mk⟩
          rw [nV_len] at ml mk
          rw [List.take_length] at mk
          have ndu : d ≠ ud := ne_of_none hd6 nud
          refine ⟨d, ud, kvs, more, rfl, rfl, s7' _ _ hd6, hu, ndu, small_sz (by have := R.kl; omega), ?_⟩
          have hd7 := s7' _ _ hd6
          have ht7 := s7' _ _ ht6
          have hr7 := s7' _ _ hr2
          have dp7 := s7'.dps dp6
          have ndt' : t ≠ d := Ne.symm ndt
          have ndr2 : r2 ≠ d := fun e => by rw [e, hd7] at hr7; cases hr7
          have ht8 : (upd H7 d (.dK (mergeK kvs more))) t = some (.lst acc) := by rw [upd_ne ndt']; exact ht7
          have hd8 : (upd H7 d (.dK (mergeK kvs more))) d = some (.dK (mergeK kvs more)) := upd_same
          have hr8 : (upd H7 d (.dK (mergeK kvs more))) r2 = some (.lst (nV row)) := by rw [upd_ne ndr2]; exact hr7
          have dp8 := DpAll.tps (tps_dk (o := .dK (mergeK kvs more)) hd7) (nols_map nol_r Ps) dp7
          have sm8 : Same Hw (upd H7 d (.dK (mergeK kvs more))) := (sm7.trans s7').wr wd
          generalize upd H7 d (.dK (mergeK kvs more)) = H8 at *
          refine ⟨_, rfl, .inl ⟨rfl, _, .inl (.inl ht8)⟩, _, rfl, r2, _, rfl, .inl ⟨.inl (.inl hr8), fun l2 nl2 => ?_⟩⟩
          have s9 := same_new (o := .tup (nV row)) nl2
          have ht9 := s9 _ _ ht8
          have hd9 := s9 _ _ hd8
          have hl9 : (upd H8 l2 (.tup (nV row))) l2 = some (.tup (nV row)) := upd_same
          have dp9 := s9.dps dp8
          have sm9 := sm8.trans s9
          generalize upd H8 l2 (.tup (nV row)) = H9 at *
          have al := DpAll.len dp9
          rw [List.length_map] at al
          have hPs : Ps.length ≤ 24 := by
            have : ∀ Q : List (List Nat), (∀ c ∈ Q, c ≠ []) → Q.length ≤ Q.flatten.length := by
              intro Q
              induction Q with
              | nil => intro _; simp
              | cons c Q ih =>
                intro h
                have h1 := ih fun x hx => h x (List.mem_cons_of_mem _ hx)
                have h2 : 0 < c.length := List.length_pos_iff.mpr (h c List.mem_cons_self)
                simp only [List.flatten_cons, List.length_append, List.length_cons]
                omega
            have := this Ps R.pre.ne
            omega
          refine ⟨t, _, _, rfl, rfl, ht9, small_lt (by omega), ?_⟩
          have tp := tps_lst (o := .lst (acc ++ [.ref l2])) ht9
          refine ⟨Ps ++ [row], acc ++ [.ref l2], mergeK kvs more, _, _, _, rfl, sm9.wr wt, ⟨upd_same, ?_, by rw [upd_ne ndt]; exact hd9, PR.1, ?_, ?_, ?_, ?_⟩⟩
          · rw [List.map_append]
            exact DpAll.app (DpAll.tps tp (nols_map nol_r Ps) dp9) (.cons (row_mk (tp.t (.inl (.inl hl9)))) .nil)
          · have h1 := length_mergeK more kvs
            have h2 := R.kl
            rw [List.flatten_append, List.length_append]
            have h3 : [row].flatten.length = row.length := by simp
            omega
          · intro x
            rw [merge_some, any_val, Bool.or_eq_true, R.ks, mk]
            constructor
            · rintro (⟨e, he, rfl⟩ | ⟨e, he, rfl⟩)
              · exact ⟨e, flat_snoc.mpr (.inl he), rfl⟩
              · exact ⟨e, flat_snoc.mpr (.inr he), rfl⟩
            · rintro ⟨e, he, rfl⟩
              rcases flat_snoc.mp he with he | he
              · exact .inl ⟨e, he, rfl⟩
              · exact .inr ⟨e, he, rfl⟩
          · intro x hx
            rw [flat_snoc]
            rcases (tk x).mp hx with h | rfl
            · exact .inl (R.cov x h)
            · exact .inr (by rw [ert]; exact List.mem_cons_self)
          · intro c hc
            rcases List.mem_append.mp hc with hc | hc
            · exact R.rg c hc
            · rw [List.mem_singleton] at hc
              subst hc
              exact ⟨s, rt, ert, PR.2⟩
    · rintro σ H' ⟨Ps, acc, kvs, y5, y7, y8, rfl, sm, R⟩
      have hcov : ∀ x, x < 2 * L.1 → x ∈ Ps.flatten := fun x hx => R.cov x (by
        rw [nV_len, List.take_length, ← hzs]
        exact List.mem_append_right _ (by simpa using hx))
      refine ⟨_, rfl, t, acc, _, rfl, .inl (.inl R.ht), R.dp, allAlike_map alike_r Ps, .inl ?_, ?_, fun ys p hys np => ?_⟩
      · intro e he
        obtain ⟨c, hc, rfl⟩ := List.mem_map.mp he
        obtain ⟨s, rr, e1, _⟩ := R.rg c hc
        rw [e1]
        exact ⟨_, _, rfl⟩
      · intro e he
        obtain ⟨c, hc, rfl⟩ := List.mem_map.mp he
        have := eR_depth c
        omega
      · obtain ⟨Qs, pm, eq⟩ := srtD_perm eR Ps
        rw [eq] at hys
        exact q p _ ys Qs ((sH.trans sm).trans (same_new np)) upd_same ((same_new np).dps hys) ((R.pre.part hcov).perm pm.symm) fun c hc => R.rg c (pm.mem_iff.mp hc)
end
end DC
namespace DC
open PySem PySem.Spec PyProof.Rows L2 Dm
def pcD (A B : List Jt) (c : List Nat) : PyData := .tuple [.str (kindS A B (c.headD 0) c.length), .int (c.length : Int)]
def pcS (k : Str) (n : Nat) : PyData := .tuple [.str k, .int (n : Int)]
theorem take_succ_map {α β : Type} (g : α → β) {xs : List α} {i : Nat} {x : α} (h : xs[i]? = some x) : (xs.take (i + 1)).map g = (xs.take i).map g ++ [g x] := by
  rw [List.take_add_one, h]
  simp
theorem map_at {α β : Type} {g : α → β} {xs : List α} {i : Nat} {y : β} (h : (xs.map g)[i]? = some y) : ∃ x, xs[i]? = some x ∧ y = g x := by
  simp only [List.getElem?_map, Option.map_eq_some_iff] at h
  obtain ⟨x, h1, h2⟩ := h
  exact ⟨x, h1, h2.symm⟩
theorem nol_pc (A B : List Jt) (c : List Nat) : nol (pcD A B c) = true := by simp [pcD, nol, nols]
theorem alike_pc {A B A' B' : List Jt} (c d : List Nat) : PySem.W.alike (pcD A B c) (pcD A' B' d) = true := by simp [pcD, PySem.W.alike, PySem.W.alikeAll]
theorem pc_depth (A B : List Jt) (c : List Nat) : (pcD A B c).depth ≤ 50 := by simp [pcD, PyData.depth, PyData.depthAll]
theorem kind_ring {A B : List Jt} {s n : Nat} : kindS A B s n = "ring" ↔ fn A s ≠ s ∧ fn B s ≠ s := by
  unfold kindS
  by_cases h : fn A s = s ∨ fn B s = s
  · rw [if_pos h]
    constructor
    · intro e
      exfalso
      split at e
      · exact absurd e (by decide)
      · split at e
        · exact absurd e (by decide)
        · exact absurd e (by decide)
    · rintro ⟨h1, h2⟩
      exact (h.elim h1 h2).elim
  · rw [if_neg h]
    exact ⟨fun _ => ⟨fun z => h (.inl z), fun z => h (.inr z)⟩, fun _ => rfl⟩
theorem flat_len {Q : List (List Nat)} (h : ∀ c ∈ Q, c ≠ []) : Q.length ≤ Q.flatten.length := by
  induction Q with
  | nil => simp
  | cons c Q ih =>
    have h1 := ih fun x hx => h x (List.mem_cons_of_mem _ hx)
    have h2 : 0 < c.length := List.length_pos_iff.mpr (h c List.mem_cons_self)
    simp only [List.flatten_cons, List.length_append, List.length_cons]
    omega
/-- the pieces of two lays -/
structure Pcs (A B : List Jt) (N : Nat) (Ps : List (List Nat)) : Prop where
  part : Part N (fn A) (fn B) Ps
  rg : ∀ c ∈ Ps, ∃ s r, c = s :: r ∧ (ring (fn A) (fn B) c = true ↔ fn A s ≠ s ∧ fn B s ≠ s)
theorem Pcs.perm {A B : List Jt} {N : Nat} {Ps Qs : List (List Nat)} (h : Pcs A B N Ps) (p : Ps.Perm Qs) : Pcs A B N Qs := ⟨h.part.perm p, fun c hc => h.rg c (p.mem_iff.mpr hc)⟩
theorem Pcs.lt {A B : List Jt} {N : Nat} {Ps : List (List Nat)} (h : Pcs A B N Ps) {c : List Nat} (hc : c ∈ Ps) {x : Nat} (hx : x ∈ c) : x < N := (h.part.cov x).mp (List.mem_flatten.mpr ⟨c, hc, hx⟩)
theorem Pcs.few {A B : List Jt} {N : Nat} {Ps : List (List Nat)} (h : Pcs A B N Ps) : Ps.length ≤ N := by
  have h1 := flat_len (Q := Ps) fun c hc => by
    obtain ⟨s, r, e, _⟩ := h.rg c hc
    rw [e]
    simp
  have h2 := length_le h.part.nd fun x hx => (h.part.cov x).mp hx
  omega
section
variable {P : Program} {w : World} {K : PySem.W.Frag} {mg : Str → Option Value} {base : Heap} {f : Addr} {fd : FuncData}
def sp_pieces_in (K : PySem.W.Frag) : Sp := fun vs H Q _ => ∃ (v u : V) (L M : Lay), vs = [v, u] ∧ Dp K H v (eLay L) ∧ Dp K H u (eLay M) ∧ LayOk L ∧ LayOk M ∧ L.1 = M.1 ∧
  ∀ p H' acc (Ps : List (List Nat)), Same H H' → H' p = some (.lst acc) → DpAll K H' acc (Ps.map (pcD L.2 M.2)) → Pcs L.2 M.2 (2 * L.1) Ps → Q (.ref p) H'
abbrev C10 (P : Program) (w : World) (K : PySem.W.Frag) (mg : Str → Option Value) (base : Heap) : Prop := Cal P w K mg base 3 "pieces_in" ["one", "other"] (sp_pieces_in K)
theorem ok_pieces_in (D : Df K mg "pieces_in" s_pieces_in ["one", "other"] f fd) (T : Tx mg) (C_kind_of : C8 P w K mg base) (C_rows_in : C9 P w K mg base) : C10 P w K mg base := by
  refine D.cal (D.F.ok sc_pieces_in (fun vs H Q E h => ?_) (fun cdv A outer s H vs Q E hr h => ?_))
  · obtain ⟨v, u, L, M, rfl, _⟩ := h
    rfl
  obtain ⟨v, u, L, M, rfl, hd, he, hL, hM, en, q⟩ := h
  have hi := hL.hi
  refine ⟨_, (pss_one (ps_ret (pe_callB (call_sortedD hr.units) (by rfl) T.sorted (by decide +kernel) (pa_cons (pe_lc (own := [("row", 2)]) (g := gName 2) (tt := tYes) (by rfl) sc_pieces_in.nd (pi_list (pe_c C_rows_in hr (by rfl) (pa_cons (pv 0) (pa_cons (pv 1) pa_nil)))) (blkOk_by (N := ["one", "other", "row"]) (sc := defScope s_pieces_in) (by decide +kernel)) (fun _ _ _ _ _ => (pg_name (i := 2) sc_pieces_in.nd rfl (.inl rfl))) (fun _ _ _ _ _ => pts_nil) (fun _ _ _ _ _ => (pe_tup (pa_cons (pe_c C_kind_of hr (by rfl) (pa_cons (pv 0) (pa_cons (pv 1) (pa_cons (pv 2) pa_nil)))) (pa_cons (pe_callB (show CallR _ _ (rLenK K) from call_len_seq) (by rfl) T.len (by decide +kernel) (pa_cons (pv 2) pa_nil)) pa_nil))))) pa_nil)))), ?_⟩
  refine ⟨_, rfl, _, rfl, v, u, L, M, rfl, hd, he, hL, hM, en, fun p H1 acc Ps s1 hp dp part rg => ⟨p, rfl, ⟨_, .inl (.inl hp)⟩, fun D nD => lc_list (K := K) (a := p) (xs := acc)
    (fun i H' => Acc K H1 D ((Ps.take i).map (pcD L.2 M.2)) H') (Acc.start nD) (fun i H' _ h => .inl (.inl (h.1 _ _ hp))) ?_ ?_⟩⟩
  · intro i x H' hx A
    obtain ⟨d, e1, hxd⟩ := DpAll.at dp hx
    obtain ⟨c, hc, rfl⟩ := map_at e1
    have cm := List.mem_of_getElem? hc
    obtain ⟨s, rr, rfl, _⟩ := rg c cm
    have sl : s < 2 * L.1 := (part.cov s).mp (List.mem_flatten.mpr ⟨_, cm, List.mem_cons_self⟩)
    have s2 := s1.trans A.1
    refine ⟨rfl, yes_then ?_⟩
    refine ⟨_, rfl, _, rfl, _, rfl, v, u, x, L, M, s, rr, rfl, s2.dp hd, s2.dp he, hL, hM, en, A.1.dp hxd, sl, fun H2 s3 => ?_⟩
    obtain ⟨ra, rfl, hR⟩ := row_open (s3.dp (A.1.dp hxd))
    refine ⟨_, rfl, ra, _, rfl, .inr hR, small_sz (by simp), fun z nz => ?_⟩
    have s4 := same_new (o := .tup [.str (kindS L.2 M.2 s (s :: rr).length), .int ((nV (s :: rr)).length : Nat)]) nz
    have hy : Dp K (upd H2 z (.tup [.str (kindS L.2 M.2 s (s :: rr).length), .int ((nV (s :: rr)).length : Nat)])) (.ref z) (pcD L.2 M.2 (s :: rr)) := by
      refine .tup (.inl (.inl upd_same)) (.cons (.str _) (.cons ?_ .nil))
      rw [nV_len]
      exact .int _
    have st := Acc.step A nD (s3.trans s4) hy (nols_map (nol_pc _ _) _) (nol_pc _ _ _) (by
      have h1 := (Pcs.mk part rg).few
      rw [List.length_map, List.length_take]
      omega)
    rw [← take_succ_map (pcD L.2 M.2) hc] at st
    exact st
  · intro H' A
    have e : Ps.take acc.length = Ps := by
      have := DpAll.len dp
      rw [List.length_map] at this
      rw [this, List.take_length]
    rw [e] at A
    obtain ⟨sm, acc2, hD, dp2⟩ := A
    refine ⟨D, acc2, _, rfl, .inl (.inl hD), dp2, allAlike_map alike_pc Ps, .inl ?_, ?_, fun ys p' hys np => ?_⟩
    · intro e he
      obtain ⟨c, hc, rfl⟩ := List.mem_map.mp he
      exact ⟨_, _, rfl⟩
    · intro e he
      obtain ⟨c, hc, rfl⟩ := List.mem_map.mp he
      exact pc_depth _ _ _
    · obtain ⟨Qs, pm, eq⟩ := srtD_perm (pcD L.2 M.2) Ps
      rw [eq] at hys
      exact q p' _ ys Qs ((s1.trans sm).trans (same_new np)) upd_same ((same_new np).dps hys) ((Pcs.mk part rg).perm pm.symm)
def sp_cost_of (K : PySem.W.Frag) : Sp := fun vs H Q _ => ∃ (v : V) (k : Str) (n : Nat), vs = [v] ∧ Dp K H v (pcS k n) ∧ Q (.int ((n : Int) / 2 - bi (decide (k = "ring")))) H
abbrev C11 (P : Program) (w : World) (K : PySem.W.Frag) (mg : Str → Option Value) (base : Heap) : Prop := Cal P w K mg base 1 "cost_of" ["piece"] (sp_cost_of K)
theorem pc_open {K : PySem.W.Frag} {H : Hp} {v : V} {k : Str} {n : Nat} (h : Dp K H v (pcS k n)) : ∃ a, v = .ref a ∧ SqT K H a [.str k, .int (n : Int)] := by
  have h' : Dp K H v (.tuple [.str k, .int (n : Int)]) := h
  cases h' with
  | @tup a xs _ hs ha =>
    cases ha with
    | cons h1 h2 =>
      cases h1
      cases h2 with
      | cons h3 h4 =>
        cases h4
        cases h3
        exact ⟨a, rfl, hs⟩
theorem ok_cost_of (D : Df K mg "cost_of" s_cost_of ["piece"] f fd) (T : Tx mg) : C11 P w K mg base := by
  refine D.cal (D.F.ok sc_cost_of (fun vs H Q E h => ?_) (fun cdv A outer s H vs Q E hr h => ?_))
  · obtain ⟨v, k, n, rfl, _⟩ := h
    rfl
  obtain ⟨v, k, n, rfl, hd, q⟩ := h
  obtain ⟨a, rfl, hS⟩ := pc_open hd
  refine ⟨_, (pss_one (ps_ret (pe_op op_sub (pe_op op_fdiv (pe_ix ix_tup (pv 0) pe_int (fun _ _ => rfl)) pe_int) (pe_ifExp (pt_cmpR op_eq (pe_ix ix_tup (pv 0) pe_int (fun _ _ => rfl)) (pe_gs T.RING (by rfl)) (nomark _)) pe_int pe_int)))), ?_⟩
  refine ⟨_, rfl, a, _, _, _, rfl, rfl, hS, at1, _, _, rfl, rfl, ⟨by decide, by decide⟩, _, rfl, a, _, _, _, rfl, rfl, hS, at0, rfl, _, rfl, if_bi ?_⟩
  refine ⟨_, _, rfl, rfl, ?_⟩
  simpa using q
theorem cost_sum {A B : List Jt} {N : Nat} {Ps : List (List Nat)} (gA : Good N A) (gB : Good N B) (h : Pcs A B N Ps) : (Ps.map fun c => ((c.length : Nat) : Int) / 2 - bi (decide (kindS A B (c.headD 0) c.length = "ring"))).sum = dst N A B := by
  rw [← sum_dst gA gB h.part]
  congr 1
  refine List.map_congr_left fun c hc => ?_
  obtain ⟨s, r, rfl, hr⟩ := h.rg c hc
  have e : bi (decide (kindS A B ((s :: r).headD 0) (s :: r).length = "ring")) = ringI (fn A) (fn B) (s :: r) := by
    have e1 : (s :: r).headD 0 = s := rfl
    rw [e1]
    unfold bi ringI
    by_cases c1 : ring (fn A) (fn B) (s :: r) = true
    · rw [if_pos c1, if_pos (decide_eq_true (kind_ring.mpr (hr.mp c1)))]
    · rw [if_neg c1, if_neg]
      intro z
      exact c1 (hr.mpr (kind_ring.mp (of_decide_eq_true z)))
  rw [e]
  omega
def sp_cost_in (K : PySem.W.Frag) : Sp := fun vs H Q _ => ∃ (v u : V) (L M : Lay), vs = [v, u] ∧ Dp K H v (eLay L) ∧ Dp K H u (eLay M) ∧ LayOk L ∧ LayOk M ∧ L.1 = M.1 ∧ ∀ H', Same H H' → Q (.int (dst (2 * L.1) L.2 M.2)) H'
abbrev C12 (P : Program) (w : World) (K : PySem.W.Frag) (mg : Str → Option Value) (base : Heap) : Prop := Cal P w K mg base 4 "cost_in" ["one", "other"] (sp_cost_in K)
theorem ok_cost_in (D : Df K mg "cost_in" s_cost_in ["one", "other"] f fd) (T : Tx mg) (C_pieces_in : C10 P w K mg base) (C_cost_of : C11 P w K mg base) : C12 P w K mg base := by
  refine D.cal (D.F.ok sc_cost_in (fun vs H Q E h => ?_) (fun cdv A outer s H vs Q E hr h => ?_))
  · obtain ⟨v, u, L, M, rfl, _⟩ := h
    rfl
  obtain ⟨v, u, L, M, rfl, hd, he, hL, hM, en, q⟩ := h
  have hi := hL.hi
  refine ⟨_, (pss_one (ps_ret (pe_callB (cr_sum rfl) (by rfl) T.sum (by decide +kernel) (pa_cons (pe_lc (own := [("piece", 2)]) (g := gName 2) (tt := tYes) (by rfl) sc_cost_in.nd (pi_list (pe_c C_pieces_in hr (by rfl) (pa_cons (pv 0) (pa_cons (pv 1) pa_nil)))) (blkOk_by (N := ["one", "other", "piece"]) (sc := defScope s_cost_in) (by decide +kernel)) (fun _ _ _ _ _ => (pg_name (i := 2) sc_cost_in.nd rfl (.inl rfl))) (fun _ _ _ _ _ => pts_nil) (fun _ _ _ _ _ => (pe_c C_cost_of (hr.mono (by decide)) (by rfl) (pa_cons (pv 2) pa_nil)))) pa_nil)))), ?_⟩
  refine ⟨_, rfl, _, rfl, v, u, L, M, rfl, hd, he, hL, hM, en, fun p H1 acc Ps s1 hp dp pcs => ⟨p, rfl, ⟨_, .inl (.inl hp)⟩, fun D nD => lc_list (K := K) (a := p) (xs := acc)
    (fun i H' => Acc K H1 D (((Ps.map fun c => ((c.length : Nat) : Int) / 2 - bi (decide (kindS L.2 M.2 (c.headD 0) c.length = "ring"))).take i).map PyData.int) H') (Acc.start nD) (fun i H' _ h => .inl (.inl (h.1 _ _ hp))) ?_ ?_⟩⟩
  · intro i x H' hx A
    obtain ⟨d, e1, hxd⟩ := DpAll.at dp hx
    obtain ⟨c, hc, rfl⟩ := map_at e1
    refine ⟨rfl, yes_then ?_⟩
    refine ⟨_, rfl, x, _, _, rfl, A.1.dp hxd, ?_⟩
    have st := Acc.step A nD (Same.refl _) (.int (((c.length : Nat) : Int) / 2 - bi (decide (kindS L.2 M.2 (c.headD 0) c.length = "ring")))) (nols_int _) rfl (by
      have h1 := pcs.few
      rw [List.length_map, List.length_take, List.length_map]
      omega)
    rw [← take_succ_map PyData.int (by rw [List.getElem?_map, hc]; rfl)] at st
    exact st
  · intro H' A
    have e := DpAll.len dp
    rw [List.length_map] at e
    rw [List.take_of_length_le (by rw [List.length_map]; omega)] at A
    obtain ⟨sm, acc2, hD, dp2⟩ := A
    have e2 := dps_int dp2
    rw [e2] at hD
    refine ⟨D, _, rfl, .inl (.inl hD), ?_⟩
    rw [cost_sum hL.ok.good (by rw [en]; exact hM.ok.good) pcs]
    exact q H' (s1.trans sm)
def sp_least_steps (K : PySem.W.Frag) : Sp := fun vs H Q _ => ∃ (v u : V) (L M : Lay), vs = [v, u] ∧ Dp K H v (eLay L) ∧ Dp K H u (eLay M) ∧ LayOk L ∧ LayOk M ∧ L.1 = M.1 ∧ ∀ H', Same H H' → Q (.int (dst (2 * L.1) L.2 M.2)) H'
abbrev C13 (P : Program) (w : World) (K : PySem.W.Frag) (mg : Str → Option Value) (base : Heap) : Prop := Cal P w K mg base 6 "least_steps" ["one", "other"] (sp_least_steps K)
theorem ok_least_steps (D : Df K mg "least_steps" s_least_steps ["one", "other"] f fd) (T : Tx mg) (C_need_two : C5 P w K mg base) (C_cost_in : C12 P w K mg base) : C13 P w K mg base := by
  refine D.cal (D.F.ok sc_least_steps (fun vs H Q E h => ?_) (fun cdv A outer s H vs Q E hr h => ?_))
  · obtain ⟨v, u, L, M, rfl, _⟩ := h
    rfl
  obtain ⟨v, u, L, M, rfl, hd, he, hL, hM, en, q⟩ := h
  refine ⟨_, (pss_cons (ps_expr (pe_c C_need_two hr (by rfl) (pa_cons (pv 0) (pa_cons (pv 1) pa_nil))))
      (pss_one (ps_ret (pe_c C_cost_in (hr.mono (by decide)) (by rfl) (pa_cons (pv 0) (pa_cons (pv 1) pa_nil)))))), ?_⟩
  refine ⟨_, rfl, _, rfl, v, u, L, M, rfl, hd, he, hL, hM, en, fun r H1 s1 => ?_⟩
  exact ⟨_, rfl, _, rfl, v, u, L, M, rfl, s1.dp hd, s1.dp he, hL, hM, en, fun H2 s2 => q H2 (s1.trans s2)⟩
def sp_is_between (K : PySem.W.Frag) : Sp := fun vs H Q _ => ∃ (v x u : V) (L Z M : Lay), vs = [v, x, u] ∧ Dp K H v (eLay L) ∧ Dp K H x (eLay Z) ∧ Dp K H u (eLay M) ∧ LayOk L ∧ LayOk Z ∧ LayOk M ∧ L.1 = Z.1 ∧ L.1 = M.1 ∧
  ∀ H', Same H H' → Q (.bl (decide (dst (2 * L.1) L.2 Z.2 + dst (2 * L.1) Z.2 M.2 = dst (2 * L.1) L.2 M.2))) H'
abbrev C14 (P : Program) (w : World) (K : PySem.W.Frag) (mg : Str → Option Value) (base : Heap) : Prop := Cal P w K mg base 6 "is_between" ["one", "third", "other"] (sp_is_between K)
theorem ok_is_between (D : Df K mg "is_between" s_is_between ["one", "third", "other"] f fd) (T : Tx mg) (C_need_lay : C4 P w K mg base) (C_need_two : C5 P w K mg base) (C_cost_in : C12 P w K mg base) : C14 P w K mg base := by
  refine D.cal (D.F.ok sc_is_between (fun vs H Q E h => ?_) (fun cdv A outer s H vs Q E hr h => ?_))
  · obtain ⟨v, x, u, L, Z, M, rfl, _⟩ := h
    rfl
  obtain ⟨v, x, u, L, Z, M, rfl, hd, hz, he, hL, hZ, hM, en1, en2, q⟩ := h
  refine ⟨_, (pss_cons (ps_for PassesOwn.never rfl (pi_tup (pe_tup (pa_cons (pv 0) (pa_cons (pv 1) (pa_cons (pv 2) pa_nil))))) (pg_name (i := 3) sc_is_between.nd rfl (.inl rfl)) (pss_one (ps_expr (pe_c C_need_lay (hr.mono (by decide)) (by rfl) (pa_cons (pv 3) pa_nil)))))
      (pss_cons (ps_expr (pe_c C_need_two hr (by rfl) (pa_cons (pv 0) (pa_cons (pv 1) pa_nil))))
      (pss_cons (ps_expr (pe_c C_need_two hr (by rfl) (pa_cons (pv 0) (pa_cons (pv 2) pa_nil))))
      (pss_one (ps_ret (pe_cmpR op_eq (pe_op op_add (pe_c C_cost_in (hr.mono (by decide)) (by rfl) (pa_cons (pv 0) (pa_cons (pv 1) pa_nil))) (pe_c C_cost_in (hr.mono (by decide)) (by rfl) (pa_cons (pv 1) (pa_cons (pv 2) pa_nil)))) (pe_c C_cost_in (hr.mono (by decide)) (by rfl) (pa_cons (pv 0) (pa_cons (pv 2) pa_nil))) (nomark _))))))), ?_⟩
  refine ⟨_, rfl, _, rfl, _, rfl, small_sz (by simp), fun a na => ⟨a, rfl, ⟨_, .inl (.inl upd_same)⟩, ?_⟩⟩
  refine for_tup (K := K) (a := a) (xs := [v, x, u]) (fun i σ H' => ∃ y, σ = [some v, some x, some u, y] ∧ Same (upd H a (.tup [v, x, u])) H') ⟨none, rfl, Same.refl _⟩ (fun i σ H' _ h => h.elim fun _ h => .inl (.inl (h.2 _ _ upd_same))) ?_ ?_
  · rintro i y σ H' hy ⟨_, rfl, sm⟩
    have s2 := (same_new (o := .tup [v, x, u]) na).trans sm
    have hy2 : ∃ Y, Dp K H' y (eLay Y) ∧ LayOk Y := by
      match i, hy with
      | 0, hy => cases hy; exact ⟨L, s2.dp hd, hL⟩
      | 1, hy => cases hy; exact ⟨Z, s2.dp hz, hZ⟩
      | 2, hy => cases hy; exact ⟨M, s2.dp he, hM⟩
    obtain ⟨Y, h1, h2⟩ := hy2
    exact ⟨_, rfl, y, Y, rfl, h1, h2, fun H2 s3 => ⟨_, rfl, sm.trans s3⟩⟩
  · rintro σ H1 ⟨_, rfl, sm⟩
    have s1 := (same_new (o := .tup [v, x, u]) na).trans sm
    refine ⟨_, rfl, _, rfl, v, x, L, Z, rfl, s1.dp hd, s1.dp hz, hL, hZ, en1, fun r H2 s2 => ?_⟩
    have s2 := s1.trans s2
    refine ⟨_, rfl, _, rfl, v, u, L, M, rfl, s2.dp hd, s2.dp he, hL, hM, en2, fun r H3 s3 => ?_⟩
    have s3 := s2.trans s3
    refine ⟨_, rfl, _, rfl, v, x, L, Z, rfl, s3.dp hd, s3.dp hz, hL, hZ, en1, fun H4 s4 => ?_⟩
    have s4 := s3.trans s4
    refine ⟨_, rfl, _, rfl, x, u, Z, M, rfl, s4.dp hz, s4.dp he, hZ, hM, by omega, fun H5 s5 => ⟨_, _, rfl, rfl, ?_⟩⟩
    have s5 := s4.trans s5
    refine ⟨_, rfl, _, rfl, v, u, L, M, rfl, s5.dp hd, s5.dp he, hL, hM, en2, fun H6 s6 => ⟨rfl, ?_⟩⟩
    refine bl_is ?_ (q H6 (s5.trans s6))
    rw [← en1]
    simp only [V.int.injEq]
end
end DC
namespace DC
open PySem PySem.Spec PyProof.Rows L2 Dm
/-! the law's own draws -/
def mO (l : Addr) (i j : Int) : HO := .dK [(Sum.inr "left", .ref l), (Sum.inr "at", .int i), (Sum.inr "mixed", .int j)]
theorem mO_left {H : Hp} {m l : Addr} {i j : Int} (h : H m = some (mO l i j)) : DGet H m (.str "left") (some (.ref l)) := DGet.k (k := Sum.inr "left") h
theorem mO_at {H : Hp} {m l : Addr} {i j : Int} (h : H m = some (mO l i j)) : DGet H m (.str "at") (some (.int i)) := DGet.k (k := Sum.inr "at") h
theorem mO_mixed {H : Hp} {m l : Addr} {i j : Int} (h : H m = some (mO l i j)) : DGet H m (.str "mixed") (some (.int j)) := DGet.k (k := Sum.inr "mixed") h
theorem mO_putL {H : Hp} {m l l2 : Addr} {i j : Int} (h : H m = some (mO l i j)) : DPut H m (.str "left") (.ref l2) (upd H m (mO l2 i j)) := DPut.k (k := Sum.inr "left") h (small_lt (by simp))
theorem mO_putA {H : Hp} {m l : Addr} {i j i2 : Int} (h : H m = some (mO l i j)) : DPut H m (.str "at") (.int i2) (upd H m (mO l i2 j)) := DPut.k (k := Sum.inr "at") h (small_lt (by simp))
theorem mO_putM {H : Hp} {m l : Addr} {i j j2 : Int} (h : H m = some (mO l i j)) : DPut H m (.str "mixed") (.int j2) (upd H m (mO l i j2)) := DPut.k (k := Sum.inr "mixed") h (small_lt (by simp))
def MOk (H : Hp) (m : Addr) : Prop := ∃ (l : Addr) (i j : Int) (ns : List Int), H m = some (mO l i j) ∧ H l = some (.lst (ns.map V.int)) ∧ ns.length ≤ 64
/-- an object that is not among the draws' own -/
def Safe (H : Hp) (m t : Addr) : Prop := t ≠ m ∧ H t ≠ none ∧ ∃ l i j, H m = some (mO l i j) ∧ t ≠ l
/-- all but the one object at m stand -/
structure Mv (m : Addr) (H H' : Hp) : Prop where
  old : ∀ b o, b ≠ m → H b = some o → H' b = some o
  safe : ∀ t, Safe H m t → Safe H' m t
theorem Mv.refl {m : Addr} {H : Hp} : Mv m H H := ⟨fun _ _ _ e => e, fun _ h => h⟩
theorem Mv.trans {m : Addr} {H H1 H2 : Hp} (a : Mv m H H1) (b : Mv m H1 H2) : Mv m H H2 := ⟨fun c o n e => b.old c o n (a.old c o n e), fun t h => b.safe t (a.safe t h)⟩
theorem Safe.same {m t : Addr} {H H' : Hp} (h : Safe H m t) (s : Same H H') : Safe H' m t := by
  obtain ⟨h1, h2, l, i, j, h3, h4⟩ := h
  refine ⟨h1, ?_, l, i, j, s _ _ h3, h4⟩
  cases q : H t with
  | none => exact absurd q h2
  | some o =>
    rw [s _ _ q]
    exact Option.some_ne_none o
theorem _root_.L2.Same.mv {m : Addr} {H H' : Hp} (s : Same H H') : Mv m H H' := ⟨fun b o _ e => s b o e, fun _ h => h.same s⟩
theorem mv_put {m l : Addr} {H : Hp} {i j i2 j2 : Int} (h : H m = some (mO l i j)) : Mv m H (upd H m (mO l i2 j2)) := ⟨fun b u n e => by rw [upd_ne n]; exact e, fun t ⟨h1, h2, l', i', j', h3, h4⟩ => by
  rw [h] at h3
  cases h3
  exact ⟨h1, by rw [upd_ne h1]; exact h2, l, i2, j2, upd_same, h4⟩⟩
theorem mv_left {m l2 : Addr} {H H2 : Hp} {i2 j2 : Int} (h : H l2 = none) (s : Same H H2) : Mv m H (upd H2 m (mO l2 i2 j2)) := ⟨fun b u n e => by rw [upd_ne n]; exact s _ _ e, fun t ht => by
  have h2 := ht.2.1
  have h3 := (ht.same s).2.1
  exact ⟨ht.1, by rw [upd_ne ht.1]; exact h3, l2, i2, j2, upd_same, fun z => h2 (by rw [z]; exact h)⟩⟩
theorem Safe.wr {m t u : Addr} {H : Hp} {o : HO} (h : Safe H m t) (hu : u ≠ m) : Safe (upd H u o) m t := by
  obtain ⟨h1, h2, l, i, j, h3, h4⟩ := h
  refine ⟨h1, ?_, l, i, j, by rw [upd_ne (Ne.symm hu)]; exact h3, h4⟩
  by_cases e : t = u
  · subst e
    rw [upd_same]
    exact Option.some_ne_none o
  · rw [upd_ne e]
    exact h2
theorem Mv.wr {m t : Addr} {H H' : Hp} {o : HO} (h : Mv m H H') (e : H t = none) (n : t ≠ m) : Mv m H (upd H' t o) :=
  ⟨fun b u hb q => by rw [upd_ne (ne_of_none q e)]; exact h.old b u hb q, fun t ht => (h.safe t ht).wr n⟩
theorem MOk.wr {m t : Addr} {H : Hp} {o : HO} (h : MOk H m) (s : Safe H m t) : MOk (upd H t o) m := by
  obtain ⟨l, i, j, ns, h1, h2, h3⟩ := h
  obtain ⟨q1, q2, l', i', j', q3, q4⟩ := s
  rw [h1] at q3
  cases q3
  exact ⟨l, i, j, ns, by rw [upd_ne (Ne.symm q1)]; exact h1, by rw [upd_ne (Ne.symm q4)]; exact h2, h3⟩
theorem safe_new {m t : Addr} {H : Hp} {o : HO} (h : MOk H m) (e : H t = none) : Safe (upd H t o) m t := by
  obtain ⟨l, i, j, ns, h1, h2, h3⟩ := h
  exact ⟨Ne.symm (ne_of_none h1 e), by rw [upd_same]; exact Option.some_ne_none o, l, i, j, by rw [upd_ne (ne_of_none h1 e)]; exact h1, Ne.symm (ne_of_none h2 e)⟩
theorem MOk.same {m : Addr} {H H' : Hp} (h : MOk H m) (s : Same H H') : MOk H' m :=
  let ⟨l, i, j, ns, h1, h2, h3⟩ := h
  ⟨l, i, j, ns, s _ _ h1, s _ _ h2, h3⟩
theorem Mv.seqs {m : Addr} {H H' : Hp} (h : Mv m H H') (k : MOk H m) : Seqs H H' := fun b o e n1 n2 => by
  obtain ⟨l, i, j, ns, h1, _⟩ := k
  refine h.old b o (fun z => ?_) e
  subst z
  rw [h1] at e
  cases e
  exact n1 _ rfl
theorem Mv.dp {m : Addr} {H H' : Hp} (h : Mv m H H') (k : MOk H m) {K : PySem.W.Frag} {v : V} {d : PyData} (e : Dp K H v d) : Dp K H' v d := Dp.seqs (h.seqs k) e
theorem Mv.dps {m : Addr} {H H' : Hp} (h : Mv m H H') (k : MOk H m) {K : PySem.W.Frag} {v : List V} {d : List PyData} (e : DpAll K H v d) : DpAll K H' v d := DpAll.seqs (h.seqs k) e
theorem MOk.ne {m D : Addr} {H : Hp} (h : MOk H m) (e : H D = none) : D ≠ m := by
  obtain ⟨l, i, j, ns, h1, _⟩ := h
  exact Ne.symm (ne_of_none h1 e)
theorem Mv.none {m : Addr} {H H' : Hp} (h : Mv m H H') {D : Addr} (n : D ≠ m) (e : H' D = .none) : H D = .none := by
  cases q : H D with
  | none => rfl
  | some o => rw [h.old D o n q] at e; cases e
theorem cut1 (xs : List V) : cutV xs (some 1) none = xs.drop 1 := by
  unfold cutV
  have h1 : HT.sIx xs.length 0 (some 1) = min 1 xs.length := HT.sIx_nat xs.length 0 1
  have h2 : HT.sIx xs.length xs.length none = xs.length := rfl
  rw [h1, h2]
  cases xs with
  | nil => rfl
  | cons x xs =>
    have : min 1 (x :: xs).length = 1 := by simp
    rw [this]
    simp
theorem lay_ints (ns : List Int) : SeqAt.shaped (.list (ns.map PyData.int)) = true := by
  have h1 : PyData.canLayAll0 (ns.map PyData.int) = true := by
    induction ns with
    | nil => rfl
    | cons n ns ih => simp [PyData.canLayAll0, PyData.canLay0, ih]
  have h2 := depthAll_le (n := 0) (ds := ns.map PyData.int) fun d hd => by
    obtain ⟨x, _, rfl⟩ := List.mem_map.mp hd
    simp [PyData.depth]
  have h3 : (PyData.list (ns.map PyData.int)).depth ≤ 64 := by
    simp only [PyData.depth]
    omega
  show (PyData.canLay0 _ && decide _) = true
  rw [Bool.and_eq_true, decide_eq_true_eq]
  exact ⟨by simpa [PyData.canLay0] using h1, h3⟩
theorem ints_dp {K : PySem.W.Frag} {H : Hp} {a : Addr} {ns : List Int} (h : SqL K H a (ns.map V.int)) : Dp K H (.ref a) (.list (ns.map PyData.int)) := .lst h int_dps
end DC
namespace DC
open PySem PySem.Spec PyProof.Rows L2 Dm
section
variable {P : Program} {w : World} {K : PySem.W.Frag} {mg : Str → Option Value} {base : Heap} {f : Addr} {fd : FuncData}
def sp_begun (K : PySem.W.Frag) : Sp := fun vs H Q _ => ∃ (a : Addr) (ns : List Int), vs = [.ref a] ∧ SqL K H a (ns.map V.int) ∧ ns.length ≤ 63 ∧ ∀ m H', Same H H' → H m = none → MOk H' m → Q (.ref m) H'
abbrev C20 (P : Program) (w : World) (K : PySem.W.Frag) (mg : Str → Option Value) (base : Heap) : Prop := Cal P w K mg base 1 "_law_begun" ["_law_script"] (sp_begun K)
theorem ok_begun (D : Df K mg "_law_begun" s__law_begun ["_law_script"] f fd) (T : Tx mg) : C20 P w K mg base := by
  refine D.cal (D.F.ok sc__law_begun (fun vs H Q E h => ?_) (fun cdv A outer s H vs Q E hr h => ?_))
  · obtain ⟨a, ns, rfl, _⟩ := h
    rfl
  obtain ⟨a, ns, rfl, hA, hn, q⟩ := h
  refine ⟨_, (pss_cons (ps_set (i := 1) sc__law_begun.nd rfl (.inl rfl) pe_int)
      (pss_cons (ps_for PassesOwn.never rfl (pi_list (pv 0)) (pg_name (i := 2) sc__law_begun.nd rfl (.inl rfl)) (pss_one (ps_set (i := 1) sc__law_begun.nd rfl (.inl rfl) (pe_op op_mod (pe_callTy call_int1 (by rfl) T.int (by decide +kernel) (pa_cons (pe_op op_add (pe_op op_add (pe_op op_mul (pv 1) pe_int) (pv 2)) pe_int) pa_nil)) pe_int))))
      (pss_cons (ps_setLc (i := 3) (own := [("_law_cell", 2)]) (g := gName 2) (by rfl) sc__law_begun.nd rfl rfl (sw_true rfl rfl rfl (by decide +kernel)) (pi_list (pv 0)) (blkOk_by (N := ["_law_script", "_law_mixed", "_law_cell", "_law_great"]) (sc := defScope s__law_begun) (by decide +kernel)) (fun _ _ _ _ _ => (pg_name (i := 2) sc__law_begun.nd rfl (.inl rfl))) (fun _ _ _ _ _ => (pts_one (pt_cmpR op_ge (pv 2) (pe_op op_pow pe_int pe_int) (nomark _)))) (fun _ _ _ _ _ => (pv 2)))
      (pss_one (ps_ret (pe_disp (pps_cons pe_str (pv 3) (pps_cons pe_str pe_int (pps_cons pe_str (pv 1) pps_nil))) (by rfl) (by rfl) (fun z => by cases z) (by decide))))))), ?_⟩
  refine ⟨_, rfl, a, rfl, ⟨_, hA⟩, for_list (K := K) (a := a) (xs := ns.map V.int) (fun i σ H' => ∃ (j : Int) (y2 y3 : Option V), (0 ≤ j ∧ j < 2147483647) ∧ σ = [some (.ref a), some (.int j), y2, y3] ∧ H' = H)
    ⟨40277, none, none, by omega, rfl, rfl⟩ (fun i σ H' _ h => by obtain ⟨_, _, _, _, _, rfl⟩ := h; exact hA) ?_ ?_⟩
  · rintro i x σ H' hx ⟨j, y2, y3, hj, rfl, rfl⟩
    obtain ⟨z, hz, rfl⟩ : ∃ z, ns[i]? = some z ∧ x = .int z := map_at hx
    refine ⟨_, rfl, _, _, rfl, rfl, .inl ⟨by omega, by omega⟩, _, rfl, _, _, rfl, rfl, _, _, rfl, rfl, .inl ⟨_, rfl, _, _, rfl, rfl, (by decide : (0 : Int) < 2147483647), ?_⟩⟩
    exact ⟨_, _, _, ⟨Int.emod_nonneg _ (by decide), Int.emod_lt_of_pos _ (by decide)⟩, rfl, rfl⟩
  · rintro σ H' ⟨j, y2, y3, hj, rfl, rfl⟩
    refine ⟨_, rfl, a, rfl, ⟨_, hA⟩, fun D nD => lc_list (K := K) (a := a) (xs := ns.map V.int) (fun i H2 => Same H' H2 ∧ ∃ zs : List Int, H2 D = some (.lst (zs.map V.int)) ∧ zs.length ≤ i) ⟨same_new nD, [], upd_same, Nat.le_refl _⟩ (fun i H2 _ h => h.1.seqs.l hA) ?_ ?_⟩
    · rintro i x H2 hx ⟨sm, zs, hD, hl⟩
      obtain ⟨z, hz, rfl⟩ : ∃ z, ns[i]? = some z ∧ x = .int z := map_at hx
      have hi : i < ns.length := (List.getElem?_eq_some_iff.mp hz).1
      refine ⟨rfl, ?_⟩
      refine ⟨_, rfl, _, _, rfl, rfl, ⟨by decide, by decide, by decide⟩, _, _, rfl, rfl, _, rfl, ?_⟩
      by_cases c : (10 : Int) ^ Int.toNat 18 ≤ z
      · refine itet (decide_eq_true c) ?_
        refine ⟨_, rfl, _, hD, small_lt (by rw [List.length_map]; omega), sm.wr nD, zs ++ [z], ?_, by simp; omega⟩
        rw [upd_same, List.map_append]
        rfl
      · exact itef (decide_eq_false c) ⟨sm, zs, hD, by omega⟩
    · rintro H2 ⟨sm, zs, hD, hl⟩
      rw [List.length_map] at hl
      refine fun m nm => ⟨_, rfl, ⟨_, rfl, upd_same, [(Sum.inr "left", .ref D), (Sum.inr "at", .int 0), (Sum.inr "mixed", .int j)], rfl, by simp, ?_⟩⟩
      rw [upd_upd]
      have s3 : Same H' (upd H2 m (mO D 0 j)) := sm.trans (same_new nm)
      exact q m _ s3 (sm.none nm) ⟨D, 0, j, zs, upd_same, by rw [upd_ne (ne_of_none hD nm)]; exact hD, by omega⟩
def sp_draw : Sp := fun vs H Q _ => ∃ (m : Addr) (n : Nat), vs = [.ref m, .int (n : Int)] ∧ 0 < n ∧ n < 1000000 ∧ MOk H m ∧ ∀ (r : Nat) H', r < n → Mv m H H' → MOk H' m → Q (.int (r : Int)) H'
abbrev C21 (P : Program) (w : World) (K : PySem.W.Frag) (mg : Str → Option Value) (base : Heap) : Prop := Cal P w K mg base 1 "_law_draw" ["_law_m", "_law_limit"] sp_draw
theorem fmod_nat {i : Int} {n : Nat} (h : 0 < n) : ∃ r : Nat, r < n ∧ i.fmod (n : Int) = (r : Int) := by
  have h1 := Int.fmod_nonneg_of_pos (a := i) (b := (n : Int)) (by omega)
  have h2 := Int.fmod_lt_of_pos i (b := (n : Int)) (by omega)
  exact ⟨(i.fmod (n : Int)).toNat, by omega, by omega⟩
theorem int_is {Q : VK} {H : Hp} {b c : Int} (e : b = c) (q : Q (.int c) H) : Q (.int b) H := by
  rw [e]
  exact q
theorem ok_draw (D : Df K mg "_law_draw" s__law_draw ["_law_m", "_law_limit"] f fd) (T : Tx mg) : C21 P w K mg base := by
  refine D.cal (D.F.ok sc__law_draw (fun vs H Q E h => ?_) (fun cdv A outer s H vs Q E hr h => ?_))
  · obtain ⟨m, n, rfl, _⟩ := h
    rfl
  obtain ⟨m, n, rfl, n0, n1, hM, q⟩ := h
  refine ⟨_, (Evl.pss_cut (ps_while PassesOwn.never (PW.pt (pw_and (pt_cmpR (op_neD hr.units) (pe_dget (hu_of hr) (pv 0) pe_str (fun _ _ => rfl)) (pe_lst pa_nil) (nomark _)) (pw_and1 (pt_cmpR op_eq (pe_ix ix_list (pe_dget (hu_of hr) (pv 0) pe_str (fun _ _ => rfl)) pe_int (fun _ _ => rfl)) pe_int (nomark _))))) (pss_one (ps_dput (hu_of hr) (pv 0) pe_str (pe_slice sl_list (pe_dget (hu_of hr) (pv 0) pe_str (fun _ _ => rfl)) (po_some pe_int) po_none) rfl)))
      (pss_cons (ps_if (pt_cmpR (op_neD hr.units) (pe_dget (hu_of hr) (pv 0) pe_str (fun _ _ => rfl)) (pe_lst pa_nil) (nomark _)) (pss_cons (ps_set (i := 2) sc__law_draw.nd rfl (.inl rfl) (pe_ix ix_list (pe_dget (hu_of hr) (pv 0) pe_str (fun _ _ => rfl)) pe_int (fun _ _ => rfl)))
      (pss_cons (ps_dput (hu_of hr) (pv 0) pe_str (pe_op op_cat (pe_lst (pa_cons (pe_op op_fdivN (pv 2) (pv 1)) pa_nil)) (pe_slice sl_list (pe_dget (hu_of hr) (pv 0) pe_str (fun _ _ => rfl)) (po_some pe_int) po_none)) rfl)
      (pss_one (ps_ret (pe_op op_modN (pe_callTy call_int1 (by rfl) T.int (by decide +kernel) (pa_cons (pv 2) pa_nil)) (pv 1)))))) pss_nil)
      (pss_cons (ps_dput (hu_of hr) (pv 0) pe_str (pe_op op_add (pe_dget (hu_of hr) (pv 0) pe_str (fun _ _ => rfl)) pe_int) rfl)
      (pss_cons (ps_dput (hu_of hr) (pv 0) pe_str (pe_op op_mod (pe_callTy call_int1 (by rfl) T.int (by decide +kernel) (pa_cons (pe_op op_add (pe_op op_add (pe_op op_mul (pe_dget (hu_of hr) (pv 0) pe_str (fun _ _ => rfl)) pe_int) (pe_op op_mul pe_int (pe_dget (hu_of hr) (pv 0) pe_str (fun _ _ => rfl)))) pe_int) pa_nil)) pe_int) rfl)
      (pss_one (ps_ret (pe_op op_modN (pe_callTy call_int1 (by rfl) T.int (by decide +kernel) (pa_cons (pe_op op_fdiv (pe_dget (hu_of hr) (pv 0) pe_str (fun _ _ => rfl)) pe_int) pa_nil)) (pv 1)))))))), ?_⟩
  refine ⟨fun σ H' => σ = [some (.ref m), some (.int (n : Int)), none] ∧ Mv m H H' ∧ MOk H' m, ?_, ?_⟩
  · refine ⟨fun k σ H' => ∃ (l : Addr) (i j : Int) (ns : List Int), ns.length = k ∧ σ = [some (.ref m), some (.int (n : Int)), none] ∧ Mv m H H' ∧ H' m = some (mO l i j) ∧ H' l = some (.lst (ns.map V.int)) ∧ ns.length ≤ 64, ?_, ?_⟩
    · obtain ⟨l, i, j, ns, h1, h2, h3⟩ := hM
      exact ⟨_, l, i, j, ns, rfl, rfl, Mv.refl, h1, h2, h3⟩
    · rintro k σ H' ⟨l, i, j, ns, rfl, rfl, mv, h1, h2, h3⟩
      refine ⟨_, rfl, m, _, rfl, mO_left h1, small_sz (by simp), fun e ne => ?_⟩
      have s1 := same_new (o := .lst []) ne
      have g1 := s1 _ _ h1
      have g2 := s1 _ _ h2
      have ge : (upd H' e (.lst [])) e = some (.lst []) := upd_same
      have mv1 := mv.trans s1.mv
      generalize upd H' e (.lst []) = H1 at *
      refine ⟨.list (ns.map .int), .list [], ints_dp (.inl (.inl g2)), .lst (.inl (.inl ge)) .nil, lay_ints ns, rfl, _, rfl, ?_⟩
      cases ns with
      | nil => exact itef rfl (iteF ⟨rfl, mv1, l, i, j, [], g1, g2, h3⟩)
      | cons z zs =>
        refine itet rfl ?_
        refine ⟨_, rfl, m, _, rfl, mO_left g1, l, _, _, _, rfl, rfl, .inl (.inl g2), at0, rfl, _, rfl, ?_⟩
        by_cases c : z = 0
        · refine itet (by simp [c]) ?_
          refine ⟨_, fun σ' H' h => ⟨zs.length, by simp, h⟩, ?_⟩
          refine ⟨_, rfl, m, _, rfl, mO_left g1, _, rfl, l, _, rfl, .inl (.inl g2), fun p np => ?_⟩
          rw [cut1]
          have s2 := same_new (o := .lst (zs.map V.int)) np
          have k1 := s2 _ _ g1
          have kp : (upd H1 p (.lst (zs.map V.int))) p = some (.lst (zs.map V.int)) := upd_same
          have mv2 := mv1.trans s2.mv
          refine ⟨_, rfl, m, _, rfl, mO_putL k1, ?_⟩
          exact ⟨p, i, j, zs, rfl, rfl, mv1.trans (mv_left np s2), upd_same, by rw [upd_ne (Ne.symm (ne_of_none g1 np))]; exact kp, by simp at h3; omega⟩
        · exact itef (by simp [c]) ⟨rfl, mv1, l, i, j, _, g1, g2, h3⟩
  · rintro σ H' ⟨rfl, mv, l, i, j, ns, h1, h2, h3⟩
    refine ⟨_, rfl, m, _, rfl, mO_left h1, small_sz (by simp), fun e ne => ?_⟩
    have s1 := same_new (o := .lst []) ne
    have g1 := s1 _ _ h1
    have g2 := s1 _ _ h2
    have ge : (upd H' e (.lst [])) e = some (.lst []) := upd_same
    have mv1 := mv.trans s1.mv
    generalize upd H' e (.lst []) = H1 at *
    refine ⟨.list (ns.map .int), .list [], ints_dp (.inl (.inl g2)), .lst (.inl (.inl ge)) .nil, lay_ints ns, rfl, _, rfl, ?_⟩
    cases ns with
    | nil =>
      refine itef rfl ?_
      refine ⟨_, rfl, m, _, rfl, mO_at g1, _, _, rfl, rfl, _, rfl, m, _, rfl, mO_putA g1, ?_⟩
      have a1 : (upd H1 m (mO l (i + 1) j)) m = some (mO l (i + 1) j) := upd_same
      have a2 : (upd H1 m (mO l (i + 1) j)) l = some (.lst []) := by
        rw [upd_ne (fun z => by rw [z, g1] at g2; cases g2)]
        exact g2
      have mv2 := mv1.trans (mv_put (i2 := i + 1) (j2 := j) g1)
      generalize upd H1 m (mO l (i + 1) j) = H2 at *
      refine ⟨_, rfl, m, _, rfl, mO_mixed a1, _, _, rfl, rfl, .inr ⟨by decide, by decide⟩, _, rfl, m, _, rfl, mO_at a1, _, _, rfl, rfl, .inl ⟨by decide, by decide⟩, _, _, rfl, rfl, _, _, rfl, rfl, .inl ⟨_, rfl, _, _, rfl, rfl, (by decide : (0 : Int) < 2147483647), ?_⟩⟩
      refine ⟨_, rfl, m, _, rfl, mO_putM a1, ?_⟩
      refine ⟨_, rfl, m, _, rfl, mO_mixed upd_same, _, _, rfl, rfl, ⟨by decide, by decide⟩, .inl ⟨_, rfl, _, rfl, _, _, rfl, rfl, by omega, ?_⟩⟩
      obtain ⟨r, hr1, hr2⟩ := fmod_nat (i := ((j * 16807 + 7919 * (i + 1) + 1) % 2147483647) / 65536) n0
      refine int_is hr2 ?_
      exact q r _ hr1 (mv2.trans (mv_put a1)) ⟨l, _, _, [], upd_same, by rw [upd_ne (fun z => by rw [z, a1] at a2; cases a2)]; exact a2, by simp⟩
    | cons z zs =>
      refine itet rfl ?_
      refine ⟨_, rfl, m, _, rfl, mO_left g1, l, _, _, _, rfl, rfl, .inl (.inl g2), at0, ?_⟩
      refine ⟨_, rfl, _, rfl, _, _, rfl, rfl, ⟨by omega, by omega⟩, small_sz (by simp), fun p np => ?_⟩
      have s2 := same_new (o := .lst [V.int (z.fdiv (n : Int))]) np
      have k1 := s2 _ _ g1
      have k2 := s2 _ _ g2
      have kp : (upd H1 p (.lst [V.int (z.fdiv (n : Int))])) p = some (.lst [V.int (z.fdiv (n : Int))]) := upd_same
      have mv2 := mv1.trans s2.mv
      generalize upd H1 p (.lst [V.int (z.fdiv (n : Int))]) = H2 at *
      refine ⟨_, rfl, m, _, rfl, mO_left k1, _, rfl, l, _, rfl, .inl (.inl k2), fun r nr => ?_⟩
      rw [cut1]
      have s3 := same_new (o := .lst (zs.map V.int)) nr
      have l1 := s3 _ _ k1
      have lp := s3 _ _ kp
      have lr : (upd H2 r (.lst (zs.map V.int))) r = some (.lst (zs.map V.int)) := upd_same
      have mv3 := mv2.trans s3.mv
      refine ⟨p, r, _, _, rfl, rfl, lp, lr, small_sz (by simp at h3 ⊢; omega), fun t nt => ?_⟩
      have s4 := same_new (o := .lst ([V.int (z.fdiv (n : Int))] ++ zs.map V.int)) nt
      have o1 := s4 _ _ l1
      refine ⟨_, rfl, m, _, rfl, mO_putL o1, ?_⟩
      refine ⟨_, rfl, .inl ⟨_, rfl, _, rfl, _, _, rfl, rfl, by omega, ?_⟩⟩
      obtain ⟨r', hr1, hr2⟩ := fmod_nat (i := z) n0
      refine int_is hr2 ?_
      refine q r' _ hr1 (mv3.trans (mv_left nt s4)) ⟨t, i, j, z.fdiv (n : Int) :: zs, upd_same, ?_, by simpa using h3⟩
      rw [upd_ne (Ne.symm (ne_of_none l1 nt)), upd_same]
      rfl
def sp_of (K : PySem.W.Frag) : Sp := fun vs H Q _ => ∃ (m a : Addr) (xs : List V), vs = [.ref m, .ref a] ∧ SqL K H a xs ∧ 0 < xs.length ∧ xs.length < 1000000 ∧ MOk H m ∧ ∀ x H', x ∈ xs → Mv m H H' → MOk H' m → Q x H'
abbrev C22 (P : Program) (w : World) (K : PySem.W.Frag) (mg : Str → Option Value) (base : Heap) : Prop := Cal P w K mg base 2 "_law_of" ["_law_m", "_law_some"] (sp_of K)
theorem ok_of (D : Df K mg "_law_of" s__law_of ["_law_m", "_law_some"] f fd) (T : Tx mg) (C__law_draw : C21 P w K mg base) : C22 P w K mg base := by
  refine D.cal (D.F.ok sc__law_of (fun vs H Q E h => ?_) (fun cdv A outer s H vs Q E hr h => ?_))
  · obtain ⟨m, a, xs, rfl, _⟩ := h
    rfl
  obtain ⟨m, a, xs, rfl, hA, n0, n1, hM, q⟩ := h
  refine ⟨_, (pss_one (ps_ret (pe_ix ix_list (pv 1) (pe_c C__law_draw hr (by rfl) (pa_cons (pv 0) (pa_cons (pe_callB call_len_seq (by rfl) T.len (by decide +kernel) (pa_cons (pv 1) pa_nil)) pa_nil))) (fun _ _ => rfl)))), ?_⟩
  refine ⟨_, rfl, _, rfl, _, rfl, a, _, rfl, .inl hA, m, _, rfl, n0, n1, hM, fun r H' hr mv mo => ?_⟩
  exact ⟨a, xs, _, xs[r], rfl, rfl, (mv.seqs hM).l hA, atI_nat (by simp [hr]), q _ _ (List.getElem_mem hr) mv mo⟩
def sp_like (K : PySem.W.Frag) : Sp := fun vs H Q _ => ∃ (u v : V) (d : PyData), vs = [u, v] ∧ Dp K H u d ∧ Dp K H v d ∧ smallD d = true ∧ wt d ≤ 100000 ∧ d.depth ≤ 50 ∧ Q (.bl true) H
abbrev C23 (P : Program) (w : World) (K : PySem.W.Frag) (mg : Str → Option Value) (base : Heap) : Prop := CalG P w K mg base 1 "_law_like" ["_law_told", "_law_due"] (sp_like K)
theorem ok_like (D : Df K mg "_law_like" s__law_like ["_law_told", "_law_due"] f fd) (T : Tx mg) : C23 P w K mg base := by
  refine D.calG (fnG_of D.F sc__law_like (fun vs H Q E h => ?_) (fun cdv A outer s H vs Q E hgd hr h => ?_))
  · obtain ⟨u, v, d, rfl, _⟩ := h
    rfl
  obtain ⟨u, v, d, rfl, hu, hv, h1, h2, h3, q⟩ := h
  refine ⟨_, (pss_one (ps_ret (pe_cmpR op_eq (pe_callB (call_reprD hgd hr.units) (by rfl) T.repr (by decide +kernel) (pa_cons (pv 0) pa_nil)) (pe_callB (call_reprD hgd hr.units) (by rfl) T.repr (by decide +kernel) (pa_cons (pv 1) pa_nil)) (nomark _)))), ?_⟩
  refine ⟨_, rfl, u, d, rfl, hu, h1, h2, h3, _, rfl, v, d, rfl, hv, h1, h2, h3, rfl, ?_⟩
  exact bl_is (by simp) q
end
end DC
namespace DC
open PySem PySem.Spec PyProof.Rows L2 Dm
theorem good_perm {N : Nat} {J J2 : List Jt} (h : Good N J) (p : J2.Perm J) : Good N J2 := by
  refine ⟨fun j hj => h.js j (p.mem_iff.mp hj), ?_⟩
  have q : (ends J2).Perm (ends J) := p.flatMap_right _
  exact q.nodup_iff.mpr h.nd
theorem good_firsts {N : Nat} : ∀ {J : List Jt}, Good N J → J.Pairwise fun a b => a.1 ≠ b.1
  | [], _ => .nil
  | (a, b) :: J, h => by
    refine List.pairwise_cons.mpr ⟨fun j hj e => ?_, good_firsts h.tail⟩
    exact h.head.2.2.2.1 (mem_ends.mpr ⟨j, hj, .inl e⟩)
theorem ok_srt {N : Nat} {J : List Jt} (h : Good N J) (asc : ∀ j ∈ J, j.1 < j.2) : Ok N (srtJ J) := by
  have g := good_perm h (srtJ_perm J)
  refine ⟨g, fun j hj => asc j ((srtJ_perm J).mem_iff.mp hj), ?_⟩
  refine List.Pairwise.imp₂ (fun a b h1 h2 => ?_) (srtJ_so J) (good_firsts g)
  simp only [leJ, Bool.or_eq_true, Bool.and_eq_true, decide_eq_true_eq] at h1
  omega
theorem good_snoc {N : Nat} {J : List Jt} {e m : Nat} (h : Good N J) (he : e < N) (hm : m < N) (hne : e ≠ m) (ne : e ∉ ends J) (nm : m ∉ ends J) : Good N (J ++ [(e, m)]) := by
  refine ⟨fun j hj => ?_, ?_⟩
  · rcases List.mem_append.mp hj with hj | hj
    · exact h.js j hj
    · rw [List.mem_singleton] at hj
      subst hj
      exact ⟨he, hm, hne⟩
  · have e1 : ends (J ++ [(e, m)]) = ends J ++ [e, m] := by simp [ends]
    rw [e1, List.nodup_append]
    refine ⟨h.nd, by simp [hne], fun x hx y hy z => ?_⟩
    subst z
    simp at hy
    rcases hy with rfl | rfl
    · exact ne hx
    · exact nm hx
theorem ends_snoc {J : List Jt} {e m x : Nat} : x ∈ ends (J ++ [(e, m)]) ↔ x ∈ ends J ∨ x = e ∨ x = m := by
  have e1 : ends (J ++ [(e, m)]) = ends J ++ [e, m] := by simp [ends]
  rw [e1]
  simp
structure LI (N : Nat) (xs : List Nat) (J : List Jt) : Prop where
  so : xs.Pairwise (· < ·)
  lt : ∀ x ∈ xs, x < N
  good : Good N J
  asc : ∀ j ∈ J, j.1 < j.2
  off : ∀ x ∈ xs, x ∉ ends J
theorem LI.start (N : Nat) : LI N (List.range N) [] := ⟨List.pairwise_lt_range, fun x hx => by simpa using hx, ⟨(fun _ h => nomatch h), List.nodup_nil⟩, (fun _ h => nomatch h), fun x _ => by simp [ends]⟩
theorem LI.drop {N : Nat} {xs : List Nat} {J : List Jt} (h : LI N xs J) : LI N (xs.drop 1) J :=
  ⟨List.Pairwise.drop h.so, fun x hx => h.lt x (List.mem_of_mem_drop hx), h.good, h.asc, fun x hx => h.off x (List.mem_of_mem_drop hx)⟩
theorem LI.take {N e m : Nat} {ys : List Nat} {J : List Jt} (h : LI N (e :: ys) J) (hm : m ∈ ys) : LI N ((e :: ys).filter fun x => !decide (x = e ∨ x = m)) (J ++ [(e, m)]) := by
  have so := List.pairwise_cons.mp h.so
  have lem := so.1 m hm
  have mm : m ∈ e :: ys := List.mem_cons_of_mem _ hm
  have me : e ∈ e :: ys := List.mem_cons_self
  refine ⟨h.so.filter _, fun x hx => h.lt x (List.mem_filter.mp hx).1, good_snoc h.good (h.lt _ me) (h.lt _ mm) (by omega) (h.off _ me) (h.off _ mm), fun j hj => ?_, fun x hx z => ?_⟩
  · rcases List.mem_append.mp hj with hj | hj
    · exact h.asc j hj
    · rw [List.mem_singleton] at hj
      subst hj
      exact lem
  · obtain ⟨h1, h2⟩ := List.mem_filter.mp hx
    rcases ends_snoc.mp z with z | z
    · exact h.off x h1 z
    · simp [z] at h2
theorem LI.ok {N : Nat} {xs : List Nat} {J : List Jt} (h : LI N xs J) : Ok N (srtJ J) := ok_srt h.good h.asc
theorem in_two_int (x e m : Nat) : inV (.int (x : Int)) [.int (e : Int), .int (m : Int)] = decide (x = e ∨ x = m) := by
  unfold inV
  rw [Bool.eq_iff_iff]
  simp [eqV]
  omega
theorem filt_take {p : Nat → Bool} {xs : List Nat} {i x : Nat} (h : xs[i]? = some x) : (xs.take (i + 1)).filter p = (xs.take i).filter p ++ (if p x = true then [x] else []) := by
  rw [List.take_add_one, h, List.filter_append]
  simp [List.filter_cons]
theorem eJ_depth (j : Jt) : (eJ j).depth ≤ 50 := by simp [eJ, PyData.depth, PyData.depthAll]
section
variable {P : Program} {w : World} {K : PySem.W.Frag} {mg : Str → Option Value} {base : Heap} {f : Addr} {fd : FuncData}
def sp_lay (K : PySem.W.Frag) : Sp := fun vs H Q _ => ∃ (m : Addr) (n : Nat), vs = [.ref m, .int (n : Int)] ∧ 1 ≤ n ∧ n ≤ 12 ∧ MOk H m ∧ ∀ v J H', Mv m H H' → MOk H' m → Dp K H' v (eLay (n, J)) → Ok (2 * n) J → Q v H'
abbrev C24 (P : Program) (w : World) (K : PySem.W.Frag) (mg : Str → Option Value) (base : Heap) : Prop := Cal P w K mg base 3 "_law_lay" ["_law_m", "_law_links"] (sp_lay K)
theorem ok_lay (D : Df K mg "_law_lay" s__law_lay ["_law_m", "_law_links"] f fd) (T : Tx mg) (C__law_draw : C21 P w K mg base) (C__law_of : C22 P w K mg base) : C24 P w K mg base := by
  refine D.cal (D.F.ok sc__law_lay (fun vs H Q E h => ?_) (fun cdv A outer s H vs Q E hr h => ?_))
  · obtain ⟨m, n, rfl, _⟩ := h
    rfl
  obtain ⟨m, n, rfl, n1, n2, hM, q⟩ := h
  have eN : (2 : Int) * (n : Int) = ((2 * n : Nat) : Int) := by omega
  refine ⟨_, (pss_cons (ps_par3 (i := 2) (j := 3) (l := 4) rfl sc__law_lay.nd rfl rfl rfl (by decide) (by decide) (by decide) rfl rfl rfl (pa_cons (pe_listRg rfl (by rfl) T.list (prg_1 (by rfl) T.range (pe_op op_mul pe_int (pv 1)))) (pa_cons (pe_lst pa_nil) (pa_cons (pe_c C__law_of hr (by rfl) (pa_cons (pv 0) (pa_cons (pe_lst (pa_cons pe_int (pa_cons pe_int (pa_cons pe_int (pa_cons pe_int (pa_cons pe_int (pa_cons pe_int pa_nil))))))) pa_nil))) pa_nil))) (by rfl))
      (pss_cons (ps_for PassesOwn.never rfl (pi_range1 (by rfl) T.range (pa_cons (pe_op op_mul pe_int (pv 1)) pa_nil)) (pg_name (i := 5) sc__law_lay.nd rfl (.inl rfl)) (pss_one (ps_if (pt_cmpR op_gt (pe_callB call_len_seq (by rfl) T.len (by decide +kernel) (pa_cons (pv 2) pa_nil)) pe_int (nomark _)) (pss_cons (ps_set (i := 6) sc__law_lay.nd rfl (.inr rfl) (pe_ix ix_list (pv 2) pe_int (fun _ _ => rfl)))
      (pss_one (ps_if (pt_cmpR op_gt (pe_c C__law_draw (hr.mono (by decide)) (by rfl) (pa_cons (pv 0) (pa_cons (pv 4) pa_nil))) pe_int (nomark _)) (pss_cons (ps_set (i := 7) sc__law_lay.nd rfl (.inr rfl) (pe_ix ix_list (pv 2) (pe_op op_add pe_int (pe_c C__law_draw (hr.mono (by decide)) (by rfl) (pa_cons (pv 0) (pa_cons (pe_op op_sub (pe_callB call_len_seq (by rfl) T.len (by decide +kernel) (pa_cons (pv 2) pa_nil)) pe_int) pa_nil)))) (fun _ _ => rfl)))
      (pss_cons (ps_expr (pe_bm PySem.F.plainAttrs_list PySem.F.slot_list_append PySem.F.type_list_append mt_append (pv 3) (pa_cons (pe_tup (pa_cons (pv 6) (pa_cons (pv 7) pa_nil))) pa_nil)))
      (pss_one (ps_setLc (i := 2) (own := [("_law_other", 8)]) (g := gName 8) (by rfl) sc__law_lay.nd rfl rfl (sw_true rfl rfl rfl (by decide +kernel)) (pi_list (pv 2)) (blkOk_by (N := ["_law_m", "_law_links", "_law_left", "_law_joints_so", "_law_share", "_law_turn", "_law_end", "_law_mate", "_law_other"]) (sc := defScope s__law_lay) (by decide +kernel)) (fun _ _ _ _ _ => (pg_name (i := 8) sc__law_lay.nd rfl (.inl rfl))) (fun _ _ _ _ _ => (pts_one (pt_cmpR (show OpR _ _ (rIn K true) from op_notIn_seq) (pv 8) (pe_tup (pa_cons (pv 6) (pa_cons (pv 7) pa_nil))) (by rfl)))) (fun _ _ _ _ _ => (pv 8)))))) (pss_one (ps_set (i := 2) sc__law_lay.nd rfl (.inl rfl) (pe_slice sl_list (pv 2) (po_some pe_int) po_none)))))) pss_nil)))
      (pss_one (ps_ret (pe_tup (pa_cons (pv 1) (pa_cons (pe_callTy call_tuple_of (by rfl) T.tuple (by decide +kernel) (pa_cons (pe_callB (call_sortedD hr.units) (by rfl) T.sorted (by decide +kernel) (pa_cons (pv 3) pa_nil)) pa_nil)) pa_nil))))))), ?_⟩
  refine ⟨_, rfl, _, _, rfl, rfl, .inl ⟨by decide, by decide⟩, _, rfl, ?_⟩
  rw [eN]
  refine ⟨⟨by omega, by omega, by omega, by omega, by omega⟩, fun l nl => ⟨small_sz (by simp), fun t nt => ?_⟩⟩
  rw [rgV_nV] at nt ⊢
  have s1 := same_new (o := .lst (nV (List.range (2 * n)))) nl
  have s2 := same_new (o := .lst []) nt
  have hl0 : (upd (upd H l (.lst (nV (List.range (2 * n))))) t (.lst [])) l = _ := s2 _ _ upd_same
  have ht0 : (upd (upd H l (.lst (nV (List.range (2 * n))))) t (.lst [])) t = some (.lst []) := upd_same
  have sf0 : Safe (upd (upd H l (.lst (nV (List.range (2 * n))))) t (.lst [])) m t := safe_new (hM.same s1) nt
  have nlt : l ≠ t := ne_of_none (show (upd H l (.lst (nV (List.range (2 * n))))) l = some _ from upd_same) nt
  have nt0 : H t = none := s1.none nt
  have s3 := s1.trans s2
  have ntm : t ≠ m := hM.ne nt0
  generalize upd (upd H l (.lst (nV (List.range (2 * n))))) t (.lst []) = H1 at *
  refine ⟨_, rfl, small_sz (by simp), fun z nz => ?_⟩
  have s4 := same_new (o := .lst [V.int 1, V.int 2, V.int 3, V.int 3, V.int 5, V.int 9]) nz
  refine ⟨m, z, _, rfl, .inl (.inl upd_same), by simp, by simp, (hM.same s3).same s4, fun x H2 hx mv mo => ?_⟩
  obtain ⟨sh, rfl, h1, h2⟩ : ∃ sh : Nat, x = .int (sh : Int) ∧ 0 < sh ∧ sh ≤ 9 := by
    simp only [List.mem_cons, List.not_mem_nil, or_false] at hx
    rcases hx with rfl | rfl | rfl | rfl | rfl | rfl
    · exact ⟨1, rfl, by omega, by omega⟩
    · exact ⟨2, rfl, by omega, by omega⟩
    · exact ⟨3, rfl, by omega, by omega⟩
    · exact ⟨3, rfl, by omega, by omega⟩
    · exact ⟨5, rfl, by omega, by omega⟩
    · exact ⟨9, rfl, by omega, by omega⟩
  have mv1 := s4.mv (m := m) |>.trans mv
  refine ⟨_, _, _, rfl, ?_⟩
  refine ⟨_, rfl, _, _, rfl, rfl, .inl ⟨by decide, by decide⟩, _, rfl, by omega, by omega, ?_⟩
  have nlm : l ≠ m := hM.ne nl
  refine for_range (fun i σ H' => ∃ (lv : Addr) (xs : List Nat) (acc : List V) (J : List Jt) (y5 y6 y7 y8 : Option V), σ = [some (.ref m), some (.int (n : Int)), some (.ref lv), some (.ref t), some (.int (sh : Int)), y5, y6, y7, y8] ∧
    Mv m H H' ∧ MOk H' m ∧ Safe H' m t ∧ H' t = some (.lst acc) ∧ DpAll K H' acc (J.map eJ) ∧ H' lv = some (.lst (nV xs)) ∧ lv ≠ t ∧ LI (2 * n) xs J)
    ⟨l, _, [], [], none, none, none, none, rfl, s3.mv.trans mv1, mo, mv1.safe t sf0, mv1.old _ _ ntm ht0, .nil, mv1.old _ _ nlm hl0, nlt, LI.start _⟩ ?_ ?_
  · rintro i σ H' hi ⟨lv, xs, acc, J, y5, y6, y7, y8, rfl, mv, mo, sf, ht, dp, hl, nlt, I⟩
    have lvm : lv ≠ m := fun e => by
      obtain ⟨l', i', j', ns', q1, _⟩ := mo
      rw [e, q1] at hl
      cases hl
    have jl : acc.length ≤ 24 := by
      have := js_len I.good
      rw [DpAll.len dp, List.length_map]
      omega
    refine ⟨_, rfl, lv, _, rfl, .inl (.inl (.inl hl)), _, _, rfl, rfl, _, rfl, ?_⟩
    match xs, hl, I with
    | [], hl, I => exact itef rfl ⟨lv, _, acc, J, _, _, _, _, rfl, mv, mo, sf, ht, dp, hl, nlt, I⟩
    | [x0], hl, I => exact itef rfl ⟨lv, _, acc, J, _, _, _, _, rfl, mv, mo, sf, ht, dp, hl, nlt, I⟩
    | x0 :: x1 :: ys, hl, I =>
      have hl' : H' lv = some (.lst (V.int (x0 : Int) :: nV (x1 :: ys))) := hl
      refine itet (by simp [nV]; omega) ?_
      refine ⟨_, rfl, lv, _, _, _, rfl, rfl, .inl (.inl hl'), at0, ?_⟩
      refine ⟨_, rfl, _, rfl, m, sh, rfl, h1, by omega, mo, fun r H3 hr3 mv3 mo3 => ⟨_, _, rfl, rfl, _, rfl, ?_⟩⟩
      have sf3 := mv3.safe t sf
      have ht3 := mv3.old _ _ ntm ht
      have hl3 := mv3.old _ _ lvm hl
      have dp3 := mv3.dps mo dp
      have mvA := mv.trans mv3
      by_cases c : (0 : Int) < (r : Int)
      · refine itet (decide_eq_true c) ?_
        refine ⟨_, rfl, _, rfl, _, rfl, lv, _, rfl, .inl (.inl (.inl hl3)), _, _, rfl, rfl, m, (x1 :: ys).length, by simp [nV], by simp, ?_, mo3, fun r2 H4 hr4 mv4 mo4 => ?_⟩
        · have := length_le (N := 2 * n) (r := x0 :: x1 :: ys) (I.so.imp fun h => by omega) I.lt
          simp at this ⊢
          omega
        have hl4 := mv4.old _ _ lvm hl3
        have sf4 := mv4.safe t sf3
        have ht4 := mv4.old _ _ ntm ht3
        have dp4 := mv4.dps mo3 dp3
        have mvB := mvA.trans mv4
        have ea : atI (nV (x0 :: x1 :: ys)) (1 + (r2 : Int)) = some (.int (((x1 :: ys)[r2] : Nat) : Int)) := by
          have e1 : (1 : Int) + (r2 : Int) = ((r2 + 1 : Nat) : Int) := by omega
          rw [e1]
          refine atI_nat ?_
          show (nV (x1 :: ys))[r2]? = _
          simp only [nV, List.getElem?_map]
          rw [List.getElem?_eq_getElem hr4]
          rfl
        refine ⟨_, _, rfl, rfl, lv, _, _, _, rfl, rfl, .inl (.inl hl4), ea, ?_⟩
        have hmm : (x1 :: ys)[r2] ∈ x1 :: ys := List.getElem_mem hr4
        generalize (x1 :: ys)[r2] = mate at *
        refine ⟨_, rfl, .inl ⟨rfl, _, .inl (.inl ht4)⟩, _, rfl, _, rfl, small_sz (by simp), fun z2 nz2 => ?_⟩
        have s5 := same_new (o := .tup [V.int (x0 : Int), V.int (mate : Int)]) nz2
        have ht5 := s5 _ _ ht4
        have hl5 := s5 _ _ hl4
        have dp5 := s5.dps dp4
        have sf5 := sf4.same s5
        have mo5 := mo4.same s5
        have mvC := mvB.trans s5.mv
        have hz5 : Dp K (upd H4 z2 (.tup [V.int (x0 : Int), V.int (mate : Int)])) (.ref z2) (eJ (x0, mate)) := joint_mk (.inl (.inl upd_same))
        generalize upd H4 z2 (.tup [V.int (x0 : Int), V.int (mate : Int)]) = H5 at *
        refine ⟨t, _, _, rfl, rfl, ht5, small_lt (by omega), ?_⟩
        have tp := tps_lst (o := .lst (acc ++ [.ref z2])) ht5
        have dp6 : DpAll K (upd H5 t (.lst (acc ++ [.ref z2]))) (acc ++ [.ref z2]) ((J ++ [(x0, mate)]).map eJ) := by
          rw [List.map_append]
          exact DpAll.app (DpAll.tps tp (nols_js J) dp5) (.cons (Dp.tps tp (nol_j _) hz5) .nil)
        have ht6 : (upd H5 t (.lst (acc ++ [.ref z2]))) t = some (.lst (acc ++ [.ref z2])) := upd_same
        have hl6 : (upd H5 t (.lst (acc ++ [.ref z2]))) lv = some (.lst (nV (x0 :: x1 :: ys))) := by rw [upd_ne nlt]; exact hl5
        have mo6 := mo5.wr (o := .lst (acc ++ [.ref z2])) sf5
        have sf6 := sf5.wr (o := .lst (acc ++ [.ref z2])) ntm
        have mvD := mvC.wr (o := .lst (acc ++ [.ref z2])) nt0 ntm
        generalize upd H5 t (.lst (acc ++ [.ref z2])) = H6 at *
        refine ⟨_, rfl, lv, rfl, ⟨_, .inl (.inl hl6)⟩, fun DD nDD => lc_list (K := K) (a := lv) (xs := nV (x0 :: x1 :: ys)) (fun j H7 => Same H6 H7 ∧ H7 DD = some (.lst (nV (((x0 :: x1 :: ys).take j).filter fun x => !decide (x = x0 ∨ x = mate)))))
          ⟨same_new nDD, upd_same⟩ (fun j H7 _ h => .inl (.inl (h.1 _ _ hl6))) ?_ ?_⟩
        · rintro j y H7 hy ⟨s7, hD7⟩
          obtain ⟨y, hy', rfl⟩ := nV_at hy
          refine ⟨rfl, ?_⟩
          refine ⟨_, rfl, _, rfl, _, rfl, small_sz (by simp), fun z3 nz3 => ⟨z3, _, rfl, .inr (.inl (.inl upd_same)), rfl, rfl, _, rfl, ?_⟩⟩
          have s8 := s7.trans (same_new (o := .tup [V.int (x0 : Int), V.int (mate : Int)]) nz3)
          have hD8 := same_new (o := .tup [V.int (x0 : Int), V.int (mate : Int)]) nz3 _ _ hD7
          generalize upd H7 z3 (.tup [V.int (x0 : Int), V.int (mate : Int)]) = H8 at *
          by_cases c3 : y = x0 ∨ y = mate
          · refine itef (by rw [in_two_int]; simp [c3]) ?_
            refine ⟨s8, ?_⟩
            rw [hD8, filt_take hy', if_neg (by simp [c3]), List.append_nil]
          · refine itet (by rw [in_two_int]; simp [c3]) ?_
            refine ⟨_, rfl, _, hD8, ?_, s8.wr nDD, ?_⟩
            · have h9 := List.length_filter_le (fun x => !decide (x = x0 ∨ x = mate)) ((x0 :: x1 :: ys).take j)
              have h10 := length_le (N := 2 * n) (r := x0 :: x1 :: ys) (I.so.imp fun h => by omega) I.lt
              rw [List.length_take] at h9
              exact small_lt (by rw [nV_len]; omega)
            · rw [upd_same, filt_take hy', if_pos (by simp [c3]), ← nV_app]
              rfl
        · rintro H7 ⟨s7, hD7⟩
          rw [nV_len, List.take_length] at hD7
          have ht7 := s7 _ _ ht6
          refine ⟨DD, _, _, _, _, _, _, _, rfl, mvD.trans s7.mv, mo6.same s7, sf6.same s7, ht7, s7.dps dp6, hD7, ?_, I.take hmm⟩
          exact Ne.symm (ne_of_none ht6 nDD)
      · refine itef (decide_eq_false c) ?_
        refine ⟨_, rfl, _, rfl, lv, _, rfl, .inl (.inl hl3), fun p np => ?_⟩
        rw [cut1]
        have s5 := same_new (o := .lst ((nV (x0 :: x1 :: ys)).drop 1)) np
        exact ⟨p, x1 :: ys, acc, J, _, _, _, _, rfl, mvA.trans s5.mv, mo3.same s5, sf3.same s5, s5 _ _ ht3, s5.dps dp3, upd_same, Ne.symm (ne_of_none ht3 np), I.drop⟩
  · rintro σ H' ⟨lv, xs, acc, J, y5, y6, y7, y8, rfl, mv, mo, sf, ht, dp, hl, nlt, I⟩
    refine ⟨_, rfl, _, rfl, t, acc, _, rfl, .inl (.inl ht), dp, allAlike_map alike_j J, .inl ?_, ?_, fun ys p hys np => ?_⟩
    · intro e he
      obtain ⟨c, hc, rfl⟩ := List.mem_map.mp he
      exact ⟨_, _, rfl⟩
    · intro e he
      obtain ⟨c, hc, rfl⟩ := List.mem_map.mp he
      exact eJ_depth _
    · rw [srtD_js] at hys
      have s1 := same_new (o := .lst ys) np
      refine ⟨p, _, rfl, .inl ⟨.inl (.inl upd_same), fun z nz => ⟨small_sz (by simp), fun z2 nz2 => ?_⟩⟩⟩
      have s2 := same_new (o := .tup ys) nz
      have s3 := same_new (o := .tup [V.int (n : Int), V.ref z]) nz2
      have s4 := (s1.trans s2).trans s3
      refine q _ (srtJ J) _ (mv.trans s4.mv) (mo.same s4) ?_ I.ok
      exact lay_mk (L := (n, srtJ J)) (.inl (.inl upd_same)) (.inl (.inl (s3 _ _ upd_same))) (s4.dps hys)
/-- the mates as a dict -/
structure Mts (J : List Jt) (kvs : List (Key × V)) : Prop where
  val : ∀ x : Nat, valV kvs (.inl (x : Int)) = if fn J x = x then none else some (.int (fn J x : Int))
  len : kvs.length ≤ 24
def sp_mates (K : PySem.W.Frag) : Sp := fun vs H Q _ => ∃ (v : V) (L : Lay), vs = [v] ∧ Dp K H v (eLay L) ∧ LayOk L ∧ ∀ p H' kvs, Same H H' → H' p = some (.dK kvs) → Mts L.2 kvs → Q (.ref p) H'
abbrev C25 (P : Program) (w : World) (K : PySem.W.Frag) (mg : Str → Option Value) (base : Heap) : Prop := Cal P w K mg base 1 "_law_mates" ["_law_lay_here"] (sp_mates K)
theorem ok_mates (D : Df K mg "_law_mates" s__law_mates ["_law_lay_here"] f fd) (T : Tx mg) : C25 P w K mg base := by
  refine D.cal (D.F.ok sc__law_mates (fun vs H Q E h => ?_) (fun cdv A outer s H vs Q E hr h => ?_))
  · obtain ⟨v, L, rfl, _⟩ := h
    rfl
  obtain ⟨v, L, rfl, hd, hL, q⟩ := h
  obtain ⟨a, b, xs, rfl, hA, hB, hx⟩ := lay_open hd
  have hi := hL.hi
  have hx2 := DpAll.len hx
  rw [List.length_map] at hx2
  have hJ := js_len hL.ok.good
  refine ⟨_, (pss_cons (ps_set (i := 1) sc__law_mates.nd rfl (.inl rfl) pe_dnewK)
      (pss_cons (ps_for PassesOwn.never rfl (pi_tup (pe_ix ix_tup (pv 0) pe_int (fun _ _ => rfl))) (pg_tup (by rfl) (pgs_cons (pg_name (i := 2) sc__law_mates.nd rfl (.inl rfl)) (pgs_cons (pg_name (i := 3) sc__law_mates.nd rfl (.inl rfl)) pgs_nil))) (pss_cons (ps_dput (hu_of hr) (pv 1) (pv 2) (pv 3) rfl)
      (pss_one (ps_dput (hu_of hr) (pv 1) (pv 3) (pv 2) rfl))))
      (pss_one (ps_ret (pv 1))))), ?_⟩
  refine fun d nd => ?_
  have s0 : Same H (upd H d (.dK [])) := same_new nd
  refine ⟨_, rfl, a, _, _, _, rfl, rfl, s0.sq hA, at1, b, rfl, ⟨xs, s0.sq hB⟩, ?_⟩
  refine for_tup (K := K) (a := b) (xs := xs) (fun i σ H' => ∃ (y2 y3 : Option V) (kvs : List (Key × V)), σ = [some (.ref a), some (.ref d), y2, y3] ∧ Same H H' ∧ H' d = some (.dK kvs) ∧ kvs.length ≤ 2 * i ∧
    ∀ x : Nat, valV kvs (.inl (x : Int)) = if fn (L.2.take i) x = x then none else some (.int (fn (L.2.take i) x : Int)))
    ⟨none, none, [], rfl, s0, upd_same, by simp, fun x => by simp [valV_nil, fn]⟩ ?_ ?_ ?_
  · rintro i σ H' _ ⟨_, _, _, _, sm, _⟩
    exact sm.sq hB
  · rintro i x σ H' hi' ⟨y2, y3, kvs, rfl, sm, hd', kl, kv⟩
    obtain ⟨j, tj, hj, rfl, hj2⟩ := js_at hx hi'
    have jm : j ∈ L.2 := List.mem_of_getElem? hj
    obtain ⟨k1, k2, k3⟩ := hL.ok.good.js j jm
    obtain ⟨n1, n2⟩ := ends_take hL.ok.good hj
    have hil : i < xs.length := (List.getElem?_eq_some_iff.mp hi').1
    refine ⟨tj, _, rfl, sm.sq hj2, rfl, _, _, rfl, _, _, rfl, rfl, ?_⟩
    refine ⟨_, rfl, _, rfl, _, rfl, d, _, rfl, DPut.k (k := Sum.inl (j.1 : Int)) hd' (small_lt (by omega)), ?_⟩
    have l1 := length_putK kvs (Sum.inl (j.1 : Int)) (.int (j.2 : Int))
    refine ⟨_, rfl, _, rfl, _, rfl, d, _, rfl, DPut.k (k := Sum.inl (j.2 : Int)) upd_same (small_lt (by omega)), ?_⟩
    have l2 := length_putK (putK kvs (Sum.inl (j.1 : Int)) (.int (j.2 : Int))) (Sum.inl (j.2 : Int)) (.int (j.1 : Int))
    refine ⟨_, _, _, rfl, (sm.wr nd).wr nd, upd_same, by omega, fun x => ?_⟩
    have e := fn_snoc (a := j.1) (b := j.2) n1 n2 x
    have ej : ((j.1, j.2) : Jt) = j := rfl
    rw [ej] at e
    have et : L.2.take (i + 1) = L.2.take i ++ [j] := by rw [List.take_add_one, hj]; rfl
    rw [valV_put, valV_put, kv, et, e]
    have h1 : ((Sum.inl (x : Int) : Key) = Sum.inl (j.2 : Int)) ↔ x = j.2 := by
      constructor
      · intro z; have := Sum.inl.inj z; omega
      · intro z; rw [z]
    have h2 : ((Sum.inl (x : Int) : Key) = Sum.inl (j.1 : Int)) ↔ x = j.1 := by
      constructor
      · intro z; have := Sum.inl.inj z; omega
      · intro z; rw [z]
    simp only [h1, h2]
    by_cases c2 : x = j.2
    · have c1 : ¬ x = j.1 := by omega
      rw [if_pos c2, if_neg c1, if_pos c2, if_neg (by omega)]
    · rw [if_neg c2]
      by_cases c1 : x = j.1
      · rw [if_pos c1, if_pos c1, if_neg (by omega)]
      · rw [if_neg c1, if_neg c1, if_neg c2]
  · rintro σ H' ⟨y2, y3, kvs, rfl, sm, hd', kl, kv⟩
    have e : L.2.take xs.length = L.2 := by rw [hx2, List.take_length]
    rw [e] at kv
    exact ⟨_, rfl, q d H' kvs sm hd' ⟨kv, by omega⟩⟩
end
end DC
namespace DC
open PySem PySem.Spec PyProof.Rows L2 Dm
theorem in_nV (x : Nat) (h : List Nat) : inV (.int (x : Int)) (nV h) = decide (x ∈ h) := by
  induction h with
  | nil => rfl
  | cons y h ih =>
    have e : inV (.int (x : Int)) (nV (y :: h)) = (eqV (.int (y : Int)) (.int (x : Int)) || inV (.int (x : Int)) (nV h)) := rfl
    rw [e, ih]
    rw [Bool.eq_iff_iff]
    simp [eqV]
    grind
theorem flat_nV (h : List Nat) : (nV h).all flatV = true := by
  rw [List.all_eq_true]
  intro v hv
  obtain ⟨x, _, rfl⟩ := List.mem_map.mp hv
  rfl
theorem nV_ints (h : List Nat) : nV h = (h.map fun (x : Nat) => (x : Int)).map V.int := by simp [nV]
theorem nV_atI {h : List Nat} {k x : Nat} (e : h[k]? = some x) : atI (nV h) (k : Int) = some (.int (x : Int)) := atI_nat (by simp [nV, e])
theorem put_cat (h : List Nat) (u : Nat) : nV h ++ (List.replicate (if (!inV (.int (u : Int)) (nV h)) = true then (1 : Int) else 0).toNat [V.int (u : Int)]).flatten = nV (put1 h u) := by
  rw [in_nV]
  unfold put1
  by_cases c : u ∈ h
  · simp [c]
  · simp [c, nV]
theorem perm_back {ns : List Int} {h : List Nat} (p : ns.Perm (h.map fun (x : Nat) => (x : Int))) : ∃ c : List Nat, c.Perm h ∧ ns.map V.int = nV c := by
  refine ⟨ns.map Int.toNat, ?_, ?_⟩
  · have := p.map Int.toNat
    simpa [List.map_map, Function.comp_def] using this
  · have e : (ns.map Int.toNat).map (fun (x : Nat) => (x : Int)) = ns := by
      rw [List.map_map]
      refine (List.map_congr_left (g := id) fun z hz => ?_).trans (List.map_id ns)
      obtain ⟨x, _, rfl⟩ := List.mem_map.mp (p.mem_iff.mp hz)
      simp
    rw [nV_ints, e]
theorem mts_get {J : List Jt} {kvs : List (Key × V)} (h : Mts J kvs) (x : Nat) : (valV kvs (.inl (x : Int))).getD (.int (x : Int)) = .int (fn J x : Int) := by
  rw [h.val]
  split
  · rename_i e; rw [e]; rfl
  · rfl
def isFr (J : List Jt) (x : Nat) : Bool := decide (fn J x = x)
theorem mts_not {J : List Jt} {kvs : List (Key × V)} (h : Mts J kvs) (x : Nat) : (!(valV kvs (.inl (x : Int))).isSome) = isFr J x := by
  rw [h.val]
  unfold isFr
  by_cases c : fn J x = x
  · rw [if_pos c, decide_eq_true c]; rfl
  · rw [if_neg c, decide_eq_false c]; rfl
theorem eR_head {c : List Nat} (h : c ≠ []) : ∃ x r, eR c = .tuple (x :: r) := by
  cases c with
  | nil => exact absurd rfl h
  | cons x c => exact ⟨_, _, rfl⟩
section
variable {P : Program} {w : World} {K : PySem.W.Frag} {mg : Str → Option Value} {base : Heap} {f : Addr} {fd : FuncData}
def sp_heaps (K : PySem.W.Frag) : Sp := fun vs H Q _ => ∃ (v u : V) (L M : Lay), vs = [v, u] ∧ Dp K H v (eLay L) ∧ Dp K H u (eLay M) ∧ LayOk L ∧ LayOk M ∧ L.1 = M.1 ∧
  ∀ p H' acc (Ps : List (List Nat)), Same H H' → H' p = some (.lst acc) → DpAll K H' acc (Ps.map eR) → Part (2 * L.1) (fn L.2) (fn M.2) Ps → (∀ c ∈ Ps, c ≠ []) → Q (.ref p) H'
abbrev C26 (P : Program) (w : World) (K : PySem.W.Frag) (mg : Str → Option Value) (base : Heap) : Prop := Cal P w K mg base 2 "_law_heaps" ["_law_one", "_law_other"] (sp_heaps K)
theorem ok_heaps (D : Df K mg "_law_heaps" s__law_heaps ["_law_one", "_law_other"] f fd) (T : Tx mg) (C__law_mates : C25 P w K mg base) : C26 P w K mg base := by
  refine D.cal (D.F.ok sc__law_heaps (fun vs H Q E h => ?_) (fun cdv A outer s H vs Q E hr h => ?_))
  · obtain ⟨v, u, L, M, rfl, _⟩ := h
    rfl
  obtain ⟨v, u, L, M, rfl, hd, he, hL, hM, en, q⟩ := h
  obtain ⟨a, b, xs, rfl, hA, hB, hx⟩ := lay_open hd
  have hi := hL.hi
  have eN : (2 : Int) * (L.1 : Int) = ((2 * L.1 : Nat) : Int) := by omega
  have eT : ((2 * L.1 : Nat) : Int).toNat = 2 * L.1 := by omega
  have gA := hL.ok.good
  have gB : Good (2 * L.1) M.2 := by rw [en]; exact hM.ok.good
  refine ⟨_, (pss_cons (ps_par3 (i := 2) (j := 3) (l := 4) rfl sc__law_heaps.nd rfl rfl rfl (by decide) (by decide) (by decide) rfl rfl rfl (pa_cons (pe_lst (pa_cons (pe_c C__law_mates hr (by rfl) (pa_cons (pv 0) pa_nil)) (pa_cons (pe_c C__law_mates hr (by rfl) (pa_cons (pv 1) pa_nil)) pa_nil))) (pa_cons (pe_listRg rfl (by rfl) T.list (prg_1 (by rfl) T.range (pe_op op_mul pe_int (pe_ix ix_tup (pv 0) pe_int (fun _ _ => rfl))))) (pa_cons (pe_lst pa_nil) pa_nil))) (by rfl))
      (pss_cons (ps_for PassesOwn.never rfl (pi_range1 (by rfl) T.range (pa_cons (pe_op op_mul pe_int (pe_ix ix_tup (pv 0) pe_int (fun _ _ => rfl))) pa_nil)) (pg_name (i := 5) sc__law_heaps.nd rfl (.inl rfl)) (pss_one (ps_if (pt_cmpR (op_neD hr.units) (pv 3) (pe_lst pa_nil) (nomark _)) (pss_cons (ps_asg (pe_tup (pa_cons (pe_lst (pa_cons (pe_ix ix_list (pv 3) pe_int (fun _ _ => rfl)) pa_nil)) (pa_cons pe_int pa_nil))) (pg_tup (by rfl) (pgs_cons (pg_name (i := 6) sc__law_heaps.nd rfl (.inr rfl)) (pgs_cons (pg_name (i := 7) sc__law_heaps.nd rfl (.inl rfl)) pgs_nil))))
      (pss_cons (ps_for PassesOwn.never rfl (pi_range1 (by rfl) T.range (pa_cons (pe_op op_mul pe_int (pe_ix ix_tup (pv 0) pe_int (fun _ _ => rfl))) pa_nil)) (pg_name (i := 8) sc__law_heaps.nd rfl (.inl rfl)) (pss_one (ps_if (pt_cmpR op_lt (pv 7) (pe_callB call_len_seq (by rfl) T.len (by decide +kernel) (pa_cons (pv 6) pa_nil)) (nomark _)) (pss_cons (ps_for PassesOwn.never rfl (pi_list (pv 2)) (pg_name (i := 9) sc__law_heaps.nd rfl (.inl rfl)) (pss_cons (ps_set (i := 10) sc__law_heaps.nd rfl (.inl rfl) (pe_dget2 (hu_of hr) (pv 9) (pe_ix ix_list (pv 6) (pv 7) (fun _ _ => rfl)) (pe_ix ix_list (pv 6) (pv 7) (fun _ _ => rfl)) ⟨rfl, rfl, rfl, rfl⟩))
      (pss_one (ps_set (i := 6) sc__law_heaps.nd rfl (.inr rfl) (pe_op op_cat (pv 6) (pe_op op_rep (pe_lst (pa_cons (pv 10) pa_nil)) (pe_callTy call_int1 (by rfl) T.int (by decide +kernel) (pa_cons (pe_cmpR op_notIn_seq (pv 10) (pv 6) (by rfl)) pa_nil))))))))
      (pss_one (ps_set (i := 7) sc__law_heaps.nd rfl (.inl rfl) (pe_op op_add (pv 7) pe_int)))) pss_nil)))
      (pss_cons (ps_expr (pe_bm PySem.F.plainAttrs_list PySem.F.slot_list_append PySem.F.type_list_append mt_append (pv 4) (pa_cons (pe_callTy call_tuple_of (by rfl) T.tuple (by decide +kernel) (pa_cons (pe_callB cr_sorted (by rfl) T.sorted (by decide +kernel) (pa_cons (pv 6) pa_nil)) pa_nil)) pa_nil)))
      (pss_one (ps_setLc (i := 3) (own := [("_law_end", 10)]) (g := gName 10) (by rfl) sc__law_heaps.nd rfl rfl (sw_true rfl rfl rfl (by decide +kernel)) (pi_list (pv 3)) (blkOk_by (N := ["_law_one", "_law_other", "_law_mates_here", "_law_left", "_law_found", "_law_turn", "_law_heap", "_law_at", "_law_walk", "_law_known", "_law_end"]) (sc := defScope s__law_heaps) (by decide +kernel)) (fun _ _ _ _ _ => (pg_name (i := 10) sc__law_heaps.nd rfl (.inl rfl))) (fun _ _ _ _ _ => (pts_one (pt_cmpR (show OpR _ _ (rIn K true) from op_notIn_seq) (pv 10) (pv 6) (by rfl)))) (fun _ _ _ _ _ => (pv 10))))))) pss_nil)))
      (pss_one (ps_ret (pe_callB (call_sortedD hr.units) (by rfl) T.sorted (by decide +kernel) (pa_cons (pv 4) pa_nil)))))), ?_⟩
  refine ⟨_, rfl, _, L, rfl, hd, hL, fun p0 H1 kv0 s1 h0 m0 => ?_⟩
  refine ⟨_, rfl, _, M, rfl, s1.dp he, hM, fun p1 H2 kv1 s2 h1 m1 => ?_⟩
  refine ⟨small_sz (by simp), fun mm nmm => ?_⟩
  have s3 := same_new (o := .lst [.ref p0, .ref p1]) nmm
  have hmm : (upd H2 mm (.lst [.ref p0, .ref p1])) mm = some (.lst [.ref p0, .ref p1]) := upd_same
  have g0 := s3 _ _ (s2 _ _ h0)
  have g1 := s3 _ _ h1
  have s4 := (s1.trans s2).trans s3
  generalize upd H2 mm (.lst [.ref p0, .ref p1]) = H3 at *
  refine ⟨_, rfl, a, _, _, _, rfl, rfl, s4.sq hA, at0, _, _, rfl, rfl, .inl ⟨by decide, by decide⟩, _, rfl, ?_⟩
  rw [eN]
  refine ⟨⟨by omega, by omega, by omega, by omega, by omega⟩, fun l nl => ⟨small_sz (by simp), fun t nt => ⟨_, _, _, rfl, ?_⟩⟩⟩
  rw [rgV_nV] at nt ⊢
  have s5 := (same_new (o := .lst (nV (List.range (2 * L.1)))) nl).trans (same_new (o := .lst []) nt)
  have hl0 : (upd (upd H3 l (.lst (nV (List.range (2 * L.1))))) t (.lst [])) l = _ := same_new (o := .lst []) nt _ _ upd_same
  have ht0 : (upd (upd H3 l (.lst (nV (List.range (2 * L.1))))) t (.lst [])) t = some (.lst []) := upd_same
  have nlt : l ≠ t := ne_of_none (show (upd H3 l (.lst (nV (List.range (2 * L.1))))) l = some _ from upd_same) nt
  have nt3 : H3 t = none := (same_new (o := .lst (nV (List.range (2 * L.1)))) nl).none nt
  have nt0 : H t = none := s4.none nt3
  generalize upd (upd H3 l (.lst (nV (List.range (2 * L.1))))) t (.lst []) = Hb at *
  have sH : Same H (hid2 Hb t t) := same_hid2 (s4.trans s5) nt0 nt0
  have w0 : hid2 Hb t t p0 = _ := hid2_of (s5 _ _ g0) (ne_of_none g0 nt3) (ne_of_none g0 nt3)
  have w1 : hid2 Hb t t p1 = _ := hid2_of (s5 _ _ g1) (ne_of_none g1 nt3) (ne_of_none g1 nt3)
  have wm : hid2 Hb t t mm = _ := hid2_of (s5 _ _ hmm) (ne_of_none hmm nt3) (ne_of_none hmm nt3)
  have wa := (sH.sq hA)
  have sw : Same (hid2 Hb t t) Hb := hid2_same
  have wt : hid2 Hb t t t = none := hid2_t
  refine ⟨_, rfl, a, _, _, _, rfl, rfl, (s4.trans s5).sq hA, at0, _, _, rfl, rfl, .inl ⟨by decide, by decide⟩, _, rfl, by omega, by omega, ?_⟩
  rw [eN]
  generalize hid2 Hb t t = Hw at *
  refine for_range (fun i σ H' => ∃ (lv : Addr) (xs : List Nat) (acc : List V) (Ps : List (List Nat)) (y5 y6 y7 y8 y9 y10 : Option V), σ = [some (.ref a), some u, some (.ref mm), some (.ref lv), some (.ref t), y5, y6, y7, y8, y9, y10] ∧
    Same Hw H' ∧ H' t = some (.lst acc) ∧ DpAll K H' acc (Ps.map eR) ∧ H' lv = some (.lst (nV xs)) ∧ lv ≠ t ∧ Pre (2 * L.1) (fn L.2) (fn M.2) Ps ∧ (∀ x, x ∈ xs ↔ x < 2 * L.1 ∧ x ∉ Ps.flatten) ∧ xs.length ≤ 2 * L.1 - i)
    ⟨l, _, [], [], none, none, none, none, none, none, rfl, sw, ht0, .nil, hl0, nlt, Pre.nil _ _ _, by simp, by simp⟩ ?_ ?_
  · rintro i σ H' hiN ⟨lv, xs, acc, Ps, y5, y6, y7, y8, y9, y10, rfl, sm, ht, dp, hl, nlv, pre, hxs, hlen⟩
    rw [eT] at hiN
    refine ⟨_, rfl, small_sz (by simp), fun e ne => ?_⟩
    have s6 := same_new (o := .lst []) ne
    have he6 : (upd H' e (.lst [])) e = some (.lst []) := upd_same
    have ht := s6 _ _ ht
    have dp := s6.dps dp
    have hl := s6 _ _ hl
    have sm := sm.trans s6
    generalize upd H' e (.lst []) = H6 at *
    refine ⟨.list ((xs.map fun (x : Nat) => (x : Int)).map .int), .list [], ints_dp (.inl (.inl (by rw [← nV_ints]; exact hl))), .lst (.inl (.inl he6)) .nil, lay_ints _, rfl, _, rfl, ?_⟩
    cases xs with
    | nil => exact itef rfl ⟨lv, [], acc, Ps, _, _, _, _, _, _, rfl, sm, ht, dp, hl, nlv, pre, hxs, by simp⟩
    | cons x0 ys =>
      refine itet rfl ?_
      obtain ⟨x0N, x0f⟩ := (hxs x0).mp List.mem_cons_self
      have hl' : H6 lv = some (.lst (V.int (x0 : Int) :: nV ys)) := hl
      refine ⟨_, rfl, lv, _, _, _, rfl, rfl, .inl (.inl hl'), at0, small_sz (by simp), fun hv nhv => ⟨small_sz (by simp), fun z nz => ⟨z, _, rfl, .inl (.inl upd_same), rfl, _, _, rfl, _, _, rfl, rfl, ?_⟩⟩⟩
      have s7 := (same_new (o := .lst [V.int (x0 : Int)]) nhv).trans (same_new (o := .tup [V.ref hv, V.int 0]) nz)
      have hv7 : (upd (upd H6 hv (.lst [V.int (x0 : Int)])) z (.tup [V.ref hv, V.int 0])) hv = some (.lst (nV [x0])) := same_new (o := .tup [V.ref hv, V.int 0]) nz _ _ upd_same
      generalize upd (upd H6 hv (.lst [V.int (x0 : Int)])) z (.tup [V.ref hv, V.int 0]) = H7 at *
      refine ⟨_, rfl, a, _, _, _, rfl, rfl, ((sm.trans s7).sq wa), at0, _, _, rfl, rfl, .inl ⟨by decide, by decide⟩, _, rfl, by omega, by omega, ?_⟩
      rw [eN]
      refine for_range (fun j σ H' => ∃ (hv : Addr) (h : List Nat) (k : Nat) (y8 y9 y10 : Option V), σ = [some (.ref a), some u, some (.ref mm), some (.ref lv), some (.ref t), some (.int (0 + (i : Int))), some (.ref hv), some (.int (k : Int)), y8, y9, y10] ∧
        Same H7 H' ∧ hv ≠ t ∧ H' hv = some (.lst (nV h)) ∧ HInv (2 * L.1) (fn L.2) (fn M.2) x0 h k ∧ (k = h.length ∨ k = j))
        ⟨hv, [x0], 0, _, _, _, rfl, Same.refl _, Ne.symm (ne_of_none ht nhv), hv7, HInv.start x0N, .inr rfl⟩ ?_ ?_
      · rintro j σ H8 hjN ⟨hv, h, k, y8, y9, y10, rfl, s8, nvt, hh, HI, hk⟩
        rw [eT] at hjN
        refine ⟨_, rfl, _, rfl, hv, _, rfl, .inl (.inl (.inl hh)), _, _, rfl, rfl, _, rfl, ?_⟩
        by_cases c : k < h.length
        · refine itet (by rw [nV_len]; exact decide_eq_true (by omega)) ?_
          obtain ⟨x, hx⟩ : ∃ x, h[k]? = some x := ⟨h[k], List.getElem?_eq_getElem c⟩
          have sw8 := (sm.trans s7).trans s8
          refine ⟨_, rfl, mm, rfl, ⟨_, .inl (.inl (sw8 _ _ wm))⟩, ?_⟩
          refine for_list (K := K) (a := mm) (xs := [V.ref p0, V.ref p1]) (fun r σ H' => ∃ (hv : Addr) (h2 : List Nat) (y9 y10 : Option V), σ = [some (.ref a), some u, some (.ref mm), some (.ref lv), some (.ref t), some (.int (0 + (i : Int))), some (.ref hv), some (.int (k : Int)), some (.int (0 + (j : Int))), y9, y10] ∧
            Same H8 H' ∧ hv ≠ t ∧ H' hv = some (.lst (nV h2)) ∧ h2[k]? = some x ∧ h2.length ≤ h.length + r ∧ h2 = (match r with | 0 => h | 1 => put1 h (fn L.2 x) | _ => put1 (put1 h (fn L.2 x)) (fn M.2 x)))
            ⟨hv, h, _, _, rfl, Same.refl _, nvt, hh, hx, by omega, rfl⟩ (fun r σ H' _ hh => by obtain ⟨_, _, _, _, _, s, _⟩ := hh; exact .inl (.inl (s _ _ (sw8 _ _ wm)))) ?_ ?_
          · rintro r y σ H9 hy ⟨hv, h2, y9, y10, rfl, s9, nvt, hh2, hx2, hlen2, eh2⟩
            have hN := HI.len
            obtain ⟨J, kvs, pd, rfl, hkv, MT, hr2⟩ : ∃ (J : List Jt) (kvs : List (Key × V)) (pd : Addr), y = .ref pd ∧ H9 pd = some (.dK kvs) ∧ Mts J kvs ∧ put1 h2 (fn J x) = (match r + 1 with | 0 => h | 1 => put1 h (fn L.2 x) | _ => put1 (put1 h (fn L.2 x)) (fn M.2 x)) := by
              match r, hy, eh2 with
              | 0, hy, eh2 => cases hy; exact ⟨L.2, kv0, p0, rfl, s9 _ _ (sw8 _ _ w0), m0, by rw [show h2 = h from eh2]; rfl⟩
              | 1, hy, eh2 => cases hy; exact ⟨M.2, kv1, p1, rfl, s9 _ _ (sw8 _ _ w1), m1, by rw [show h2 = put1 h (fn L.2 x) from eh2]; rfl⟩
            have hr : r < 2 := (List.getElem?_eq_some_iff.mp hy).1
            refine ⟨_, rfl, pd, rfl, .inl ⟨_, .inl hkv⟩, _, rfl, _, rfl, hv, _, _, _, rfl, rfl, .inl (.inl hh2), nV_atI hx2, _, rfl, _, rfl, hv, _, _, _, rfl, rfl, .inl (.inl hh2), nV_atI hx2, _, DGet.k (k := Sum.inl (x : Int)) hkv, ?_⟩
            rw [mts_get MT]
            refine ⟨_, rfl, _, rfl, small_sz (by simp), fun e1 ne1 => ?_⟩
            have s10 := same_new (o := .lst [V.int (fn J x : Int)]) ne1
            have he1 : (upd H9 e1 (.lst [V.int (fn J x : Int)])) e1 = some (.lst [V.int (fn J x : Int)]) := upd_same
            have hh3 := s10 _ _ hh2
            have s11 := s9.trans s10
            generalize upd H9 e1 (.lst [V.int (fn J x : Int)]) = H10 at *
            refine ⟨_, rfl, _, rfl, hv, _, rfl, .inl (.inl (.inl hh3)), rfl, flat_nV _, .inr ⟨_, rfl, ?_⟩⟩
            have k1 : ∀ b : Bool, (if b = true then (1 : Int) else 0).toNat ≤ 1 := fun b => by cases b <;> decide
            refine ⟨e1, _, _, rfl, rfl, he1, by split <;> omega, by split <;> omega, small_sz (by have := k1 (!inV (.int (fn J x : Int)) (nV h2)); simp only [List.length_singleton]; omega), fun e2 ne2 => ?_⟩
            have s12 := same_new (o := .lst (List.replicate (if (!inV (.int (fn J x : Int)) (nV h2)) = true then (1 : Int) else 0).toNat [V.int (fn J x : Int)]).flatten) ne2
            have he2 : (upd H10 e2 (.lst (List.replicate (if (!inV (.int (fn J x : Int)) (nV h2)) = true then (1 : Int) else 0).toNat [V.int (fn J x : Int)]).flatten)) e2 = _ := upd_same
            have hh4 := s12 _ _ hh3
            have s13 := s11.trans s12
            have pl : (put1 h2 (fn J x)).length ≤ h2.length + 1 := by unfold put1; split <;> simp
            refine ⟨hv, e2, _, _, rfl, rfl, hh4, he2, small_sz ?_, fun e3 ne3 => ?_⟩
            · rw [← List.length_append, put_cat, nV_len]
              omega
            · rw [put_cat]
              refine ⟨e3, put1 h2 (fn J x), _, _, rfl, s13.trans (same_new ne3), Ne.symm (ne_of_none (s13 _ _ (s8 _ _ (s7 _ _ ht))) ne3), upd_same, ?_, by omega, hr2⟩
              rw [put1_get (List.getElem?_eq_some_iff.mp hx2).1]
              exact hx2
          · rintro σ H9 ⟨hv, h2, y9, y10, rfl, s9, nvt, hh2, hx2, hlen2, eh2⟩
            have eh2 : h2 = put1 (put1 h (fn L.2 x)) (fn M.2 x) := eh2
            refine ⟨_, rfl, _, _, rfl, rfl, ?_⟩
            have kj : k = j := by rcases hk with z | z <;> omega
            refine ⟨hv, h2, k + 1, _, _, _, rfl, s8.trans s9, nvt, hh2, ?_, .inr (by omega)⟩
            rw [eh2]
            exact HI.step (fn_pl gA) (fn_pl gB) hx
        · refine itef (by rw [nV_len]; exact decide_eq_false (by omega)) ?_
          have := HI.le
          exact ⟨hv, h, k, _, _, _, rfl, s8, nvt, hh, HI, .inl (by omega)⟩
      · rintro σ H8 ⟨hv, h, k, y8, y9, y10, rfl, s8, nvt, hh, HI, hk⟩
        have hN := HI.len
        have hle := HI.le
        have kl : k = h.length := by
          rcases hk with z | z
          · exact z
          · rw [eT] at z
            omega
        subst kl
        have s78 := s7.trans s8
        have ht8 := s78 _ _ ht
        have hl8 := s78 _ _ hl
        have dp8 := s78.dps dp
        have sw8 := sm.trans s78
        refine ⟨_, rfl, .inl ⟨rfl, _, .inl (.inl ht8)⟩, _, rfl, hv, _, rfl, .inl (.inl (by rw [← nV_ints]; exact hh)), by rw [List.length_map]; omega, fun ns' p pm so np => ?_⟩
        obtain ⟨c, pc, ec⟩ := perm_back pm
        rw [ec]
        refine ⟨p, _, rfl, .inl ⟨.inl (.inl upd_same), fun l2 nl2 => ?_⟩⟩
        have s9 := (same_new (o := .lst (nV c)) np).trans (same_new (o := .tup (nV c)) nl2)
        have ht9 := s9 _ _ ht8
        have hl9 := s9 _ _ hl8
        have hh9 := s9 _ _ hh
        have dp9 := s9.dps dp8
        have sw9 := sw8.trans s9
        have hl29 : (upd (upd H8 p (.lst (nV c))) l2 (.tup (nV c))) l2 = some (.tup (nV c)) := upd_same
        generalize upd (upd H8 p (.lst (nV c))) l2 (.tup (nV c)) = H9 at *
        have fl := flat_len pre.ne
        have fl2 := length_le pre.nd pre.lt
        refine ⟨t, _, _, rfl, rfl, ht9, small_lt (by rw [DpAll.len dp9, List.length_map]; omega), ?_⟩
        have tp := tps_lst (o := .lst (acc ++ [.ref l2])) ht9
        have dp10 : DpAll K (upd H9 t (.lst (acc ++ [.ref l2]))) (acc ++ [.ref l2]) ((Ps ++ [c]).map eR) := by
          rw [List.map_append]
          exact DpAll.app (DpAll.tps tp (nols_map nol_r Ps) dp9) (.cons (row_mk (tp.t (.inl (.inl hl29)))) .nil)
        have ht10 : (upd H9 t (.lst (acc ++ [.ref l2]))) t = some (.lst (acc ++ [.ref l2])) := upd_same
        have hl10 : (upd H9 t (.lst (acc ++ [.ref l2]))) lv = some (.lst (nV (x0 :: ys))) := by rw [upd_ne nlv]; exact hl9
        have hh10 : (upd H9 t (.lst (acc ++ [.ref l2]))) hv = some (.lst (nV h)) := by rw [upd_ne nvt]; exact hh9
        have sw10 := sw9.wr (o := .lst (acc ++ [.ref l2])) wt
        generalize upd H9 t (.lst (acc ++ [.ref l2])) = H10 at *
        have ysl : ys.length ≤ 24 := by simp at hlen; omega
        refine ⟨_, rfl, lv, rfl, ⟨_, .inl (.inl hl10)⟩, fun DD nDD => lc_list (K := K) (a := lv) (xs := nV (x0 :: ys)) (fun j H7 => Same H10 H7 ∧ H7 DD = some (.lst (nV (((x0 :: ys).take j).filter fun x => !decide (x ∈ h)))))
          ⟨same_new nDD, upd_same⟩ (fun j H7 _ h => .inl (.inl (h.1 _ _ hl10))) ?_ ?_⟩
        · rintro j y H7 hy ⟨s11, hD7⟩
          obtain ⟨y, hy', rfl⟩ := nV_at hy
          refine ⟨rfl, ?_⟩
          refine ⟨_, rfl, _, rfl, hv, _, rfl, .inl (.inl (.inl (s11 _ _ hh10))), rfl, flat_nV _, _, rfl, ?_⟩
          by_cases c3 : y ∈ h
          · refine itef (by rw [in_nV]; simp [c3]) ?_
            refine ⟨s11, ?_⟩
            rw [hD7, filt_take hy', if_neg (by simp [c3]), List.append_nil]
          · refine itet (by rw [in_nV]; simp [c3]) ?_
            refine ⟨_, rfl, _, hD7, ?_, s11.wr nDD, ?_⟩
            · have h9 := List.length_filter_le (fun x => !decide (x ∈ h)) ((x0 :: ys).take j)
              rw [List.length_take, List.length_cons] at h9
              exact small_lt (by rw [nV_len]; omega)
            · rw [upd_same, filt_take hy', if_pos (by simp [c3]), ← nV_app]
              rfl
        · rintro H7 ⟨s11, hD7⟩
          rw [nV_len, List.take_length] at hD7
          refine ⟨DD, _, _, Ps ++ [c], _, _, _, _, _, _, rfl, sw10.trans s11, s11 _ _ ht10, s11.dps dp10, hD7, Ne.symm (ne_of_none ht10 nDD), pre.heap (fn_pl gA) (fn_pl gB) HI x0f pc, fun x => ?_, ?_⟩
          · rw [List.mem_filter, hxs, flat_snoc, pc.mem_iff]
            simp
            grind
          · have h1 := HI.mem
            have h2 := List.length_filter_le (fun x => !decide (x ∈ h)) ys
            rw [List.filter_cons, if_neg (by simp [h1])]
            simp at hlen
            omega
  · rintro σ H' ⟨lv, xs, acc, Ps, y5, y6, y7, y8, y9, y10, rfl, sm, ht, dp, hl, nlv, pre, hxs, hlen⟩
    rw [eT] at hlen
    have ex : xs = [] := List.length_eq_zero_iff.mp (by omega)
    subst ex
    have hcov : ∀ x, x < 2 * L.1 → x ∈ Ps.flatten := fun x hx => Decidable.byContradiction fun z => nomatch (hxs x).mpr ⟨hx, z⟩
    refine ⟨_, rfl, t, acc, _, rfl, .inl (.inl ht), dp, allAlike_map alike_r Ps, .inl ?_, ?_, fun ys p hys np => ?_⟩
    · intro e he
      obtain ⟨c, hc, rfl⟩ := List.mem_map.mp he
      exact eR_head (pre.ne c hc)
    · intro e he
      obtain ⟨c, hc, rfl⟩ := List.mem_map.mp he
      have := eR_depth c
      omega
    · obtain ⟨Qs, pm, eq⟩ := srtD_perm eR Ps
      rw [eq] at hys
      exact q p _ ys Qs ((sH.trans sm).trans (same_new np)) upd_same ((same_new np).dps hys) ((pre.part hcov).perm pm.symm) fun c hc => pre.ne c (pm.mem_iff.mp hc)
end
end DC
namespace DC
open PySem PySem.Spec PyProof.Rows L2 Dm
def kq (l0 : Nat) : Str := if l0 = 1 then "odd" else if l0 = 2 then "open" else "shut"
def kL (l0 l1 : Nat) : Str := if l0 = 0 ∧ l1 = 0 then "ring" else kq l0
def kLc (A B : List Jt) (c : List Nat) : Str := kL (c.filter (isFr A)).length (c.filter (isFr B)).length
theorem kq_ne (l0 : Nat) : kq l0 ≠ "ring" := by
  unfold kq
  split
  · decide
  · split <;> decide
theorem kq_odd (l0 : Nat) : kq l0 = "odd" ↔ l0 = 1 := by
  unfold kq
  by_cases h : l0 = 1
  · rw [if_pos h]; simp [h]
  · rw [if_neg h]
    constructor
    · intro e
      exfalso
      split at e
      · exact absurd e (by decide)
      · exact absurd e (by decide)
    · intro e; exact absurd e h
theorem kL_ring (l0 l1 : Nat) : kL l0 l1 = "ring" ↔ l0 = 0 ∧ l1 = 0 := by
  unfold kL
  by_cases h : l0 = 0 ∧ l1 = 0
  · rw [if_pos h]; simp [h]
  · rw [if_neg h]
    exact ⟨fun e => absurd e (kq_ne _), fun e => absurd e h⟩
theorem kL_odd (l0 l1 : Nat) : kL l0 l1 = "odd" ↔ l0 = 1 := by
  unfold kL
  by_cases h : l0 = 0 ∧ l1 = 0
  · rw [if_pos h]
    constructor
    · intro e; exact absurd e (by decide)
    · intro e; omega
  · rw [if_neg h]
    exact kq_odd l0
theorem kq_get {l0 : Nat} (h : l0 ≤ 2) : valV (mergeK [] [((Sum.inl 1 : Key), V.str "odd"), (Sum.inl 2, .str "open"), (Sum.inl 0, .str "shut")]) (Sum.inl (l0 : Int)) = some (.str (kq l0)) := by
  match l0, h with
  | 0, _ => rfl
  | 1, _ => rfl
  | 2, _ => rfl
theorem filt_zero {c : List Nat} {A : List Jt} : (c.filter (isFr A)).length = 0 ↔ ∀ x ∈ c, fn A x ≠ x := by
  rw [List.length_eq_zero_iff, List.filter_eq_nil_iff]
  constructor
  · intro h x hx e
    exact h x hx (decide_eq_true e)
  · intro h x hx e
    exact h x hx (of_decide_eq_true e)
theorem kLc_ring {A B : List Jt} {c : List Nat} (h : c ≠ []) : kLc A B c = "ring" ↔ ring (fn A) (fn B) c = true := by
  unfold kLc
  rw [kL_ring, filt_zero, filt_zero, ring_iff]
  constructor
  · rintro ⟨h1, h2⟩
    exact ⟨h, fun x hx => ⟨h1 x hx, h2 x hx⟩⟩
  · rintro ⟨_, h1⟩
    exact ⟨fun x hx => (h1 x hx).1, fun x hx => (h1 x hx).2⟩
theorem kLc_odd {A B : List Jt} {N : Nat} {Ps : List (List Nat)} (gA : Good N A) (gB : Good N B) (h : Part N (fn A) (fn B) Ps) {c : List Nat} (hc : c ∈ Ps) : kLc A B c = "odd" ↔ c.length % 2 = 1 := by
  unfold kLc
  rw [kL_odd]
  have h1 : (c.filter (isFr A)).length ≤ 2 := free_le (fn_pl gA) (fn_pl gB) h hc
  have h2 : (c.filter (isFr A)).length % 2 = c.length % 2 := parity (fn_pl gA).inv _ (Nat.le_refl _) (nodup_of_flat h.nd c hc) fun x hx => (h.cl c hc x hx).1
  omega
def pcL (A B : List Jt) (c : List Nat) : PyData := .tuple [.str (kLc A B c), .int (c.length : Int)]
theorem nol_pl (A B : List Jt) (c : List Nat) : nol (pcL A B c) = true := by simp [pcL, nol, nols]
theorem alike_pl {A B A' B' : List Jt} (c d : List Nat) : PySem.W.alike (pcL A B c) (pcL A' B' d) = true := by simp [pcL, PySem.W.alike, PySem.W.alikeAll]
theorem pl_depth (A B : List Jt) (c : List Nat) : (pcL A B c).depth ≤ 50 := by simp [pcL, PyData.depth, PyData.depthAll]
theorem part_lt {N : Nat} {g t : Nat → Nat} {Ps : List (List Nat)} (h : Part N g t Ps) {c : List Nat} (hc : c ∈ Ps) : c.length ≤ N := length_le (nodup_of_flat h.nd c hc) fun x hx => (h.cov x).mp (List.mem_flatten.mpr ⟨c, hc, hx⟩)
theorem part_few {N : Nat} {g t : Nat → Nat} {Ps : List (List Nat)} (h : Part N g t Ps) (ne : ∀ c ∈ Ps, c ≠ []) : Ps.length ≤ N := by
  have h1 := flat_len ne
  have h2 := length_le h.nd fun x hx => (h.cov x).mp hx
  omega
section
variable {P : Program} {w : World} {K : PySem.W.Frag} {mg : Str → Option Value} {base : Heap} {f : Addr} {fd : FuncData}
def sp_kind (K : PySem.W.Frag) : Sp := fun vs H Q _ => ∃ (v u r : V) (L M : Lay) (c : List Nat), vs = [v, u, r] ∧ Dp K H v (eLay L) ∧ Dp K H u (eLay M) ∧ LayOk L ∧ LayOk M ∧ Dp K H r (eR c) ∧ (c.filter (isFr L.2)).length ≤ 2 ∧ c.length ≤ 24 ∧
  ∀ H', Same H H' → Q (.str (kLc L.2 M.2 c)) H'
abbrev C27 (P : Program) (w : World) (K : PySem.W.Frag) (mg : Str → Option Value) (base : Heap) : Prop := Cal P w K mg base 2 "_law_kind" ["_law_one", "_law_other", "_law_heap"] (sp_kind K)
theorem ok_kind (D : Df K mg "_law_kind" s__law_kind ["_law_one", "_law_other", "_law_heap"] f fd) (T : Tx mg) (C__law_mates : C25 P w K mg base) : C27 P w K mg base := by
  refine D.cal (D.F.ok sc__law_kind (fun vs H Q E h => ?_) (fun cdv A outer s H vs Q E hr h => ?_))
  · obtain ⟨v, u, r, L, M, c, rfl, _⟩ := h
    rfl
  obtain ⟨v, u, r, L, M, c, rfl, hd, he, hL, hM, hR, hf, hc, q⟩ := h
  obtain ⟨ra, rfl, hRs⟩ := row_open hR
  refine ⟨_, (pss_cons (ps_asg (pe_tup (pa_cons (pe_c C__law_mates hr (by rfl) (pa_cons (pv 0) pa_nil)) (pa_cons (pe_c C__law_mates hr (by rfl) (pa_cons (pv 1) pa_nil)) pa_nil))) (pg_tup (by rfl) (pgs_cons (pg_name (i := 3) sc__law_kind.nd rfl (.inr rfl)) (pgs_cons (pg_name (i := 4) sc__law_kind.nd rfl (.inr rfl)) pgs_nil))))
      (pss_cons (ps_set (i := 5) sc__law_kind.nd rfl (.inl rfl) (pe_lst (pa_cons (pe_callB call_len_seq (by rfl) T.len (by decide +kernel) (pa_cons (pe_lc (own := [("_law_end", 6)]) (g := gName 6) (by rfl) sc__law_kind.nd (pi_tup (pv 2)) (blkOk_by (N := ["_law_one", "_law_other", "_law_heap", "_law_near", "_law_far_here", "_law_lacks", "_law_end"]) (sc := defScope s__law_kind) (by decide +kernel)) (fun _ _ _ _ _ => (pg_name (i := 6) sc__law_kind.nd rfl (.inl rfl))) (fun _ _ _ _ _ => (pts_one (pt_cmp (pc_dnotin (hu_of hr) (pv 6) (pv 3))))) (fun _ _ _ _ _ => (pv 6))) pa_nil)) (pa_cons (pe_callB call_len_seq (by rfl) T.len (by decide +kernel) (pa_cons (pe_lc (own := [("_law_end", 6)]) (g := gName 6) (by rfl) sc__law_kind.nd (pi_tup (pv 2)) (blkOk_by (N := ["_law_one", "_law_other", "_law_heap", "_law_near", "_law_far_here", "_law_lacks", "_law_end"]) (sc := defScope s__law_kind) (by decide +kernel)) (fun _ _ _ _ _ => (pg_name (i := 6) sc__law_kind.nd rfl (.inl rfl))) (fun _ _ _ _ _ => (pts_one (pt_cmp (pc_dnotin (hu_of hr) (pv 6) (pv 4))))) (fun _ _ _ _ _ => (pv 6))) pa_nil)) pa_nil))))
      (pss_cons (ps_if (pt_cmpR (op_eqD hr.units) (pv 5) (pe_lst (pa_cons pe_int (pa_cons pe_int pa_nil))) (nomark _)) (pss_one (ps_ret pe_str)) pss_nil)
      (pss_one (ps_ret (pe_dget (hu_of hr) (pe_disp (pps_cons pe_int pe_str (pps_cons pe_int pe_str (pps_cons pe_int pe_str pps_nil))) (by rfl) (by rfl) (fun z => by cases z) (by decide)) (pe_ix ix_list (pv 5) pe_int (fun _ _ => rfl)) (fun _ _ => rfl))))))), ?_⟩
  refine ⟨_, rfl, _, L, rfl, hd, hL, fun p0 H1 kv0 s1 h0 m0 => ⟨_, rfl, _, M, rfl, s1.dp he, hM, fun p1 H2 kv1 s2 h1 m1 => ⟨small_sz (by simp), fun z nz => ⟨z, _, rfl, .inl (.inl upd_same), rfl, _, _, rfl, _, _, rfl, rfl, ?_⟩⟩⟩⟩
  have s3 := same_new (o := .tup [.ref p0, .ref p1]) nz
  have s4 := (s1.trans s2).trans s3
  have g0 := s3 _ _ (s2 _ _ h0)
  have g1 := s3 _ _ h1
  generalize upd H2 z (.tup [.ref p0, .ref p1]) = H3 at *
  have hR3 := s4.sq hRs
  have step : ∀ (J : List Jt) (i y : Nat) , c[i]? = some y → ((c.take i).filter (isFr J)).length < sizeLine := fun J i y h => by
    have h9 := List.length_filter_le (isFr J) (c.take i)
    rw [List.length_take] at h9
    exact small_lt (by omega)
  refine ⟨_, rfl, ra, rfl, ⟨_, hR3⟩, fun D nD => lc_tup (K := K) (a := ra) (xs := nV c) (fun i H' => Same H3 H' ∧ H' D = some (.lst (nV ((c.take i).filter (isFr L.2))))) ⟨same_new nD, upd_same⟩ (fun i H' _ h => h.1.sq hR3) ?_ ?_⟩
  · rintro i x H' hx ⟨sm, hD⟩
    obtain ⟨y, hy, rfl⟩ := nV_at hx
    refine ⟨rfl, ?_⟩
    refine ⟨_, rfl, _, rfl, p0, _, rfl, DGet.k (k := Sum.inl (y : Int)) (sm _ _ g0), _, rfl, ?_⟩
    rw [mts_not m0]
    by_cases c3 : isFr L.2 y = true
    · refine itet c3 ?_
      refine ⟨_, rfl, _, hD, by rw [nV_len]; exact step _ _ _ hy, sm.wr nD, ?_⟩
      rw [upd_same, filt_take hy, if_pos c3, ← nV_app]
      rfl
    · refine itef (by simpa using c3) ?_
      refine ⟨sm, ?_⟩
      rw [hD, filt_take hy, if_neg c3, List.append_nil]
  rintro H4 ⟨s5, hD⟩
  rw [nV_len, List.take_length] at hD
  refine ⟨D, _, rfl, .inl (.inl (.inl hD)), ?_⟩
  have hR4 := s5.sq hR3
  refine ⟨_, rfl, ra, rfl, ⟨_, hR4⟩, fun D2 nD2 => lc_tup (K := K) (a := ra) (xs := nV c) (fun i H' => Same H4 H' ∧ H' D2 = some (.lst (nV ((c.take i).filter (isFr M.2))))) ⟨same_new nD2, upd_same⟩ (fun i H' _ h => h.1.sq hR4) ?_ ?_⟩
  · rintro i x H' hx ⟨sm, hD⟩
    obtain ⟨y, hy, rfl⟩ := nV_at hx
    refine ⟨rfl, ?_⟩
    refine ⟨_, rfl, _, rfl, p1, _, rfl, DGet.k (k := Sum.inl (y : Int)) (sm _ _ (s5 _ _ g1)), _, rfl, ?_⟩
    rw [mts_not m1]
    by_cases c3 : isFr M.2 y = true
    · refine itet c3 ?_
      refine ⟨_, rfl, _, hD, by rw [nV_len]; exact step _ _ _ hy, sm.wr nD2, ?_⟩
      rw [upd_same, filt_take hy, if_pos c3, ← nV_app]
      rfl
    · refine itef (by simpa using c3) ?_
      refine ⟨sm, ?_⟩
      rw [hD, filt_take hy, if_neg c3, List.append_nil]
  rintro H5 ⟨s6, hD2⟩
  rw [nV_len, List.take_length] at hD2
  refine ⟨D2, _, rfl, .inl (.inl (.inl hD2)), small_sz (by simp), fun lk nlk => ?_⟩
  rw [nV_len, nV_len]
  generalize hl0 : (c.filter (isFr L.2)).length = l0 at *
  generalize hl1 : (c.filter (isFr M.2)).length = l1 at *
  have eq : kLc L.2 M.2 c = kL l0 l1 := by unfold kLc; rw [hl0, hl1]
  rw [eq] at q
  have s7 := same_new (o := .lst [.int (l0 : Nat), .int (l1 : Nat)]) nlk
  have hlk : (upd H5 lk (.lst [.int (l0 : Nat), .int (l1 : Nat)])) lk = some (.lst [.int (l0 : Nat), .int (l1 : Nat)]) := upd_same
  have s8 := ((s4.trans s5).trans s6).trans s7
  generalize upd H5 lk (.lst [.int (l0 : Nat), .int (l1 : Nat)]) = H6 at *
  refine ⟨_, rfl, small_sz (by simp), fun e ne => ?_⟩
  have s9 := same_new (o := .lst [.int 0, .int 0]) ne
  have hlk := s9 _ _ hlk
  have hen : (upd H6 e (.lst [.int 0, .int 0])) e = some (.lst [.int 0, .int 0]) := upd_same
  have s10 := s8.trans s9
  generalize upd H6 e (.lst [.int 0, .int 0]) = H7 at *
  refine ⟨.list [.int (l0 : Int), .int (l1 : Int)], .list [.int 0, .int 0], .lst (.inl (.inl hlk)) (.cons (.int _) (.cons (.int _) .nil)), .lst (.inl (.inl hen)) (.cons (.int _) (.cons (.int _) .nil)), lay_ints [(l0 : Int), (l1 : Int)], lay_ints [0, 0], _, rfl, ?_⟩
  by_cases c0 : l0 = 0 ∧ l1 = 0
  · refine itet (by obtain ⟨rfl, rfl⟩ := c0; rfl) ?_
    have e2 : kL l0 l1 = "ring" := if_pos c0
    rw [e2] at q
    exact q H7 s10
  · refine itef (by
      simp only [PyData.eqv, PyData.eqvAll]
      rw [Bool.eq_false_iff]
      intro z
      simp at z
      omega) ?_
    have e2 : kL l0 l1 = kq l0 := if_neg c0
    rw [e2] at q
    refine fun p np => ⟨upd_same, [(Sum.inl 1, V.str "odd"), (Sum.inl 2, .str "open"), (Sum.inl 0, .str "shut")], rfl, by simp, ?_⟩
    rw [upd_upd]
    have s11 := same_new (o := .dK (mergeK [] [((Sum.inl 1 : Key), V.str "odd"), (Sum.inl 2, .str "open"), (Sum.inl 0, .str "shut")])) np
    refine ⟨_, rfl, lk, _, _, _, rfl, rfl, .inl (.inl (s11 _ _ hlk)), at0, p, _, rfl, ?_, q _ (s10.trans s11)⟩
    have g := DGet.k (H := upd H7 p (.dK (mergeK [] [((Sum.inl 1 : Key), V.str "odd"), (Sum.inl 2, .str "open"), (Sum.inl 0, .str "shut")]))) (a := p) (k := Sum.inl (l0 : Int)) upd_same
    rw [kq_get hf] at g
    exact g
def sp_pieces (K : PySem.W.Frag) : Sp := fun vs H Q _ => ∃ (v u : V) (L M : Lay), vs = [v, u] ∧ Dp K H v (eLay L) ∧ Dp K H u (eLay M) ∧ LayOk L ∧ LayOk M ∧ L.1 = M.1 ∧
  ∀ p H' acc (Ps : List (List Nat)), Same H H' → H' p = some (.lst acc) → DpAll K H' acc (Ps.map (pcL L.2 M.2)) → Part (2 * L.1) (fn L.2) (fn M.2) Ps → (∀ c ∈ Ps, c ≠ []) → Q (.ref p) H'
abbrev C28 (P : Program) (w : World) (K : PySem.W.Frag) (mg : Str → Option Value) (base : Heap) : Prop := Cal P w K mg base 3 "_law_pieces" ["_law_one", "_law_other"] (sp_pieces K)
theorem ok_pieces (D : Df K mg "_law_pieces" s__law_pieces ["_law_one", "_law_other"] f fd) (T : Tx mg) (C__law_kind : C27 P w K mg base) (C__law_heaps : C26 P w K mg base) : C28 P w K mg base := by
  refine D.cal (D.F.ok sc__law_pieces (fun vs H Q E h => ?_) (fun cdv A outer s H vs Q E hr h => ?_))
  · obtain ⟨v, u, L, M, rfl, _⟩ := h
    rfl
  obtain ⟨v, u, L, M, rfl, hd, he, hL, hM, en, q⟩ := h
  have hi := hL.hi
  have gA := hL.ok.good
  have gB : Good (2 * L.1) M.2 := by rw [en]; exact hM.ok.good
  refine ⟨_, (pss_one (ps_ret (pe_callB (call_sortedD hr.units) (by rfl) T.sorted (by decide +kernel) (pa_cons (pe_lc (own := [("_law_heap", 2)]) (g := gName 2) (tt := tYes) (by rfl) sc__law_pieces.nd (pi_list (pe_c C__law_heaps hr (by rfl) (pa_cons (pv 0) (pa_cons (pv 1) pa_nil)))) (blkOk_by (N := ["_law_one", "_law_other", "_law_heap"]) (sc := defScope s__law_pieces) (by decide +kernel)) (fun _ _ _ _ _ => (pg_name (i := 2) sc__law_pieces.nd rfl (.inl rfl))) (fun _ _ _ _ _ => pts_nil) (fun _ _ _ _ _ => (pe_tup (pa_cons (pe_c C__law_kind hr (by rfl) (pa_cons (pv 0) (pa_cons (pv 1) (pa_cons (pv 2) pa_nil)))) (pa_cons (pe_callB (show CallR _ _ (rLenK K) from call_len_seq) (by rfl) T.len (by decide +kernel) (pa_cons (pv 2) pa_nil)) pa_nil))))) pa_nil)))), ?_⟩
  refine ⟨_, rfl, _, rfl, v, u, L, M, rfl, hd, he, hL, hM, en, fun p H1 acc Ps s1 hp dp part ne => ⟨p, rfl, ⟨_, .inl (.inl hp)⟩, fun D nD => lc_list (K := K) (a := p) (xs := acc)
    (fun i H' => Acc K H1 D ((Ps.take i).map (pcL L.2 M.2)) H') (Acc.start nD) (fun i H' _ h => .inl (.inl (h.1 _ _ hp))) ?_ ?_⟩⟩
  · intro i x H' hx A
    obtain ⟨d, e1, hxd⟩ := DpAll.at dp hx
    obtain ⟨c, hc, rfl⟩ := map_at e1
    have cm := List.mem_of_getElem? hc
    have cl := part_lt part cm
    have s2 := s1.trans A.1
    refine ⟨rfl, yes_then ?_⟩
    refine ⟨_, rfl, _, rfl, _, rfl, v, u, x, L, M, c, rfl, s2.dp hd, s2.dp he, hL, hM, A.1.dp hxd, free_le (fn_pl gA) (fn_pl gB) part cm, by omega, fun H2 s3 => ?_⟩
    obtain ⟨ra, rfl, hR⟩ := row_open (s3.dp (A.1.dp hxd))
    refine ⟨_, rfl, ra, _, rfl, .inr hR, small_sz (by simp), fun z nz => ?_⟩
    have s4 := same_new (o := .tup [.str (kLc L.2 M.2 c), .int ((nV c).length : Nat)]) nz
    have hy : Dp K (upd H2 z (.tup [.str (kLc L.2 M.2 c), .int ((nV c).length : Nat)])) (.ref z) (pcL L.2 M.2 c) := by
      refine .tup (.inl (.inl upd_same)) (.cons (.str _) (.cons ?_ .nil))
      rw [nV_len]
      exact .int _
    have st := Acc.step A nD (s3.trans s4) hy (nols_map (nol_pl _ _) _) (nol_pl _ _ _) (by
      have h1 := part_few part ne
      rw [List.length_map, List.length_take]
      omega)
    rw [← take_succ_map (pcL L.2 M.2) hc] at st
    exact st
  · intro H' A
    have e : Ps.take acc.length = Ps := by
      have := DpAll.len dp
      rw [List.length_map] at this
      rw [this, List.take_length]
    rw [e] at A
    obtain ⟨sm, acc2, hD, dp2⟩ := A
    refine ⟨D, acc2, _, rfl, .inl (.inl hD), dp2, allAlike_map alike_pl Ps, .inl ?_, ?_, fun ys p' hys np => ?_⟩
    · intro e he
      obtain ⟨c, hc, rfl⟩ := List.mem_map.mp he
      exact ⟨_, _, rfl⟩
    · intro e he
      obtain ⟨c, hc, rfl⟩ := List.mem_map.mp he
      exact pl_depth _ _ _
    · obtain ⟨Qs, pm, eq⟩ := srtD_perm (pcL L.2 M.2) Ps
      rw [eq] at hys
      exact q p' _ ys Qs ((s1.trans sm).trans (same_new np)) upd_same ((same_new np).dps hys) (part.perm pm.symm) fun c hc => ne c (pm.mem_iff.mp hc)
theorem count_is {A B : List Jt} {Ps : List (List Nat)} {k : Str} {p : List Nat → Bool} (h : ∀ c ∈ Ps, kLc A B c = k ↔ p c = true) : ((Ps.map fun c => PyData.str (kLc A B c)).countP fun y => PyData.eqv y (.str k)) = (Ps.filter p).length := by
  rw [List.countP_map, List.countP_eq_length_filter]
  congr 1
  refine List.filter_congr fun c hc => ?_
  have := h c hc
  simp only [Function.comp, PyData.eqv]
  rw [Bool.eq_iff_iff, ← this]
  simp
theorem plain_strs (g : List Nat → Str) : ∀ Ps : List (List Nat), PyData.plainAll (Ps.map fun c => PyData.str (g c)) = true
  | [] => rfl
  | c :: Ps => by simp [PyData.plainAll, PyData.plain, plain_strs g Ps]
def sp_cost (K : PySem.W.Frag) : Sp := fun vs H Q _ => ∃ (v u : V) (L M : Lay), vs = [v, u] ∧ Dp K H v (eLay L) ∧ Dp K H u (eLay M) ∧ LayOk L ∧ LayOk M ∧ L.1 = M.1 ∧ ∀ H', Same H H' → Q (.int (dst (2 * L.1) L.2 M.2)) H'
abbrev C29 (P : Program) (w : World) (K : PySem.W.Frag) (mg : Str → Option Value) (base : Heap) : Prop := Cal P w K mg base 4 "_law_cost" ["_law_one", "_law_other"] (sp_cost K)
theorem ok_cost (D : Df K mg "_law_cost" s__law_cost ["_law_one", "_law_other"] f fd) (T : Tx mg) (C__law_pieces : C28 P w K mg base) : C29 P w K mg base := by
  refine D.cal (D.F.ok sc__law_cost (fun vs H Q E h => ?_) (fun cdv A outer s H vs Q E hr h => ?_))
  · obtain ⟨v, u, L, M, rfl, _⟩ := h
    rfl
  obtain ⟨v, u, L, M, rfl, hd, he, hL, hM, en, q⟩ := h
  have hi := hL.hi
  have gA := hL.ok.good
  have gB : Good (2 * L.1) M.2 := by rw [en]; exact hM.ok.good
  refine ⟨_, (pss_cons (ps_setLc (i := 2) (own := [("_law_piece", 3)]) (g := gName 3) (tt := tYes) (by rfl) sc__law_cost.nd rfl rfl (sw_true rfl rfl rfl (by decide +kernel)) (pi_list (pe_c C__law_pieces hr (by rfl) (pa_cons (pv 0) (pa_cons (pv 1) pa_nil)))) (blkOk_by (N := ["_law_one", "_law_other", "_law_some", "_law_piece"]) (sc := defScope s__law_cost) (by decide +kernel)) (fun _ _ _ _ _ => (pg_name (i := 3) sc__law_cost.nd rfl (.inl rfl))) (fun _ _ _ _ _ => pts_nil) (fun _ _ _ _ _ => (pe_ix (show IxR _ (rIxT K) from ix_tup) (pv 3) pe_int (fun _ _ => rfl))))
      (pss_one (ps_ret (pe_op op_sub (pe_op op_sub (pe_ix ix_tup (pv 0) pe_int (fun _ _ => rfl)) (pe_bm PySem.F.plainAttrs_list PySem.F.slot_list_count PySem.F.type_list_count (mt_countD hr.units) (pv 2) (pa_cons pe_str pa_nil))) (pe_op op_fdiv (pe_bm PySem.F.plainAttrs_list PySem.F.slot_list_count PySem.F.type_list_count (mt_countD hr.units) (pv 2) (pa_cons pe_str pa_nil)) pe_int))))), ?_⟩
  refine ⟨_, rfl, _, rfl, v, u, L, M, rfl, hd, he, hL, hM, en, fun p H1 acc Ps s1 hp dp part ne => ⟨p, rfl, ⟨_, .inl (.inl hp)⟩, fun D nD => lc_list (K := K) (a := p) (xs := acc)
    (fun i H' => Acc K H1 D ((Ps.take i).map fun c => PyData.str (kLc L.2 M.2 c)) H') (Acc.start nD) (fun i H' _ h => .inl (.inl (h.1 _ _ hp))) ?_ ?_⟩⟩
  · intro i x H' hx A
    obtain ⟨d, e1, hxd⟩ := DpAll.at dp hx
    obtain ⟨c, hc, rfl⟩ := map_at e1
    obtain ⟨a, rfl, hS⟩ := pc_open (A.1.dp (show Dp K H1 x (pcS (kLc L.2 M.2 c) c.length) from hxd))
    refine ⟨rfl, yes_then ?_⟩
    refine ⟨_, rfl, a, _, _, _, rfl, rfl, hS, at0, ?_⟩
    have st := Acc.step A nD (Same.refl _) (.str (kLc L.2 M.2 c)) (nols_map (fun _ => rfl) _) rfl (by
      have h1 := part_few part ne
      rw [List.length_map, List.length_take]
      omega)
    rw [← take_succ_map (fun c => PyData.str (kLc L.2 M.2 c)) hc] at st
    exact st
  · intro H' A
    have e : Ps.take acc.length = Ps := by
      have := DpAll.len dp
      rw [List.length_map] at this
      rw [this, List.take_length]
    rw [e] at A
    obtain ⟨sm, acc2, hD, dp2⟩ := A
    obtain ⟨a, b, xs, rfl, hA, hB, hx⟩ := lay_open hd
    have pl : PyData.plainAll (Ps.map fun c => PyData.str (kLc L.2 M.2 c)) = true := plain_strs _ _
    refine ⟨_, rfl, a, _, _, _, rfl, rfl, (s1.trans sm).sq hA, at0, ?_⟩
    refine ⟨_, rfl, .inl ⟨rfl, _, .inl (.inl hD)⟩, D, acc2, _, .str "ring", _, rfl, rfl, .inl (.inl hD), dp2, .str _, pl, rfl, by simp [PyData.depth], _, _, rfl, rfl, ?_⟩
    refine ⟨_, rfl, .inl ⟨rfl, _, .inl (.inl hD)⟩, D, acc2, _, .str "odd", _, rfl, rfl, .inl (.inl hD), dp2, .str _, pl, rfl, by simp [PyData.depth], _, _, rfl, rfl, ⟨by decide, by decide⟩, _, _, rfl, rfl, ?_⟩
    refine int_is ?_ (q H' (s1.trans sm))
    rw [count_is (p := fun c => ring (fn L.2) (fn M.2) c) fun c hc => kLc_ring (ne c hc), count_is (p := fun c => decide (c.length % 2 = 1)) fun c hc => by rw [kLc_odd gA gB part hc, decide_eq_true_eq]]
    rw [← law_dst rfl gA gB part]
    omega
end
end DC
namespace DC
open PySem PySem.Spec PyProof.Rows L2 Dm
/-- over enumerate of a list -/
theorem for_enumL {K : PySem.W.Frag} {a : Addr} {xs : List V} {g : TG} {tb : TS} {D : Ends} {σ : L2.St} {H : Hp} (Pv : Nat → L2.St → Hp → Prop) (h0 : Pv 0 σ H) (hl : ∀ i σ H, Pv i σ H → SqL K H a xs)
    (hs : ∀ i x σ H, xs[i]? = some x → Pv i σ H → ∀ T, H T = none → g (.ref T) σ (upd H T (.tup [.int (i : Nat), x])) fun σ2 H2 => tb { D with nx := Pv (i + 1), ct := Pv (i + 1), bk := D.nx } σ2 H2)
    (hd : ∀ σ H, Pv xs.length σ H → D.nx σ H) :
    ∃ W : Nat → Nat → L2.St → Hp → Prop, (∃ m, W 0 m σ H) ∧ ∀ i m σ H, W i m σ H → ((Ite K a).stop i H ∧ D.nx σ H) ∨
      ((Ite K a).go i H ∧ ∃ N : L2.St → Hp → Prop, (∀ σ' H', N σ' H' → ∃ m', m' < m ∧ W (i + 1) m' σ' H') ∧ ∀ x H', (Ite K a).yld i H x H' → g x σ H' fun σ2 H2 => tb { D with nx := N, ct := N, bk := D.nx } σ2 H2) := by
  refine ⟨fun i m σ H => m = xs.length - i ∧ i ≤ xs.length ∧ Pv i σ H, ⟨xs.length, by simp, Nat.zero_le _, h0⟩, ?_⟩
  rintro i m σ H ⟨rfl, hi, p⟩
  have q := hl i σ H p
  by_cases hlt : i < xs.length
  · refine .inr ⟨⟨xs, xs[i], q, by simp [hlt]⟩, Pv (i + 1), fun σ' H' p' => ⟨xs.length - (i + 1), by omega, rfl, hlt, p'⟩, fun x H' y => ?_⟩
    obtain ⟨T, z, rfl, hT, rfl, hz⟩ := y
    exact hs i z σ H (hz xs q) p T hT
  · obtain rfl : i = xs.length := by omega
    exact .inl ⟨⟨xs, q, Nat.le_refl _⟩, hd σ H p⟩
/-! steps as data -/
def eS (s : Stp) : PyData := .tuple [eJs s.1, eJs s.2]
theorem nol_s (s : Stp) : nol (eS s) = true := by simp [eS, nol, nols, nol_js]
theorem alike_s (a b : Stp) : PySem.W.alike (eS a) (eS b) = true := by simp [eS, PySem.W.alike, PySem.W.alikeAll, alike_js]
theorem eS_depth (s : Stp) : (eS s).depth ≤ 50 := by
  have h1 := eJs_depth s.1
  have h2 := eJs_depth s.2
  simp only [eS, PyData.depth, PyData.depthAll]
  omega
section
variable {K : PySem.W.Frag} {H H' : Hp}
theorem js_mk {a : Addr} {xs : List V} {J : List Jt} (h2 : SqT K H a xs) (h3 : DpAll K H xs (J.map eJ)) : Dp K H (.ref a) (eJs J) := .tup h2 h3
theorem js_open {v : V} {J : List Jt} (h : Dp K H v (eJs J)) : ∃ a xs, v = .ref a ∧ SqT K H a xs ∧ DpAll K H xs (J.map eJ) := by
  have h' : Dp K H v (.tuple (J.map eJ)) := h
  cases h' with
  | tup h1 h2 => exact ⟨_, _, rfl, h1, h2⟩
theorem s_mk {z a b : Addr} {A B : List Jt} (h : SqT K H z [.ref a, .ref b]) (h1 : Dp K H (.ref a) (eJs A)) (h2 : Dp K H (.ref b) (eJs B)) : Dp K H (.ref z) (eS (A, B)) := .tup h (.cons h1 (.cons h2 .nil))
theorem s_open {v : V} {s : Stp} (h : Dp K H v (eS s)) : ∃ z a b, v = .ref z ∧ SqT K H z [.ref a, .ref b] ∧ Dp K H (.ref a) (eJs s.1) ∧ Dp K H (.ref b) (eJs s.2) := by
  have h' : Dp K H v (.tuple [eJs s.1, eJs s.2]) := h
  cases h' with
  | @tup a xs _ hs ha =>
    cases ha with
    | cons h1 h2 =>
      cases h2 with
      | cons h3 h4 =>
        cases h4
        obtain ⟨a1, _, rfl, _⟩ := js_open h1
        obtain ⟨a2, _, rfl, _⟩ := js_open h3
        exact ⟨_, _, _, rfl, hs, h1, h3⟩
theorem Acc.ty {D : Addr} {H0 : Hp} {ds : List PyData} (h : Acc K H0 D ds H') : tyV K "list" (.ref D) H' :=
  let ⟨_, _, e, _⟩ := h
  .inl ⟨rfl, _, .inl (.inl e)⟩
end
/-! pieces of a list with what follows them -/
def headsM {α β : Type} (g : α → List α → List β) (xs : List α) : Nat → List β
  | 0 => []
  | k + 1 => headsM g xs k ++ (match xs[k]? with | some x => g x (xs.drop (k + 1)) | none => [])
theorem heads_succ {α β : Type} {g : α → List α → List β} {xs : List α} {k : Nat} {x : α} (h : xs[k]? = some x) : headsM g xs (k + 1) = headsM g xs k ++ g x (xs.drop (k + 1)) := by
  simp only [headsM, h]
theorem heads_cons {α β : Type} (g : α → List α → List β) (x : α) (r : List α) : ∀ k, headsM g (x :: r) (k + 1) = g x r ++ headsM g r k
  | 0 => by simp [headsM]
  | k + 1 => by
    have ih := heads_cons g x r k
    have e1 : headsM g (x :: r) (k + 1 + 1) = headsM g (x :: r) (k + 1) ++ (match (x :: r)[k + 1]? with | some y => g y ((x :: r).drop (k + 1 + 1)) | none => []) := rfl
    rw [e1, ih, List.append_assoc]
    rfl
theorem heads_all {α β : Type} (g : α → List α → List β) : ∀ xs : List α, headsM g xs xs.length = tailsM g xs
  | [] => rfl
  | x :: r => by
    rw [List.length_cons, heads_cons, heads_all g r]
    rfl
theorem heads_len {α β : Type} {g : α → List α → List β} {xs : List α} {B : Nat} (h : ∀ k x, xs[k]? = some x → (g x (xs.drop (k + 1))).length ≤ B) : ∀ k, (headsM g xs k).length ≤ k * B
  | 0 => by simp [headsM]
  | k + 1 => by
    have ih := heads_len h k
    simp only [headsM, List.length_append]
    cases e : xs[k]? with
    | none => simp only [List.length_nil]; rw [Nat.succ_mul]; omega
    | some x =>
      have := h k x e
      simp only
      rw [Nat.succ_mul]
      omega
def g2 (j : Jt) (e : Nat) : List Stp := [([j], [mm j.1 e]), ([j], [mm j.2 e])]
def g3 (j o : Jt) : List Stp := [([j, o], srtJ [mm j.1 o.1, mm j.2 o.2]), ([j, o], srtJ [mm j.1 o.2, mm j.2 o.1])]
def fJ (lo : List Nat) (j : Jt) (r : List Jt) : List Stp := ([j], []) :: (lo.flatMap (g2 j) ++ r.flatMap (g3 j))
def fE (x : Nat) (r : List Nat) : List Stp := r.map fun y => ([], [(x, y)])
theorem steps_is (N : Nat) (J : List Jt) : stepsM N J = tailsM (fJ (loose N J)) J ++ tailsM fE (loose N J) := rfl
theorem flat2_len {α : Type} (g : α → List Stp) (h : ∀ x, (g x).length = 2) : ∀ xs : List α, (xs.flatMap g).length = 2 * xs.length
  | [] => rfl
  | x :: xs => by
    rw [List.flatMap_cons, List.length_append, h, flat2_len g h xs, List.length_cons]
    omega
theorem flat_take {α β : Type} (g : α → List β) {xs : List α} {i : Nat} {x : α} (h : xs[i]? = some x) : (xs.take (i + 1)).flatMap g = (xs.take i).flatMap g ++ g x := by
  rw [List.take_add_one, h]
  simp
theorem fJ_len (lo : List Nat) (j : Jt) (r : List Jt) : (fJ lo j r).length = 1 + (2 * lo.length + 2 * r.length) := by
  simp only [fJ, List.length_cons, List.length_append]
  rw [flat2_len _ (fun _ => rfl), flat2_len _ (fun _ => rfl)]
  omega
theorem loose_is {N : Nat} {J : List Jt} (h : Good N J) : (List.range N).filter (isFr J) = loose N J := by
  refine List.filter_congr fun x _ => ?_
  unfold isFr
  rw [Bool.eq_iff_iff]
  simp only [decide_eq_true_eq, Bool.not_eq_true', List.contains_eq_mem, decide_eq_false_iff_not]
  exact ⟨fun e m => fn_ne h m e, fn_out⟩
theorem loose_len (N : Nat) (J : List Jt) : (loose N J).length ≤ N := by
  have := List.length_filter_le (fun x => !(ends J).contains x) (List.range N)
  rwa [List.length_range] at this
theorem drop1 (xs : List V) (k : Nat) (h : k < xs.length) : cutV xs (some ((k : Int) + 1)) none = xs.drop (k + 1) := by
  unfold cutV
  have h1 : HT.sIx xs.length 0 (some ((k : Int) + 1)) = k + 1 := by
    have := HT.sIx_nat xs.length 0 (k + 1)
    rw [Nat.min_eq_left (by omega)] at this
    exact this
  have h2 : HT.sIx xs.length xs.length none = xs.length := rfl
  rw [h1, h2, List.take_of_length_le (by simp)]
theorem drop1_not (xs : List V) (k : Nat) (h : k < xs.length) : ¬ (HT.sIx xs.length 0 (some ((k : Int) + 1)) = 0 ∧ HT.sIx xs.length xs.length none = xs.length) := by
  have h1 : HT.sIx xs.length 0 (some ((k : Int) + 1)) = k + 1 := by
    have := HT.sIx_nat xs.length 0 (k + 1)
    rw [Nat.min_eq_left (by omega)] at this
    exact this
  rw [h1]
  omega
theorem sort2 {a b : Nat} {ns : List Int} (p : ns.Perm [(a : Int), (b : Int)]) (so : ns.Pairwise (· ≤ ·)) : ns.map V.int = [.int ((mm a b).1 : Int), .int ((mm a b).2 : Int)] := by
  have h0 : [((mm a b).1 : Int), ((mm a b).2 : Int)].Perm [(a : Int), (b : Int)] := by
    unfold mm
    by_cases h : a ≤ b
    · rw [Nat.min_eq_left h, Nat.max_eq_right h]
    · rw [Nat.min_eq_right (by omega), Nat.max_eq_left (by omega)]
      exact .swap _ _ _
  have h1 : [((mm a b).1 : Int), ((mm a b).2 : Int)].Pairwise (· ≤ ·) := by
    simp [mm]
    omega
  have e : ns = [((mm a b).1 : Int), ((mm a b).2 : Int)] := List.Perm.eq_of_pairwise (le := (· ≤ ·)) (fun x y _ _ h g => Int.le_antisymm h g) so h1 (p.trans h0.symm)
  rw [e]
  rfl
theorem min_is (a b : Nat) : (if (b : Int) < (a : Int) then (b : Int) else (a : Int)) = ((mm a b).1 : Int) := by
  unfold mm
  split <;> simp <;> omega
theorem max_is (a b : Nat) : (if (b : Int) > (a : Int) then (b : Int) else (a : Int)) = ((mm a b).2 : Int) := by
  unfold mm
  split <;> simp <;> omega
end DC
namespace DC
open PySem PySem.Spec PyProof.Rows L2 Dm
theorem mkN {H : Hp} {p : Addr} (o : HO) (h : H p = none) : ∃ Hn, upd H p o = Hn ∧ Same H Hn ∧ Hn p = some o := ⟨_, rfl, same_new h, upd_same⟩
section
variable {P : Program} {w : World} {K : PySem.W.Frag} {mg : Str → Option Value} {base : Heap} {f : Addr} {fd : FuncData}
def sp_steps (K : PySem.W.Frag) : Sp := fun vs H Q _ => ∃ (v : V) (L : Lay), vs = [v] ∧ Dp K H v (eLay L) ∧ LayOk L ∧ ∀ p H' acc (ss : List Stp), Same H H' → H p = none → H' p = some (.lst acc) → DpAll K H' acc (ss.map eS) → ss.Perm (stepsM (2 * L.1) L.2) → Q (.ref p) H'
abbrev C30 (P : Program) (w : World) (K : PySem.W.Frag) (mg : Str → Option Value) (base : Heap) : Prop := Cal P w K mg base 2 "_law_steps" ["_law_lay_here"] (sp_steps K)
theorem ok_steps (D : Df K mg "_law_steps" s__law_steps ["_law_lay_here"] f fd) (T : Tx mg) (C__law_mates : C25 P w K mg base) : C30 P w K mg base := by
  refine D.cal (D.F.ok sc__law_steps (fun vs H Q E h => ?_) (fun cdv A outer s H vs Q E hr h => ?_))
  · obtain ⟨v, L, rfl, _⟩ := h
    rfl
  obtain ⟨v, L, rfl, hd, hL, q⟩ := h
  obtain ⟨a, b, xs, rfl, hA, hB, hx⟩ := lay_open hd
  have hi := hL.hi
  have gA := hL.ok.good
  have eN : (2 : Int) * (L.1 : Int) = ((2 * L.1 : Nat) : Int) := by omega
  have eT : ((2 * L.1 : Nat) : Int).toNat = 2 * L.1 := by omega
  have hlo := loose_len (2 * L.1) L.2
  have hJl := js_len gA
  have hxl := DpAll.len hx
  rw [List.length_map] at hxl
  refine ⟨_, (pss_cons (ps_set (i := 1) sc__law_steps.nd rfl (.inr rfl) (pe_c C__law_mates hr (by rfl) (pa_cons (pv 0) pa_nil)))
      (pss_cons (ps_par (i := 3) (j := 4) rfl sc__law_steps.nd rfl rfl (by decide) rfl rfl (pa_cons (pe_lc (own := [("_law_end", 2)]) (g := gName 2) (by rfl) sc__law_steps.nd (pi_range1 (by rfl) T.range (pa_cons (pe_op op_mul pe_int (pe_ix ix_tup (pv 0) pe_int (fun _ _ => rfl))) pa_nil)) (blkOk_by (N := ["_law_lay_here", "_law_known", "_law_end", "_law_loose", "_law_found", "_law_k", "_law_joint", "_law_near", "_law_other", "_law_swap", "_law_made", "_law_far_here"]) (sc := defScope s__law_steps) (by decide +kernel)) (fun _ _ _ _ _ => (pg_name (i := 2) sc__law_steps.nd rfl (.inl rfl))) (fun _ _ _ _ _ => (pts_one (pt_cmp (pc_dnotin (hu_of hr) (pv 2) (pv 1))))) (fun _ _ _ _ _ => (pv 2))) (pa_cons (pe_lst pa_nil) pa_nil)) (by rfl))
      (pss_cons (ps_for PassesOwn.never rfl (pi_enumT (by rfl) T.enumerate (pa_cons (pe_ix ix_tup (pv 0) pe_int (fun _ _ => rfl)) pa_nil)) (pg_tup (by rfl) (pgs_cons (pg_name (i := 5) sc__law_steps.nd rfl (.inl rfl)) (pgs_cons (pg_name (i := 6) sc__law_steps.nd rfl (.inl rfl)) pgs_nil))) (pss_cons (ps_expr (pe_bm PySem.F.plainAttrs_list PySem.F.slot_list_append PySem.F.type_list_append mt_append (pv 4) (pa_cons (pe_tup (pa_cons (pe_tup (pa_cons (pv 6) pa_nil)) (pa_cons (pe_tup pa_nil) pa_nil))) pa_nil)))
      (pss_cons (ps_for PassesOwn.never rfl (pi_list (pv 3)) (pg_name (i := 2) sc__law_steps.nd rfl (.inl rfl)) (pss_one (ps_for PassesOwn.never rfl (pi_tup (pv 6)) (pg_name (i := 7) sc__law_steps.nd rfl (.inl rfl)) (pss_one (ps_expr (pe_bm PySem.F.plainAttrs_list PySem.F.slot_list_append PySem.F.type_list_append mt_append (pv 4) (pa_cons (pe_tup (pa_cons (pe_tup (pa_cons (pv 6) pa_nil)) (pa_cons (pe_tup (pa_cons (pe_tup (pa_cons (pe_callB (call_min2 rfl) (by rfl) T.min (by decide +kernel) (pa_cons (pv 7) (pa_cons (pv 2) pa_nil))) (pa_cons (pe_callB (call_max2 rfl) (by rfl) T.max (by decide +kernel) (pa_cons (pv 7) (pa_cons (pv 2) pa_nil))) pa_nil))) pa_nil)) pa_nil))) pa_nil)))))))
      (pss_one (ps_for PassesOwn.never rfl (pi_tup (pe_slice sl_tupA (pe_ix ix_tup (pv 0) pe_int (fun _ _ => rfl)) (po_some (pe_op op_add (pv 5) pe_int)) po_none)) (pg_name (i := 8) sc__law_steps.nd rfl (.inl rfl)) (pss_one (ps_for PassesOwn.never rfl (pi_tup (pe_tup (pa_cons (pv 8) (pa_cons (pe_revT2 (pv 8)) pa_nil)))) (pg_name (i := 9) sc__law_steps.nd rfl (.inl rfl)) (pss_cons (ps_set (i := 10) sc__law_steps.nd rfl (.inl rfl) (pe_lst (pa_cons (pe_callTy call_tuple_of (by rfl) T.tuple (by decide +kernel) (pa_cons (pe_callB cr_sorted (by rfl) T.sorted (by decide +kernel) (pa_cons (pe_lst (pa_cons (pe_ix ix_tup (pv 6) pe_int (fun _ _ => rfl)) (pa_cons (pe_ix ix_tup (pv 9) pe_int (fun _ _ => rfl)) pa_nil))) pa_nil)) pa_nil)) (pa_cons (pe_callTy call_tuple_of (by rfl) T.tuple (by decide +kernel) (pa_cons (pe_callB cr_sorted (by rfl) T.sorted (by decide +kernel) (pa_cons (pe_lst (pa_cons (pe_ix ix_tup (pv 6) pe_int (fun _ _ => rfl)) (pa_cons (pe_ix ix_tup (pv 9) pe_int (fun _ _ => rfl)) pa_nil))) pa_nil)) pa_nil)) pa_nil))))
      (pss_one (ps_expr (pe_bm PySem.F.plainAttrs_list PySem.F.slot_list_append PySem.F.type_list_append mt_append (pv 4) (pa_cons (pe_tup (pa_cons (pe_tup (pa_cons (pv 6) (pa_cons (pv 8) pa_nil))) (pa_cons (pe_callTy call_tuple_of (by rfl) T.tuple (by decide +kernel) (pa_cons (pe_callB (call_sortedD hr.units) (by rfl) T.sorted (by decide +kernel) (pa_cons (pv 10) pa_nil)) pa_nil)) pa_nil))) pa_nil))))))))))))
      (pss_cons (ps_for PassesOwn.never rfl (pi_enum (by rfl) T.enumerate (pa_cons (pv 3) pa_nil)) (pg_tup (by rfl) (pgs_cons (pg_name (i := 5) sc__law_steps.nd rfl (.inl rfl)) (pgs_cons (pg_name (i := 7) sc__law_steps.nd rfl (.inl rfl)) pgs_nil))) (pss_one (ps_for PassesOwn.never rfl (pi_list (pe_slice sl_list (pv 3) (po_some (pe_op op_add (pv 5) pe_int)) po_none)) (pg_name (i := 11) sc__law_steps.nd rfl (.inl rfl)) (pss_one (ps_expr (pe_bm PySem.F.plainAttrs_list PySem.F.slot_list_append PySem.F.type_list_append mt_append (pv 4) (pa_cons (pe_tup (pa_cons (pe_tup pa_nil) (pa_cons (pe_tup (pa_cons (pe_tup (pa_cons (pv 7) (pa_cons (pv 11) pa_nil))) pa_nil)) pa_nil))) pa_nil)))))))
      (pss_one (ps_ret (pe_callB (call_sortedD hr.units) (by rfl) T.sorted (by decide +kernel) (pa_cons (pv 4) pa_nil)))))))), ?_⟩
  refine ⟨_, rfl, _, L, rfl, hd, hL, fun p0 H1 kv0 s1 h0 m0 => ?_⟩
  refine ⟨_, rfl, a, _, _, _, rfl, rfl, s1.sq hA, at0, _, _, rfl, rfl, .inl ⟨by decide, by decide⟩, _, rfl, by omega, by omega, ?_⟩
  rw [eN]
  refine fun lo nlo => lc_range (fun i H' => Same H1 H' ∧ H' lo = some (.lst (nV ((List.range i).filter (isFr L.2))))) ⟨same_new nlo, upd_same⟩ ?_ ?_
  · rintro i H' hiN ⟨sm, hl⟩
    rw [eT] at hiN
    refine ⟨rfl, ?_⟩
    have e0 : (0 : Int) + (i : Int) = (i : Int) := Int.zero_add _
    rw [e0]
    refine ⟨_, rfl, _, rfl, p0, _, rfl, DGet.k (k := Sum.inl (i : Int)) (sm _ _ h0), _, rfl, ?_⟩
    rw [mts_not m0]
    by_cases c3 : isFr L.2 i = true
    · refine itet c3 ?_
      refine ⟨_, rfl, _, hl, small_lt (by rw [nV_len]; have := List.length_filter_le (isFr L.2) (List.range i); rw [List.length_range] at this; omega), sm.wr nlo, ?_⟩
      rw [upd_same, filt_succ, if_pos c3, ← nV_app]
      rfl
    · refine itef (by simpa using c3) ?_
      refine ⟨sm, ?_⟩
      rw [hl, filt_succ, if_neg c3, List.append_nil]
  rintro H2 ⟨s2, hl2⟩
  rw [eT, loose_is gA] at hl2
  generalize hLO : loose (2 * L.1) L.2 = LO at *
  refine ⟨small_sz (by simp), fun t nt => ⟨_, _, rfl, ?_⟩⟩
  have s3 := same_new (o := .lst []) nt
  have ht3 : (upd H2 t (.lst [])) t = some (.lst []) := upd_same
  have nt0 : H t = none := (s1.trans s2).none nt
  have sHb := (s1.trans s2).trans s3
  have hl3 := s3 _ _ hl2
  have nlt : lo ≠ t := ne_of_none hl2 nt
  generalize upd H2 t (.lst []) = Hb at *
  have sH : Same H (hid2 Hb t t) := same_hid2 sHb nt0 nt0
  have wl : hid2 Hb t t lo = some (.lst (nV LO)) := hid2_of hl3 nlt nlt
  have sw : Same (hid2 Hb t t) Hb := hid2_same
  have wt : hid2 Hb t t t = none := hid2_t
  have hA1 := sHb.sq hA
  generalize hid2 Hb t t = Hw at *
  have wA := sH.sq hA
  have wB := sH.sq hB
  refine ⟨_, rfl, a, _, _, _, rfl, rfl, hA1, at1, b, xs, rfl, sHb.sq hB, ?_⟩
  have nn : ∀ ss : List Stp, nols (ss.map eS) = true := nols_map nol_s
  refine for_enumT (K := K) (a := b) (xs := xs) (fun i σ H' => ∃ (y2 y5 y6 y7 y8 y9 y10 y11 : Option V), σ = [some (.ref a), some (.ref p0), y2, some (.ref lo), some (.ref t), y5, y6, y7, y8, y9, y10, y11] ∧ Acc K Hw t ((headsM (fJ LO) L.2 i).map eS) H')
    ⟨none, none, none, none, none, none, none, none, rfl, sw, [], ht3, .nil⟩ (fun i σ H' h => by obtain ⟨_, _, _, _, _, _, _, _, _, A⟩ := h; exact A.1.sq wB) ?_ ?_
  · rintro i x σ H' hi' ⟨y2, y5, y6, y7, y8, y9, y10, y11, rfl, A⟩ T1 nT
    obtain ⟨j, tj, hj, rfl, hj2⟩ := js_at hx hi'
    have wj := sH.sq hj2
    have hil : i < xs.length := (List.getElem?_eq_some_iff.mp hi').1
    have hB1 : (headsM (fJ LO) L.2 i).length ≤ i * 100 := heads_len (fun k x hk => by
      rw [fJ_len]
      have h1 := List.length_drop (i := k + 1) (l := L.2)
      omega) i
    have A := A.keep (same_new (o := .tup [.int (i : Nat), .ref tj]) nT)
    have hT : SqT K (upd H' T1 (.tup [.int (i : Nat), .ref tj])) T1 [.int (i : Nat), .ref tj] := .inl (.inl upd_same)
    generalize upd H' T1 (.tup [.int (i : Nat), .ref tj]) = H3 at *
    refine ⟨T1, _, rfl, hT, rfl, _, _, rfl, _, _, rfl, rfl, ?_⟩
    -- the joint alone
    refine ⟨_, rfl, A.ty, _, rfl, small_sz (by simp), fun z1 n1 => ⟨small_sz (by simp), fun z2 n2 => ⟨small_sz (by simp), fun z3 n3 => ?_⟩⟩⟩
    have r1 := same_new (o := .tup [.ref tj]) n1
    have r2 := same_new (o := .tup []) n2
    have r3 := same_new (o := .tup [.ref z1, .ref z2]) n3
    have hz : Dp K (upd (upd (upd H3 z1 (.tup [.ref tj])) z2 (.tup [])) z3 (.tup [.ref z1, .ref z2])) (.ref z3) (eS ([j], [])) :=
      s_mk (.inl (.inl upd_same)) (r3.dp (r2.dp (js_mk (.inl (.inl upd_same)) (.cons (joint_mk (((A.1.trans r1)).sq wj)) .nil)))) (r3.dp (js_mk (.inl (.inl upd_same)) .nil))
    obtain ⟨acc, e1, e2, A⟩ := Acc.step A wt ((r1.trans r2).trans r3) hz (nn _) (nol_s _) (by rw [List.length_map]; omega)
    refine ⟨t, acc, _, rfl, rfl, e1, e2, ?_⟩
    rw [show (headsM (fJ LO) L.2 i).map eS ++ [eS ([j], [])] = (headsM (fJ LO) L.2 i ++ [([j], [])]).map eS by simp] at A
    generalize upd (upd (upd (upd H3 z1 (.tup [.ref tj])) z2 (.tup [])) z3 (.tup [.ref z1, .ref z2])) t (.lst (acc ++ [.ref z3])) = H4 at *
    -- with the loose ends
    refine ⟨_, rfl, lo, rfl, ⟨_, .inl (.inl (A.1 _ _ wl))⟩, ?_⟩
    refine for_list (K := K) (a := lo) (xs := nV LO) (fun e σ H' => ∃ (y2 y7 y8 y9 y10 y11 : Option V), σ = [some (.ref a), some (.ref p0), y2, some (.ref lo), some (.ref t), some (.int (i : Int)), some (.ref tj), y7, y8, y9, y10, y11] ∧
      Acc K Hw t (((headsM (fJ LO) L.2 i ++ [([j], [])]) ++ (LO.take e).flatMap (g2 j)).map eS) H') ⟨_, _, _, _, _, _, rfl, by simpa using A⟩ (fun e σ H' _ h => by obtain ⟨_, _, _, _, _, _, _, A⟩ := h; exact .inl (.inl (A.1 _ _ wl))) ?_ ?_
    · rintro e y σ H5 hy ⟨y2, y7, y8, y9, y10, y11, rfl, A⟩
      obtain ⟨e0, he, rfl⟩ := nV_at hy
      have hel : e < LO.length := (List.getElem?_eq_some_iff.mp he).1
      have hgl : ((LO.take e).flatMap (g2 j)).length ≤ 2 * 24 := by
        rw [flat2_len _ (fun _ => rfl), List.length_take]
        omega
      refine ⟨_, rfl, tj, rfl, ⟨_, A.1.sq wj⟩, ?_⟩
      refine for_tup (K := K) (a := tj) (xs := [V.int (j.1 : Int), V.int (j.2 : Int)]) (fun r σ H' => ∃ (y7 y8 y9 y10 y11 : Option V), σ = [some (.ref a), some (.ref p0), some (.int (e0 : Int)), some (.ref lo), some (.ref t), some (.int (i : Int)), some (.ref tj), y7, y8, y9, y10, y11] ∧
        Acc K Hw t (((headsM (fJ LO) L.2 i ++ [([j], [])]) ++ ((LO.take e).flatMap (g2 j) ++ (g2 j e0).take r)).map eS) H') ⟨_, _, _, _, _, rfl, by simpa using A⟩ (fun e σ H' _ h => by obtain ⟨_, _, _, _, _, _, A⟩ := h; exact A.1.sq wj) ?_ ?_
      · rintro r x σ H6 hx' ⟨y7, y8, y9, y10, y11, rfl, A⟩
        obtain ⟨n, rfl, hst⟩ : ∃ n : Nat, x = .int (n : Int) ∧ (g2 j e0)[r]? = some ([j], [mm n e0]) := by
          match r, hx' with
          | 0, hx' => exact ⟨j.1, (Option.some.inj hx').symm, rfl⟩
          | 1, hx' => exact ⟨j.2, (Option.some.inj hx').symm, rfl⟩
        refine ⟨_, rfl, A.ty, _, rfl, small_sz (by simp), fun z1 n1 => ?_⟩
        refine ⟨_, rfl, _, rfl, _, _, rfl, _, rfl, _, rfl, _, _, rfl, ?_⟩
        rw [min_is, max_is]
        refine ⟨small_sz (by simp), fun z2 n2 => ⟨small_sz (by simp), fun z3 n3 => ⟨small_sz (by simp), fun z4 n4 => ?_⟩⟩⟩
        have r1 := same_new (o := .tup [.ref tj]) n1
        have r2 := same_new (o := .tup [V.int ((mm n e0).1 : Int), V.int ((mm n e0).2 : Int)]) n2
        have r3 := same_new (o := .tup [.ref z2]) n3
        have r4 := same_new (o := .tup [.ref z1, .ref z3]) n4
        have k1 : Dp K (upd H6 z1 (.tup [.ref tj])) (.ref z1) (eJs [j]) := js_mk (.inl (.inl upd_same)) (.cons (joint_mk ((A.1.trans r1).sq wj)) .nil)
        have k2 : Dp K (upd (upd H6 z1 (.tup [.ref tj])) z2 (.tup [V.int ((mm n e0).1 : Int), V.int ((mm n e0).2 : Int)])) (.ref z2) (eJ (mm n e0)) := joint_mk (.inl (.inl upd_same))
        have hz := s_mk (A := [j]) (B := [mm n e0]) (K := K) (.inl (.inl upd_same)) (r4.dp (r3.dp (r2.dp k1))) (r4.dp (js_mk (.inl (.inl upd_same)) (.cons (r3.dp k2) .nil)))
        obtain ⟨acc, e1, e2, A⟩ := Acc.step A wt (((r1.trans r2).trans r3).trans r4) hz (nn _) (nol_s _) (by
          have h2 : (g2 j e0).length = 2 := rfl
          simp only [List.length_map, List.length_append, List.length_singleton, List.length_take, h2]
          omega)
        refine ⟨t, acc, _, rfl, rfl, e1, e2, _, _, _, _, _, rfl, ?_⟩
        have et : (g2 j e0).take (r + 1) = (g2 j e0).take r ++ [([j], [mm n e0])] := by rw [List.take_add_one, hst]; rfl
        rw [et]
        simpa using A
      · rintro σ H6 ⟨y7, y8, y9, y10, y11, rfl, A⟩
        refine ⟨_, _, _, _, _, _, rfl, ?_⟩
        rw [flat_take (g2 j) he]
        exact A
    rintro σ H5 ⟨y2, y7, y8, y9, y10, y11, rfl, A⟩
    rw [nV_len, List.take_length] at A
    -- with the joints behind it
    generalize hBS : (headsM (fJ LO) L.2 i ++ [([j], [])]) ++ LO.flatMap (g2 j) = BS at *
    have hBl : BS.length ≤ i * 100 + 60 := by
      rw [← hBS]
      simp only [List.length_append, List.length_singleton]
      rw [flat2_len _ (fun _ => rfl)]
      omega
    refine ⟨_, rfl, a, _, _, _, rfl, rfl, A.1.sq wA, at1, _, rfl, _, _, rfl, rfl, _, rfl, b, xs, rfl, A.1.sq wB, fun h => absurd h (drop1_not xs i hil), fun _ p np => ?_⟩
    rw [drop1 xs i hil]
    refine ⟨p, rfl, ⟨_, .inl (.inl upd_same)⟩, ?_⟩
    have A := A.keep (same_new (o := .tup (xs.drop (i + 1))) np)
    have hp5 : SqT K (upd H5 p (.tup (xs.drop (i + 1)))) p (xs.drop (i + 1)) := .inl (.inl upd_same)
    generalize upd H5 p (.tup (xs.drop (i + 1))) = H6 at *
    refine for_tup (K := K) (a := p) (xs := xs.drop (i + 1)) (fun e σ H' => ∃ (y7 y8 y9 y10 y11 : Option V), σ = [some (.ref a), some (.ref p0), y2, some (.ref lo), some (.ref t), some (.int (i : Int)), some (.ref tj), y7, y8, y9, y10, y11] ∧
      Acc K Hw t ((BS ++ ((L.2.drop (i + 1)).take e).flatMap (g3 j)).map eS) H' ∧ SqT K H' p (xs.drop (i + 1))) ⟨_, _, _, _, _, rfl, by simpa using A, hp5⟩ (fun e σ H' _ h => by obtain ⟨_, _, _, _, _, _, _, h⟩ := h; exact h) ?_ ?_
    · rintro e y σ H7 hy ⟨y7, y8, y9, y10, y11, rfl, A, hp⟩
      rw [List.getElem?_drop] at hy
      obtain ⟨o, to, ho, rfl, ho2⟩ := js_at hx hy
      have wo := sH.sq ho2
      have hod : (L.2.drop (i + 1))[e]? = some o := by rw [List.getElem?_drop]; exact ho
      have hgl : (((L.2.drop (i + 1)).take e).flatMap (g3 j)).length ≤ 2 * 24 := by
        rw [flat2_len _ (fun _ => rfl), List.length_take, List.length_drop]
        omega
      refine ⟨_, rfl, _, rfl, to, _, _, rfl, A.1.sq wo, fun p2 np2 => ⟨small_sz (by simp), fun z nz => ⟨z, rfl, ⟨_, .inl (.inl upd_same)⟩, ?_⟩⟩⟩
      have r1 := same_new (o := .tup [V.int (o.2 : Int), V.int (o.1 : Int)]) np2
      have r2 := same_new (o := .tup [V.ref to, V.ref p2]) nz
      have A := (A.keep r1).keep r2
      have hp := (r1.trans r2).sq hp
      have hp2 : SqT K (upd (upd H7 p2 (.tup [V.int (o.2 : Int), V.int (o.1 : Int)])) z (.tup [V.ref to, V.ref p2])) p2 [V.int (o.2 : Int), V.int (o.1 : Int)] := r2.sq (.inl (.inl upd_same))
      have hz0 : SqT K (upd (upd H7 p2 (.tup [V.int (o.2 : Int), V.int (o.1 : Int)])) z (.tup [V.ref to, V.ref p2])) z [V.ref to, V.ref p2] := .inl (.inl upd_same)
      generalize upd (upd H7 p2 (.tup [V.int (o.2 : Int), V.int (o.1 : Int)])) z (.tup [V.ref to, V.ref p2]) = H8 at *
      refine for_tup (K := K) (a := z) (xs := [V.ref to, V.ref p2]) (fun r σ H' => ∃ (y9 y10 y11 : Option V), σ = [some (.ref a), some (.ref p0), y2, some (.ref lo), some (.ref t), some (.int (i : Int)), some (.ref tj), y7, some (.ref to), y9, y10, y11] ∧
        Acc K Hw t ((BS ++ (((L.2.drop (i + 1)).take e).flatMap (g3 j) ++ (g3 j o).take r)).map eS) H' ∧ SqT K H' p (xs.drop (i + 1)) ∧ SqT K H' p2 [V.int (o.2 : Int), V.int (o.1 : Int)] ∧ SqT K H' z [V.ref to, V.ref p2])
        ⟨_, _, _, rfl, by simpa using A, hp, hp2, hz0⟩ (fun e σ H' _ h => by obtain ⟨_, _, _, _, _, _, _, h⟩ := h; exact h) ?_ ?_
      · rintro r x σ H9 hx' ⟨y9, y10, y11, rfl, A, hp, hp2, hz0⟩
        obtain ⟨u, s1, s2, rfl, hsw, hst⟩ : ∃ (u : Addr) (s1 s2 : Nat), x = .ref u ∧ SqT K H9 u [.int (s1 : Int), .int (s2 : Int)] ∧ (g3 j o)[r]? = some ([j, o], srtJ [mm j.1 s1, mm j.2 s2]) := by
          match r, hx' with
          | 0, hx' => exact ⟨to, o.1, o.2, (Option.some.inj hx').symm, A.1.sq wo, rfl⟩
          | 1, hx' => exact ⟨p2, o.2, o.1, (Option.some.inj hx').symm, hp2, rfl⟩
        have wj9 := A.1.sq wj
        have wo9 := A.1.sq wo
        refine ⟨_, rfl, tj, _, _, _, rfl, rfl, wj9, at0, _, rfl, u, _, _, _, rfl, rfl, hsw, at0, small_sz (by simp), fun l1 nl1 => ⟨l1, [(j.1 : Int), (s1 : Int)], rfl, .inl (.inl upd_same), by simp, fun ns1 q1 pm1 so1 nq1 => ⟨q1, _, rfl, .inl ⟨.inl (.inl upd_same), fun u1 nu1 => ?_⟩⟩⟩⟩
        rw [sort2 pm1 so1] at nu1 ⊢
        obtain ⟨H10, e10, c3, g10⟩ := mkN (.tup [V.int ((mm j.1 s1).1 : Int), V.int ((mm j.1 s1).2 : Int)]) nu1
        rw [e10]
        have c1 : Same H9 H10 := ((same_new nl1).trans (same_new nq1)).trans c3
        have d1 : Dp K H10 (.ref u1) (eJ (mm j.1 s1)) := joint_mk (.inl (.inl g10))
        refine ⟨_, rfl, tj, _, _, _, rfl, rfl, c1.sq wj9, at1, _, rfl, u, _, _, _, rfl, rfl, c1.sq hsw, at1, small_sz (by simp), fun l2 nl2 => ⟨l2, [(j.2 : Int), (s2 : Int)], rfl, .inl (.inl upd_same), by simp, fun ns2 q2 pm2 so2 nq2 => ⟨q2, _, rfl, .inl ⟨.inl (.inl upd_same), fun u2 nu2 => ?_⟩⟩⟩⟩
        rw [sort2 pm2 so2] at nu2 ⊢
        obtain ⟨H11, e11, c4, g11⟩ := mkN (.tup [V.int ((mm j.2 s2).1 : Int), V.int ((mm j.2 s2).2 : Int)]) nu2
        rw [e11]
        have c5 : Same H10 H11 := ((same_new nl2).trans (same_new nq2)).trans c4
        have d2 : Dp K H11 (.ref u2) (eJ (mm j.2 s2)) := joint_mk (.inl (.inl g11))
        have d1 := c5.dp d1
        refine ⟨small_sz (by simp), fun md nmd => ?_⟩
        obtain ⟨H12, e12, c6, g12⟩ := mkN (.lst [V.ref u1, V.ref u2]) nmd
        rw [e12]
        have c7 := (c1.trans c5).trans c6
        have d1 := c6.dp d1
        have d2 := c6.dp d2
        have A12 := A.keep c7
        refine ⟨_, rfl, A12.ty, _, rfl, _, rfl, small_sz (by simp), fun z1 nz1 => ?_⟩
        obtain ⟨H13, e13, c8, g13⟩ := mkN (.tup [V.ref tj, V.ref to]) nz1
        rw [e13]
        have f1 : Dp K H13 (.ref z1) (eJs [j, o]) := js_mk (.inl (.inl g13)) (.cons (joint_mk ((c7.trans c8).sq wj9)) (.cons (joint_mk ((c7.trans c8).sq wo9)) .nil))
        refine ⟨_, rfl, md, [V.ref u1, V.ref u2], [mm j.1 s1, mm j.2 s2].map eJ, rfl, .inl (.inl (c8 _ _ g12)), .cons (c8.dp d1) (.cons (c8.dp d2) .nil), allAlike_map alike_j _, .inl (fun d hd => ?_), (fun d hd => ?_), fun ys p3 hys np3 => ⟨p3, _, rfl, .inl ⟨.inl (.inl upd_same), fun u3 nu3 => ⟨small_sz (by simp), fun z4 nz4 => ?_⟩⟩⟩⟩
        · obtain ⟨c, hc, rfl⟩ := List.mem_map.mp hd
          exact ⟨_, _, rfl⟩
        · obtain ⟨c, hc, rfl⟩ := List.mem_map.mp hd
          exact eJ_depth _
        rw [srtD_js] at hys
        obtain ⟨H14, e14, c9, g14⟩ := mkN (.tup [V.ref z1, V.ref u3]) nz4
        rw [e14]
        have ca := same_new (o := .lst ys) np3
        have cb := same_new (o := .tup ys) nu3
        have f3 := c9.dp (js_mk (K := K) (.inl (.inl (show (upd (upd H13 p3 (.lst ys)) u3 (.tup ys)) u3 = some (.tup ys) from upd_same))) (cb.dps (ca.dps hys)))
        have f4 : Dp K H14 (.ref z4) (eS ([j, o], srtJ [mm j.1 s1, mm j.2 s2])) := s_mk (.inl (.inl g14)) (c9.dp (cb.dp (ca.dp f1))) f3
        have cc := c8.trans ((ca.trans cb).trans c9)
        have cd := c7.trans cc
        obtain ⟨acc, e1, e2, A⟩ := Acc.step A12 wt cc f4 (nn _) (nol_s _) (by
          have h2 : (g3 j o).length = 2 := rfl
          simp only [List.length_map, List.length_append, List.length_take, h2]
          omega)
        have tp := cd.tps.trans (tps_lst (o := .lst (acc ++ [.ref z4])) e1)
        refine ⟨t, acc, _, rfl, rfl, e1, e2, _, _, _, rfl, ?_, tp.t hp, tp.t hp2, tp.t hz0⟩
        have et : (g3 j o).take (r + 1) = (g3 j o).take r ++ [([j, o], srtJ [mm j.1 s1, mm j.2 s2])] := by rw [List.take_add_one, hst]; rfl
        rw [et]
        simpa using A
      · rintro σ H9 ⟨y9, y10, y11, rfl, A, hp, hp2, hz0⟩
        refine ⟨_, _, _, _, _, rfl, ?_, hp⟩
        rw [flat_take (g3 j) hod]
        exact A
    · rintro σ H7 ⟨y7, y8, y9, y10, y11, rfl, A, hp⟩
      refine ⟨_, _, _, _, _, _, _, _, rfl, ?_⟩
      rw [List.take_of_length_le (by rw [List.length_drop, List.length_drop]; omega), ← hBS] at A
      rw [heads_succ hj]
      have e9 : headsM (fJ LO) L.2 i ++ fJ LO j (L.2.drop (i + 1)) = headsM (fJ LO) L.2 i ++ [([j], [])] ++ LO.flatMap (g2 j) ++ (L.2.drop (i + 1)).flatMap (g3 j) := by
        simp [fJ]
      rw [e9]
      exact A
  · rintro σ H3 ⟨y2, y5, y6, y7, y8, y9, y10, y11, rfl, A⟩
    rw [hxl, heads_all] at A
    have hBl : (tailsM (fJ LO) L.2).length ≤ 1200 := by
      rw [← heads_all]
      have := heads_len (g := fJ LO) (xs := L.2) (B := 100) (fun k x hk => by
        rw [fJ_len]
        have h1 := List.length_drop (i := k + 1) (l := L.2)
        omega) L.2.length
      omega
    refine ⟨_, rfl, lo, _, rfl, .inl (.inl (A.1 _ _ wl)), ?_⟩
    refine for_enumL (K := K) (a := lo) (xs := nV LO) (fun i σ H' => ∃ (y2 y5 y6 y7 y8 y9 y10 y11 : Option V), σ = [some (.ref a), some (.ref p0), y2, some (.ref lo), some (.ref t), y5, y6, y7, y8, y9, y10, y11] ∧ Acc K Hw t ((tailsM (fJ LO) L.2 ++ headsM fE LO i).map eS) H')
      ⟨_, _, _, _, _, _, _, _, rfl, by simpa [headsM] using A⟩ (fun i σ H' h => by obtain ⟨_, _, _, _, _, _, _, _, _, A⟩ := h; exact .inl (.inl (A.1 _ _ wl))) ?_ ?_
    · rintro i x σ H4 hx' ⟨y2, y5, y6, y7, y8, y9, y10, y11, rfl, A⟩ T1 nT
      obtain ⟨x0, hx0, rfl⟩ := nV_at hx'
      have hil : i < LO.length := (List.getElem?_eq_some_iff.mp hx0).1
      have hB2 : (headsM fE LO i).length ≤ i * 24 := heads_len (fun k x hk => by
        have h1 := List.length_drop (i := k + 1) (l := LO)
        simp only [fE, List.length_map]
        omega) i
      obtain ⟨H5, e5, c5, g5⟩ := mkN (.tup [.int (i : Nat), .int (x0 : Int)]) nT
      rw [e5]
      have A := A.keep c5
      refine ⟨T1, _, rfl, .inl (.inl g5), rfl, _, _, rfl, _, _, rfl, rfl, ?_⟩
      refine ⟨_, rfl, _, rfl, _, _, rfl, rfl, _, rfl, lo, _, rfl, .inl (.inl (A.1 _ _ wl)), fun p np => ?_⟩
      have hnl : i < (nV LO).length := by rw [nV_len]; exact hil
      rw [drop1 (nV LO) i hnl]
      have npt : p ≠ t := by
        obtain ⟨_, acc, e, _⟩ := A
        exact Ne.symm (ne_of_none e np)
      have ed : (nV LO).drop (i + 1) = nV (LO.drop (i + 1)) := by simp [nV, List.map_drop]
      rw [ed]
      obtain ⟨H6, e6, c6, g6⟩ := mkN (.lst (nV (LO.drop (i + 1)))) np
      rw [e6]
      have A := A.keep c6
      refine ⟨p, rfl, ⟨_, .inl (.inl g6)⟩, ?_⟩
      refine for_list (K := K) (a := p) (xs := nV (LO.drop (i + 1))) (fun e σ H' => ∃ (y11 : Option V), σ = [some (.ref a), some (.ref p0), y2, some (.ref lo), some (.ref t), some (.int (i : Int)), y6, some (.int (x0 : Int)), y8, y9, y10, y11] ∧
        Acc K Hw t ((tailsM (fJ LO) L.2 ++ (headsM fE LO i ++ ((LO.drop (i + 1)).take e).map fun y => ([], [(x0, y)]))).map eS) H' ∧ H' p = some (.lst (nV (LO.drop (i + 1))))) ⟨_, rfl, by simpa using A, g6⟩ (fun e σ H' _ h => by obtain ⟨_, _, _, h⟩ := h; exact .inl (.inl h)) ?_ ?_
      · rintro e y σ H7 hy ⟨y11, rfl, A, hp⟩
        obtain ⟨y0, hy0, rfl⟩ := nV_at hy
        refine ⟨_, rfl, A.ty, small_sz (by simp), fun z1 n1 => ⟨_, rfl, _, rfl, small_sz (by simp), fun z2 n2 => ⟨small_sz (by simp), fun z3 n3 => ⟨small_sz (by simp), fun z4 n4 => ?_⟩⟩⟩⟩
        have r1 := same_new (o := .tup []) n1
        have r2 := same_new (o := .tup [V.int (x0 : Int), V.int (y0 : Int)]) n2
        have r3 := same_new (o := .tup [.ref z2]) n3
        obtain ⟨H8, e8, r4, g8⟩ := mkN (.tup [.ref z1, .ref z3]) n4
        rw [e8]
        have k1 : Dp K (upd H7 z1 (.tup [])) (.ref z1) (eJs []) := js_mk (.inl (.inl upd_same)) .nil
        have k2 : Dp K (upd (upd H7 z1 (.tup [])) z2 (.tup [V.int (x0 : Int), V.int (y0 : Int)])) (.ref z2) (eJ (x0, y0)) := joint_mk (.inl (.inl upd_same))
        have hz : Dp K H8 (.ref z4) (eS ([], [(x0, y0)])) := s_mk (.inl (.inl g8)) (r4.dp (r3.dp (r2.dp k1))) (r4.dp (js_mk (.inl (.inl upd_same)) (.cons (r3.dp k2) .nil)))
        have cc := ((r1.trans r2).trans r3).trans r4
        obtain ⟨acc, e1, e2, A⟩ := Acc.step A wt cc hz (nn _) (nol_s _) (by
          have h1 := List.length_drop (i := i + 1) (l := LO)
          simp only [List.length_map, List.length_append, List.length_take]
          omega)
        refine ⟨t, acc, _, rfl, rfl, e1, e2, _, rfl, ?_, by rw [upd_ne npt]; exact cc _ _ hp⟩
        have et := take_succ_map (fun y => (([], [(x0, y)]) : Stp)) hy0
        rw [et]
        simpa using A
      · rintro σ H7 ⟨y11, rfl, A, hp⟩
        refine ⟨_, _, _, _, _, _, _, _, rfl, ?_⟩
        rw [List.take_of_length_le (by rw [nV_len]; omega)] at A
        rw [heads_succ hx0]
        exact A
    · rintro σ H4 ⟨y2, y5, y6, y7, y8, y9, y10, y11, rfl, A⟩
      rw [nV_len, heads_all, ← hLO, ← steps_is] at A
      obtain ⟨sm, acc, ht, dp⟩ := A
      refine ⟨_, rfl, t, acc, _, rfl, .inl (.inl ht), dp, allAlike_map alike_s _, .inl ?_, ?_, fun ys p hys np => ?_⟩
      · intro e he
        obtain ⟨c, hc, rfl⟩ := List.mem_map.mp he
        exact ⟨_, _, rfl⟩
      · intro e he
        obtain ⟨c, hc, rfl⟩ := List.mem_map.mp he
        exact eS_depth _
      · obtain ⟨Qs, pm, eq⟩ := srtD_perm eS (stepsM (2 * L.1) L.2)
        rw [eq] at hys
        exact q p _ ys Qs ((sH.trans sm).trans (same_new np)) ((sH.trans sm).none np) upd_same ((same_new np).dps hys) pm
end
end DC
namespace DC
open PySem PySem.Spec PyProof.Rows L2 Dm
theorem plain_j (j : Jt) : (eJ j).plain = true := by simp [eJ, PyData.plain, PyData.plainAll]
theorem plain_js : ∀ J : List Jt, PyData.plainAll (J.map eJ) = true
  | [] => rfl
  | j :: J => by simp only [List.map_cons, PyData.plainAll, plain_j, plain_js J, Bool.and_self]
theorem eqv_j (a b : Jt) : PyData.eqv (eJ a) (eJ b) = decide (a = b) := by
  obtain ⟨a1, a2⟩ := a
  obtain ⟨b1, b2⟩ := b
  rw [Bool.eq_iff_iff]
  simp [eJ, PyData.eqv, PyData.eqvAll]
  omega
theorem any_j (J : List Jt) (j : Jt) : ((J.map eJ).any fun z => PyData.eqv z (eJ j)) = J.contains j := by
  induction J with
  | nil => rfl
  | cons k J ih =>
    rw [List.map_cons, List.any_cons, ih, eqv_j, List.contains_cons]
    congr 1
    rw [Bool.eq_iff_iff, decide_eq_true_eq, beq_iff_eq]
    exact eq_comm
theorem take_filt {α : Type} {p : α → Bool} {xs : List α} {i : Nat} {x : α} (h : xs[i]? = some x) : (xs.take (i + 1)).filter p = (xs.take i).filter p ++ (if p x = true then [x] else []) := by
  rw [List.take_add_one, h, List.filter_append]
  simp [List.filter_cons]
theorem mem_tails {α β : Type} {g : α → List α → List β} {y : β} : ∀ {xs : List α}, y ∈ tailsM g xs → ∃ x r, y ∈ g x r
  | [], h => nomatch h
  | x :: r, h => by
    rcases List.mem_append.mp h with h | h
    · exact ⟨x, r, h⟩
    · exact mem_tails h
theorem step_few {N : Nat} {J : List Jt} {s : Stp} (h : s ∈ stepsM N J) : s.2.length ≤ 2 := by
  rw [steps_is] at h
  rcases List.mem_append.mp h with h | h
  · obtain ⟨j, r, h⟩ := mem_tails h
    rcases List.mem_cons.mp h with rfl | h
    · simp
    rcases List.mem_append.mp h with h | h
    · obtain ⟨e, _, h⟩ := List.mem_flatMap.mp h
      simp [g2] at h
      rcases h with rfl | rfl <;> simp
    · obtain ⟨o, _, h⟩ := List.mem_flatMap.mp h
      simp [g3] at h
      rcases h with rfl | rfl
      · have := (srtJ_perm [mm j.1 o.1, mm j.2 o.2]).length_eq
        simp at this ⊢
        omega
      · have := (srtJ_perm [mm j.1 o.2, mm j.2 o.1]).length_eq
        simp at this ⊢
        omega
  · obtain ⟨x, r, h⟩ := mem_tails h
    obtain ⟨y, _, rfl⟩ := List.mem_map.mp h
    simp
section
variable {P : Program} {w : World} {K : PySem.W.Frag} {mg : Str → Option Value} {base : Heap} {f : Addr} {fd : FuncData}
def sp_after (K : PySem.W.Frag) : Sp := fun vs H Q _ => ∃ (v u : V) (L : Lay) (s : Stp), vs = [v, u] ∧ Dp K H v (eLay L) ∧ Dp K H u (eS s) ∧ L.2.length ≤ 100 ∧ s.2.length ≤ 100 ∧ ∀ z H', Same H H' → Dp K H' (.ref z) (eLay (L.1, afterM L.2 s)) → Q (.ref z) H'
abbrev C31 (P : Program) (w : World) (K : PySem.W.Frag) (mg : Str → Option Value) (base : Heap) : Prop := Cal P w K mg base 1 "_law_after" ["_law_lay_here", "_law_step_so"] (sp_after K)
theorem ok_after (D : Df K mg "_law_after" s__law_after ["_law_lay_here", "_law_step_so"] f fd) (T : Tx mg) : C31 P w K mg base := by
  refine D.cal (D.F.ok sc__law_after (fun vs H Q E h => ?_) (fun cdv A outer s H vs Q E hr h => ?_))
  · obtain ⟨v, u, L, s, rfl, _⟩ := h
    rfl
  obtain ⟨v, u, L, s, rfl, hd, he, hl1, hl2, q⟩ := h
  obtain ⟨a, b, xs, rfl, hA, hB, hx⟩ := lay_open hd
  obtain ⟨z, z1, z2, rfl, hZ, hz1, hz2⟩ := s_open he
  have hxl := DpAll.len hx
  rw [List.length_map] at hxl
  refine ⟨_, (pss_cons (ps_setLc (i := 2) (own := [("_law_joint", 3)]) (g := gName 3) (by rfl) sc__law_after.nd rfl rfl (sw_true rfl rfl rfl (by decide +kernel)) (pi_tup (pe_ix ix_tup (pv 0) pe_int (fun _ _ => rfl))) (blkOk_by (N := ["_law_lay_here", "_law_step_so", "_law_stay", "_law_joint"]) (sc := defScope s__law_after) (by decide +kernel)) (fun _ _ _ _ _ => (pg_name (i := 3) sc__law_after.nd rfl (.inl rfl))) (fun _ _ _ _ _ => (pts_one (pt_cmpR (show OpR _ _ (rInTD K true) from (op_notInTD hr.units)) (pv 3) (pe_ix (show IxR _ (rIxT K) from ix_tup) (pv 1) pe_int (fun _ _ => rfl)) (by rfl)))) (fun _ _ _ _ _ => (pv 3)))
      (pss_one (ps_ret (pe_tup (pa_cons (pe_ix ix_tup (pv 0) pe_int (fun _ _ => rfl)) (pa_cons (pe_callTy call_tuple_of (by rfl) T.tuple (by decide +kernel) (pa_cons (pe_callB (call_sortedD hr.units) (by rfl) T.sorted (by decide +kernel) (pa_cons (pe_op op_cat (pv 2) (pe_callTy call_list_of (by rfl) T.list (by decide +kernel) (pa_cons (pe_ix ix_tup (pv 1) pe_int (fun _ _ => rfl)) pa_nil))) pa_nil)) pa_nil)) pa_nil)))))), ?_⟩
  refine ⟨_, rfl, a, _, _, _, rfl, rfl, hA, at1, b, rfl, ⟨xs, hB⟩, fun D nD => lc_tup (K := K) (a := b) (xs := xs) (fun i H' => Acc K H D (((L.2.take i).filter fun j => !s.1.contains j).map eJ) H') (Acc.start nD) (fun i H' _ h => h.1.sq hB) ?_ ?_⟩
  · intro i x H' hi A
    obtain ⟨j, tj, hj, rfl, hj2⟩ := js_at hx hi
    have wj := joint_mk (A.1.sq hj2)
    refine ⟨rfl, ?_⟩
    refine ⟨_, rfl, _, rfl, z, _, _, _, rfl, rfl, A.1.sq hZ, at0, eJ j, s.1.map eJ, wj, A.1.dp hz1, plain_js _, plain_j _, eJ_depth _, _, rfl, ?_⟩
    rw [any_j]
    have et := take_filt (p := fun j => !s.1.contains j) hj
    by_cases c : (!s.1.contains j) = true
    · refine itet c ?_
      rw [if_pos c] at et
      have st := Acc.step A nD (Same.refl _) wj (nols_js _) (nol_j _) (by
        have h1 := List.length_filter_le (fun j => !s.1.contains j) (L.2.take i)
        rw [List.length_take] at h1
        rw [List.length_map]
        omega)
      refine ⟨_, rfl, ?_⟩
      have e2 : ((L.2.take (i + 1)).filter fun j => !s.1.contains j).map eJ = ((L.2.take i).filter fun j => !s.1.contains j).map eJ ++ [eJ j] := by rw [et, List.map_append]; rfl
      rw [← e2] at st
      exact st
    · refine itef (by simpa using c) ?_
      rw [if_neg c, List.append_nil] at et
      show Acc K H D (((L.2.take (i + 1)).filter fun j => !s.1.contains j).map eJ) H'
      rw [et]
      exact A
  · intro H' A
    rw [hxl, List.take_length] at A
    obtain ⟨sm, acc, hD, dp⟩ := A
    obtain ⟨B, ys, eB, hB2, hy⟩ := js_open hz2
    have hB3 : SqT K H z2 ys := by cases eB; exact hB2
    have h1 := List.length_filter_le (fun j => !s.1.contains j) L.2
    have h2 := DpAll.len dp
    have h3 := DpAll.len hy
    rw [List.length_map] at h2 h3
    refine ⟨_, rfl, a, _, _, _, rfl, rfl, sm.sq hA, at0, _, rfl, _, rfl, z, _, _, _, rfl, rfl, sm.sq hZ, at1, z2, ys, rfl, .inr (sm.sq hB3), fun l nl => ?_⟩
    obtain ⟨H2, e2, c2, g2⟩ := mkN (.lst ys) nl
    rw [e2]
    refine ⟨D, l, acc, ys, rfl, rfl, c2 _ _ hD, g2, small_sz (by omega), fun r nr => ?_⟩
    obtain ⟨H3, e3, c3, g3⟩ := mkN (.lst (acc ++ ys)) nr
    rw [e3]
    have c4 := c2.trans c3
    have dps := DpAll.app (c4.dps dp) ((sm.trans c4).dps hy)
    rw [← List.map_append] at dps
    refine ⟨r, _, _, rfl, .inl (.inl g3), dps, allAlike_map alike_j _, .inl (fun d hd => ?_), (fun d hd => ?_), fun zs p hys np => ⟨p, _, rfl, .inl ⟨.inl (.inl upd_same), fun q1 nq => ⟨small_sz (by simp), fun z9 nz9 => ?_⟩⟩⟩⟩
    · obtain ⟨c, hc, rfl⟩ := List.mem_map.mp hd
      exact ⟨_, _, rfl⟩
    · obtain ⟨c, hc, rfl⟩ := List.mem_map.mp hd
      exact eJ_depth _
    rw [srtD_js] at hys
    have k1 := same_new (o := .lst zs) np
    have k2 := same_new (o := .tup zs) nq
    obtain ⟨H6, e6, k3, g6⟩ := mkN (.tup [.int (L.1 : Int), .ref q1]) nz9
    rw [e6]
    have kk := (k1.trans k2).trans k3
    exact q z9 H6 ((sm.trans c4).trans kk) (lay_mk (L := (L.1, afterM L.2 s)) (.inl (.inl g6)) (.inl (.inl (k3 _ _ upd_same))) (kk.dps hys))
def sp_all (K : PySem.W.Frag) : Sp := fun vs H Q _ => ∃ n : Nat, vs = [.int (n : Int)] ∧ 1 ≤ n ∧ n ≤ 12 ∧ (∀ i, i ≤ 2 * n → (allE (2 * n) i).length ≤ 1000) ∧ (∀ i, i ≤ 2 * n → ∀ J ∈ allE (2 * n) i, J.length ≤ 100) ∧
  ∀ p H' acc (As : List (List Jt)), Same H H' → H' p = some (.lst acc) → DpAll K H' acc (As.map fun J => eLay (n, J)) → As.Perm ((allM (2 * n)).map srtJ) → Q (.ref p) H'
abbrev C32 (P : Program) (w : World) (K : PySem.W.Frag) (mg : Str → Option Value) (base : Heap) : Prop := Cal P w K mg base 1 "_law_all" ["_law_links"] (sp_all K)
theorem in_take {J : List Jt} {x : Nat} : inV (.int (x : Int)) (nV (J.map (·.1)) ++ nV (J.map (·.2))) = (ends J).contains x := by
  rw [nV_app, in_nV, Bool.eq_iff_iff]
  simp only [decide_eq_true_eq, List.contains_eq_mem, List.mem_append, List.mem_map, mem_ends]
  constructor
  · rintro (⟨j, h, e⟩ | ⟨j, h, e⟩)
    · exact ⟨j, h, .inl e.symm⟩
    · exact ⟨j, h, .inr e.symm⟩
  · rintro ⟨j, h, e | e⟩
    · exact .inl ⟨j, h, e.symm⟩
    · exact .inr ⟨j, h, e.symm⟩
def gE (N e : Nat) (J : List Jt) : List (List Jt) := (((List.range N).drop (e + 1)).filter fun m => !(ends J).contains m).map fun m => (e, m) :: J
theorem gE_len (N e : Nat) (J : List Jt) : (gE N e J).length ≤ N := by
  unfold gE
  rw [List.length_map]
  have h1 := List.length_filter_le (fun m => !(ends J).contains m) ((List.range N).drop (e + 1))
  rw [List.length_drop, List.length_range] at h1
  omega
theorem flat_le {α β : Type} {g : α → List β} {B : Nat} (h : ∀ x, (g x).length ≤ B) : ∀ xs : List α, (xs.flatMap g).length ≤ xs.length * B
  | [] => by simp
  | x :: xs => by
    have h1 := h x
    have h2 := flat_le h xs
    rw [List.flatMap_cons, List.length_append, List.length_cons, Nat.succ_mul]
    omega
theorem nol_l (n : Nat) (J : List Jt) : nol (eLay (n, J)) = true := nol_lay _
theorem ok_all (D : Df K mg "_law_all" s__law_all ["_law_links"] f fd) (T : Tx mg) : C32 P w K mg base := by
  refine D.cal (D.F.ok sc__law_all (fun vs H Q E h => ?_) (fun cdv A outer s H vs Q E hr h => ?_))
  · obtain ⟨n, rfl, _⟩ := h
    rfl
  obtain ⟨n, rfl, n1, n2, hB, hJ, q⟩ := h
  generalize hN : 2 * n = N at *
  have hN24 : N ≤ 24 := by omega
  refine ⟨_, (pss_cons (ps_set (i := 1) sc__law_all.nd rfl (.inl rfl) (pe_lst (pa_cons (pe_tup pa_nil) pa_nil)))
      (pss_cons (ps_for PassesOwn.never rfl (pi_range3 (by rfl) T.range (pa_cons (pe_op op_sub (pe_op op_mul pe_int (pv 0)) pe_int) (pa_cons (pe_un un_neg pe_int) (pa_cons (pe_un un_neg pe_int) pa_nil)))) (pg_name (i := 2) sc__law_all.nd rfl (.inl rfl)) (pss_cons (ps_set (i := 3) sc__law_all.nd rfl (.inl rfl) (pe_callTy call_list_of (by rfl) T.list (by decide +kernel) (pa_cons (pv 1) pa_nil)))
      (pss_cons (ps_for PassesOwn.never rfl (pi_list (pv 1)) (pg_name (i := 4) sc__law_all.nd rfl (.inl rfl)) (pss_cons (ps_set (i := 5) sc__law_all.nd rfl (.inl rfl) (pe_op op_cat (pe_lc (own := [("_law_joint", 7)]) (g := gName 7) (tt := tYes) (by rfl) sc__law_all.nd (pi_tup (pv 4)) (blkOk_by (N := ["_law_links", "_law_found", "_law_end", "_law_longer", "_law_joints_so", "_law_taken", "_law_mate", "_law_joint"]) (sc := defScope s__law_all) (by decide +kernel)) (fun _ _ _ _ _ => (pg_name (i := 7) sc__law_all.nd rfl (.inl rfl))) (fun _ _ _ _ _ => pts_nil) (fun _ _ _ _ _ => (pe_ix (show IxR _ (rIxT K) from ix_tup) (pv 7) pe_int (fun _ _ => rfl)))) (pe_lc (own := [("_law_joint", 7)]) (g := gName 7) (tt := tYes) (by rfl) sc__law_all.nd (pi_tup (pv 4)) (blkOk_by (N := ["_law_links", "_law_found", "_law_end", "_law_longer", "_law_joints_so", "_law_taken", "_law_mate", "_law_joint"]) (sc := defScope s__law_all) (by decide +kernel)) (fun _ _ _ _ _ => (pg_name (i := 7) sc__law_all.nd rfl (.inl rfl))) (fun _ _ _ _ _ => pts_nil) (fun _ _ _ _ _ => (pe_ix (show IxR _ (rIxT K) from ix_tup) (pv 7) pe_int (fun _ _ => rfl))))))
      (pss_one (ps_for PassesOwn.never rfl (pi_range2 (by rfl) T.range (pa_cons (pe_op op_add (pv 2) pe_int) (pa_cons (pe_op op_mul pe_int (pv 0)) pa_nil))) (pg_name (i := 6) sc__law_all.nd rfl (.inl rfl)) (pss_one (ps_if (pt_cmpR op_notIn_seq (pv 6) (pv 5) (by rfl)) (pss_one (ps_expr (pe_bm PySem.F.plainAttrs_list PySem.F.slot_list_append PySem.F.type_list_append mt_append (pv 3) (pa_cons (pe_op op_catT (pe_tup (pa_cons (pe_tup (pa_cons (pv 2) (pa_cons (pv 6) pa_nil))) pa_nil)) (pv 4)) pa_nil)))) pss_nil))))))
      (pss_one (ps_set (i := 1) sc__law_all.nd rfl (.inl rfl) (pv 3))))))
      (pss_one (ps_ret (pe_callB (call_sortedD hr.units) (by rfl) T.sorted (by decide +kernel) (pa_cons (pe_lc (own := [("_law_joints_so", 4)]) (g := gName 4) (tt := tYes) (by rfl) sc__law_all.nd (pi_list (pv 1)) (blkOk_by (N := ["_law_links", "_law_found", "_law_end", "_law_longer", "_law_joints_so", "_law_taken", "_law_mate", "_law_joint"]) (sc := defScope s__law_all) (by decide +kernel)) (fun _ _ _ _ _ => (pg_name (i := 4) sc__law_all.nd rfl (.inl rfl))) (fun _ _ _ _ _ => pts_nil) (fun _ _ _ _ _ => (pe_tup (pa_cons (pv 0) (pa_cons (pe_callTy (show CallR _ _ (rTupK K) from call_tuple_of) (by rfl) T.tuple (by decide +kernel) (pa_cons (pe_callB (show CallR _ _ (rSortedDT K) from (call_sortedDT hr.units)) (by rfl) T.sorted (by decide +kernel) (pa_cons (pv 4) pa_nil)) pa_nil)) pa_nil))))) pa_nil)))))), ?_⟩
  refine ⟨small_sz (by simp), fun e0 ne0 => ⟨small_sz (by simp), fun fv0 nfv0 => ?_⟩⟩
  have r0 := same_new (o := .tup []) ne0
  obtain ⟨H1, e1, r1, g1⟩ := mkN (.lst [V.ref e0]) nfv0
  rw [e1]
  have d0 : Dp K H1 (.ref e0) (eJs []) := r1.dp (js_mk (.inl (.inl upd_same)) .nil)
  refine ⟨_, rfl, _, _, rfl, rfl, .inl ⟨by decide, by decide⟩, _, _, rfl, rfl, _, rfl, _, rfl, _, _, _, _, rfl, RgC.neg (by omega) (by omega) (by omega) (by omega), ?_⟩
  refine for_rangeC (fun i σ H' => ∃ (fv : Addr) (acc : List V) (y2 y3 y4 y5 y6 y7 : Option V), σ = [some (.int (n : Int)), some (.ref fv), y2, y3, y4, y5, y6, y7] ∧ Same H H' ∧ H' fv = some (.lst acc) ∧ DpAll K H' acc ((allE N i).map eJs))
    ⟨fv0, _, _, _, _, _, _, _, rfl, r0.trans r1, g1, .cons d0 .nil⟩ ?_ ?_
  · rintro i σ H' hi ⟨fv, acc, y2, y3, y4, y5, y6, y7, rfl, sm, hf, dp⟩
    have eE : (2 : Int) * (n : Int) - 1 + (i : Int) * -1 = ((N - (i + 1) : Nat) : Int) := by omega
    rw [eE]
    have hiN : i < N := by omega
    generalize he : N - (i + 1) = e at *
    have eAll : allE N (i + 1) = allE N i ++ (allE N i).flatMap (gE N e) := by
      show extE N (N - (i + 1)) (allE N i) = _
      rw [he]
      rfl
    have hBi := hB i (by omega)
    have hJi := hJ i (by omega)
    rw [eAll] at *
    generalize allE N i = As at *
    have hal := DpAll.len dp
    rw [List.length_map] at hal
    have nn : ∀ ss : List (List Jt), nols (ss.map eJs) = true := nols_map nol_js
    refine ⟨_, rfl, fv, acc, rfl, .inl (.inl (.inl hf)), fun lg nlg => ?_⟩
    obtain ⟨H2, e2, r2, g2'⟩ := mkN (.lst acc) nlg
    rw [e2]
    have A : Acc K H' lg (As.map eJs) H2 := ⟨r2, acc, g2', r2.dps dp⟩
    refine ⟨_, rfl, fv, rfl, ⟨_, .inl (.inl (r2 _ _ hf))⟩, ?_⟩
    refine for_list (K := K) (a := fv) (xs := acc) (fun r σ H3 => ∃ (y4 y5 y6 y7 : Option V), σ = [some (.int (n : Int)), some (.ref fv), some (.int (e : Int)), some (.ref lg), y4, y5, y6, y7] ∧ Acc K H' lg ((As ++ (As.take r).flatMap (gE N e)).map eJs) H3)
      ⟨_, _, _, _, rfl, by simpa using A⟩ (fun r σ H3 _ h => by obtain ⟨_, _, _, _, _, A⟩ := h; exact .inl (.inl (A.1 _ _ hf))) ?_ ?_
    · rintro r x σ H3 hx ⟨y4, y5, y6, y7, rfl, A⟩
      obtain ⟨d, q1, hxd⟩ := DpAll.at dp hx
      obtain ⟨J, hJr, rfl⟩ := map_at q1
      have hJl := hJi J (List.mem_of_getElem? hJr)
      obtain ⟨js, ys, rfl, hjs, hys⟩ := js_open hxd
      have hyl := DpAll.len hys
      rw [List.length_map] at hyl
      have hrl : r < As.length := (List.getElem?_eq_some_iff.mp hJr).1
      have hfl := flat_le (gE_len N e) (As.take r)
      rw [List.length_take] at hfl
      have hfl2 : min r As.length * N ≤ 1000 * 24 := Nat.mul_le_mul (by omega) hN24
      have s3 := A.1
      refine ⟨_, rfl, js, rfl, ⟨_, s3.sq hjs⟩, fun D1 nD1 => lc_tup (K := K) (a := js) (xs := ys) (fun t H4 => Same H3 H4 ∧ H4 D1 = some (.lst (nV ((J.take t).map (·.1))))) ⟨same_new nD1, upd_same⟩ (fun t H4 _ h => h.1.sq (s3.sq hjs)) ?_ ?_⟩
      · rintro t y H4 hy ⟨s4, hD⟩
        obtain ⟨j, tj, hj, rfl, hj2⟩ := js_at hys hy
        refine ⟨rfl, yes_then ?_⟩
        refine ⟨_, rfl, tj, _, _, _, rfl, rfl, s4.sq (s3.sq hj2), at0, _, hD, small_lt (by rw [nV_len, List.length_map, List.length_take]; omega), s4.wr nD1, ?_⟩
        rw [upd_same, take_succ_map _ hj, ← nV_app]
        rfl
      rintro H4 ⟨s4, hD1⟩
      rw [hyl, List.take_length] at hD1
      refine ⟨_, rfl, js, rfl, ⟨_, s4.sq (s3.sq hjs)⟩, fun D2 nD2 => lc_tup (K := K) (a := js) (xs := ys) (fun t H5 => Same H4 H5 ∧ H5 D2 = some (.lst (nV ((J.take t).map (·.2))))) ⟨same_new nD2, upd_same⟩ (fun t H5 _ h => h.1.sq (s4.sq (s3.sq hjs))) ?_ ?_⟩
      · rintro t y H5 hy ⟨s5, hD⟩
        obtain ⟨j, tj, hj, rfl, hj2⟩ := js_at hys hy
        refine ⟨rfl, yes_then ?_⟩
        refine ⟨_, rfl, tj, _, _, _, rfl, rfl, s5.sq (s4.sq (s3.sq hj2)), at1, _, hD, small_lt (by rw [nV_len, List.length_map, List.length_take]; omega), s5.wr nD2, ?_⟩
        rw [upd_same, take_succ_map _ hj, ← nV_app]
        rfl
      rintro H5 ⟨s5, hD2⟩
      rw [hyl, List.take_length] at hD2
      refine ⟨D1, D2, _, _, rfl, rfl, s5 _ _ hD1, hD2, small_sz (by rw [nV_len, nV_len, List.length_map, List.length_map]; omega), fun tk ntk => ?_⟩
      obtain ⟨H6, e6, r6, g6⟩ := mkN (.lst (nV (J.map (·.1)) ++ nV (J.map (·.2)))) ntk
      rw [e6]
      have A := A.keep ((s4.trans s5).trans r6)
      have ntl : tk ≠ lg := by
        obtain ⟨_, ac, q, _⟩ := A.keep (Same.refl _)
        intro z
        have : H3 lg ≠ none := by
          obtain ⟨_, ac3, q3, _⟩ := ‹Acc K H' lg ((As ++ (As.take r).flatMap (gE N e)).map eJs) H3›
          rw [q3]
          exact Option.some_ne_none _
        exact this ((s4.trans s5).none (by rw [← z]; exact ntk))
      refine ⟨_, rfl, _, _, rfl, rfl, _, rfl, _, _, rfl, rfl, .inl ⟨by decide, by decide⟩, _, _, rfl, ⟨by omega, by omega, by omega, by omega⟩, ?_⟩
      refine for_range (fun t σ H7 => ∃ (y6 y7 : Option V), σ = [some (.int (n : Int)), some (.ref fv), some (.int (e : Int)), some (.ref lg), some (.ref js), some (.ref tk), y6, y7] ∧
        Acc K H' lg ((As ++ ((As.take r).flatMap (gE N e) ++ ((((List.range N).drop (e + 1)).take t).filter fun m => !(ends J).contains m).map fun m => (e, m) :: J)).map eJs) H7 ∧ H7 tk = some (.lst (nV (J.map (·.1)) ++ nV (J.map (·.2)))))
        ⟨_, _, rfl, by simpa using A, g6⟩ ?_ ?_
      · rintro t σ H7 ht ⟨y6, y7, rfl, A, htk⟩
        have em : (e : Int) + 1 + (t : Int) = ((e + 1 + t : Nat) : Int) := by omega
        rw [em]
        have hm : ((List.range N).drop (e + 1))[t]? = some (e + 1 + t) := by
          rw [List.getElem?_drop, List.getElem?_range (by omega)]
        have et := take_filt (p := fun m => !(ends J).contains m) hm
        generalize e + 1 + t = m at *
        refine ⟨_, rfl, _, rfl, tk, _, rfl, .inl (.inl (.inl htk)), rfl, by rw [nV_app]; exact flat_nV _, _, rfl, ?_⟩
        by_cases c : (!(ends J).contains m) = true
        · refine itet (by rw [in_take]; exact c) ?_
          rw [if_pos c] at et
          have fin : ∀ (pz : Addr) (H8 : Hp), Same H7 H8 → Dp K H8 (.ref pz) (eJs ((e, m) :: J)) → ∃ acc, H8 lg = some (.lst acc) ∧ acc.length < sizeLine ∧
              Acc K H' lg ((As ++ ((As.take r).flatMap (gE N e) ++ ((((List.range N).drop (e + 1)).take (t + 1)).filter fun m => !(ends J).contains m).map fun m => (e, m) :: J)).map eJs) (upd H8 lg (.lst (acc ++ [.ref pz]))) := by
            intro pz H8 s8 hz
            have st := Acc.step A nlg s8 hz (nn _) (nol_js _) (by
              have h1 := List.length_filter_le (fun m => !(ends J).contains m) (((List.range N).drop (e + 1)).take t)
              rw [List.length_take, List.length_drop, List.length_range] at h1
              simp only [List.length_map, List.length_append]
              omega)
            rw [et]
            simpa using st
          refine ⟨_, rfl, A.ty, _, rfl, _, rfl, small_sz (by simp), fun z1 n1 => ⟨small_sz (by simp), fun z2 n2 => ⟨_, rfl, z2, js, [.ref z1], ys, rfl, rfl, .inl (.inl upd_same), ?_, by simp, small_sz (by simp; omega), fun ey => ?_, fun ey p np => ?_⟩⟩⟩
          · exact (same_new n2).sq ((same_new n1).sq (A.1.sq hjs))
          · have J0 : J = [] := List.length_eq_zero_iff.mp (by rw [← hyl, ey]; rfl)
            have k1 : Dp K (upd H7 z1 (.tup [.int (e : Int), .int (m : Int)])) (.ref z1) (eJ (e, m)) := joint_mk (.inl (.inl upd_same))
            obtain ⟨H8, e8, c8, g8⟩ := mkN (.tup [V.ref z1]) n2
            rw [e8]
            obtain ⟨ac, q1, q2, q3⟩ := fin z2 H8 ((same_new n1).trans c8) (by rw [J0]; exact js_mk (.inl (.inl g8)) (.cons (c8.dp k1) .nil))
            exact ⟨lg, ac, _, rfl, rfl, q1, q2, _, _, rfl, q3, by rw [upd_ne ntl]; exact ((same_new n1).trans c8) _ _ htk⟩
          · have k1 : Dp K (upd H7 z1 (.tup [.int (e : Int), .int (m : Int)])) (.ref z1) (eJ (e, m)) := joint_mk (.inl (.inl upd_same))
            have c8 := same_new (o := .tup [V.ref z1]) n2
            obtain ⟨H9, e9, c9, g9⟩ := mkN (.tup ([V.ref z1] ++ ys)) np
            rw [e9]
            have cc := ((same_new n1).trans c8).trans c9
            obtain ⟨ac, q1, q2, q3⟩ := fin p H9 cc (js_mk (.inl (.inl g9)) (.cons (c9.dp (c8.dp k1)) ((A.1.trans cc).dps hys)))
            exact ⟨lg, ac, _, rfl, rfl, q1, q2, _, _, rfl, q3, by rw [upd_ne ntl]; exact cc _ _ htk⟩
        · refine itef (by rw [in_take]; simpa using c) ?_
          rw [if_neg c, List.append_nil] at et
          refine ⟨_, _, rfl, ?_, htk⟩
          rw [et]
          exact A
      · rintro σ H7 ⟨y6, y7, rfl, A, htk⟩
        refine ⟨_, _, _, _, rfl, ?_⟩
        rw [List.take_of_length_le (l := (List.range N).drop (e + 1)) (by rw [List.length_drop, List.length_range]; omega)] at A
        rw [flat_take (gE N e) hJr]
        exact A
    · rintro σ H3 ⟨y4, y5, y6, y7, rfl, A⟩
      rw [hal, List.take_length] at A
      obtain ⟨s3, ac, q1, q2⟩ := A
      exact ⟨_, rfl, lg, ac, _, _, _, _, _, _, rfl, sm.trans s3, q1, q2⟩
  · rintro σ H' ⟨fv, acc, y2, y3, y4, y5, y6, y7, rfl, sm, hf, dp⟩
    have eC : ((2 : Int) * (n : Int) - 1 - -1).toNat = N := by omega
    rw [eC] at dp
    have hBi := hB N (Nat.le_refl _)
    change DpAll K H' acc ((allM N).map eJs) at dp
    have hBi : (allM N).length ≤ 1000 := hBi
    generalize allM N = As at *
    have hal := DpAll.len dp
    rw [List.length_map] at hal
    refine ⟨_, rfl, fv, rfl, ⟨_, .inl (.inl hf)⟩, fun D nD => lc_list (K := K) (a := fv) (xs := acc) (fun i H2 => Acc K H' D ((As.take i).map fun J => eLay (n, srtJ J)) H2) (Acc.start nD) (fun i H2 _ h => .inl (.inl (h.1 _ _ hf))) ?_ ?_⟩
    · intro i x H2 hx A
      obtain ⟨d, q1, hxd⟩ := DpAll.at dp hx
      obtain ⟨J, hJr, rfl⟩ := map_at q1
      obtain ⟨js, ys, rfl, hjs, hys⟩ := js_open hxd
      refine ⟨rfl, yes_then ?_⟩
      refine ⟨_, rfl, _, rfl, js, ys, _, rfl, A.1.sq hjs, A.1.dps hys, allAlike_map alike_j _, .inl (fun d hd => ?_), (fun d hd => ?_), fun zs p hzs np => ⟨p, _, rfl, .inl ⟨.inl (.inl upd_same), fun q1 nq => ⟨small_sz (by simp), fun z9 nz9 => ?_⟩⟩⟩⟩
      · obtain ⟨c, hc, rfl⟩ := List.mem_map.mp hd
        exact ⟨_, _, rfl⟩
      · obtain ⟨c, hc, rfl⟩ := List.mem_map.mp hd
        exact eJ_depth _
      rw [srtD_js] at hzs
      have k1 := same_new (o := .lst zs) np
      have k2 := same_new (o := .tup zs) nq
      obtain ⟨H6, e6, k3, g6⟩ := mkN (.tup [.int (n : Int), .ref q1]) nz9
      rw [e6]
      have kk := (k1.trans k2).trans k3
      have st := Acc.step A nD kk (lay_mk (L := (n, srtJ J)) (.inl (.inl g6)) (.inl (.inl (k3 _ _ upd_same))) (kk.dps hzs)) (nols_map (fun J => nol_l n (srtJ J)) _) (nol_l _ _) (by
        rw [List.length_map, List.length_take]
        omega)
      rw [← take_succ_map (fun J => eLay (n, srtJ J)) hJr] at st
      exact st
    · intro H2 A
      rw [hal, List.take_length] at A
      obtain ⟨s2, ac, hD, dp2⟩ := A
      have em : (As.map fun J => eLay (n, srtJ J)) = (As.map srtJ).map fun J => eLay (n, J) := by rw [List.map_map]; rfl
      rw [em] at dp2
      refine ⟨D, ac, _, rfl, .inl (.inl hD), dp2, allAlike_map (fun a b => alike_lay _ _) _, .inl (fun d hd => ?_), (fun d hd => ?_), fun ys p hys np => ?_⟩
      · obtain ⟨c, hc, rfl⟩ := List.mem_map.mp hd
        exact ⟨_, _, rfl⟩
      · obtain ⟨c, hc, rfl⟩ := List.mem_map.mp hd
        have := eLay_depth (n, c)
        omega
      · obtain ⟨Qs, pm, eq⟩ := srtD_perm (fun J => eLay (n, J)) (As.map srtJ)
        rw [eq] at hys
        exact q p _ ys Qs ((sm.trans s2).trans (same_new np)) upd_same ((same_new np).dps hys) pm
end
end DC
namespace DC
open PySem PySem.Spec PyProof.Rows L2 Dm
def eL (n : Nat) (J : List Jt) : PyData := eLay (n, J)
/-- the dict of what is found -/
def FK (n : Nat) (kvs : DNs) (F : Fd) : Prop := kvs.map (fun p => (p.1, p.2.2)) = F.map fun q => (((n, q.1), V.int ((q.2 : Nat) : Int)) : Lay × V)
theorem FK.snoc {n : Nat} {kvs : DNs} {F : Fd} (h : FK n kvs F) (J : List Jt) (b : Addr) (k : Nat) : FK n (kvs ++ [((n, J), b, .int ((k : Nat) : Int))]) (F ++ [(J, k)]) := by
  unfold FK at *
  rw [List.map_append, List.map_append, h]
  rfl
theorem FK.len {n : Nat} {kvs : DNs} {F : Fd} (h : FK n kvs F) : kvs.length = F.length := by
  have := congrArg List.length h
  simpa using this
theorem lk_is {n : Nat} {kvs : DNs} {F : Fd} (h : FK n kvs F) (J : List Jt) : lk kvs (n, J) = (F.find? fun q => decide (q.1 = J)).map fun q => V.int ((q.2 : Nat) : Int) := by
  have e1 : lk kvs (n, J) = ((kvs.map fun p => (p.1, p.2.2)).find? fun p => decide (p.1 = (n, J))).map (·.2) := by
    rw [List.find?_map, Option.map_map]
    rfl
  rw [e1, h, List.find?_map, Option.map_map]
  have e2 : ((fun p : Lay × V => decide (p.1 = (n, J))) ∘ fun q : List Jt × Nat => ((n, q.1), V.int ((q.2 : Nat) : Int))) = fun q => decide (q.1 = J) := by
    funext q
    simp
  rw [e2]
  rfl
theorem lk_none {n : Nat} {kvs : DNs} {F : Fd} (h : FK n kvs F) {J : List Jt} (hJ : J ∉ F.map (·.1)) : lk kvs (n, J) = none := by
  rw [lk_is h]
  have : (F.find? fun q => decide (q.1 = J)) = none := by
    rw [List.find?_eq_none]
    intro q hq e
    exact hJ (List.mem_map.mpr ⟨q, hq, of_decide_eq_true e⟩)
  rw [this]
  rfl
theorem lk_some {n : Nat} {kvs : DNs} {F : Fd} (h : FK n kvs F) {J : List Jt} (hJ : J ∈ F.map (·.1)) {d : Nat} (hv : ∀ q ∈ F, q.1 = J → q.2 = d) : lk kvs (n, J) = some (.int ((d : Nat) : Int)) := by
  rw [lk_is h]
  cases e : F.find? fun q => decide (q.1 = J) with
  | none =>
    rw [List.find?_eq_none] at e
    obtain ⟨q, hq, rfl⟩ := List.mem_map.mp hJ
    exact absurd (decide_eq_true rfl) (e q hq)
  | some q =>
    have h1 := List.mem_of_find?_eq_some e
    have h2 := List.find?_some e
    rw [← hv q h1 (of_decide_eq_true h2)]
    rfl
theorem few_of {N : Nat} {Ls : List (List Jt)} (nd : Ls.Nodup) (h : ∀ J ∈ Ls, Ok N J) (hn : (allM N).Nodup) : Ls.length ≤ (allM N).length := by
  have p : Ls.Perm ((allM N).filter fun J => decide (J ∈ Ls)) := by
    refine (List.perm_ext_iff_of_nodup nd (hn.filter _)).mpr fun J => ?_
    simp only [List.mem_filter, decide_eq_true_eq]
    exact ⟨fun z => ⟨all_has (h J z), z⟩, fun z => z.2⟩
  rw [p.length_eq]
  exact List.length_filter_le _ _
section
variable {K : PySem.W.Frag} {H H' : Hp} {kvs : DNs}
theorem Keyed.tps (h : Keyed K H kvs) (s : Tps H H') : Keyed K H' kvs := fun p hp => Dp.tps s (nol_lay _) (h p hp)
theorem Keyed.snoc (h : Keyed K H kvs) {L : Lay} {b : Addr} {v : V} (hb : Dp K H (.ref b) (eLay L)) : Keyed K H (kvs ++ [(L, b, v)]) := fun p hp => by
  rcases List.mem_append.mp hp with hp | hp
  · exact h p hp
  · rw [List.mem_singleton] at hp
    subst hp
    exact hb
end
def seenR (N : Nat) (last : List (List Jt)) (r : Nat) (x : List Jt) : Prop := ∃ r' J, r' < r ∧ last[r']? = some J ∧ x ∈ nbs N J
def seenQ (ss : List Stp) (J : List Jt) (q : Nat) (x : List Jt) : Prop := ∃ q' s, q' < q ∧ ss[q']? = some s ∧ x = afterM J s
section
variable {P : Program} {w : World} {K : PySem.W.Frag} {mg : Str → Option Value} {base : Heap} {f : Addr} {fd : FuncData}
def sp_far (K : PySem.W.Frag) (P : Program) (w : World) : Sp := fun vs H Q _ => ∃ (v : V) (n : Nat) (T : List Jt), vs = [v] ∧ Dp K H v (eL n T) ∧ 1 ≤ n ∧ n ≤ 3 ∧ Small (2 * n) ∧ (allM (2 * n)).length ≤ 1000 ∧ Ok (2 * n) T ∧
  ∀ a H' kvs F last, Same H H' → H' a = some (dN P w a kvs) → Keyed K H' kvs → FK n kvs F → B0 (2 * n) T n F last → Q (.ref a) H'
abbrev C33 (P : Program) (w : World) (K : PySem.W.Frag) (mg : Str → Option Value) (base : Heap) : Prop := Cal P w K mg base 3 "_law_far" ["_law_one"] (sp_far K P w)
theorem ok_far (D : Df K mg "_law_far" s__law_far ["_law_one"] f fd) (T : Tx mg) (C__law_steps : C30 P w K mg base) (C__law_after : C31 P w K mg base) : C33 P w K mg base := by
  refine D.cal (D.F.ok sc__law_far (fun vs H Q E h => ?_) (fun cdv A outer s H vs Q E hr h => ?_))
  · obtain ⟨v, n, T, rfl, _⟩ := h
    rfl
  obtain ⟨v, n, TT, rfl, hd, n1, n3, S, hall, hT, q⟩ := h
  obtain ⟨a, b, xs, rfl, hA, hB, hx⟩ := lay_open (L := (n, TT)) hd
  refine ⟨_, (pss_cons (ps_par (i := 1) (j := 2) rfl sc__law_far.nd rfl rfl (by decide) rfl rfl (pa_cons (pe_dispN hr.units (pv 0) pe_int) (pa_cons (pe_lst (pa_cons (pv 0) pa_nil)) pa_nil)) (by rfl))
      (pss_cons (ps_for PassesOwn.never rfl (pi_range2 (by rfl) T.range (pa_cons pe_int (pa_cons (pe_op op_add (pe_ix ix_tup (pv 0) pe_int (fun _ _ => rfl)) pe_int) pa_nil))) (pg_name (i := 3) sc__law_far.nd rfl (.inl rfl)) (pss_cons (ps_set (i := 4) sc__law_far.nd rfl (.inl rfl) (pe_lst pa_nil))
      (pss_cons (ps_for PassesOwn.never rfl (pi_list (pv 2)) (pg_name (i := 5) sc__law_far.nd rfl (.inl rfl)) (pss_one (ps_for PassesOwn.never rfl (pi_list (pe_c C__law_steps hr (by rfl) (pa_cons (pv 5) pa_nil))) (pg_name (i := 6) sc__law_far.nd rfl (.inl rfl)) (pss_cons (ps_set (i := 7) sc__law_far.nd rfl (.inl rfl) (pe_c C__law_after (hr.mono (by decide)) (by rfl) (pa_cons (pv 5) (pa_cons (pv 6) pa_nil))))
      (pss_one (ps_if (pt_cmpR (op_notInN hr.units) (pv 7) (pv 1) (by rfl)) (pss_cons (ps_asg (pv 3) (pg_sub (pv 1) (pv 7) (set_N hr.units)))
      (pss_one (ps_expr (pe_bm PySem.F.plainAttrs_list PySem.F.slot_list_append PySem.F.type_list_append mt_append (pv 4) (pa_cons (pv 7) pa_nil))))) pss_nil))))))
      (pss_one (ps_set (i := 2) sc__law_far.nd rfl (.inl rfl) (pv 4))))))
      (pss_one (ps_ret (pv 1))))), ?_⟩
  refine fun d nd => ⟨_, rfl, upd_same, (n, TT), a, .int 0, rfl, (same_new nd).dp hd, ?_⟩
  rw [upd_upd]
  refine ⟨_, rfl, small_sz (by simp), fun l nl => ⟨_, _, rfl, ?_⟩⟩
  obtain ⟨H1, e1, c1, g1⟩ := mkN (dN P w d [((n, TT), a, .int 0)]) nd
  have e1' : upd H d (dN (cxOf CX0 P w K mg base ["_law_one", "_law_found", "_law_last", "_law_lap", "_law_fresh", "_law_lay_here", "_law_step_so", "_law_there"] "_law_far" (defScope s__law_far) f cdv A outer s H E).nox.prog
    (cxOf CX0 P w K mg base ["_law_one", "_law_found", "_law_last", "_law_lap", "_law_fresh", "_law_lay_here", "_law_step_so", "_law_there"] "_law_far" (defScope s__law_far) f cdv A outer s H E).nox.w d [((n, TT), a, .int 0)]) = H1 := e1
  rw [e1'] at nl ⊢
  obtain ⟨H2, e2, c2, g2⟩ := mkN (.lst [V.ref a]) nl
  rw [e2]
  have sH2 := c1.trans c2
  have hd2 := c2 _ _ g1
  have ndl : d ≠ l := ne_of_none g1 nl
  have sH : Same H (hid2 H2 d d) := same_hid2 sH2 nd nd
  have wd : hid2 H2 d d d = none := hid2_d
  have sw : Same (hid2 H2 d d) H2 := hid2_same
  refine ⟨_, rfl, a, _, _, _, rfl, rfl, sH2.sq hA, at0, _, _, rfl, rfl, _, _, rfl, ⟨by omega, by omega, by omega, by omega⟩, ?_⟩
  have eC : ((n : Int) + 1 - 1).toNat = n := by omega
  generalize hid2 H2 d d = Hw at *
  have wA := sH.sq hA
  refine for_range (fun k σ H' => ∃ (lv : Addr) (acc : List V) (kvs : DNs) (F : Fd) (last : List (List Jt)) (y3 y4 y5 y6 y7 : Option V), σ = [some (.ref a), some (.ref d), some (.ref lv), y3, y4, y5, y6, y7] ∧ Same Hw H' ∧ H' d = some (dN P w d kvs) ∧ Keyed K H' kvs ∧ FK n kvs F ∧
    H' lv = some (.lst acc) ∧ DpAll K H' acc (last.map (eL n)) ∧ B0 (2 * n) TT k F last)
    ⟨l, _, _, [(TT, 0)], [TT], _, _, _, _, _, rfl, sw, hd2, fun p hp => by rw [List.mem_singleton] at hp; subst hp; exact sH2.dp hd, rfl, g2, .cons (sH2.dp hd) .nil, B0.start hT⟩ ?_ ?_
  · rintro k σ H3 hk ⟨lv, acc, kvs, F, last, y3, y4, y5, y6, y7, rfl, sm, hdk, kd, fk, hlv, dpl, B⟩
    have hal := DpAll.len dpl
    rw [List.length_map] at hal
    have nld : lv ≠ d := fun z => by rw [z, hdk] at hlv; cases hlv
    refine ⟨small_sz (by simp), fun t nt => ?_⟩
    obtain ⟨H4, e4, c4, g4⟩ := mkN (.lst []) nt
    rw [e4]
    have hd4 := c4 _ _ hdk
    have hl4 := c4 _ _ hlv
    have ndt : d ≠ t := ne_of_none hdk nt
    have nlt : lv ≠ t := ne_of_none hlv nt
    have wt0 : Hw t = none := sm.none nt
    have sX : Same Hw (hid2 H4 d t) := same_hid2 (sm.trans c4) wd wt0
    have xd : hid2 H4 d t d = none := hid2_d
    have xt : hid2 H4 d t t = none := hid2_t
    have xl : hid2 H4 d t lv = some (.lst acc) := hid2_of hl4 nld nlt
    have sx : Same (hid2 H4 d t) H4 := hid2_same
    have xp : DpAll K (hid2 H4 d t) acc (last.map (eL n)) := by
      refine DpAll.tps (H := H3) ?_ (nols_map (fun J => nol_l n J) last) dpl
      intro b o e it
      have nb : b ≠ d := fun z => by rw [z, hdk] at e; cases e; exact it.elim
      exact hid2_of (c4 _ _ e) nb (ne_of_none e nt)
    have kd4 := kd.tps c4.tps
    generalize hid2 H4 d t = Hx at *
    refine ⟨_, rfl, lv, rfl, ⟨_, .inl (.inl hl4)⟩, ?_⟩
    refine for_list (K := K) (a := lv) (xs := acc) (fun r σ H' => ∃ (kvs : DNs) (F : Fd) (fresh : List (List Jt)) (facc : List V) (y5 y6 y7 : Option V), σ = [some (.ref a), some (.ref d), some (.ref lv), some (.int (1 + (k : Int))), some (.ref t), y5, y6, y7] ∧ Same Hx H' ∧
      H' d = some (dN P w d kvs) ∧ Keyed K H' kvs ∧ FK n kvs F ∧ H' t = some (.lst facc) ∧ DpAll K H' facc (fresh.map (eL n)) ∧ fresh.length ≤ F.length ∧ B1 (2 * n) TT k F fresh (seenR (2 * n) last r))
      ⟨kvs, F, [], [], _, _, _, rfl, sx, hd4, kd4, fk, g4, .nil, Nat.zero_le _, (B.lap).see fun x hx => by obtain ⟨r', _, h, _⟩ := hx; omega⟩ (fun r σ H' _ h => by obtain ⟨_, _, _, _, _, _, _, _, s, _⟩ := h; exact .inl (.inl (s _ _ xl))) ?_ ?_
    · rintro r x σ H5 hx' ⟨kvs, F, fresh, facc, y5, y6, y7, rfl, s5, hd5, kd5, fk, ht5, dpf, frl, B⟩
      obtain ⟨dd, q1, hxd⟩ := DpAll.at xp hx'
      obtain ⟨J, hJ, rfl⟩ := map_at q1
      obtain ⟨xa, xb, xx, rfl, _⟩ := lay_open (L := (n, J)) hxd
      have hJm : Ok (2 * n) J ∧ dn (2 * n) TT J = k := (‹B0 (2 * n) TT k _ last›.last J).mp (List.mem_of_getElem? hJ)
      have hJl := js_len hJm.1.good
      refine ⟨_, rfl, .ref xa, (n, J), rfl, s5.dp hxd, ⟨n1, by show n ≤ 12; omega, hJm.1⟩, fun sp H6 sacc ss c6 nsp hsp dps pm => ⟨sp, rfl, ⟨_, .inl (.inl hsp)⟩, ?_⟩⟩
      have hd6 := c6 _ _ hd5
      have ht6 := c6 _ _ ht5
      have nsd : sp ≠ d := fun z => by rw [z, hd6] at hsp; cases hsp
      have nst : sp ≠ t := fun z => by rw [z, ht5] at nsp; cases nsp
      have s6 := s5.trans c6
      have hsl := DpAll.len dps
      rw [List.length_map] at hsl
      refine for_list (K := K) (a := sp) (xs := sacc) (fun qq σ H' => ∃ (kvs : DNs) (F : Fd) (fresh : List (List Jt)) (facc : List V) (y6 y7 : Option V), σ = [some (.ref a), some (.ref d), some (.ref lv), some (.int (1 + (k : Int))), some (.ref t), some (.ref xa), y6, y7] ∧ Same Hx H' ∧
        H' d = some (dN P w d kvs) ∧ Keyed K H' kvs ∧ FK n kvs F ∧ H' t = some (.lst facc) ∧ DpAll K H' facc (fresh.map (eL n)) ∧ H' sp = some (.lst sacc) ∧ DpAll K H' sacc (ss.map eS) ∧ fresh.length ≤ F.length ∧
        B1 (2 * n) TT k F fresh (fun x => seenR (2 * n) last r x ∨ seenQ ss J qq x))
        ⟨kvs, F, fresh, facc, _, _, rfl, s6, hd6, kd5.tps c6.tps, fk, ht6, c6.dps dpf, hsp, dps, frl, B.see fun x hx => .inl (hx.resolve_right fun ⟨q', _, h, _⟩ => by omega)⟩ (fun qq σ H' _ h => by obtain ⟨_, _, _, _, _, _, _, _, _, _, _, _, _, h, _⟩ := h; exact .inl (.inl h)) ?_ ?_
      · rintro qq y σ H7 hy ⟨kvs, F, fresh, facc, y6, y7, rfl, s7, hd7, kd7, fk, ht7, dpf, hsp, dps, frl, B⟩
        obtain ⟨ds, q2, hyd⟩ := DpAll.at dps hy
        obtain ⟨st, hst, rfl⟩ := map_at q2
        have stm : st ∈ stepsM (2 * n) J := pm.mem_iff.mp (List.mem_of_getElem? hst)
        have few := step_few stm
        have hK : afterM J st ∈ nbs (2 * n) J := List.mem_map.mpr ⟨st, stm, rfl⟩
        refine ⟨_, rfl, _, rfl, .ref xa, y, (n, J), st, rfl, s7.dp hxd, hyd, by show J.length ≤ 100; omega, by omega, fun z H8 c8 hz => ?_⟩
        have hz : Dp K H8 (.ref z) (eLay (n, afterM J st)) := hz
        have hd8 := c8 _ _ hd7
        have ht8 := c8 _ _ ht7
        have kd8 := kd7.tps c8.tps
        have dpf8 := c8.dps dpf
        have hsp8 := c8 _ _ hsp
        have dps8 := c8.dps dps
        have s8 := s7.trans c8
        generalize hKK : afterM J st = KK at *
        have sq : ∀ x, (seenR (2 * n) last r x ∨ seenQ ss J (qq + 1) x) → (seenR (2 * n) last r x ∨ seenQ ss J qq x) ∨ x = KK := by
          rintro x (h | ⟨q', s', h1, h2, h3⟩)
          · exact .inl (.inl h)
          · by_cases c : q' = qq
            · subst c
              rw [hst] at h2
              cases h2
              exact .inr (by rw [h3, hKK])
            · exact .inl (.inr ⟨q', s', by omega, h2, h3⟩)
        refine ⟨_, rfl, _, rfl, d, z, kvs, (n, KK), rfl, rfl, hd8, kd8, hz, _, rfl, ?_⟩
        by_cases c : KK ∈ F.map (·.1)
        · have hsome : (lk kvs (n, KK)).isSome = true := by
            obtain ⟨q9, hq9, e9⟩ := List.mem_map.mp c
            have := lk_some fk c (d := dn (2 * n) TT KK) fun q hq e => by rw [← e]; exact (B.val q hq).2.1
            rw [this]
            rfl
          refine itef (by rw [hsome]; rfl) ?_
          refine ⟨kvs, F, fresh, facc, _, _, rfl, s8, hd8, kd8, fk, ht8, dpf8, hsp8, dps8, frl, B.see fun x hx => ?_⟩
          rcases sq x hx with h | rfl
          · exact .inl h
          · exact .inr c
        · refine itet (by rw [lk_none fk c]; rfl) ?_
          have nB := B1.new S hT B hJm.1 hJm.2 hK c
          have hFl : F.length ≤ 1000 := by
            have h1 := few_of B.nd (fun J hJ => by
              obtain ⟨q9, hq9, rfl⟩ := List.mem_map.mp hJ
              exact (B.val q9 hq9).1) S.nodup
            rw [List.length_map] at h1
            omega
          have hkl := fk.len
          refine ⟨_, rfl, _, rfl, _, rfl, d, z, kvs, (n, KK), rfl, rfl, hd8, kd8, hz, lk_none fk c, small_lt (by omega), ?_⟩
          have tp := tps_ext (o := dN P w d (kvs ++ [((n, KK), z, V.int (1 + (k : Int)))])) hd8
          have ek : (1 : Int) + (k : Int) = ((k + 1 : Nat) : Int) := by omega
          have hd9 : (upd H8 d (dN P w d (kvs ++ [((n, KK), z, V.int (1 + (k : Int)))]))) d = some (dN P w d (kvs ++ [((n, KK), z, V.int (1 + (k : Int)))])) := upd_same
          have ht9 : (upd H8 d (dN P w d (kvs ++ [((n, KK), z, V.int (1 + (k : Int)))]))) t = some (.lst facc) := by rw [upd_ne (Ne.symm ndt)]; exact ht8
          have hsp9 : (upd H8 d (dN P w d (kvs ++ [((n, KK), z, V.int (1 + (k : Int)))]))) sp = some (.lst sacc) := by rw [upd_ne nsd]; exact hsp8
          have hz9 := Dp.tps tp (nol_lay _) hz
          have kd9 := (kd8.tps tp).snoc (v := V.int (1 + (k : Int))) hz9
          have dpf9 := DpAll.tps tp (nols_map (fun J => nol_l n J) fresh) dpf8
          have dps9 := DpAll.tps tp (nols_map nol_s ss) dps8
          have s9 : Same Hx (upd H8 d (dN P w d (kvs ++ [((n, KK), z, V.int (1 + (k : Int)))]))) := s8.wr xd
          have e9' : upd H8 d (dN (cxOf CX0 P w K mg base ["_law_one", "_law_found", "_law_last", "_law_lap", "_law_fresh", "_law_lay_here", "_law_step_so", "_law_there"] "_law_far" (defScope s__law_far) f cdv A outer s H E).nox.prog
            (cxOf CX0 P w K mg base ["_law_one", "_law_found", "_law_last", "_law_lap", "_law_fresh", "_law_lay_here", "_law_step_so", "_law_there"] "_law_far" (defScope s__law_far) f cdv A outer s H E).nox.w d (kvs ++ [((n, KK), z, V.int (1 + (k : Int)))])) =
            upd H8 d (dN P w d (kvs ++ [((n, KK), z, V.int (1 + (k : Int)))])) := rfl
          rw [e9']
          generalize upd H8 d (dN P w d (kvs ++ [((n, KK), z, V.int (1 + (k : Int)))])) = H9 at *
          have hfa : facc.length ≤ 1000 := by
            rw [DpAll.len dpf9, List.length_map]
            omega
          refine ⟨_, rfl, .inl ⟨rfl, _, .inl (.inl ht9)⟩, _, rfl, t, _, _, rfl, rfl, ht9, small_lt (by omega), ?_⟩
          have tq := tps_lst (o := .lst (facc ++ [.ref z])) ht9
          refine ⟨kvs ++ [((n, KK), z, V.int (1 + (k : Int)))], F ++ [(KK, k + 1)], fresh ++ [KK], facc ++ [.ref z], _, _, rfl, s9.wr xt, by rw [upd_ne ndt]; exact hd9, kd9.tps tq, ?_, upd_same, ?_, by rw [upd_ne nst]; exact hsp9, DpAll.tps tq (nols_map nol_s ss) dps9, by simp; omega, nB.see fun x hx => ?_⟩
          · rw [ek]
            exact fk.snoc KK z (k + 1)
          · rw [List.map_append]
            exact DpAll.app (DpAll.tps tq (nols_map (fun J => nol_l n J) fresh) dpf9) (.cons (Dp.tps tq (nol_lay _) hz9) .nil)
          · rcases sq x hx with h | rfl
            · exact .inl h
            · exact .inr (by simp)
      · rintro σ H7 ⟨kvs, F, fresh, facc, y6, y7, rfl, s7, hd7, kd7, fk, ht7, dpf, hsp, dps, frl, B⟩
        refine ⟨kvs, F, fresh, facc, _, _, _, rfl, s7, hd7, kd7, fk, ht7, dpf, frl, B.see fun x hx => .inl ?_⟩
        obtain ⟨r', J', h1, h2, h3⟩ := hx
        by_cases c : r' = r
        · subst c
          rw [hJ] at h2
          cases h2
          obtain ⟨st, hst, rfl⟩ := List.mem_map.mp h3
          obtain ⟨q', hq', e'⟩ := List.getElem_of_mem (pm.mem_iff.mpr hst)
          exact .inr ⟨q', st, by omega, by rw [List.getElem?_eq_getElem hq', e'], rfl⟩
        · exact .inl ⟨r', J', by omega, h2, h3⟩
    · rintro σ H5 ⟨kvs, F, fresh, facc, y5, y6, y7, rfl, s5, hd5, kd5, fk, ht5, dpf, frl, B⟩
      refine ⟨_, rfl, t, facc, kvs, F, fresh, _, _, _, _, _, rfl, sX.trans s5, hd5, kd5, fk, ht5, dpf, B.done S hT fun J hJ hk KK hKK => ?_⟩
      have hm : J ∈ last := (‹B0 (2 * n) TT k _ last›.last J).mpr ⟨hJ, hk⟩
      obtain ⟨r', hr', e'⟩ := List.getElem_of_mem hm
      exact ⟨r', J, by omega, by rw [List.getElem?_eq_getElem hr', e'], hKK⟩
  · rintro σ H' ⟨lv, acc, kvs, F, last, y3, y4, y5, y6, y7, rfl, sm, hdk, kd, fk, hlv, dpl, B⟩
    rw [eC] at B
    exact ⟨_, rfl, q d H' kvs F last (sH.trans sm) hdk kd fk B⟩
end
end DC
namespace DC
open PySem PySem.Spec PyProof.Rows L2 Dm
theorem small_j {j : Jt} (h1 : j.1 < 1000) (h2 : j.2 < 1000) : smallD (eJ j) = true := by
  simp only [eJ, smallD, smallDs, Bool.and_eq_true, decide_eq_true_eq, Bool.true_and, and_true]
  constructor
  · exact Nat.lt_of_lt_of_le h1 (by decide)
  · exact Nat.lt_of_lt_of_le h2 (by decide)
theorem small_js : ∀ {J : List Jt}, (∀ j ∈ J, j.1 < 1000 ∧ j.2 < 1000) → smallDs (J.map eJ) = true
  | [], _ => rfl
  | j :: J, h => by
    have h1 := h j List.mem_cons_self
    have h2 := small_js fun k hk => h k (List.mem_cons_of_mem _ hk)
    simp only [List.map_cons, smallDs, small_j h1.1 h1.2, h2, Bool.and_self]
theorem wt_j (j : Jt) : wt (eJ j) = 67 := by simp [eJ, wt, wts]
theorem wts_js : ∀ J : List Jt, wts (J.map eJ) = 69 * J.length
  | [] => rfl
  | j :: J => by
    simp only [List.map_cons, wts, wt_j, wts_js J, List.length_cons]
    omega
theorem lay_small {n : Nat} {J : List Jt} (h : LayOk (n, J)) : smallD (eL n J) = true ∧ wt (eL n J) ≤ 100000 ∧ (eL n J).depth ≤ 50 := by
  have h1 := h.hi
  have h2 := js_len h.ok.good
  simp only at h1 h2
  have h3 : ∀ j ∈ J, j.1 < 1000 ∧ j.2 < 1000 := fun j hj => by
    have := h.ok.good.js j hj
    simp only at this
    omega
  have h4 := wts_js J
  have h5 := eLay_depth (n, J)
  refine ⟨?_, ?_, by show (eLay (n, J)).depth ≤ 50; omega⟩
  · have h6 : n < 10 ^ 20 := Nat.lt_of_le_of_lt h1 (by decide)
    simp only [eL, eLay, eJs, smallD, smallDs, small_js h3, Bool.and_true, decide_eq_true_eq]
    exact h6
  · simp only [eL, eLay, eJs, wt, wts]
    omega
theorem DpAll.mem {K : PySem.W.Frag} {H : Hp} {vs : List V} {ds : List PyData} (h : DpAll K H vs ds) {v : V} (hv : v ∈ vs) : ∃ d ∈ ds, Dp K H v d := by
  obtain ⟨i, hi, e⟩ := List.getElem_of_mem hv
  obtain ⟨d, h1, h2⟩ := DpAll.at h (i := i) (v := v) (by rw [List.getElem?_eq_getElem hi, e])
  exact ⟨d, List.mem_of_getElem? h1, h2⟩
theorem layOk_of {n : Nat} {J : List Jt} (n1 : 1 ≤ n) (n2 : n ≤ 12) (h : Ok (2 * n) J) : LayOk (n, J) := ⟨n1, n2, h⟩
theorem small_ints (ns : List Int) (h : ∀ z ∈ ns, z.natAbs < 10 ^ 20) : smallDs (ns.map PyData.int) = true := by
  induction ns with
  | nil => rfl
  | cons z ns ih =>
    have h1 := h z List.mem_cons_self
    have h2 := ih fun k hk => h k (List.mem_cons_of_mem _ hk)
    simp only [List.map_cons, smallDs, smallD, h2, Bool.and_true, decide_eq_true_eq]
    exact h1
theorem dst_small {N : Nat} {A B : List Jt} (gA : Good N A) (gB : Good N B) (hN : N ≤ 24) : (dst N A B).natAbs < 10 ^ 20 := by
  have h0 := dst_nonneg gA gB
  have h1 := KP_le (N := N) B (g := fn A)
  have h2 := js_len gB
  have h3 : dst N A B ≤ 100 := by
    simp only [dst]
    omega
  have h4 : (dst N A B).natAbs ≤ 100 := by omega
  exact Nat.lt_of_le_of_lt h4 (by decide)
theorem all_ok4 : (∀ i, i ≤ 4 → (allE 4 i).length ≤ 1000) ∧ ∀ i, i ≤ 4 → ∀ J ∈ allE 4 i, J.length ≤ 100 := by decide +kernel
theorem all_ok6 : (∀ i, i ≤ 6 → (allE 6 i).length ≤ 1000) ∧ ∀ i, i ≤ 6 → ∀ J ∈ allE 6 i, J.length ≤ 100 := by decide +kernel
theorem srt_all {N : Nat} (S : Small N) : (allM N).map srtJ = allM N := by
  conv => rhs; rw [← List.map_id (allM N)]
  exact List.map_congr_left fun J hJ => S.srt (S.ok hJ)
/-- two or three links -/
structure Few (n : Nat) : Prop where
  lo : 1 ≤ n
  hi : n ≤ 3
  S : Small (2 * n)
  l1 : ∀ i, i ≤ 2 * n → (allE (2 * n) i).length ≤ 1000
  l2 : ∀ i, i ≤ 2 * n → ∀ J ∈ allE (2 * n) i, J.length ≤ 100
theorem few2 : Few 2 := ⟨by decide, by decide, small4, all_ok4.1, all_ok4.2⟩
theorem few3 : Few 3 := ⟨by decide, by decide, small6, all_ok6.1, all_ok6.2⟩
theorem three_dp {K : PySem.W.Frag} {H : Hp} {l : Addr} {a b c : Int} (h : H l = some (.lst [.int a, .int b, .int c])) : Dp K H (.ref l) (.list [.int a, .int b, .int c]) := .lst (.inl (.inl h)) (.cons (.int _) (.cons (.int _) (.cons (.int _) .nil)))
theorem three_ok {a b c : Int} (ha : a.natAbs < 10 ^ 20) (hb : b.natAbs < 10 ^ 20) (hc : c.natAbs < 10 ^ 20) : smallD (.list [.int a, .int b, .int c]) = true ∧ wt (.list [.int a, .int b, .int c]) ≤ 100000 ∧ (PyData.list [.int a, .int b, .int c]).depth ≤ 50 := by
  refine ⟨?_, by simp [wt, wts], by simp [PyData.depth, PyData.depthAll]⟩
  simp only [smallD]
  refine small_ints [a, b, c] fun z hz => ?_
  simp only [List.mem_cons, List.not_mem_nil, or_false] at hz
  rcases hz with rfl | rfl | rfl
  · exact ha
  · exact hb
  · exact hc
end DC
namespace DC
open PySem PySem.Spec PyProof.Rows L2 Dm
section
variable {P : Program} {w : World} {K : PySem.W.Frag} {mg : Str → Option Value} {base : Heap} {f : Addr} {fd : FuncData}
def sp_small : Sp := fun vs H Q _ => ∃ (m : Addr) (n : Nat), vs = [.ref m, .int (n : Int)] ∧ Few n ∧ MOk H m ∧ ∀ H', Mv m H H' → MOk H' m → Q (.bl true) H'
abbrev C34 (P : Program) (w : World) (K : PySem.W.Frag) (mg : Str → Option Value) (base : Heap) : Prop := CalG P w K mg base 7 "_law_small_right" ["_law_m", "_law_links"] sp_small
theorem ok_small (D : Df K mg "_law_small_right" s__law_small_right ["_law_m", "_law_links"] f fd) (T : Tx mg) (C__law_lay : C24 P w K mg base) (C__law_all : C32 P w K mg base) (C__law_far : C33 P w K mg base)
    (C__law_of : C22 P w K mg base) (C_least_steps : C13 P w K mg base) (C_is_between : C14 P w K mg base) (C__law_like : C23 P w K mg base) (C__law_cost : C29 P w K mg base) : C34 P w K mg base := by
  refine D.calG (fnG_of D.F sc__law_small_right (fun vs H Q E h => ?_) (fun cdv A outer s H vs Q E hgd hr h => ?_))
  · obtain ⟨m, n, rfl, _⟩ := h
    rfl
  obtain ⟨m, n, rfl, F0, hM, q⟩ := h
  have n1 := F0.lo
  have n3 := F0.hi
  have S := F0.S
  have hall : (allM (2 * n)).length ≤ 1000 := F0.l1 _ (Nat.le_refl _)
  refine ⟨_, (pss_cons (ps_asg (pe_tup (pa_cons (pe_c C__law_lay (hr.mono (by decide)) (by rfl) (pa_cons (pv 0) (pa_cons (pv 1) pa_nil))) (pa_cons (pe_c C__law_all (hr.mono (by decide)) (by rfl) (pa_cons (pv 1) pa_nil)) pa_nil))) (pg_tup (by rfl) (pgs_cons (pg_name (i := 2) sc__law_small_right.nd rfl (.inl rfl)) (pgs_cons (pg_name (i := 3) sc__law_small_right.nd rfl (.inr rfl)) pgs_nil))))
      (pss_cons (ps_par (i := 4) (j := 5) rfl sc__law_small_right.nd rfl rfl (by decide) rfl rfl (pa_cons (pe_c C__law_far (hr.mono (by decide)) (by rfl) (pa_cons (pv 2) pa_nil)) (pa_cons (pe_callB (call_reprD hgd hr.units) (by rfl) T.repr (by decide +kernel) (pa_cons (pv 2) pa_nil)) pa_nil)) (by rfl))
      (pss_cons (ps_if (pt_cmpR op_ne (pe_callB call_lenN (by rfl) T.len (by decide +kernel) (pa_cons (pv 4) pa_nil)) (pe_callB call_len_seq (by rfl) T.len (by decide +kernel) (pa_cons (pv 3) pa_nil)) (nomark _)) (pss_one (ps_ret pe_bl)) pss_nil)
      (pss_cons (ps_setLc (i := 6) (own := [("_law_turn", 11)]) (g := gName 11) (tt := tYes) (by rfl) sc__law_small_right.nd rfl rfl (sw_true rfl rfl rfl (by decide +kernel)) (pi_range1 (by rfl) T.range (pa_cons pe_int pa_nil)) (blkOk_by (N := ["_law_m", "_law_links", "_law_one", "_law_every", "_law_found", "_law_kept_so", "_law_some", "_law_other", "_law_told", "_law_third", "_law_beyond", "_law_turn"]) (sc := defScope s__law_small_right) (by decide +kernel)) (fun _ _ _ _ _ => (pg_name (i := 11) sc__law_small_right.nd rfl (.inl rfl))) (fun _ _ _ _ _ => pts_nil) (fun _ _ _ _ _ => (pe_c C__law_of (hr.mono (by decide)) (by rfl) (pa_cons (pv 0) (pa_cons (pv 3) pa_nil)))))
      (pss_cons (ps_for PassesOwn.never rfl (pi_list (pv 6)) (pg_name (i := 7) sc__law_small_right.nd rfl (.inl rfl)) (pss_cons (ps_set (i := 8) sc__law_small_right.nd rfl (.inl rfl) (pe_lst (pa_cons (pe_c C_least_steps hr (by rfl) (pa_cons (pv 2) (pa_cons (pv 7) pa_nil))) (pa_cons (pe_c C_least_steps hr (by rfl) (pa_cons (pv 2) (pa_cons (pv 7) pa_nil))) (pa_cons (pe_c C_least_steps hr (by rfl) (pa_cons (pv 7) (pa_cons (pv 2) pa_nil))) pa_nil)))))
      (pss_cons (ps_if (pt_not (pt_val (pe_g C__law_like hgd (hr.mono (by decide)) (by rfl) (pa_cons (pv 8) (pa_cons (pe_op op_rep (pe_lst (pa_cons (pe_getN hr.units (pv 4) (pv 7) (fun _ _ => rfl)) pa_nil)) pe_int) pa_nil))))) (pss_one (ps_ret pe_bl)) pss_nil)
      (pss_cons (ps_set (i := 9) sc__law_small_right.nd rfl (.inl rfl) (pe_c C__law_of (hr.mono (by decide)) (by rfl) (pa_cons (pv 0) (pa_cons (pv 3) pa_nil))))
      (pss_cons (ps_set (i := 10) sc__law_small_right.nd rfl (.inl rfl) (pe_c C__law_cost (hr.mono (by decide)) (by rfl) (pa_cons (pv 9) (pa_cons (pv 7) pa_nil))))
      (pss_cons (ps_if (pt_cmpR op_lt (pe_op op_add (pe_getN hr.units (pv 4) (pv 9) (fun _ _ => rfl)) (pv 10)) (pe_getN hr.units (pv 4) (pv 7) (fun _ _ => rfl)) (nomark _)) (pss_one (ps_ret pe_bl)) pss_nil)
      (pss_one (ps_if (pt_not (pt_val (pe_g C__law_like hgd (hr.mono (by decide)) (by rfl) (pa_cons (pe_c C_is_between hr (by rfl) (pa_cons (pv 2) (pa_cons (pv 9) (pa_cons (pv 7) pa_nil)))) (pa_cons (pe_cmpR op_eq (pe_op op_add (pe_getN hr.units (pv 4) (pv 9) (fun _ _ => rfl)) (pv 10)) (pe_getN hr.units (pv 4) (pv 7) (fun _ _ => rfl)) (nomark _)) pa_nil))))) (pss_one (ps_ret pe_bl)) pss_nil))))))))
      (pss_one (ps_ret (pe_and (pe_cmpR op_eq (pe_callB (call_reprD hgd hr.units) (by rfl) T.repr (by decide +kernel) (pa_cons (pv 2) pa_nil)) (pv 5) (nomark _)) (pe_and (pe_cmpR op_eq (pe_c C_least_steps hr (by rfl) (pa_cons (pv 2) (pa_cons (pv 2) pa_nil))) pe_int (nomark _)) (pe_one (pe_c C_is_between hr (by rfl) (pa_cons (pv 2) (pa_cons (pv 2) (pa_cons (pe_ix ix_list (pv 6) pe_int (fun _ _ => rfl)) pa_nil)))))))))))))), ?_⟩
  refine ⟨_, rfl, _, rfl, m, n, rfl, n1, by omega, hM, fun v TT H1 mv1 mo1 hv hT => ⟨_, rfl, n, rfl, n1, by omega, F0.l1, F0.l2, fun p H2 acc As s2 hp dp pm => ⟨small_sz (by simp), fun z nz => ⟨z, _, rfl, .inl (.inl upd_same), rfl, _, _, rfl, _, _, rfl, rfl, ?_⟩⟩⟩⟩
  rw [srt_all S] at pm
  have LT := layOk_of n1 (by omega) hT
  have aok : ∀ J ∈ As, Ok (2 * n) J := fun J hJ => S.ok (pm.mem_iff.mp hJ)
  have alen : As.length = (allM (2 * n)).length := pm.length_eq
  obtain ⟨H3, e3, c3, _⟩ := mkN (.tup [v, V.ref p]) nz
  rw [e3]
  have c23 := s2.trans c3
  have mo3 := mo1.same c23
  have mv3 := mv1.trans c23.mv
  have hv3 := c23.dp hv
  have hp3 := c3 _ _ hp
  have dp3 := c3.dps dp
  obtain ⟨sm1, sm2, sm3⟩ := lay_small LT
  refine ⟨_, rfl, v, n, TT, rfl, hv3, n1, n3, S, hall, hT, fun d H4 kvs F last s4 hd kd fk B => ⟨_, rfl, v, eL n TT, rfl, s4.dp hv3, sm1, sm2, sm3, _, _, rfl, ?_⟩⟩
  have mo4 := mo3.same s4
  have mv4 := mv3.trans s4.mv
  have hv4 := s4.dp hv3
  have hp4 := s4 _ _ hp3
  have dp4 := s4.dps dp3
  have hacc := DpAll.len dp4
  rw [List.length_map] at hacc
  have hF := B.length S rfl
  have hk := fk.len
  refine ⟨_, rfl, d, kvs, rfl, hd, kd, _, rfl, p, acc, rfl, .inl (.inl (.inl hp4)), rfl, _, rfl, itef (by simp; omega) ?_⟩
  have pos : 0 < (allM (2 * n)).length := List.length_pos_iff.mpr fun z => by
    have := all_has hT
    rw [z] at this
    exact nomatch this
  have npm : p ≠ m := fun z => by
    obtain ⟨_, _, _, _, q1, _⟩ := mo4
    rw [z, q1] at hp4
    cases hp4
  refine ⟨_, rfl, by omega, by omega, fun D nD => lc_range (fun i H' => Mv m H4 H' ∧ MOk H' m ∧ Safe H' m D ∧ ∃ (ac : List V) (Ls : List (List Jt)), H' D = some (.lst ac) ∧ DpAll K H' ac (Ls.map (eL n)) ∧ Ls.length = i ∧ ∀ J ∈ Ls, Ok (2 * n) J)
    ⟨(same_new nD).mv, mo4.same (same_new nD), safe_new mo4 nD, [], [], upd_same, .nil, rfl, fun _ h => nomatch h⟩ ?_ ?_⟩
  · rintro i H5 hi ⟨mv, mo, sf, ac, Ls, hD, dL, lL, okL⟩
    have nDm := mo4.ne nD
    refine ⟨rfl, yes_then ?_⟩
    refine ⟨_, rfl, _, rfl, m, p, acc, rfl, .inl (.inl (mv.old _ _ npm hp4)), by omega, by omega, mo, fun x H6 hx mv6 mo6 => ?_⟩
    obtain ⟨dx, hdx, hxd⟩ := DpAll.mem dp4 hx
    obtain ⟨J, hJ, rfl⟩ := List.mem_map.mp hdx
    have hD6 := mv6.old _ _ nDm hD
    have sf6 := mv6.safe D sf
    have tp := tps_lst (o := .lst (ac ++ [x])) hD6
    have dL6 := mv6.dps mo dL
    have hx6 := mv6.dp mo (mv.dp mo4 hxd)
    refine ⟨ac, hD6, small_lt (by rw [DpAll.len dL6, List.length_map, lL]; have : (10 : Int).toNat = 10 := rfl; omega), (mv.trans mv6).wr nD nDm, mo6.wr sf6, sf6.wr nDm, ac ++ [x], Ls ++ [J], upd_same, ?_, by simp [lL], fun J' hJ' => ?_⟩
    · rw [List.map_append]
      exact DpAll.app (DpAll.tps tp (nols_map (fun J => nol_l n J) Ls) dL6) (.cons (Dp.tps tp (nol_lay _) hx6) .nil)
    · rcases List.mem_append.mp hJ' with h | h
      · exact okL J' h
      · rw [List.mem_singleton] at h
        subst h
        exact aok _ hJ
  rintro H5 ⟨mv5, mo5, sf5, ac, Ls, hD, dL, lL, okL⟩
  have hacL := DpAll.len dL
  rw [List.length_map, lL] at hacL
  have nDm := mo4.ne nD
  have ndm : d ≠ m := fun z => by
    obtain ⟨_, _, _, _, q1, _⟩ := mo4
    rw [z, q1] at hd
    exact nomatch (show (HO.dK _ : HO) = .ext _ from Option.some.inj hd)
  have hv5 := mv5.dp mo4 hv4
  have hp5 := mv5.old _ _ npm hp4
  have dp5 := mv5.dps mo4 dp4
  have hd5 := mv5.old _ _ ndm hd
  have kd5 : Keyed K H5 kvs := fun r hr => mv5.dp mo4 (kd r hr)
  have mvA := mv4.trans mv5
  have lkd : ∀ J, Ok (2 * n) J → lk kvs (n, J) = some (.int (dst (2 * n) J TT)) := fun J hJ => by
    have h1 := B.all J hJ (dn_le J rfl)
    rw [lk_some fk h1 (d := dn (2 * n) TT J) fun q hq e => by rw [← e]; exact (B.val q hq).2.1, dn_dst hT hJ]
  refine ⟨_, rfl, D, rfl, ⟨_, .inl (.inl hD)⟩, ?_⟩
  refine for_list (K := K) (a := D) (xs := ac) (fun i σ H' => ∃ (y7 y8 y9 y10 y11 : Option V), σ = [some (.ref m), some (.int (n : Int)), some v, some (.ref p), some (.ref d), some (.str (eL n TT).shown), some (.ref D), y7, y8, y9, y10, y11] ∧ Mv m H5 H' ∧ MOk H' m)
    ⟨_, _, _, _, _, rfl, Mv.refl, mo5⟩ (fun i σ H' _ h => by obtain ⟨_, _, _, _, _, _, mv, _⟩ := h; exact .inl (.inl (mv.old _ _ nDm hD))) ?_ ?_
  · rintro i x σ H6 hx ⟨y7, y8, y9, y10, y11, rfl, mv, mo⟩
    obtain ⟨dx, q1, hxd⟩ := DpAll.at dL hx
    obtain ⟨J, hJr, rfl⟩ := map_at q1
    have hJ := okL J (List.mem_of_getElem? hJr)
    have LJ := layOk_of n1 (by omega) hJ
    obtain ⟨xa, xb, xx, rfl, _⟩ := lay_open (L := (n, J)) hxd
    have hv6 := mv.dp mo5 hv5
    have hx6 := mv.dp mo5 hxd
    refine ⟨_, rfl, _, rfl, v, .ref xa, (n, TT), (n, J), rfl, hv6, hx6, LT, LJ, rfl, fun H7 s7 => ⟨_, rfl, _, rfl, v, .ref xa, (n, TT), (n, J), rfl, s7.dp hv6, s7.dp hx6, LT, LJ, rfl, fun H8 s8 =>
      ⟨_, rfl, _, rfl, .ref xa, v, (n, J), (n, TT), rfl, s8.dp (s7.dp hx6), s8.dp (s7.dp hv6), LJ, LT, rfl, fun H9 s9 => ⟨small_sz (by simp), fun l nl => ?_⟩⟩⟩⟩
    have c9 := (s7.trans s8).trans s9
    obtain ⟨H10, e10, c10, g10⟩ := mkN (.lst [.int (dst (2 * n) TT J), .int (dst (2 * n) TT J), .int (dst (2 * n) J TT)]) nl
    have e10' : upd H9 l (.lst [.int (dst (2 * (n, TT).1) (n, TT).2 (n, J).2), .int (dst (2 * (n, TT).1) (n, TT).2 (n, J).2), .int (dst (2 * (n, J).1) (n, J).2 (n, TT).2)]) = H10 := e10
    rw [e10']
    have eD := dst_comm hT.good hJ.good
    rw [eD] at g10
    have c11 := c9.trans c10
    have mo11 := mo.same c11
    have mv11 := mv.trans c11.mv
    have hd11 := mv11.old _ _ ndm hd5
    have kd11 : Keyed K H10 kvs := fun r hr => mv11.dp mo5 (kd5 r hr)
    have hx11 := c11.dp hx6
    refine ⟨_, rfl, _, rfl, _, rfl, d, xa, kvs, (n, J), _, rfl, rfl, hd11, kd11, hx11, lkd J hJ, small_sz (by simp), fun l2 nl2 => ?_⟩
    obtain ⟨H12, e12, c12, g12⟩ := mkN (.lst [.int (dst (2 * n) J TT)]) nl2
    rw [e12]
    refine ⟨l2, 3, _, rfl, rfl, g12, by decide, by decide, small_sz (by simp), fun l3 nl3 => ?_⟩
    have er : (List.replicate (Int.toNat 3) [V.int (dst (2 * n) J TT)]).flatten = [.int (dst (2 * n) J TT), .int (dst (2 * n) J TT), .int (dst (2 * n) J TT)] := rfl
    obtain ⟨H13, e13, c13, g13⟩ := mkN (.lst [V.int (dst (2 * n) J TT), .int (dst (2 * n) J TT), .int (dst (2 * n) J TT)]) nl3
    have e13' : upd H12 l3 (.lst (List.replicate (Int.toNat 3) [V.int (dst (2 * n) J TT)]).flatten) = H13 := e13
    rw [e13']
    have dsm := dst_small hJ.good hT.good (by omega)
    obtain ⟨k1, k2, k3⟩ := three_ok dsm dsm dsm
    refine ⟨.ref l, .ref l3, _, rfl, three_dp ((c12.trans c13) _ _ g10), three_dp g13, k1, k2, k3, _, rfl, nott rfl ?_⟩
    have c14 := c12.trans c13
    have mo14 := mo11.same c14
    have mv14 := mv11.trans c14.mv
    have hx14 := c14.dp hx11
    refine ⟨_, rfl, _, rfl, m, p, acc, rfl, .inl (.inl (mv14.old _ _ npm hp5)), by omega, by omega, mo14, fun y H15 hy mv15 mo15 => ?_⟩
    obtain ⟨dy, hdy, hyd⟩ := DpAll.mem dp5 hy
    obtain ⟨Z, hZ, rfl⟩ := List.mem_map.mp hdy
    have hZ := aok Z hZ
    have LZ := layOk_of n1 (by omega) hZ
    obtain ⟨ya, yb, yy, rfl, _⟩ := lay_open (L := (n, Z)) hyd
    have mvB := mv14.trans mv15
    have hy15 := mvB.dp mo5 hyd
    have hx15 := mv15.dp mo14 hx14
    have hv15 := mvB.dp mo5 hv5
    refine ⟨_, rfl, _, rfl, .ref ya, .ref xa, (n, Z), (n, J), rfl, hy15, hx15, LZ, LJ, rfl, fun H16 s16 => ?_⟩
    have mo16 := mo15.same s16
    have mvC := mvB.trans s16.mv
    have hd16 := mvC.old _ _ ndm hd5
    have kd16 : Keyed K H16 kvs := fun r hr => mvC.dp mo5 (kd5 r hr)
    have hy16 := s16.dp hy15
    have hx16 := s16.dp hx15
    have hv16 := s16.dp hv15
    have tri := dst_tri hJ.good hT.good hZ.good
    have eZ := dst_comm hZ.good hJ.good
    refine ⟨_, rfl, _, rfl, d, ya, kvs, (n, Z), _, rfl, rfl, hd16, kd16, hy16, lkd Z hZ, _, rfl, _, _, rfl, rfl, _, rfl, _, rfl, d, xa, kvs, (n, J), _, rfl, rfl, hd16, kd16, hx16, lkd J hJ, _, _, rfl, rfl, _, rfl, itef (decide_eq_false ?_) ?_⟩
    · show ¬ dst (2 * n) Z TT + dst (2 * n) Z J < dst (2 * n) J TT
      omega
    refine ⟨_, rfl, _, rfl, _, rfl, v, .ref ya, .ref xa, (n, TT), (n, Z), (n, J), rfl, hv16, hy16, hx16, LT, LZ, LJ, rfl, rfl, fun H17 s17 => ?_⟩
    have mo17 := mo16.same s17
    have mvE := mvC.trans s17.mv
    have hd17 := s17 _ _ hd16
    have kd17 : Keyed K H17 kvs := fun r hr => s17.dp (kd16 r hr)
    refine ⟨_, rfl, _, rfl, d, ya, kvs, (n, Z), _, rfl, rfl, hd17, kd17, s17.dp hy16, lkd Z hZ, _, rfl, _, _, rfl, rfl, _, rfl, _, rfl, d, xa, kvs, (n, J), _, rfl, rfl, hd17, kd17, s17.dp hx16, lkd J hJ, rfl, ?_⟩
    have eb : decide (V.int (dst (2 * n) Z TT + dst (2 * n) Z J) = V.int (dst (2 * n) J TT)) = decide (dst (2 * n) TT Z + dst (2 * n) Z J = dst (2 * n) TT J) := by
      rw [dst_comm hT.good hZ.good, dst_comm hT.good hJ.good]
      simp only [V.int.injEq]
    refine ⟨_, _, .bool (decide (dst (2 * n) TT Z + dst (2 * n) Z J = dst (2 * n) TT J)), rfl, .bl _, ?_, rfl, by simp [wt], by simp [PyData.depth], _, rfl, nott rfl ⟨_, _, _, _, _, rfl, mvE, mo17⟩⟩
    show Dp _ _ (.bl (decide (V.int (dst (2 * n) Z TT + dst (2 * n) Z J) = V.int (dst (2 * n) J TT)))) _
    rw [eb]
    exact .bl _
  · rintro σ H6 ⟨y7, y8, y9, y10, y11, rfl, mv, mo⟩
    have hv6 := mv.dp mo5 hv5
    refine ⟨_, rfl, v, eL n TT, rfl, hv6, sm1, sm2, sm3, _, rfl, rfl, _, rfl, itet (by simp) ?_⟩
    refine ⟨_, rfl, _, rfl, v, v, (n, TT), (n, TT), rfl, hv6, hv6, LT, LT, rfl, fun H7 s7 => ⟨rfl, _, rfl, itet ?_ ?_⟩⟩
    · have := dst_self hT.good
      simp [this]
    have h10 : (10 : Int).toNat = 10 := rfl
    obtain ⟨x, hx⟩ : ∃ x, ac[0]? = some x := ⟨ac[0]'(by omega), List.getElem?_eq_getElem (by omega)⟩
    obtain ⟨dx, q1, hxd⟩ := DpAll.at dL hx
    obtain ⟨J, hJr, rfl⟩ := map_at q1
    have hJ := okL J (List.mem_of_getElem? hJr)
    have LJ := layOk_of n1 (by omega) hJ
    have mv7 := mv.trans s7.mv
    refine ⟨_, rfl, _, rfl, _, rfl, D, ac, _, x, rfl, rfl, .inl (.inl (mv7.old _ _ nDm hD)), atI_nat (j := 0) hx, v, v, x, (n, TT), (n, TT), (n, J), rfl, s7.dp hv6, s7.dp hv6, mv7.dp mo5 hxd, LT, LT, LJ, rfl, rfl, fun H8 s8 => ?_⟩
    refine bl_is ?_ (q H8 ((mvA.trans mv7).trans s8.mv) ((mo.same s7).same s8))
    have := dst_self hT.good
    simp [this]
end
end DC
namespace DC
open PySem PySem.Spec PyProof.Rows L2 Dm
section
variable {P : Program} {w : World} {K : PySem.W.Frag} {mg : Str → Option Value} {base : Heap} {f : Addr} {fd : FuncData}
def sp_great : Sp := fun vs H Q _ => ∃ (m : Addr), vs = [.ref m] ∧ MOk H m ∧ ∀ H', Mv m H H' → MOk H' m → Q (.bl true) H'
abbrev C35 (P : Program) (w : World) (K : PySem.W.Frag) (mg : Str → Option Value) (base : Heap) : Prop := CalG P w K mg base 7 "_law_great_right" ["_law_m"] sp_great
theorem ok_great (D : Df K mg "_law_great_right" s__law_great_right ["_law_m"] f fd) (T : Tx mg) (C__law_draw : C21 P w K mg base) (C__law_lay : C24 P w K mg base) (C_least_steps : C13 P w K mg base) (C_is_between : C14 P w K mg base)
    (C__law_like : C23 P w K mg base) (C__law_cost : C29 P w K mg base) : C35 P w K mg base := by
  refine D.calG (fnG_of D.F sc__law_great_right (fun vs H Q E h => ?_) (fun cdv A outer s H vs Q E hgd hr h => ?_))
  · obtain ⟨m, rfl, _⟩ := h
    rfl
  obtain ⟨m, rfl, hM, q⟩ := h
  refine ⟨_, (pss_cons (ps_set (i := 1) sc__law_great_right.nd rfl (.inl rfl) (pe_op op_add pe_int (pe_c C__law_draw (hr.mono (by decide)) (by rfl) (pa_cons (pv 0) (pa_cons pe_int pa_nil)))))
      (pss_cons (ps_par3 (i := 2) (j := 3) (l := 4) rfl sc__law_great_right.nd rfl rfl rfl (by decide) (by decide) (by decide) rfl rfl rfl (pa_cons (pe_c C__law_lay (hr.mono (by decide)) (by rfl) (pa_cons (pv 0) (pa_cons (pv 1) pa_nil))) (pa_cons (pe_c C__law_lay (hr.mono (by decide)) (by rfl) (pa_cons (pv 0) (pa_cons (pv 1) pa_nil))) (pa_cons (pe_c C__law_lay (hr.mono (by decide)) (by rfl) (pa_cons (pv 0) (pa_cons (pv 1) pa_nil))) pa_nil))) (by rfl))
      (pss_cons (ps_set (i := 5) sc__law_great_right.nd rfl (.inl rfl) (pe_lst (pa_cons (pe_c C__law_cost (hr.mono (by decide)) (by rfl) (pa_cons (pv 2) (pa_cons (pv 4) pa_nil))) (pa_cons (pe_c C__law_cost (hr.mono (by decide)) (by rfl) (pa_cons (pv 4) (pa_cons (pv 3) pa_nil))) (pa_cons (pe_c C__law_cost (hr.mono (by decide)) (by rfl) (pa_cons (pv 2) (pa_cons (pv 3) pa_nil))) pa_nil)))))
      (pss_cons (ps_set (i := 6) sc__law_great_right.nd rfl (.inl rfl) (pe_lst (pa_cons (pe_c C_least_steps hr (by rfl) (pa_cons (pv 2) (pa_cons (pv 4) pa_nil))) (pa_cons (pe_c C_least_steps hr (by rfl) (pa_cons (pv 4) (pa_cons (pv 3) pa_nil))) (pa_cons (pe_c C_least_steps hr (by rfl) (pa_cons (pv 2) (pa_cons (pv 3) pa_nil))) pa_nil)))))
      (pss_cons (ps_if (PW.pt (pw_or (pt_not (pt_val (pe_g C__law_like hgd (hr.mono (by decide)) (by rfl) (pa_cons (pv 6) (pa_cons (pv 5) pa_nil))))) (pw_or1 (pt_cmpR op_lt (pe_op op_add (pe_ix ix_list (pv 5) pe_int (fun _ _ => rfl)) (pe_ix ix_list (pv 5) pe_int (fun _ _ => rfl))) (pe_ix ix_list (pv 5) pe_int (fun _ _ => rfl)) (nomark _))))) (pss_one (ps_ret pe_bl)) pss_nil)
      (pss_one (ps_ret (pe_g C__law_like hgd (hr.mono (by decide)) (by rfl) (pa_cons (pe_c C_is_between hr (by rfl) (pa_cons (pv 2) (pa_cons (pv 4) (pa_cons (pv 3) pa_nil)))) (pa_cons (pe_cmpR op_eq (pe_op op_add (pe_ix ix_list (pv 5) pe_int (fun _ _ => rfl)) (pe_ix ix_list (pv 5) pe_int (fun _ _ => rfl))) (pe_ix ix_list (pv 5) pe_int (fun _ _ => rfl)) (nomark _)) pa_nil)))))))))), ?_⟩
  refine ⟨_, rfl, m, 9, rfl, by decide, by decide, hM, fun r H1 hr9 mv1 mo1 => ⟨_, _, rfl, rfl, ?_⟩⟩
  obtain ⟨n, hn, n1, n2⟩ : ∃ n : Nat, (4 : Int) + (r : Int) = (n : Int) ∧ 1 ≤ n ∧ n ≤ 12 := ⟨4 + r, by omega, by omega, by omega⟩
  have hv0 : [V.ref m, V.int ((4 : Int) + (r : Int))] = [V.ref m, V.int (n : Int)] := by rw [hn]
  refine ⟨_, rfl, _, rfl, m, n, hv0, n1, n2, mo1, fun v A H2 mv2 mo2 hv hA => ⟨_, rfl, _, rfl, m, n, hv0, n1, n2, mo2, fun u B H3 mv3 mo3 hu hB => ⟨_, rfl, _, rfl, m, n, hv0, n1, n2, mo3, fun t C H4 mv4 mo4 ht hC => ⟨_, _, _, rfl, ?_⟩⟩⟩⟩
  have hv4 := mv4.dp mo3 (mv3.dp mo2 hv)
  have hu4 := mv4.dp mo3 hu
  have LA := layOk_of n1 n2 hA
  have LB := layOk_of n1 n2 hB
  have LC := layOk_of n1 n2 hC
  have mvA := ((mv1.trans mv2).trans mv3).trans mv4
  refine ⟨_, rfl, _, rfl, v, t, (n, A), (n, C), rfl, hv4, ht, LA, LC, rfl, fun H5 s5 => ⟨_, rfl, _, rfl, t, u, (n, C), (n, B), rfl, s5.dp ht, s5.dp hu4, LC, LB, rfl, fun H6 s6 => ⟨_, rfl, _, rfl, v, u, (n, A), (n, B), rfl, s6.dp (s5.dp hv4), s6.dp (s5.dp hu4), LA, LB, rfl, fun H7 s7 => ⟨small_sz (by simp), fun l nl => ?_⟩⟩⟩⟩
  obtain ⟨H8, e8, c8, g8⟩ := mkN (.lst [.int (dst (2 * n) A C), .int (dst (2 * n) C B), .int (dst (2 * n) A B)]) nl
  have e8' : upd H7 l (.lst [.int (dst (2 * (n, A).1) (n, A).2 (n, C).2), .int (dst (2 * (n, C).1) (n, C).2 (n, B).2), .int (dst (2 * (n, A).1) (n, A).2 (n, B).2)]) = H8 := e8
  rw [e8']
  have d8 := ((s5.trans s6).trans s7).trans c8
  have hv8 := d8.dp hv4
  have hu8 := d8.dp hu4
  have ht8 := d8.dp ht
  refine ⟨_, rfl, _, rfl, v, t, (n, A), (n, C), rfl, hv8, ht8, LA, LC, rfl, fun H9 s9 => ⟨_, rfl, _, rfl, t, u, (n, C), (n, B), rfl, s9.dp ht8, s9.dp hu8, LC, LB, rfl, fun H10 s10 => ⟨_, rfl, _, rfl, v, u, (n, A), (n, B), rfl, s10.dp (s9.dp hv8), s10.dp (s9.dp hu8), LA, LB, rfl, fun H11 s11 => ⟨small_sz (by simp), fun l2 nl2 => ?_⟩⟩⟩⟩
  obtain ⟨H12, e12, c12, g12⟩ := mkN (.lst [.int (dst (2 * n) A C), .int (dst (2 * n) C B), .int (dst (2 * n) A B)]) nl2
  have e12' : upd H11 l2 (.lst [.int (dst (2 * (n, A).1) (n, A).2 (n, C).2), .int (dst (2 * (n, C).1) (n, C).2 (n, B).2), .int (dst (2 * (n, A).1) (n, A).2 (n, B).2)]) = H12 := e12
  rw [e12']
  have d12 := ((s9.trans s10).trans s11).trans c12
  have g8' := d12 _ _ g8
  have sq8 : SqL K H12 l [.int (dst (2 * n) A C), .int (dst (2 * n) C B), .int (dst (2 * n) A B)] := .inl (.inl g8')
  obtain ⟨k1, k2, k3⟩ := three_ok (dst_small hA.good hC.good (by omega)) (dst_small hC.good hB.good (by omega)) (dst_small hA.good hB.good (by omega))
  refine ⟨_, rfl, _, rfl, .ref l2, .ref l, _, rfl, three_dp g12, three_dp g8', k1, k2, k3, _, rfl, itef rfl ?_⟩
  have tri := dst_tri hA.good hB.good hC.good
  refine ⟨_, rfl, l, _, _, _, rfl, rfl, sq8, at0, _, rfl, l, _, _, _, rfl, rfl, sq8, at1, _, _, rfl, rfl, _, rfl, l, _, _, _, rfl, rfl, sq8, at2, _, _, rfl, rfl, _, rfl, itef (decide_eq_false (by omega)) ?_⟩
  have dall := d8.trans d12
  refine ⟨_, rfl, _, rfl, _, rfl, v, t, u, (n, A), (n, C), (n, B), rfl, dall.dp hv4, dall.dp ht, dall.dp hu4, LA, LC, LB, rfl, rfl, fun H13 s13 => ?_⟩
  have sq13 := s13.seqs.l sq8
  refine ⟨_, rfl, l, _, _, _, rfl, rfl, sq13, at0, _, rfl, l, _, _, _, rfl, rfl, sq13, at1, _, _, rfl, rfl, _, rfl, l, _, _, _, rfl, rfl, sq13, at2, rfl, ?_⟩
  have eb : decide (V.int (dst (2 * n) A C + dst (2 * n) C B) = V.int (dst (2 * n) A B)) = decide (dst (2 * n) A C + dst (2 * n) C B = dst (2 * n) A B) := by simp only [V.int.injEq]
  refine ⟨_, _, .bool (decide (dst (2 * n) A C + dst (2 * n) C B = dst (2 * n) A B)), rfl, .bl _, ?_, rfl, by simp [wt], by simp [PyData.depth], q H13 ((mvA.trans dall.mv).trans s13.mv) ((mo4.same dall).same s13)⟩
  show Dp _ _ (.bl (decide (V.int (dst (2 * n) A C + dst (2 * n) C B) = V.int (dst (2 * n) A B)))) _
  rw [eb]
  exact .bl _
/-! the law itself -/
def cR : List Jt := [(0, 5), (1, 2), (3, 4)]
def cA : List Jt := [(0, 1), (2, 3), (4, 5)]
def cL : List Jt := [(1, 2), (3, 4)]
theorem okR : LayOk (3, cR) := ⟨by decide, by decide, okB_ok (by decide)⟩
theorem okA : LayOk (3, cA) := ⟨by decide, by decide, okB_ok (by decide)⟩
theorem okL : LayOk (3, cL) := ⟨by decide, by decide, okB_ok (by decide)⟩
theorem okN0 : LayOk (3, []) := ⟨by decide, by decide, okB_ok (by decide)⟩
theorem dAR : dst 6 cA cR = 2 := by decide +kernel
theorem dR0 : dst 6 cR [] = 3 := by decide +kernel
theorem d0R : dst 6 [] cR = 3 := by decide +kernel
theorem dRR : dst 6 cR cR = 0 := by decide +kernel
theorem dLR : dst 6 cL cR = 1 := by decide +kernel
theorem bALR : decide (dst 6 cA cL + dst 6 cL cR = dst 6 cA cR) = false := by decide +kernel
theorem bLRL : decide (dst 6 cL cR + dst 6 cR cL = dst 6 cL cL) = false := by decide +kernel
theorem lay3 {H : Hp} {a1 a2 a3 a4 a5 : Addr} {i1 j1 i2 j2 i3 j3 : Int} (n1 : H a1 = none) (n2 : (upd H a1 (.tup [.int i1, .int j1])) a2 = none)
    (n3 : (upd (upd H a1 (.tup [.int i1, .int j1])) a2 (.tup [.int i2, .int j2])) a3 = none) (n4 : (upd (upd (upd H a1 (.tup [.int i1, .int j1])) a2 (.tup [.int i2, .int j2])) a3 (.tup [.int i3, .int j3])) a4 = none)
    (n5 : (upd (upd (upd (upd H a1 (.tup [.int i1, .int j1])) a2 (.tup [.int i2, .int j2])) a3 (.tup [.int i3, .int j3])) a4 (.tup [.ref a1, .ref a2, .ref a3])) a5 = none) :
    ∃ Hn, upd (upd (upd (upd (upd H a1 (.tup [.int i1, .int j1])) a2 (.tup [.int i2, .int j2])) a3 (.tup [.int i3, .int j3])) a4 (.tup [.ref a1, .ref a2, .ref a3])) a5 (.tup [.int 3, .ref a4]) = Hn ∧ Same H Hn ∧
    Dp K Hn (.ref a5) (.tuple [.int 3, .tuple [.tuple [.int i1, .int j1], .tuple [.int i2, .int j2], .tuple [.int i3, .int j3]]]) := by
  have s1 := same_new (o := .tup [.int i1, .int j1]) n1
  have s2 := same_new (o := .tup [.int i2, .int j2]) n2
  have s3 := same_new (o := .tup [.int i3, .int j3]) n3
  have s4 := same_new (o := .tup [.ref a1, .ref a2, .ref a3]) n4
  have s5 := same_new (o := .tup [.int 3, .ref a4]) n5
  refine ⟨_, rfl, (((s1.trans s2).trans s3).trans s4).trans s5, ?_⟩
  have k1 : Dp K (upd H a1 (.tup [.int i1, .int j1])) (.ref a1) (.tuple [.int i1, .int j1]) := .tup (.inl (.inl upd_same)) (.cons (.int _) (.cons (.int _) .nil))
  have k2 : Dp K (upd (upd H a1 (.tup [.int i1, .int j1])) a2 (.tup [.int i2, .int j2])) (.ref a2) (.tuple [.int i2, .int j2]) := .tup (.inl (.inl upd_same)) (.cons (.int _) (.cons (.int _) .nil))
  have k3 : Dp K (upd (upd (upd H a1 (.tup [.int i1, .int j1])) a2 (.tup [.int i2, .int j2])) a3 (.tup [.int i3, .int j3])) (.ref a3) (.tuple [.int i3, .int j3]) := .tup (.inl (.inl upd_same)) (.cons (.int _) (.cons (.int _) .nil))
  have s45 := s4.trans s5
  exact .tup (.inl (.inl upd_same)) (.cons (.int _) (.cons (.tup (.inl (.inl (s5 _ _ upd_same))) (.cons (s45.dp (s3.dp (s2.dp k1))) (.cons (s45.dp (s3.dp k2)) (.cons (s45.dp k3) .nil)))) .nil))
theorem lay2 {H : Hp} {a1 a2 a4 a5 : Addr} {i1 j1 i2 j2 : Int} (n1 : H a1 = none) (n2 : (upd H a1 (.tup [.int i1, .int j1])) a2 = none)
    (n4 : (upd (upd H a1 (.tup [.int i1, .int j1])) a2 (.tup [.int i2, .int j2])) a4 = none) (n5 : (upd (upd (upd H a1 (.tup [.int i1, .int j1])) a2 (.tup [.int i2, .int j2])) a4 (.tup [.ref a1, .ref a2])) a5 = none) :
    ∃ Hn, upd (upd (upd (upd H a1 (.tup [.int i1, .int j1])) a2 (.tup [.int i2, .int j2])) a4 (.tup [.ref a1, .ref a2])) a5 (.tup [.int 3, .ref a4]) = Hn ∧ Same H Hn ∧
    Dp K Hn (.ref a5) (.tuple [.int 3, .tuple [.tuple [.int i1, .int j1], .tuple [.int i2, .int j2]]]) := by
  have s1 := same_new (o := .tup [.int i1, .int j1]) n1
  have s2 := same_new (o := .tup [.int i2, .int j2]) n2
  have s4 := same_new (o := .tup [.ref a1, .ref a2]) n4
  have s5 := same_new (o := .tup [.int 3, .ref a4]) n5
  refine ⟨_, rfl, ((s1.trans s2).trans s4).trans s5, ?_⟩
  have k1 : Dp K (upd H a1 (.tup [.int i1, .int j1])) (.ref a1) (.tuple [.int i1, .int j1]) := .tup (.inl (.inl upd_same)) (.cons (.int _) (.cons (.int _) .nil))
  have k2 : Dp K (upd (upd H a1 (.tup [.int i1, .int j1])) a2 (.tup [.int i2, .int j2])) (.ref a2) (.tuple [.int i2, .int j2]) := .tup (.inl (.inl upd_same)) (.cons (.int _) (.cons (.int _) .nil))
  have s45 := s4.trans s5
  exact .tup (.inl (.inl upd_same)) (.cons (.int _) (.cons (.tup (.inl (.inl (s5 _ _ upd_same))) (.cons (s45.dp (s2.dp k1)) (.cons (s45.dp k2) .nil))) .nil))
theorem lay0 {H : Hp} {a4 a5 : Addr} (n4 : H a4 = none) (n5 : (upd H a4 (.tup [])) a5 = none) :
    ∃ Hn, upd (upd H a4 (.tup [])) a5 (.tup [.int 3, .ref a4]) = Hn ∧ Same H Hn ∧ Dp K Hn (.ref a5) (eL 3 []) := by
  have s4 := same_new (o := .tup []) n4
  have s5 := same_new (o := .tup [.int 3, .ref a4]) n5
  refine ⟨_, rfl, s4.trans s5, ?_⟩
  exact .tup (.inl (.inl upd_same)) (.cons (.int _) (.cons (.tup (.inl (.inl (s5 _ _ upd_same))) .nil) .nil))
def sp_law (K : PySem.W.Frag) : Sp := fun vs H Q _ => ∃ (a : Addr) (ns : List Int), vs = [.ref a] ∧ SqL K H a (ns.map V.int) ∧ ns.length ≤ 63 ∧ ∀ H', Q (.bl true) H'
abbrev C36 (P : Program) (w : World) (K : PySem.W.Frag) (mg : Str → Option Value) (base : Heap) : Prop := CalG P w K mg base 8 "law" ["_law_script"] (sp_law K)
theorem ok_law (D : Df K mg "law" s_law ["_law_script"] f fd) (T : Tx mg) (C__law_begun : C20 P w K mg base) (C__law_of : C22 P w K mg base) (C__law_small_right : C34 P w K mg base) (C__law_great_right : C35 P w K mg base)
    (C_least_steps : C13 P w K mg base) (C_is_between : C14 P w K mg base) (C__law_like : C23 P w K mg base) : FnG P w K mg base 8 f fd ["_law_script"] (sp_law K) := by
  refine fnG_of D.F sc_law (fun vs H Q E h => ?_) (fun cdv A outer s H vs Q E hgd hr h => ?_)
  · obtain ⟨a, ns, rfl, _⟩ := h
    rfl
  obtain ⟨a, ns, rfl, hA, hn, q⟩ := h
  refine ⟨_, (pss_cons (ps_set (i := 1) sc_law.nd rfl (.inl rfl) (pe_c C__law_begun (hr.mono (by decide)) (by rfl) (pa_cons (pv 0) pa_nil)))
      (pss_cons (ps_for PassesOwn.never rfl (pi_range1 (by rfl) T.range (pa_cons (pe_op op_add pe_int (pe_callB (call_min2 rfl) (by rfl) T.min (by decide +kernel) (pa_cons (pe_callB call_len_seq (by rfl) T.len (by decide +kernel) (pa_cons (pv 0) pa_nil)) (pa_cons pe_int pa_nil)))) pa_nil)) (pg_name (i := 2) sc_law.nd rfl (.inl rfl)) (pss_one (ps_if (PW.pt (pw_or (pt_not (pt_val (pe_g C__law_small_right hgd hr (by rfl) (pa_cons (pv 1) (pa_cons (pe_c C__law_of (hr.mono (by decide)) (by rfl) (pa_cons (pv 1) (pa_cons (pe_lst (pa_cons pe_int (pa_cons pe_int (pa_cons pe_int (pa_cons pe_int pa_nil))))) pa_nil))) pa_nil))))) (pw_or1 (pt_not (pt_val (pe_g C__law_great_right hgd hr (by rfl) (pa_cons (pv 1) pa_nil))))))) (pss_one (ps_ret pe_bl)) pss_nil)))
      (pss_cons (ps_asg (pe_tup (pa_cons (pe_tup (pa_cons pe_int (pa_cons (pe_tup (pa_cons (pe_tup (pa_cons pe_int (pa_cons pe_int pa_nil))) (pa_cons (pe_tup (pa_cons pe_int (pa_cons pe_int pa_nil))) (pa_cons (pe_tup (pa_cons pe_int (pa_cons pe_int pa_nil))) pa_nil)))) pa_nil))) (pa_cons (pe_tup (pa_cons pe_int (pa_cons (pe_tup (pa_cons (pe_tup (pa_cons pe_int (pa_cons pe_int pa_nil))) (pa_cons (pe_tup (pa_cons pe_int (pa_cons pe_int pa_nil))) (pa_cons (pe_tup (pa_cons pe_int (pa_cons pe_int pa_nil))) pa_nil)))) pa_nil))) pa_nil))) (pg_tup (by rfl) (pgs_cons (pg_name (i := 3) sc_law.nd rfl (.inl rfl)) (pgs_cons (pg_name (i := 4) sc_law.nd rfl (.inl rfl)) pgs_nil))))
      (pss_cons (ps_set (i := 5) sc_law.nd rfl (.inl rfl) (pe_lst (pa_cons (pe_c C_least_steps (hr.mono (by decide)) (by rfl) (pa_cons (pv 4) (pa_cons (pv 3) pa_nil))) (pa_cons (pe_c C_least_steps (hr.mono (by decide)) (by rfl) (pa_cons (pv 3) (pa_cons (pe_tup (pa_cons pe_int (pa_cons (pe_tup pa_nil) pa_nil))) pa_nil))) (pa_cons (pe_c C_least_steps (hr.mono (by decide)) (by rfl) (pa_cons (pe_tup (pa_cons pe_int (pa_cons (pe_tup pa_nil) pa_nil))) (pa_cons (pv 3) pa_nil))) pa_nil)))))
      (pss_cons (ps_set (i := 6) sc_law.nd rfl (.inl rfl) (pe_tup (pa_cons pe_int (pa_cons (pe_tup (pa_cons (pe_tup (pa_cons pe_int (pa_cons pe_int pa_nil))) (pa_cons (pe_tup (pa_cons pe_int (pa_cons pe_int pa_nil))) pa_nil))) pa_nil))))
      (pss_cons (ps_set (i := 5) sc_law.nd rfl (.inl rfl) (pe_op op_cat (pv 5) (pe_lst (pa_cons (pe_c C_least_steps (hr.mono (by decide)) (by rfl) (pa_cons (pv 3) (pa_cons (pv 3) pa_nil))) (pa_cons (pe_c C_least_steps (hr.mono (by decide)) (by rfl) (pa_cons (pv 6) (pa_cons (pv 3) pa_nil))) pa_nil)))))
      (pss_cons (ps_set (i := 5) sc_law.nd rfl (.inl rfl) (pe_op op_cat (pv 5) (pe_lst (pa_cons (pe_c C_is_between (hr.mono (by decide)) (by rfl) (pa_cons (pv 4) (pa_cons (pv 6) (pa_cons (pv 3) pa_nil)))) (pa_cons (pe_c C_is_between (hr.mono (by decide)) (by rfl) (pa_cons (pv 6) (pa_cons (pv 3) (pa_cons (pv 6) pa_nil)))) pa_nil)))))
      (pss_one (ps_ret (pe_g C__law_like hgd (hr.mono (by decide)) (by rfl) (pa_cons (pv 5) (pa_cons (pe_lst (pa_cons pe_int (pa_cons pe_int (pa_cons pe_int (pa_cons pe_int (pa_cons pe_int (pa_cons pe_bl (pa_cons pe_bl pa_nil)))))))) pa_nil)))))))))))), ?_⟩
  refine ⟨_, rfl, a, ns, rfl, hA, hn, fun m H1 s1 nm mo1 => ?_⟩
  have hlen : (ns.map V.int).length = ns.length := List.length_map ..
  refine ⟨_, rfl, a, _, rfl, .inl (s1.seqs.l hA), _, _, rfl, _, _, rfl, rfl, _, rfl, by split <;> omega, by split <;> omega, ?_⟩
  refine for_range (fun i σ H' => ∃ (y2 y3 y4 y5 y6 : Option V), σ = [some (.ref a), some (.ref m), y2, y3, y4, y5, y6] ∧ MOk H' m) ⟨_, _, _, _, _, rfl, mo1⟩ ?_ ?_
  · rintro i σ H2 hi ⟨y2, y3, y4, y5, y6, rfl, mo⟩
    refine ⟨_, rfl, _, rfl, small_sz (by simp), fun l nl => ?_⟩
    obtain ⟨H3, e3, c3, g3⟩ := mkN (.lst [V.int 2, V.int 2, V.int 2, V.int 3]) nl
    rw [e3]
    refine ⟨m, l, _, rfl, .inl (.inl g3), by simp, by simp, mo.same c3, fun x H4 hx mv4 mo4 => ?_⟩
    obtain ⟨n, rfl, F0⟩ : ∃ n : Nat, x = .int (n : Int) ∧ Few n := by
      simp only [List.mem_cons, List.not_mem_nil, or_false] at hx
      rcases hx with rfl | rfl | rfl | rfl
      · exact ⟨2, rfl, few2⟩
      · exact ⟨2, rfl, few2⟩
      · exact ⟨2, rfl, few2⟩
      · exact ⟨3, rfl, few3⟩
    refine ⟨m, n, rfl, F0, mo4, fun H5 mv5 mo5 => ⟨_, rfl, itef rfl ?_⟩⟩
    exact ⟨_, rfl, m, rfl, mo5, fun H6 mv6 mo6 => ⟨_, rfl, itef rfl ⟨_, _, _, _, _, rfl, mo6⟩⟩⟩
  · rintro σ H2 ⟨y2, y3, y4, y5, y6, rfl, mo⟩
    refine ⟨small_sz (by simp), fun a1 m1 => ⟨small_sz (by simp), fun a2 m2 => ⟨small_sz (by simp), fun a3 m3 => ⟨small_sz (by simp), fun a4 m4 => ⟨small_sz (by simp), fun a5 m5 => ?_⟩⟩⟩⟩⟩
    obtain ⟨H3, e3, c3, r3⟩ := lay3 (K := K) (i1 := 0) (j1 := 5) (i2 := 1) (j2 := 2) (i3 := 3) (j3 := 4) m1 m2 m3 m4 m5
    rw [e3]
    have hR : Dp K H3 (.ref a5) (eL 3 cR) := r3
    refine ⟨small_sz (by simp), fun b1 p1 => ⟨small_sz (by simp), fun b2 p2 => ⟨small_sz (by simp), fun b3 p3 => ⟨small_sz (by simp), fun b4 p4 => ⟨small_sz (by simp), fun b5 p5 => ?_⟩⟩⟩⟩⟩
    obtain ⟨H4, e4, c4, r4⟩ := lay3 (K := K) (i1 := 0) (j1 := 1) (i2 := 2) (j2 := 3) (i3 := 4) (j3 := 5) p1 p2 p3 p4 p5
    rw [e4]
    have hA : Dp K H4 (.ref b5) (eL 3 cA) := r4
    have hR := c4.dp hR
    refine ⟨small_sz (by simp), fun z nz => ⟨z, _, rfl, .inl (.inl upd_same), rfl, _, _, rfl, _, _, rfl, rfl, ?_⟩⟩
    obtain ⟨H5, e5, c5, g5⟩ := mkN (.tup [V.ref a5, V.ref b5]) nz
    rw [e5]
    have hA := c5.dp hA
    have hR := c5.dp hR
    -- the first three
    refine ⟨_, rfl, _, rfl, .ref b5, .ref a5, (3, cA), (3, cR), rfl, hA, hR, okA, okR, rfl, fun H6 s6 => ?_⟩
    have hA := s6.dp hA
    have hR := s6.dp hR
    refine ⟨_, rfl, small_sz (by simp), fun x1 nx1 => ⟨small_sz (by simp), fun x2 nx2 => ?_⟩⟩
    obtain ⟨H7, e7, c7, r7⟩ := lay0 (K := K) nx1 nx2
    rw [e7]
    have hA := c7.dp hA
    have hR := c7.dp hR
    refine ⟨.ref a5, .ref x2, (3, cR), (3, []), rfl, hR, r7, okR, okN0, rfl, fun H8 s8 => ?_⟩
    have hA := s8.dp hA
    have hR := s8.dp hR
    refine ⟨small_sz (by simp), fun y1 ny1 => ⟨small_sz (by simp), fun y2 ny2 => ?_⟩⟩
    obtain ⟨H9, e9, c9, r9⟩ := lay0 (K := K) ny1 ny2
    rw [e9]
    have hA := c9.dp hA
    have hR := c9.dp hR
    refine ⟨_, rfl, .ref y2, .ref a5, (3, []), (3, cR), rfl, r9, hR, okN0, okR, rfl, fun H10 s10 => ⟨small_sz (by simp), fun t1 nt1 => ?_⟩⟩
    have hA := s10.dp hA
    have hR := s10.dp hR
    obtain ⟨H11, e11, c11, g11⟩ := mkN (.lst [.int (dst 6 cA cR), .int (dst 6 cR []), .int (dst 6 [] cR)]) nt1
    have e11' : upd H10 t1 (.lst [.int (dst (2 * (3, cA).1) (3, cA).2 (3, cR).2), .int (dst (2 * ((3, cR) : Lay).1) ((3, cR) : Lay).2 ((3, []) : Lay).2), .int (dst (2 * ((3, []) : Lay).1) ((3, []) : Lay).2 ((3, cR) : Lay).2)]) = H11 := e11
    rw [e11']
    rw [dAR, dR0, d0R] at g11
    have hA := c11.dp hA
    have hR := c11.dp hR
    -- the line
    refine ⟨small_sz (by simp), fun l1 nl1 => ⟨small_sz (by simp), fun l2 nl2 => ⟨small_sz (by simp), fun l4 nl4 => ⟨small_sz (by simp), fun l5 nl5 => ?_⟩⟩⟩⟩
    obtain ⟨H12, e12, c12, r12⟩ := lay2 (K := K) (i1 := 1) (j1 := 2) (i2 := 3) (j2 := 4) nl1 nl2 nl4 nl5
    rw [e12]
    have hL : Dp K H12 (.ref l5) (eL 3 cL) := r12
    have hA := c12.dp hA
    have hR := c12.dp hR
    have g12 := c12 _ _ g11
    refine ⟨_, rfl, _, rfl, _, rfl, .ref a5, .ref a5, (3, cR), (3, cR), rfl, hR, hR, okR, okR, rfl, fun H13 s13 => ?_⟩
    have hA := s13.dp hA
    have hR := s13.dp hR
    have hL := s13.dp hL
    refine ⟨_, rfl, _, rfl, .ref l5, .ref a5, (3, cL), (3, cR), rfl, hL, hR, okL, okR, rfl, fun H14 s14 => ⟨small_sz (by simp), fun u1 nu1 => ?_⟩⟩
    have hA := s14.dp hA
    have hR := s14.dp hR
    have hL := s14.dp hL
    obtain ⟨H15, e15, c15, g15⟩ := mkN (.lst [.int (dst 6 cR cR), .int (dst 6 cL cR)]) nu1
    have e15' : upd H14 u1 (.lst [.int (dst (2 * ((3, cR) : Lay).1) ((3, cR) : Lay).2 ((3, cR) : Lay).2), .int (dst (2 * ((3, cL) : Lay).1) ((3, cL) : Lay).2 ((3, cR) : Lay).2)]) = H15 := e15
    rw [e15']
    rw [dRR, dLR] at g15
    have g16 := c15 _ _ (s14 _ _ (s13 _ _ g12))
    refine ⟨t1, u1, _, _, rfl, rfl, g16, g15, small_sz (by simp), fun t2 nt2 => ?_⟩
    obtain ⟨H16, e16, c16, g17⟩ := mkN (.lst [V.int 2, .int 3, .int 3, .int 0, .int 1]) nt2
    have e16' : upd H15 t2 (.lst ([V.int 2, .int 3, .int 3] ++ [.int 0, .int 1])) = H16 := e16
    rw [e16']
    have hA := c16.dp (c15.dp hA)
    have hR := c16.dp (c15.dp hR)
    have hL := c16.dp (c15.dp hL)
    refine ⟨_, rfl, _, rfl, _, rfl, _, rfl, .ref b5, .ref l5, .ref a5, (3, cA), (3, cL), (3, cR), rfl, hA, hL, hR, okA, okL, okR, rfl, rfl, fun H18 s18 => ?_⟩
    have hR := s18.dp hR
    have hL := s18.dp hL
    refine ⟨_, rfl, _, rfl, _, rfl, .ref l5, .ref a5, .ref l5, (3, cL), (3, cR), (3, cL), rfl, hL, hR, hL, okL, okR, okL, rfl, rfl, fun H19 s19 => ⟨small_sz (by simp), fun u2 nu2 => ?_⟩⟩
    obtain ⟨H20, e20, c20, g20⟩ := mkN (.lst [.bl (decide (dst 6 cA cL + dst 6 cL cR = dst 6 cA cR)), .bl (decide (dst 6 cL cR + dst 6 cR cL = dst 6 cL cL))]) nu2
    have e20' : upd H19 u2 (.lst [.bl (decide (dst (2 * ((3, cA) : Lay).1) ((3, cA) : Lay).2 ((3, cL) : Lay).2 + dst (2 * ((3, cA) : Lay).1) ((3, cL) : Lay).2 ((3, cR) : Lay).2 = dst (2 * ((3, cA) : Lay).1) ((3, cA) : Lay).2 ((3, cR) : Lay).2)),
      .bl (decide (dst (2 * ((3, cL) : Lay).1) ((3, cL) : Lay).2 ((3, cR) : Lay).2 + dst (2 * ((3, cL) : Lay).1) ((3, cR) : Lay).2 ((3, cL) : Lay).2 = dst (2 * ((3, cL) : Lay).1) ((3, cL) : Lay).2 ((3, cL) : Lay).2))]) = H20 := e20
    rw [e20']
    rw [bALR, bLRL] at g20
    have g21 := c20 _ _ (s19 _ _ (s18 _ _ g17))
    refine ⟨t2, u2, _, _, rfl, rfl, g21, g20, small_sz (by simp), fun t3 nt3 => ?_⟩
    obtain ⟨H21, e21, c21, g22⟩ := mkN (.lst [V.int 2, .int 3, .int 3, .int 0, .int 1, .bl false, .bl false]) nt3
    have e21' : upd H20 t3 (.lst ([V.int 2, .int 3, .int 3, .int 0, .int 1] ++ [.bl false, .bl false])) = H21 := e21
    rw [e21']
    refine ⟨_, rfl, small_sz (by simp), fun z2 nz2 => ?_⟩
    obtain ⟨H22, e22, c22, g23⟩ := mkN (.lst [V.int 2, .int 3, .int 3, .int 0, .int 1, .bl false, .bl false]) nz2
    rw [e22]
    have dpl : ∀ {Hx : Hp} {t : Addr}, Hx t = some (.lst [V.int 2, .int 3, .int 3, .int 0, .int 1, .bl false, .bl false]) → Dp K Hx (.ref t) (.list [.int 2, .int 3, .int 3, .int 0, .int 1, .bool false, .bool false]) := fun h =>
      .lst (.inl (.inl h)) (.cons (.int _) (.cons (.int _) (.cons (.int _) (.cons (.int _) (.cons (.int _) (.cons (.bl _) (.cons (.bl _) .nil)))))))
    exact ⟨.ref t3, .ref z2, _, rfl, dpl (c22 _ _ g22), dpl g23, by decide, by decide, by decide, q H22⟩
end
end DC
namespace DC
open PySem PySem.Spec PyProof.Rows L2 Dm
section
theorem all_stand {l : PySem.W.OpenLaw} {w : World} {K : PySem.W.Frag} {h : Heap} {mg : Str → Option Value} {fa f1 f2 f3 f4 f5 f6 f7 f8 f9 f10 f11 f12 f13 f14 f15 f16 f17 f18 f19 f20 f21 f22 f23 f24 f25 f26 f27 f28 f29 f30 f31 : Addr} (X : K.In h) (G : h.Ns mainGlobals mg) (hfa : mg "law" = some (.ref fa))
    {od1 an1 od2 an2 od3 an3 od4 an4 od5 an5 od6 an6 od7 an7 od8 an8 od9 an9 od10 an10 od11 an11 od12 an12 od13 an13 od14 an14 od15 an15 od16 an16 od17 an17 od18 an18 od19 an19 od20 an20 od21 an21 od22 an22 od23 an23 od24 an24 od25 an25 od26 an26 od27 an27 od28 an28 od29 an29 od30 an30 od31 an31 : Option Addr} {sl1 sl2 sl3 sl4 sl5 sl6 sl7 sl8 sl9 sl10 sl11 sl12 sl13 sl14 sl15 sl16 sl17 sl18 sl19 sl20 sl21 sl22 sl23 sl24 sl25 sl26 sl27 sl28 sl29 sl30 sl31 : Array (Option Value)}
    {oc1 kV1 dc1 pm1 cd1 ct1 oc2 kV2 dc2 pm2 cd2 ct2 oc3 kV3 dc3 pm3 cd3 ct3 oc4 kV4 dc4 pm4 cd4 ct4 oc5 kV5 dc5 pm5 cd5 ct5 oc6 kV6 dc6 pm6 cd6 ct6 oc7 kV7 dc7 pm7 cd7 ct7 oc8 kV8 dc8 pm8 cd8 ct8 oc9 kV9 dc9 pm9 cd9 ct9 oc10 kV10 dc10 pm10 cd10 ct10 oc11 kV11 dc11 pm11 cd11 ct11 oc12 kV12 dc12 pm12 cd12 ct12 oc13 kV13 dc13 pm13 cd13 ct13 oc14 kV14 dc14 pm14 cd14 ct14 oc15 kV15 dc15 pm15 cd15 ct15 oc16 kV16 dc16 pm16 cd16 ct16 oc17 kV17 dc17 pm17 cd17 ct17 oc18 kV18 dc18 pm18 cd18 ct18 oc19 kV19 dc19 pm19 cd19 ct19 oc20 kV20 dc20 pm20 cd20 ct20 oc21 kV21 dc21 pm21 cd21 ct21 oc22 kV22 dc22 pm22 cd22 ct22 oc23 kV23 dc23 pm23 cd23 ct23 oc24 kV24 dc24 pm24 cd24 ct24 oc25 kV25 dc25 pm25 cd25 ct25 oc26 kV26 dc26 pm26 cd26 ct26 oc27 kV27 dc27 pm27 cd27 ct27 oc28 kV28 dc28 pm28 cd28 ct28 oc29 kV29 dc29 pm29 cd29 ct29 oc30 kV30 dc30 pm30 cd30 ct30 oc31 kV31 dc31 pm31 cd31 ct31 : Value} {t1 t2 t3 t4 t5 : Tok}
    (a1 : PySem.W.nsIn K mainGlobals "is_whole" = some (some (.ref f1)))
    (l1 : K.lookup f1 = some ⟨oc1, od1, .func (PySem.W.fnOf "is_whole" "is_whole" (defArgs s_is_whole) (defBody s_is_whole) (defScope s_is_whole) .none kV1 dc1 pm1 an1 cd1 ct1), sl1⟩) (c1 : PySem.W.codeIn K cd1 "is_whole" = true) (k1 : PySem.W.keepIn K (.ref f1) = true)
    (a2 : PySem.W.nsIn K mainGlobals "is_joint" = some (some (.ref f2)))
    (l2 : K.lookup f2 = some ⟨oc2, od2, .func (PySem.W.fnOf "is_joint" "is_joint" (defArgs s_is_joint) (defBody s_is_joint) (defScope s_is_joint) .none kV2 dc2 pm2 an2 cd2 ct2), sl2⟩) (c2 : PySem.W.codeIn K cd2 "is_joint" = true) (k2 : PySem.W.keepIn K (.ref f2) = true)
    (a3 : PySem.W.nsIn K mainGlobals "wrong_place" = some (some (.ref f3)))
    (l3 : K.lookup f3 = some ⟨oc3, od3, .func (PySem.W.fnOf "wrong_place" "wrong_place" (defArgs s_wrong_place) (defBody s_wrong_place) (defScope s_wrong_place) .none kV3 dc3 pm3 an3 cd3 ct3), sl3⟩) (c3 : PySem.W.codeIn K cd3 "wrong_place" = true) (k3 : PySem.W.keepIn K (.ref f3) = true)
    (a4 : PySem.W.nsIn K mainGlobals "need_lay" = some (some (.ref f4)))
    (l4 : K.lookup f4 = some ⟨oc4, od4, .func (PySem.W.fnOf "need_lay" "need_lay" (defArgs s_need_lay) (defBody s_need_lay) (defScope s_need_lay) .none kV4 dc4 pm4 an4 cd4 ct4), sl4⟩) (c4 : PySem.W.codeIn K cd4 "need_lay" = true) (k4 : PySem.W.keepIn K (.ref f4) = true)
    (a5 : PySem.W.nsIn K mainGlobals "need_two" = some (some (.ref f5)))
    (l5 : K.lookup f5 = some ⟨oc5, od5, .func (PySem.W.fnOf "need_two" "need_two" (defArgs s_need_two) (defBody s_need_two) (defScope s_need_two) .none kV5 dc5 pm5 an5 cd5 ct5), sl5⟩) (c5 : PySem.W.codeIn K cd5 "need_two" = true) (k5 : PySem.W.keepIn K (.ref f5) = true)
    (a6 : PySem.W.nsIn K mainGlobals "mates_in" = some (some (.ref f6)))
    (l6 : K.lookup f6 = some ⟨oc6, od6, .func (PySem.W.fnOf "mates_in" "mates_in" (defArgs s_mates_in) (defBody s_mates_in) (defScope s_mates_in) .none kV6 dc6 pm6 an6 cd6 ct6), sl6⟩) (c6 : PySem.W.codeIn K cd6 "mates_in" = true) (k6 : PySem.W.keepIn K (.ref f6) = true)
    (a7 : PySem.W.nsIn K mainGlobals "row_from" = some (some (.ref f7)))
    (l7 : K.lookup f7 = some ⟨oc7, od7, .func (PySem.W.fnOf "row_from" "row_from" (defArgs s_row_from) (defBody s_row_from) (defScope s_row_from) .none kV7 dc7 pm7 an7 cd7 ct7), sl7⟩) (c7 : PySem.W.codeIn K cd7 "row_from" = true) (k7 : PySem.W.keepIn K (.ref f7) = true)
    (a8 : PySem.W.nsIn K mainGlobals "kind_of" = some (some (.ref f8)))
    (l8 : K.lookup f8 = some ⟨oc8, od8, .func (PySem.W.fnOf "kind_of" "kind_of" (defArgs s_kind_of) (defBody s_kind_of) (defScope s_kind_of) .none kV8 dc8 pm8 an8 cd8 ct8), sl8⟩) (c8 : PySem.W.codeIn K cd8 "kind_of" = true) (k8 : PySem.W.keepIn K (.ref f8) = true)
    (a9 : PySem.W.nsIn K mainGlobals "rows_in" = some (some (.ref f9)))
    (l9 : K.lookup f9 = some ⟨oc9, od9, .func (PySem.W.fnOf "rows_in" "rows_in" (defArgs s_rows_in) (defBody s_rows_in) (defScope s_rows_in) .none kV9 dc9 pm9 an9 cd9 ct9), sl9⟩) (c9 : PySem.W.codeIn K cd9 "rows_in" = true) (k9 : PySem.W.keepIn K (.ref f9) = true)
    (a10 : PySem.W.nsIn K mainGlobals "pieces_in" = some (some (.ref f10)))
    (l10 : K.lookup f10 = some ⟨oc10, od10, .func (PySem.W.fnOf "pieces_in" "pieces_in" (defArgs s_pieces_in) (defBody s_pieces_in) (defScope s_pieces_in) .none kV10 dc10 pm10 an10 cd10 ct10), sl10⟩) (c10 : PySem.W.codeIn K cd10 "pieces_in" = true) (k10 : PySem.W.keepIn K (.ref f10) = true)
    (a11 : PySem.W.nsIn K mainGlobals "cost_of" = some (some (.ref f11)))
    (l11 : K.lookup f11 = some ⟨oc11, od11, .func (PySem.W.fnOf "cost_of" "cost_of" (defArgs s_cost_of) (defBody s_cost_of) (defScope s_cost_of) .none kV11 dc11 pm11 an11 cd11 ct11), sl11⟩) (c11 : PySem.W.codeIn K cd11 "cost_of" = true) (k11 : PySem.W.keepIn K (.ref f11) = true)
    (a12 : PySem.W.nsIn K mainGlobals "cost_in" = some (some (.ref f12)))
    (l12 : K.lookup f12 = some ⟨oc12, od12, .func (PySem.W.fnOf "cost_in" "cost_in" (defArgs s_cost_in) (defBody s_cost_in) (defScope s_cost_in) .none kV12 dc12 pm12 an12 cd12 ct12), sl12⟩) (c12 : PySem.W.codeIn K cd12 "cost_in" = true) (k12 : PySem.W.keepIn K (.ref f12) = true)
    (a13 : PySem.W.nsIn K mainGlobals "least_steps" = some (some (.ref f13)))
    (l13 : K.lookup f13 = some ⟨oc13, od13, .func (PySem.W.fnOf "least_steps" "least_steps" (defArgs s_least_steps) (defBody s_least_steps) (defScope s_least_steps) .none kV13 dc13 pm13 an13 cd13 ct13), sl13⟩) (c13 : PySem.W.codeIn K cd13 "least_steps" = true) (k13 : PySem.W.keepIn K (.ref f13) = true)
    (a14 : PySem.W.nsIn K mainGlobals "is_between" = some (some (.ref f14)))
    (l14 : K.lookup f14 = some ⟨oc14, od14, .func (PySem.W.fnOf "is_between" "is_between" (defArgs s_is_between) (defBody s_is_between) (defScope s_is_between) .none kV14 dc14 pm14 an14 cd14 ct14), sl14⟩) (c14 : PySem.W.codeIn K cd14 "is_between" = true) (k14 : PySem.W.keepIn K (.ref f14) = true)
    (a15 : PySem.W.nsIn K mainGlobals "_law_begun" = some (some (.ref f15)))
    (l15 : K.lookup f15 = some ⟨oc15, od15, .func (PySem.W.fnOf "_law_begun" "_law_begun" (defArgs s__law_begun) (defBody s__law_begun) (defScope s__law_begun) .none kV15 dc15 pm15 an15 cd15 ct15), sl15⟩) (c15 : PySem.W.codeIn K cd15 "_law_begun" = true) (k15 : PySem.W.keepIn K (.ref f15) = true)
    (a16 : PySem.W.nsIn K mainGlobals "_law_draw" = some (some (.ref f16)))
    (l16 : K.lookup f16 = some ⟨oc16, od16, .func (PySem.W.fnOf "_law_draw" "_law_draw" (defArgs s__law_draw) (defBody s__law_draw) (defScope s__law_draw) .none kV16 dc16 pm16 an16 cd16 ct16), sl16⟩) (c16 : PySem.W.codeIn K cd16 "_law_draw" = true) (k16 : PySem.W.keepIn K (.ref f16) = true)
    (a17 : PySem.W.nsIn K mainGlobals "_law_of" = some (some (.ref f17)))
    (l17 : K.lookup f17 = some ⟨oc17, od17, .func (PySem.W.fnOf "_law_of" "_law_of" (defArgs s__law_of) (defBody s__law_of) (defScope s__law_of) .none kV17 dc17 pm17 an17 cd17 ct17), sl17⟩) (c17 : PySem.W.codeIn K cd17 "_law_of" = true) (k17 : PySem.W.keepIn K (.ref f17) = true)
    (a18 : PySem.W.nsIn K mainGlobals "_law_like" = some (some (.ref f18)))
    (l18 : K.lookup f18 = some ⟨oc18, od18, .func (PySem.W.fnOf "_law_like" "_law_like" (defArgs s__law_like) (defBody s__law_like) (defScope s__law_like) .none kV18 dc18 pm18 an18 cd18 ct18), sl18⟩) (c18 : PySem.W.codeIn K cd18 "_law_like" = true) (k18 : PySem.W.keepIn K (.ref f18) = true)
    (a19 : PySem.W.nsIn K mainGlobals "_law_lay" = some (some (.ref f19)))
    (l19 : K.lookup f19 = some ⟨oc19, od19, .func (PySem.W.fnOf "_law_lay" "_law_lay" (defArgs s__law_lay) (defBody s__law_lay) (defScope s__law_lay) .none kV19 dc19 pm19 an19 cd19 ct19), sl19⟩) (c19 : PySem.W.codeIn K cd19 "_law_lay" = true) (k19 : PySem.W.keepIn K (.ref f19) = true)
    (a20 : PySem.W.nsIn K mainGlobals "_law_mates" = some (some (.ref f20)))
    (l20 : K.lookup f20 = some ⟨oc20, od20, .func (PySem.W.fnOf "_law_mates" "_law_mates" (defArgs s__law_mates) (defBody s__law_mates) (defScope s__law_mates) .none kV20 dc20 pm20 an20 cd20 ct20), sl20⟩) (c20 : PySem.W.codeIn K cd20 "_law_mates" = true) (k20 : PySem.W.keepIn K (.ref f20) = true)
    (a21 : PySem.W.nsIn K mainGlobals "_law_heaps" = some (some (.ref f21)))
    (l21 : K.lookup f21 = some ⟨oc21, od21, .func (PySem.W.fnOf "_law_heaps" "_law_heaps" (defArgs s__law_heaps) (defBody s__law_heaps) (defScope s__law_heaps) .none kV21 dc21 pm21 an21 cd21 ct21), sl21⟩) (c21 : PySem.W.codeIn K cd21 "_law_heaps" = true) (k21 : PySem.W.keepIn K (.ref f21) = true)
    (a22 : PySem.W.nsIn K mainGlobals "_law_kind" = some (some (.ref f22)))
    (l22 : K.lookup f22 = some ⟨oc22, od22, .func (PySem.W.fnOf "_law_kind" "_law_kind" (defArgs s__law_kind) (defBody s__law_kind) (defScope s__law_kind) .none kV22 dc22 pm22 an22 cd22 ct22), sl22⟩) (c22 : PySem.W.codeIn K cd22 "_law_kind" = true) (k22 : PySem.W.keepIn K (.ref f22) = true)
    (a23 : PySem.W.nsIn K mainGlobals "_law_pieces" = some (some (.ref f23)))
    (l23 : K.lookup f23 = some ⟨oc23, od23, .func (PySem.W.fnOf "_law_pieces" "_law_pieces" (defArgs s__law_pieces) (defBody s__law_pieces) (defScope s__law_pieces) .none kV23 dc23 pm23 an23 cd23 ct23), sl23⟩) (c23 : PySem.W.codeIn K cd23 "_law_pieces" = true) (k23 : PySem.W.keepIn K (.ref f23) = true)
    (a24 : PySem.W.nsIn K mainGlobals "_law_cost" = some (some (.ref f24)))
    (l24 : K.lookup f24 = some ⟨oc24, od24, .func (PySem.W.fnOf "_law_cost" "_law_cost" (defArgs s__law_cost) (defBody s__law_cost) (defScope s__law_cost) .none kV24 dc24 pm24 an24 cd24 ct24), sl24⟩) (c24 : PySem.W.codeIn K cd24 "_law_cost" = true) (k24 : PySem.W.keepIn K (.ref f24) = true)
    (a25 : PySem.W.nsIn K mainGlobals "_law_steps" = some (some (.ref f25)))
    (l25 : K.lookup f25 = some ⟨oc25, od25, .func (PySem.W.fnOf "_law_steps" "_law_steps" (defArgs s__law_steps) (defBody s__law_steps) (defScope s__law_steps) .none kV25 dc25 pm25 an25 cd25 ct25), sl25⟩) (c25 : PySem.W.codeIn K cd25 "_law_steps" = true) (k25 : PySem.W.keepIn K (.ref f25) = true)
    (a26 : PySem.W.nsIn K mainGlobals "_law_after" = some (some (.ref f26)))
    (l26 : K.lookup f26 = some ⟨oc26, od26, .func (PySem.W.fnOf "_law_after" "_law_after" (defArgs s__law_after) (defBody s__law_after) (defScope s__law_after) .none kV26 dc26 pm26 an26 cd26 ct26), sl26⟩) (c26 : PySem.W.codeIn K cd26 "_law_after" = true) (k26 : PySem.W.keepIn K (.ref f26) = true)
    (a27 : PySem.W.nsIn K mainGlobals "_law_all" = some (some (.ref f27)))
    (l27 : K.lookup f27 = some ⟨oc27, od27, .func (PySem.W.fnOf "_law_all" "_law_all" (defArgs s__law_all) (defBody s__law_all) (defScope s__law_all) .none kV27 dc27 pm27 an27 cd27 ct27), sl27⟩) (c27 : PySem.W.codeIn K cd27 "_law_all" = true) (k27 : PySem.W.keepIn K (.ref f27) = true)
    (a28 : PySem.W.nsIn K mainGlobals "_law_far" = some (some (.ref f28)))
    (l28 : K.lookup f28 = some ⟨oc28, od28, .func (PySem.W.fnOf "_law_far" "_law_far" (defArgs s__law_far) (defBody s__law_far) (defScope s__law_far) .none kV28 dc28 pm28 an28 cd28 ct28), sl28⟩) (c28 : PySem.W.codeIn K cd28 "_law_far" = true) (k28 : PySem.W.keepIn K (.ref f28) = true)
    (a29 : PySem.W.nsIn K mainGlobals "_law_small_right" = some (some (.ref f29)))
    (l29 : K.lookup f29 = some ⟨oc29, od29, .func (PySem.W.fnOf "_law_small_right" "_law_small_right" (defArgs s__law_small_right) (defBody s__law_small_right) (defScope s__law_small_right) .none kV29 dc29 pm29 an29 cd29 ct29), sl29⟩) (c29 : PySem.W.codeIn K cd29 "_law_small_right" = true) (k29 : PySem.W.keepIn K (.ref f29) = true)
    (a30 : PySem.W.nsIn K mainGlobals "_law_great_right" = some (some (.ref f30)))
    (l30 : K.lookup f30 = some ⟨oc30, od30, .func (PySem.W.fnOf "_law_great_right" "_law_great_right" (defArgs s__law_great_right) (defBody s__law_great_right) (defScope s__law_great_right) .none kV30 dc30 pm30 an30 cd30 ct30), sl30⟩) (c30 : PySem.W.codeIn K cd30 "_law_great_right" = true) (k30 : PySem.W.keepIn K (.ref f30) = true)
    (a31 : PySem.W.nsIn K mainGlobals "law" = some (some (.ref f31)))
    (l31 : K.lookup f31 = some ⟨oc31, od31, .func (PySem.W.fnOf "law" "law" (defArgs s_law) (defBody s_law) (defScope s_law) .none kV31 dc31 pm31 an31 cd31 ct31), sl31⟩) (c31 : PySem.W.codeIn K cd31 "law" = true) (k31 : PySem.W.keepIn K (.ref f31) = true)
    (v1 : PySem.W.nsIn K mainGlobals "MOST_LINKS" = some (some (.int 12 t1)))
    (v2 : PySem.W.nsIn K mainGlobals "RING" = some (some (.str "ring" t2)))
    (v3 : PySem.W.nsIn K mainGlobals "ODD" = some (some (.str "odd" t3)))
    (v4 : PySem.W.nsIn K mainGlobals "OPEN" = some (some (.str "open" t4)))
    (v5 : PySem.W.nsIn K mainGlobals "SHUT" = some (some (.str "shut" t5)))
    (z1 : PySem.W.nsIn K mainGlobals "isinstance" = some none)
    (z2 : PySem.W.nsIn K mainGlobals "int" = some none)
    (z3 : PySem.W.nsIn K mainGlobals "bool" = some none)
    (z4 : PySem.W.nsIn K mainGlobals "tuple" = some none)
    (z5 : PySem.W.nsIn K mainGlobals "len" = some none)
    (z6 : PySem.W.nsIn K mainGlobals "all" = some none)
    (z7 : PySem.W.nsIn K mainGlobals "enumerate" = some none)
    (z8 : PySem.W.nsIn K mainGlobals "range" = some none)
    (z9 : PySem.W.nsIn K mainGlobals "list" = some none)
    (z10 : PySem.W.nsIn K mainGlobals "sorted" = some none)
    (z11 : PySem.W.nsIn K mainGlobals "sum" = some none)
    (z12 : PySem.W.nsIn K mainGlobals "repr" = some none)
    (z13 : PySem.W.nsIn K mainGlobals "min" = some none)
    (z14 : PySem.W.nsIn K mainGlobals "max" = some none)
    : ∃ fd : FuncData, (∀ (s : Shared) (v : Value), BindsTo s fd ⟨[v], []⟩ [("_law_script", v)]) ∧ ∀ base : Heap, K.In base → base.Ns mainGlobals mg → FnG l.prog w K mg base 8 fa fd ["_law_script"] (sp_law K) := by
  have e := hfa.symm.trans (PySem.W.mg_of X G a31)
  cases e
  have T : Tx mg := ⟨PySem.W.mg_none_of X G z1, PySem.W.mg_none_of X G z2, PySem.W.mg_none_of X G z3, PySem.W.mg_none_of X G z4, PySem.W.mg_none_of X G z5, PySem.W.mg_none_of X G z6, PySem.W.mg_none_of X G z7, PySem.W.mg_none_of X G z8, PySem.W.mg_none_of X G z9, PySem.W.mg_none_of X G z10, PySem.W.mg_none_of X G z11, PySem.W.mg_none_of X G z12, PySem.W.mg_none_of X G z13, PySem.W.mg_none_of X G z14, ⟨_, PySem.W.mg_of X G v1⟩, ⟨_, PySem.W.mg_of X G v2⟩, ⟨_, PySem.W.mg_of X G v3⟩, ⟨_, PySem.W.mg_of X G v4⟩, ⟨_, PySem.W.mg_of X G v5⟩⟩
  have F1 := fun_mk (st := s_is_whole) l1 c1 k1
  have D1 : Df K mg "is_whole" s_is_whole ["value", "least", "most"] _ _ := ⟨F1, F1.binds (ps := ["value", "least", "most"]) fun _ _ _ _ _ _ us hl => match us, hl with | [_, _, _], _ => rfl, PySem.W.mg_of X G a1⟩
  have F2 := fun_mk (st := s_is_joint) l2 c2 k2
  have D2 : Df K mg "is_joint" s_is_joint ["links", "value"] _ _ := ⟨F2, F2.binds (ps := ["links", "value"]) fun _ _ _ _ _ _ us hl => match us, hl with | [_, _], _ => rfl, PySem.W.mg_of X G a2⟩
  have F3 := fun_mk (st := s_wrong_place) l3 c3 k3
  have D3 : Df K mg "wrong_place" s_wrong_place ["value"] _ _ := ⟨F3, F3.binds (ps := ["value"]) fun _ _ _ _ _ _ us hl => match us, hl with | [_], _ => rfl, PySem.W.mg_of X G a3⟩
  have F4 := fun_mk (st := s_need_lay) l4 c4 k4
  have D4 : Df K mg "need_lay" s_need_lay ["lay"] _ _ := ⟨F4, F4.binds (ps := ["lay"]) fun _ _ _ _ _ _ us hl => match us, hl with | [_], _ => rfl, PySem.W.mg_of X G a4⟩
  have F5 := fun_mk (st := s_need_two) l5 c5 k5
  have D5 : Df K mg "need_two" s_need_two ["one", "other"] _ _ := ⟨F5, F5.binds (ps := ["one", "other"]) fun _ _ _ _ _ _ us hl => match us, hl with | [_, _], _ => rfl, PySem.W.mg_of X G a5⟩
  have F6 := fun_mk (st := s_mates_in) l6 c6 k6
  have D6 : Df K mg "mates_in" s_mates_in ["lay"] _ _ := ⟨F6, F6.binds (ps := ["lay"]) fun _ _ _ _ _ _ us hl => match us, hl with | [_], _ => rfl, PySem.W.mg_of X G a6⟩
  have F7 := fun_mk (st := s_row_from) l7 c7 k7
  have D7 : Df K mg "row_from" s_row_from ["mates", "begin", "turn"] _ _ := ⟨F7, F7.binds (ps := ["mates", "begin", "turn"]) fun _ _ _ _ _ _ us hl => match us, hl with | [_, _, _], _ => rfl, PySem.W.mg_of X G a7⟩
  have F8 := fun_mk (st := s_kind_of) l8 c8 k8
  have D8 : Df K mg "kind_of" s_kind_of ["one", "other", "row"] _ _ := ⟨F8, F8.binds (ps := ["one", "other", "row"]) fun _ _ _ _ _ _ us hl => match us, hl with | [_, _, _], _ => rfl, PySem.W.mg_of X G a8⟩
  have F9 := fun_mk (st := s_rows_in) l9 c9 k9
  have D9 : Df K mg "rows_in" s_rows_in ["one", "other"] _ _ := ⟨F9, F9.binds (ps := ["one", "other"]) fun _ _ _ _ _ _ us hl => match us, hl with | [_, _], _ => rfl, PySem.W.mg_of X G a9⟩
  have F10 := fun_mk (st := s_pieces_in) l10 c10 k10
  have D10 : Df K mg "pieces_in" s_pieces_in ["one", "other"] _ _ := ⟨F10, F10.binds (ps := ["one", "other"]) fun _ _ _ _ _ _ us hl => match us, hl with | [_, _], _ => rfl, PySem.W.mg_of X G a10⟩
  have F11 := fun_mk (st := s_cost_of) l11 c11 k11
  have D11 : Df K mg "cost_of" s_cost_of ["piece"] _ _ := ⟨F11, F11.binds (ps := ["piece"]) fun _ _ _ _ _ _ us hl => match us, hl with | [_], _ => rfl, PySem.W.mg_of X G a11⟩
  have F12 := fun_mk (st := s_cost_in) l12 c12 k12
  have D12 : Df K mg "cost_in" s_cost_in ["one", "other"] _ _ := ⟨F12, F12.binds (ps := ["one", "other"]) fun _ _ _ _ _ _ us hl => match us, hl with | [_, _], _ => rfl, PySem.W.mg_of X G a12⟩
  have F13 := fun_mk (st := s_least_steps) l13 c13 k13
  have D13 : Df K mg "least_steps" s_least_steps ["one", "other"] _ _ := ⟨F13, F13.binds (ps := ["one", "other"]) fun _ _ _ _ _ _ us hl => match us, hl with | [_, _], _ => rfl, PySem.W.mg_of X G a13⟩
  have F14 := fun_mk (st := s_is_between) l14 c14 k14
  have D14 : Df K mg "is_between" s_is_between ["one", "third", "other"] _ _ := ⟨F14, F14.binds (ps := ["one", "third", "other"]) fun _ _ _ _ _ _ us hl => match us, hl with | [_, _, _], _ => rfl, PySem.W.mg_of X G a14⟩
  have F15 := fun_mk (st := s__law_begun) l15 c15 k15
  have D15 : Df K mg "_law_begun" s__law_begun ["_law_script"] _ _ := ⟨F15, F15.binds (ps := ["_law_script"]) fun _ _ _ _ _ _ us hl => match us, hl with | [_], _ => rfl, PySem.W.mg_of X G a15⟩
  have F16 := fun_mk (st := s__law_draw) l16 c16 k16
  have D16 : Df K mg "_law_draw" s__law_draw ["_law_m", "_law_limit"] _ _ := ⟨F16, F16.binds (ps := ["_law_m", "_law_limit"]) fun _ _ _ _ _ _ us hl => match us, hl with | [_, _], _ => rfl, PySem.W.mg_of X G a16⟩
  have F17 := fun_mk (st := s__law_of) l17 c17 k17
  have D17 : Df K mg "_law_of" s__law_of ["_law_m", "_law_some"] _ _ := ⟨F17, F17.binds (ps := ["_law_m", "_law_some"]) fun _ _ _ _ _ _ us hl => match us, hl with | [_, _], _ => rfl, PySem.W.mg_of X G a17⟩
  have F18 := fun_mk (st := s__law_like) l18 c18 k18
  have D18 : Df K mg "_law_like" s__law_like ["_law_told", "_law_due"] _ _ := ⟨F18, F18.binds (ps := ["_law_told", "_law_due"]) fun _ _ _ _ _ _ us hl => match us, hl with | [_, _], _ => rfl, PySem.W.mg_of X G a18⟩
  have F19 := fun_mk (st := s__law_lay) l19 c19 k19
  have D19 : Df K mg "_law_lay" s__law_lay ["_law_m", "_law_links"] _ _ := ⟨F19, F19.binds (ps := ["_law_m", "_law_links"]) fun _ _ _ _ _ _ us hl => match us, hl with | [_, _], _ => rfl, PySem.W.mg_of X G a19⟩
  have F20 := fun_mk (st := s__law_mates) l20 c20 k20
  have D20 : Df K mg "_law_mates" s__law_mates ["_law_lay_here"] _ _ := ⟨F20, F20.binds (ps := ["_law_lay_here"]) fun _ _ _ _ _ _ us hl => match us, hl with | [_], _ => rfl, PySem.W.mg_of X G a20⟩
  have F21 := fun_mk (st := s__law_heaps) l21 c21 k21
  have D21 : Df K mg "_law_heaps" s__law_heaps ["_law_one", "_law_other"] _ _ := ⟨F21, F21.binds (ps := ["_law_one", "_law_other"]) fun _ _ _ _ _ _ us hl => match us, hl with | [_, _], _ => rfl, PySem.W.mg_of X G a21⟩
  have F22 := fun_mk (st := s__law_kind) l22 c22 k22
  have D22 : Df K mg "_law_kind" s__law_kind ["_law_one", "_law_other", "_law_heap"] _ _ := ⟨F22, F22.binds (ps := ["_law_one", "_law_other", "_law_heap"]) fun _ _ _ _ _ _ us hl => match us, hl with | [_, _, _], _ => rfl, PySem.W.mg_of X G a22⟩
  have F23 := fun_mk (st := s__law_pieces) l23 c23 k23
  have D23 : Df K mg "_law_pieces" s__law_pieces ["_law_one", "_law_other"] _ _ := ⟨F23, F23.binds (ps := ["_law_one", "_law_other"]) fun _ _ _ _ _ _ us hl => match us, hl with | [_, _], _ => rfl, PySem.W.mg_of X G a23⟩
  have F24 := fun_mk (st := s__law_cost) l24 c24 k24
  have D24 : Df K mg "_law_cost" s__law_cost ["_law_one", "_law_other"] _ _ := ⟨F24, F24.binds (ps := ["_law_one", "_law_other"]) fun _ _ _ _ _ _ us hl => match us, hl with | [_, _], _ => rfl, PySem.W.mg_of X G a24⟩
  have F25 := fun_mk (st := s__law_steps) l25 c25 k25
  have D25 : Df K mg "_law_steps" s__law_steps ["_law_lay_here"] _ _ := ⟨F25, F25.binds (ps := ["_law_lay_here"]) fun _ _ _ _ _ _ us hl => match us, hl with | [_], _ => rfl, PySem.W.mg_of X G a25⟩
  have F26 := fun_mk (st := s__law_after) l26 c26 k26
  have D26 : Df K mg "_law_after" s__law_after ["_law_lay_here", "_law_step_so"] _ _ := ⟨F26, F26.binds (ps := ["_law_lay_here", "_law_step_so"]) fun _ _ _ _ _ _ us hl => match us, hl with | [_, _], _ => rfl, PySem.W.mg_of X G a26⟩
  have F27 := fun_mk (st := s__law_all) l27 c27 k27
  have D27 : Df K mg "_law_all" s__law_all ["_law_links"] _ _ := ⟨F27, F27.binds (ps := ["_law_links"]) fun _ _ _ _ _ _ us hl => match us, hl with | [_], _ => rfl, PySem.W.mg_of X G a27⟩
  have F28 := fun_mk (st := s__law_far) l28 c28 k28
  have D28 : Df K mg "_law_far" s__law_far ["_law_one"] _ _ := ⟨F28, F28.binds (ps := ["_law_one"]) fun _ _ _ _ _ _ us hl => match us, hl with | [_], _ => rfl, PySem.W.mg_of X G a28⟩
  have F29 := fun_mk (st := s__law_small_right) l29 c29 k29
  have D29 : Df K mg "_law_small_right" s__law_small_right ["_law_m", "_law_links"] _ _ := ⟨F29, F29.binds (ps := ["_law_m", "_law_links"]) fun _ _ _ _ _ _ us hl => match us, hl with | [_, _], _ => rfl, PySem.W.mg_of X G a29⟩
  have F30 := fun_mk (st := s__law_great_right) l30 c30 k30
  have D30 : Df K mg "_law_great_right" s__law_great_right ["_law_m"] _ _ := ⟨F30, F30.binds (ps := ["_law_m"]) fun _ _ _ _ _ _ us hl => match us, hl with | [_], _ => rfl, PySem.W.mg_of X G a30⟩
  have F31 := fun_mk (st := s_law) l31 c31 k31
  have D31 : Df K mg "law" s_law ["_law_script"] _ _ := ⟨F31, F31.binds (ps := ["_law_script"]) fun _ _ _ _ _ _ us hl => match us, hl with | [_], _ => rfl, PySem.W.mg_of X G a31⟩
  refine ⟨PySem.W.fnOf "law" "law" (defArgs s_law) (defBody s_law) (defScope s_law) .none kV31 dc31 pm31 an31 cd31 ct31, fun s v => .of_eq rfl, fun base _ _ => ?_⟩
  have E1 := ok_is_whole (P := l.prog) (w := w) (base := base) D1 T
  have E2 := ok_is_joint (P := l.prog) (w := w) (base := base) D2 T E1
  have E3 := ok_wrong_place (P := l.prog) (w := w) (base := base) D3 T E1 E2
  have E4 := ok_need_lay (P := l.prog) (w := w) (base := base) D4 T E3
  have E5 := ok_need_two (P := l.prog) (w := w) (base := base) D5 T E4
  have E6 := ok_mates_in (P := l.prog) (w := w) (base := base) D6 T
  have E7 := ok_row_from (P := l.prog) (w := w) (base := base) D7 T
  have E8 := ok_kind_of (P := l.prog) (w := w) (base := base) D8 T E6
  have E9 := ok_rows_in (P := l.prog) (w := w) (base := base) D9 T E6 E7
  have E10 := ok_pieces_in (P := l.prog) (w := w) (base := base) D10 T E8 E9
  have E11 := ok_cost_of (P := l.prog) (w := w) (base := base) D11 T
  have E12 := ok_cost_in (P := l.prog) (w := w) (base := base) D12 T E10 E11
  have E13 := ok_least_steps (P := l.prog) (w := w) (base := base) D13 T E5 E12
  have E14 := ok_is_between (P := l.prog) (w := w) (base := base) D14 T E4 E5 E12
  have E15 := ok_begun (P := l.prog) (w := w) (base := base) D15 T
  have E16 := ok_draw (P := l.prog) (w := w) (base := base) D16 T
  have E17 := ok_of (P := l.prog) (w := w) (base := base) D17 T E16
  have E18 := ok_like (P := l.prog) (w := w) (base := base) D18 T
  have E19 := ok_lay (P := l.prog) (w := w) (base := base) D19 T E16 E17
  have E20 := ok_mates (P := l.prog) (w := w) (base := base) D20 T
  have E21 := ok_heaps (P := l.prog) (w := w) (base := base) D21 T E20
  have E22 := ok_kind (P := l.prog) (w := w) (base := base) D22 T E20
  have E23 := ok_pieces (P := l.prog) (w := w) (base := base) D23 T E22 E21
  have E24 := ok_cost (P := l.prog) (w := w) (base := base) D24 T E23
  have E25 := ok_steps (P := l.prog) (w := w) (base := base) D25 T E20
  have E26 := ok_after (P := l.prog) (w := w) (base := base) D26 T
  have E27 := ok_all (P := l.prog) (w := w) (base := base) D27 T
  have E28 := ok_far (P := l.prog) (w := w) (base := base) D28 T E25 E26
  have E29 := ok_small (P := l.prog) (w := w) (base := base) D29 T E19 E27 E28 E17 E13 E14 E18 E24
  have E30 := ok_great (P := l.prog) (w := w) (base := base) D30 T E16 E19 E13 E14 E18 E24
  exact ok_law D31 T E15 E17 E29 E30 E13 E14 E18
end
end DC
open PySem PySem.W PyProof.Rows
set_option maxRecDepth 100000 in
set_option maxHeartbeats 0 in
theorem PySem.Challenge.cw_doublecut_k11_whole_least_numbers_holds : PySem.Challenge.rw_doublecut_k11_whole_least_numbers.Holds := by
  w_on; o_law; k_head; (case hw => w_witness2)
  k_fill
  refine DC.walkG (l := PySem.Challenge.rw_doublecut_k11_whole_least_numbers) (n := 63) (k := 8) (x := "_law_script") (sp := DC.sp_law) rfl (by decide) rfl ⟨rfl, by decide, by decide⟩ (fun w h Y => PySem.W.kIn_of Y) ?F (fun _ _ a ns hl _ hS => ⟨a, ns, rfl, hS, hl, fun _ => rfl⟩)
  case F =>
    intro w mg fa h KX G hmg
    refine' DC.all_stand KX G hmg ?a1 ?l1 ?c1 ?k1 ?a2 ?l2 ?c2 ?k2 ?a3 ?l3 ?c3 ?k3 ?a4 ?l4 ?c4 ?k4 ?a5 ?l5 ?c5 ?k5 ?a6 ?l6 ?c6 ?k6 ?a7 ?l7 ?c7 ?k7 ?a8 ?l8 ?c8 ?k8 ?a9 ?l9 ?c9 ?k9 ?a10 ?l10 ?c10 ?k10 ?a11 ?l11 ?c11 ?k11 ?a12 ?l12 ?c12 ?k12 ?a13 ?l13 ?c13 ?k13 ?a14 ?l14 ?c14 ?k14 ?a15 ?l15 ?c15 ?k15 ?a16 ?l16 ?c16 ?k16 ?a17 ?l17 ?c17 ?k17 ?a18 ?l18 ?c18 ?k18 ?a19 ?l19 ?c19 ?k19 ?a20 ?l20 ?c20 ?k20 ?a21 ?l21 ?c21 ?k21 ?a22 ?l22 ?c22 ?k22 ?a23 ?l23 ?c23 ?k23 ?a24 ?l24 ?c24 ?k24 ?a25 ?l25 ?c25 ?k25 ?a26 ?l26 ?c26 ?k26 ?a27 ?l27 ?c27 ?k27 ?a28 ?l28 ?c28 ?k28 ?a29 ?l29 ?c29 ?k29 ?a30 ?l30 ?c30 ?k30 ?a31 ?l31 ?c31 ?k31 ?v1 ?v2 ?v3 ?v4 ?v5 ?z1 ?z2 ?z3 ?z4 ?z5 ?z6 ?z7 ?z8 ?z9 ?z10 ?z11 ?z12 ?z13 ?z14
    (case a1 => k_is)
    (case l1 => k_is)
    (case c1 => k_is)
    (case k1 => k_is)
    (case a2 => k_is)
    (case l2 => k_is)
    (case c2 => k_is)
    (case k2 => k_is)
    (case a3 => k_is)
    (case l3 => k_is)
    (case c3 => k_is)
    (case k3 => k_is)
    (case a4 => k_is)
    (case l4 => k_is)
    (case c4 => k_is)
    (case k4 => k_is)
    (case a5 => k_is)
    (case l5 => k_is)
    (case c5 => k_is)
    (case k5 => k_is)
    (case a6 => k_is)
    (case l6 => k_is)
    (case c6 => k_is)
    (case k6 => k_is)
    (case a7 => k_is)
    (case l7 => k_is)
    (case c7 => k_is)
    (case k7 => k_is)
    (case a8 => k_is)
    (case l8 => k_is)
    (case c8 => k_is)
    (case k8 => k_is)
    (case a9 => k_is)
    (case l9 => k_is)
    (case c9 => k_is)
    (case k9 => k_is)
    (case a10 => k_is)
    (case l10 => k_is)
    (case c10 => k_is)
    (case k10 => k_is)
    (case a11 => k_is)
    (case l11 => k_is)
    (case c11 => k_is)
    (case k11 => k_is)
    (case a12 => k_is)
    (case l12 => k_is)
    (case c12 => k_is)
    (case k12 => k_is)
    (case a13 => k_is)
    (case l13 => k_is)
    (case c13 => k_is)
    (case k13 => k_is)
    (case a14 => k_is)
    (case l14 => k_is)
    (case c14 => k_is)
    (case k14 => k_is)
    (case a15 => k_is)
    (case l15 => k_is)
    (case c15 => k_is)
    (case k15 => k_is)
    (case a16 => k_is)
    (case l16 => k_is)
    (case c16 => k_is)
    (case k16 => k_is)
    (case a17 => k_is)
    (case l17 => k_is)
    (case c17 => k_is)
    (case k17 => k_is)
    (case a18 => k_is)
    (case l18 => k_is)
    (case c18 => k_is)
    (case k18 => k_is)
    (case a19 => k_is)
    (case l19 => k_is)
    (case c19 => k_is)
    (case k19 => k_is)
    (case a20 => k_is)
    (case l20 => k_is)
    (case c20 => k_is)
    (case k20 => k_is)
    (case a21 => k_is)
    (case l21 => k_is)
    (case c21 => k_is)
    (case k21 => k_is)
    (case a22 => k_is)
    (case l22 => k_is)
    (case c22 => k_is)
    (case k22 => k_is)
    (case a23 => k_is)
    (case l23 => k_is)
    (case c23 => k_is)
    (case k23 => k_is)
    (case a24 => k_is)
    (case l24 => k_is)
    (case c24 => k_is)
    (case k24 => k_is)
    (case a25 => k_is)
    (case l25 => k_is)
    (case c25 => k_is)
    (case k25 => k_is)
    (case a26 => k_is)
    (case l26 => k_is)
    (case c26 => k_is)
    (case k26 => k_is)
    (case a27 => k_is)
    (case l27 => k_is)
    (case c27 => k_is)
    (case k27 => k_is)
    (case a28 => k_is)
    (case l28 => k_is)
    (case c28 => k_is)
    (case k28 => k_is)
    (case a29 => k_is)
    (case l29 => k_is)
    (case c29 => k_is)
    (case k29 => k_is)
    (case a30 => k_is)
    (case l30 => k_is)
    (case c30 => k_is)
    (case k30 => k_is)
    (case a31 => k_is)
    (case l31 => k_is)
    (case c31 => k_is)
    (case k31 => k_is)
    (case v1 => k_is)
    (case v2 => k_is)
    (case v3 => k_is)
    (case v4 => k_is)
    (case v5 => k_is)
    (case z1 => k_is)
    (case z2 => k_is)
    (case z3 => k_is)
    (case z4 => k_is)
    (case z5 => k_is)
    (case z6 => k_is)
    (case z7 => k_is)
    (case z8 => k_is)
    (case z9 => k_is)
    (case z10 => k_is)
    (case z11 => k_is)
    (case z12 => k_is)
    (case z13 => k_is)
    (case z14 => k_is)
