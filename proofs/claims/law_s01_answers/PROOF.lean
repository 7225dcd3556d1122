import PyProof.Rows.All
import Wide.All
import OpenK.AllK
import Wide.FinOn
import Open.SpecLaws
import KE.OsGo
import HandS.ForSpec
import HandS.Comp
import HandS.Iter
import HandS.Zip
import HandS.Conv
import HandS.NoneIn
import HandS.SetFor
import HandS.Wide
import HandS.WideBits
import HandS.Evl
import HandS.Defaults
import HandS.HeadHook1
import HandS.HeadHook2
import KE.HD4
import PySem.Challenge.RW_spandraw_s01_answers
section
set_option Elab.async false
set_option linter.all false
set_option maxRecDepth 100000
set_option maxHeartbeats 4000000
/-! ## 1. The base: relations between values on the heap and data; what expressions come to -/
namespace Sd
open PySem PySem.Spec PyProof.Rows L2 Evl

/-! ### the values' readings by name -/
abbrev rAddI : R2 := rI0 fun i j => .int (i + j)
abbrev rSubI : R2 := rI0 fun i j => .int (i - j)
abbrev rMulI : R2 := rI CMul fun i j => .int (i * j)
abbrev rDivI : R2 := rI CDiv fun i j => .int (i / j)
abbrev rModI : R2 := rI (fun _ j => 0 < j) fun i j => .int (i % j)
abbrev rShlI : R2 := rI CShl fun i j => .int (i * 2 ^ j.toNat)
abbrev rShrI : R2 := rI (fun _ j => 0 ≤ j) fun i j => .int (i / 2 ^ j.toNat)
abbrev rLtI : R2 := rI0 fun i j => .bl (decide (i < j))
abbrev rLeI : R2 := rI0 fun i j => .bl (decide (i ≤ j))
abbrev rGtI : R2 := rI0 fun i j => .bl (decide (j < i))
abbrev rGeI : R2 := rI0 fun i j => .bl (decide (j ≤ i))
abbrev rNegI : V → Hp → VK → Prop := rU fun i => .int (-i)
def rNotN : R2 := fun x y H Q => y = .non ∧ Q (.bl (!decide (x = .non))) H
def rMin2 : List V → Hp → VK → Prop := fun xs H Q => ∃ i j, xs = [.int i, .int j] ∧ Q (.int (if j < i then j else i)) H
def rAbs : List V → Hp → VK → Prop := fun xs H Q => ∃ i, xs = [.int i] ∧ Q (.int (if i < 0 then -i else i)) H
def rInt1 : List V → Hp → VK → Prop := fun xs H Q => (∃ i, xs = [.int i] ∧ Q (.int i) H) ∨ ∃ k, xs = [.bl k] ∧ Q (.int (if k then 1 else 0)) H
def rDivmod : List V → Hp → VK → Prop := fun xs H Q => ∃ i j, xs = [.int i, .int j] ∧ CDivP i j ∧ ∀ p, H p = none → Q (.ref p) (upd H p (.tup [.int (i / j), .int (i % j)]))

theorem cmul_l {i j : Int} (h1 : -(2 ^ 64) < i) (h2 : i < 2 ^ 64) : CMul i j := .inl ⟨h1, h2⟩
theorem cmul_r {i j : Int} (h1 : -(2 ^ 64) < j) (h2 : j < 2 ^ 64) : CMul i j := .inr ⟨h1, h2⟩
theorem cdiv_ok {i j : Int} (h1 : 0 < j) (h2 : j < 1073741824) : CDiv i j := ⟨h1, h2⟩

/-! ### relations -/
abbrev Rel (a : Type) := Hp → V → a → Prop
class Mo {a : Type} (R : Rel a) : Prop where
  mo : ∀ {H H' : Hp} {v : V} {x : a}, Ex H H' → R H v x → R H' v x
theorem mo {a : Type} {R : Rel a} [Mo R] {H H' : Hp} {v : V} {x : a} (e : Ex H H') (h : R H v x) : R H' v x := Mo.mo e h
def RI : Rel Int := fun _ v i => v = .int i
def RB : Rel Bool := fun _ v b => v = .bl b
/-- just this value -/
def RV : Rel V := fun _ v x => v = x
/-- a tuple of these values -/
def RT (K : PySem.W.Frag) : Rel (List V) := fun H v xs => ∃ p, v = .ref p ∧ SqT K H p xs
/-- a tracked list of these values -/
def RLv : Rel (List V) := fun H v xs => ∃ p, v = .ref p ∧ H p = some (.lst xs)
def RIL : Rel (List Int) := fun H v ns => ∃ p, v = .ref p ∧ H p = some (.lst (ns.map V.int))
def All2 {a b : Type} (R : a → b → Prop) (l : List a) (m : List b) : Prop := l.length = m.length ∧ ∀ (i : Nat) x y, l[i]? = some x → m[i]? = some y → R x y
/-- a tracked list of things, its address of a kind -/
def RLn {a : Type} (A : Addr → Prop) (R : Rel a) : Rel (List a) := fun H v xs => ∃ p vs, v = .ref p ∧ A p ∧ H p = some (.lst vs) ∧ All2 (R H) vs xs
abbrev AnyA : Addr → Prop := fun _ => True
abbrev RL {a : Type} (R : Rel a) : Rel (List a) := RLn AnyA R
instance : Mo RI := ⟨fun _ h => h⟩
instance : Mo RB := ⟨fun _ h => h⟩
instance : Mo RV := ⟨fun _ h => h⟩
instance {K : PySem.W.Frag} : Mo (RT K) := ⟨fun e ⟨p, h1, h2⟩ => ⟨p, h1, ex_t e h2⟩⟩
instance : Mo RLv := ⟨fun e ⟨p, h1, h2⟩ => ⟨p, h1, e _ _ h2⟩⟩
instance : Mo RIL := ⟨fun e ⟨p, h1, h2⟩ => ⟨p, h1, e _ _ h2⟩⟩
theorem All2.mono {a b : Type} {R S : a → b → Prop} {l : List a} {m : List b} (k : ∀ x y, R x y → S x y) (h : All2 R l m) : All2 S l m := ⟨h.1, fun i x y hx hy => k _ _ (h.2 i x y hx hy)⟩
instance {a : Type} {A : Addr → Prop} {R : Rel a} [Mo R] : Mo (RLn A R) := ⟨fun e ⟨p, vs, h1, ha, h2, h3⟩ => ⟨p, vs, h1, ha, e _ _ h2, h3.mono fun _ _ => mo e⟩⟩
theorem RLn.imp {a : Type} {A B : Addr → Prop} {R S : Rel a} {H : Hp} {v : V} {xs : List a} (h : RLn A R H v xs) (k : ∀ p, A p → B p) (l : ∀ u x, R H u x → S H u x) : RLn B S H v xs := by
  obtain ⟨p, vs, h1, ha, h2, h3⟩ := h
  exact ⟨p, vs, h1, k p ha, h2, h3.mono l⟩
theorem RLn.any {a : Type} {A : Addr → Prop} {R : Rel a} {H : Hp} {v : V} {xs : List a} (h : RLn A R H v xs) : RL R H v xs := h.imp (fun _ _ => trivial) fun _ _ h => h

/-! ### lists by place -/
theorem All2.nil {a b : Type} {R : a → b → Prop} : All2 R [] [] := ⟨rfl, fun i x y h => by simp at h⟩
theorem All2.get {a b : Type} {R : a → b → Prop} {l : List a} {m : List b} (h : All2 R l m) {i : Nat} {y : b} (hy : m[i]? = some y) : ∃ x, l[i]? = some x ∧ R x y := by
  have hi : i < m.length := (List.getElem?_eq_some_iff.mp hy).1
  have hl : i < l.length := by rw [h.1]; exact hi
  exact ⟨l[i], List.getElem?_eq_getElem hl, h.2 i _ _ (List.getElem?_eq_getElem hl) hy⟩
theorem All2.get' {a b : Type} {R : a → b → Prop} {l : List a} {m : List b} (h : All2 R l m) {i : Nat} {x : a} (hx : l[i]? = some x) : ∃ y, m[i]? = some y ∧ R x y := by
  have hi : i < l.length := (List.getElem?_eq_some_iff.mp hx).1
  have hl : i < m.length := by rw [← h.1]; exact hi
  exact ⟨m[i], List.getElem?_eq_getElem hl, h.2 i _ _ hx (List.getElem?_eq_getElem hl)⟩
theorem All2.snoc {a b : Type} {R : a → b → Prop} {l : List a} {m : List b} {x : a} {y : b} (h : All2 R l m) (r : R x y) : All2 R (l ++ [x]) (m ++ [y]) := by
  refine ⟨by simp [h.1], fun i u v hu hv => ?_⟩
  by_cases hi : i < l.length
  · rw [List.getElem?_append_left hi] at hu
    rw [List.getElem?_append_left (by rw [← h.1]; exact hi)] at hv
    exact h.2 i u v hu hv
  · rw [List.getElem?_append_right (by omega)] at hu
    rw [List.getElem?_append_right (by rw [← h.1]; omega)] at hv
    have hk : i - l.length = 0 := by
      have := (List.getElem?_eq_some_iff.mp hu).1
      simp at this
      omega
    have hk2 : i - m.length = 0 := by rw [← h.1]; exact hk
    rw [hk] at hu
    rw [hk2] at hv
    simp at hu hv
    rw [← hu, ← hv]
    exact r
theorem All2.app {a b : Type} {R : a → b → Prop} {l l' : List a} {m m' : List b} (h : All2 R l m) (h' : All2 R l' m') : All2 R (l ++ l') (m ++ m') := by
  refine ⟨by simp [h.1, h'.1], fun i u v hu hv => ?_⟩
  by_cases hi : i < l.length
  · rw [List.getElem?_append_left hi] at hu
    rw [List.getElem?_append_left (by rw [← h.1]; exact hi)] at hv
    exact h.2 i u v hu hv
  · rw [List.getElem?_append_right (by omega)] at hu
    rw [List.getElem?_append_right (by rw [← h.1]; omega), ← h.1] at hv
    exact h'.2 _ u v hu hv
theorem All2.put {a b : Type} {R : a → b → Prop} {l : List a} {m : List b} {x : a} {y : b} (j : Nat) (h : All2 R l m) (r : R x y) : All2 R (l.set j x) (m.set j y) := by
  refine ⟨by simp [h.1], fun i u v hu hv => ?_⟩
  by_cases hi : j = i
  · subst hi
    have h1 : j < l.length := by
      have := (List.getElem?_eq_some_iff.mp hu).1
      simpa using this
    rw [List.getElem?_set_self h1] at hu
    rw [List.getElem?_set_self (by rw [← h.1]; exact h1)] at hv
    cases hu
    cases hv
    exact r
  · rw [List.getElem?_set_ne hi] at hu hv
    exact h.2 i u v hu hv
theorem All2.ofMap {a b : Type} {R : a → b → Prop} {g : b → a} (l : List b) (h : ∀ x ∈ l, R (g x) x) : All2 R (l.map g) l := by
  refine ⟨by simp, fun i u v hu hv => ?_⟩
  rw [List.getElem?_map, hv] at hu
  cases hu
  exact h v (List.mem_of_getElem? hv)
theorem ints_of {vs : List V} {ns : List Int} {H : Hp} (h : All2 (RI H) vs ns) : vs = ns.map V.int := by
  refine List.ext_getElem? fun i => ?_
  rw [List.getElem?_map]
  cases e : ns[i]? with
  | none =>
    have hl : ns.length ≤ i := List.getElem?_eq_none_iff.mp e
    exact List.getElem?_eq_none_iff.mpr (by rw [h.1]; exact hl)
  | some n =>
    obtain ⟨x, hx, r⟩ := h.get e
    rw [hx]
    exact congrArg some r
theorem rl_ints {H : Hp} {v : V} {ns : List Int} (h : RL RI H v ns) : RIL H v ns := by
  obtain ⟨p, vs, h1, -, h2, h3⟩ := h
  exact ⟨p, h1, by rw [h2, ints_of h3]⟩
theorem ints_rl {H : Hp} {v : V} {ns : List Int} (h : RIL H v ns) : RL RI H v ns := by
  obtain ⟨p, h1, h2⟩ := h
  exact ⟨p, _, h1, trivial, h2, All2.ofMap _ fun _ _ => rfl⟩

/-! ### what a reading comes to -/
def EvR {a : Type} (R : Rel a) (te : TE) (s : L2.St) (H : Hp) (x : a) : Prop := ∀ H1, Ex H H1 → ∀ Q : VK, (∀ v H2, Ex H1 H2 → R H2 v x → Q v H2) → te s H1 Q
section
variable {K : PySem.W.Frag} {s : L2.St} {H H' : Hp} {ta tb tc te : TE} {t u : TT} {a : Type} {R : Rel a} {x : a} {m n : Int}
theorem EvR.mono (e : Ex H H') (h : EvR R te s H x) : EvR R te s H' x := fun H1 e1 Q q => h H1 (e.trans e1) Q q
theorem er_varI {i : Nat} (h : s[i]? = some (some (.int n))) : EvR RI (tVar i) s H n := fun H1 _ _ q => ⟨_, h, q _ H1 (Ex.refl H1) rfl⟩
theorem er_var [Mo R] {i : Nat} {v : V} (h : s[i]? = some (some v)) (r : R H v x) : EvR R (tVar i) s H x := fun H1 e _ q => ⟨v, h, q _ H1 (Ex.refl H1) (mo e r)⟩
theorem er_cI : EvR RI (tC (.int n)) s H n := fun H1 _ _ q => q _ H1 (Ex.refl H1) rfl
theorem er_c [Mo R] {v : V} (r : R H v x) : EvR R (tC v) s H x := fun H1 e _ q => q _ H1 (Ex.refl H1) (mo e r)
theorem er_op0 {g : Int → Int → Int} (ha : EvR RI ta s H m) (hb : EvR RI tb s H n) : EvR RI (tOp (rI0 fun i j => .int (g i j)) ta tb) s H (g m n) := fun H1 e Q q =>
  ha H1 e _ fun v H2 e2 r => hb H2 (e.trans e2) _ fun w H3 e3 r3 => ⟨m, n, r, r3, q _ H3 (e2.trans e3) rfl⟩
theorem er_op {C : Int → Int → Prop} {g : Int → Int → Int} (ha : EvR RI ta s H m) (hb : EvR RI tb s H n) (hc : C m n) : EvR RI (tOp (rI C fun i j => .int (g i j)) ta tb) s H (g m n) := fun H1 e Q q =>
  ha H1 e _ fun v H2 e2 r => hb H2 (e.trans e2) _ fun w H3 e3 r3 => ⟨m, n, r, r3, hc, q _ H3 (e2.trans e3) rfl⟩
theorem er_neg (ha : EvR RI ta s H m) : EvR RI (tUn rNegI ta) s H (-m) := fun H1 e Q q =>
  ha H1 e _ fun v H2 e2 r => ⟨m, r, q _ H2 e2 rfl⟩
theorem er_cmp {g : Int → Int → Bool} (ha : EvR RI ta s H m) (hb : EvR RI tb s H n) : EvR RB (tOp (rI0 fun i j => .bl (g i j)) ta tb) s H (g m n) := fun H1 e Q q =>
  ha H1 e _ fun v H2 e2 r => hb H2 (e.trans e2) _ fun w H3 e3 r3 => ⟨m, n, r, r3, q _ H3 (e2.trans e3) rfl⟩
theorem dec_i {i j : Int} : decide (V.int i = V.int j) = decide (i = j) := by
  rw [Bool.eq_iff_iff]
  simp
theorem er_eq (ha : EvR RI ta s H m) (hb : EvR RI tb s H n) : EvR RB (tOp rEq ta tb) s H (decide (m = n)) := fun H1 e Q q =>
  ha H1 e _ fun v H2 e2 r => hb H2 (e.trans e2) _ fun w H3 e3 r3 => by
    cases r
    cases r3
    exact ⟨rfl, by rw [dec_i]; exact q _ H3 (e2.trans e3) rfl⟩
theorem er_ne (ha : EvR RI ta s H m) (hb : EvR RI tb s H n) : EvR RB (tOp rNe ta tb) s H (!decide (m = n)) := fun H1 e Q q =>
  ha H1 e _ fun v H2 e2 r => hb H2 (e.trans e2) _ fun w H3 e3 r3 => by
    cases r
    cases r3
    exact ⟨rfl, by rw [dec_i]; exact q _ H3 (e2.trans e3) rfl⟩
theorem er_notN {v : V} (ha : EvR RV ta s H v) : EvR RB (tOp rNotN ta (tC .non)) s H (!decide (v = .non)) := fun H1 e Q q =>
  ha H1 e _ fun w H2 e2 r => by
    cases r
    exact ⟨rfl, q _ H2 e2 rfl⟩
theorem er_chain {g g' : Int → Int → Bool} {k : Int} (ha : EvR RI ta s H m) (hb : EvR RI tb s H n) (hc : EvR RI tc s H k) : EvR RB (tChain (rI0 fun i j => .bl (g i j)) (rI0 fun i j => .bl (g' i j)) ta tb tc) s H (g m n && g' n k) := fun H1 e Q q =>
  ha H1 e _ fun v H2 e2 r => hb H2 (e.trans e2) _ fun w H3 e3 r3 => ⟨m, n, r, r3, g m n, rfl, by
    cases hg : g m n with
    | true =>
      show tc s H3 _
      exact hc H3 ((e.trans e2).trans e3) _ fun z H4 e4 r4 => ⟨n, k, r3, r4, q _ H4 ((e2.trans e3).trans e4) (by rw [hg]; rfl)⟩
    | false =>
      show Q (.bl false) H3
      exact q _ H3 (e2.trans e3) (by rw [hg]; rfl)⟩
theorem er_and {p q : Bool} (h1 : EvR RB ta s H p) (h2 : p = true → EvR RB tb s H q) : EvR RB (tAndV ta tb) s H (p && q) := fun H1 e Q k => h1 H1 e _ fun v H2 e2 r => ⟨p, r, by
  cases p with
  | true =>
    show tb s H2 Q
    exact h2 rfl H2 (e.trans e2) Q fun w H3 e3 r3 => k w H3 (e2.trans e3) r3
  | false =>
    show Q (.bl false) H2
    exact k _ H2 e2 rfl⟩
theorem er_or {p q : Bool} (h1 : EvR RB ta s H p) (h2 : p = false → EvR RB tb s H q) : EvR RB (tOrV ta tb) s H (p || q) := fun H1 e Q k => h1 H1 e _ fun v H2 e2 r => ⟨p, r, by
  cases p with
  | true =>
    show Q (.bl true) H2
    exact k _ H2 e2 rfl
  | false =>
    show tb s H2 Q
    exact h2 rfl H2 (e.trans e2) Q fun w H3 e3 r3 => k w H3 (e2.trans e3) r3⟩
theorem er_andU {p q : Bool} (h1 : EvR RB ta s H p) (h2 : EvR RB tb s H q) : EvR RB (tAndV ta tb) s H (p && q) := er_and h1 fun _ => h2
theorem er_orU {p q : Bool} (h1 : EvR RB ta s H p) (h2 : EvR RB tb s H q) : EvR RB (tOrV ta tb) s H (p || q) := er_or h1 fun _ => h2
theorem et_andU {p q : Bool} (h1 : EvT t s H p) (h2 : EvT u s H q) : EvT (tAnd t u) s H (p && q) := et_and h1 fun _ => h2
theorem et_orU {p q : Bool} (h1 : EvT t s H p) (h2 : EvT u s H q) : EvT (tOr t u) s H (p || q) := et_or h1 fun _ => h2
theorem et_t {b : Bool} (h : EvR RB te s H b) : EvT (tTest te) s H b := fun H1 e _ q => h H1 e _ fun v H2 e2 r => ⟨b, r, q H2 e2⟩
theorem et_b {b : Bool} (h : EvR RB te s H b) : EvT (tB te) s H b := fun H1 e _ q => h H1 e _ fun v H2 e2 r => ⟨b, r, q H2 e2⟩
theorem er_is {y : a} (h : EvR R te s H x) (e : x = y) : EvR R te s H y := by
  rw [← e]
  exact h
theorem er_to {b : Type} {S : Rel b} {y : b} (h : EvR R te s H x) (k : ∀ H1 v, R H1 v x → S H1 v y) : EvR S te s H y := fun H1 e Q q => h H1 e Q fun v H2 e2 r => q v H2 e2 (k H2 v r)
theorem er_max (ha : EvR RI ta s H m) (hb : EvR RI tb s H n) : EvR RI (tCB rMax2 (tCons ta (tCons tb tNil))) s H (if n > m then n else m) := fun H1 e Q q =>
  ha H1 e _ fun v H2 e2 r => hb H2 (e.trans e2) _ fun w H3 e3 r3 => ⟨m, n, by rw [r, r3], q _ H3 (e2.trans e3) rfl⟩
theorem er_min (ha : EvR RI ta s H m) (hb : EvR RI tb s H n) : EvR RI (tCB rMin2 (tCons ta (tCons tb tNil))) s H (if n < m then n else m) := fun H1 e Q q =>
  ha H1 e _ fun v H2 e2 r => hb H2 (e.trans e2) _ fun w H3 e3 r3 => ⟨m, n, by rw [r, r3], q _ H3 (e2.trans e3) rfl⟩
theorem er_abs (ha : EvR RI ta s H m) : EvR RI (tCB rAbs (tCons ta tNil)) s H (if m < 0 then -m else m) := fun H1 e Q q =>
  ha H1 e _ fun v H2 e2 r => ⟨m, by rw [r], q _ H2 e2 rfl⟩
theorem er_intB {b : Bool} (ha : EvR RB ta s H b) : EvR RI (tCB rInt1 (tCons ta tNil)) s H (if b then 1 else 0) := fun H1 e Q q =>
  ha H1 e _ fun v H2 e2 r => .inr ⟨b, by rw [r], q _ H2 e2 rfl⟩
theorem er_bits (ha : EvR RI ta s H m) : EvR RI (tBits ta) s H ((Builtin.Int.intBits m : Nat) : Int) := fun H1 e Q q =>
  ha H1 e _ fun v H2 e2 r => ⟨m, r, q _ H2 e2 rfl⟩
theorem er_divmod (ha : EvR RI ta s H m) (hb : EvR RI tb s H n) (hc : CDivP m n) : EvR (RT K) (tCB rDivmod (tCons ta (tCons tb tNil))) s H [.int (m / n), .int (m % n)] := fun H1 e Q q =>
  ha H1 e _ fun v H2 e2 r => hb H2 (e.trans e2) _ fun w H3 e3 r3 => ⟨m, n, by rw [r, r3], hc, fun p hp => q _ _ ((e2.trans e3).trans (Ex.new hp)) ⟨p, rfl, st_of upd_same⟩⟩
/-! items -/
theorem erV (h : EvR RI te s H n) : EvR RV te s H (.int n) := fun H1 e Q q => h H1 e Q fun v H2 e2 r => q v H2 e2 r
theorem er_ixD {xs : List Int} (ha : EvR RIL ta s H xs) (hb : EvR RI tb s H n) (h0 : 0 ≤ n) (h1 : n < (xs.length : Int)) : EvR RI (tOp (rIxL K) ta tb) s H (xs.getD n.toNat 0) := fun H1 e Q q =>
  ha H1 e _ fun w H2 e2 ⟨p, r1, r2⟩ => hb H2 (e.trans e2) _ fun z H3 e3 r4 => by
    have hl : n.toNat < xs.length := by omega
    refine ⟨p, _, n, .int (xs.getD n.toNat 0), r1, r4, SqL.of (e3 _ _ r2), ?_, q _ H3 (e2.trans e3) rfl⟩
    have en : n = ((n.toNat : Nat) : Int) := by omega
    rw [en]
    refine atI_nat ?_
    rw [← en, List.getElem?_map, List.getElem?_eq_getElem hl, List.getD_eq_getElem?_getD, List.getElem?_eq_getElem hl]
    rfl
theorem er_ixT {xs : List V} {v : V} (ha : EvR (RT K) ta s H xs) (hb : EvR RI tb s H n) (h : atI xs n = some v) : EvR RV (tOp (rIxT K) ta tb) s H v := fun H1 e Q q =>
  ha H1 e _ fun w H2 e2 ⟨p, r1, r2⟩ => hb H2 (e.trans e2) _ fun z H3 e3 r3 => ⟨p, xs, n, v, r1, r3, ex_t e3 r2, h, q _ H3 (e2.trans e3) rfl⟩
theorem er_ixL [Mo R] {A : Addr → Prop} {xs : List a} {j : Nat} (ha : EvR (RLn A R) ta s H xs) (hb : EvR RI tb s H n) (hj : n = (j : Int)) (h : xs[j]? = some x) : EvR R (tOp (rIxL K) ta tb) s H x := fun H1 e Q q =>
  ha H1 e _ fun w H2 e2 ⟨p, vs, r1, _, r2, r3⟩ => hb H2 (e.trans e2) _ fun z H3 e3 r4 => by
    obtain ⟨v, hv, rv⟩ := r3.get h
    exact ⟨p, vs, n, v, r1, r4, SqL.of (e3 _ _ r2), by rw [hj]; exact atI_nat hv, q _ H3 (e2.trans e3) (mo e3 rv)⟩
theorem er_ixI {xs : List Int} {j : Nat} {k : Int} (ha : EvR RIL ta s H xs) (hb : EvR RI tb s H n) (hj : n = (j : Int)) (h : xs[j]? = some k) : EvR RI (tOp (rIxL K) ta tb) s H k := fun H1 e Q q =>
  ha H1 e _ fun w H2 e2 ⟨p, r1, r2⟩ => hb H2 (e.trans e2) _ fun z H3 e3 r4 =>
    ⟨p, _, n, .int k, r1, r4, SqL.of (e3 _ _ r2), by rw [hj]; exact atI_nat (by rw [List.getElem?_map, h]; rfl), q _ H3 (e2.trans e3) rfl⟩
theorem er_len {A : Addr → Prop} {xs : List a} (ha : EvR (RLn A R) ta s H xs) : EvR RI (tCB (rLenS K) (tCons ta tNil)) s H (xs.length : Int) := fun H1 e Q q =>
  ha H1 e _ fun w H2 e2 ⟨p, vs, r1, _, r2, r3⟩ => ⟨p, vs, by rw [r1], .inl (SqL.of r2), by rw [r3.1]; exact q _ H2 e2 rfl⟩
theorem er_lenI {xs : List Int} (ha : EvR RIL ta s H xs) : EvR RI (tCB (rLenS K) (tCons ta tNil)) s H (xs.length : Int) := fun H1 e Q q =>
  ha H1 e _ fun w H2 e2 ⟨p, r1, r2⟩ => ⟨p, _, by rw [r1], .inl (SqL.of r2), by rw [List.length_map]; exact q _ H2 e2 rfl⟩
/-! arguments -/
def EvRs (ta : TA) (s : L2.St) (H : Hp) (P : Hp → List V → Prop) : Prop := ∀ H1, Ex H H1 → ∀ Q : List V → Hp → Prop, (∀ vs H2, Ex H1 H2 → P H2 vs → Q vs H2) → ta s H1 Q
theorem ers_nil : EvRs tNil s H (fun _ vs => vs = []) := fun H1 _ _ q => q _ H1 (Ex.refl H1) rfl
theorem ers_cons [Mo R] {tr : TA} {P : Hp → List V → Prop} (h : EvR R ta s H x) (hr : EvRs tr s H P) : EvRs (tCons ta tr) s H (fun H' vs => ∃ v r, vs = v :: r ∧ R H' v x ∧ P H' r) := fun H1 e Q q =>
  h H1 e _ fun v H2 e2 r => hr H2 (e.trans e2) _ fun vs H3 e3 p => q _ H3 (e2.trans e3) ⟨v, vs, rfl, mo e3 r, p⟩
theorem er_tup {tr : TA} {P : Hp → List V → Prop} {xs : List V} (h : EvRs tr s H P) (k : ∀ H' vs, P H' vs → vs = xs) (hl : xs.length ≤ 1000) : EvR (RT K) (tTup tr) s H xs := fun H1 e Q q =>
  h H1 e _ fun vs H2 e2 p => by
    rw [k H2 vs p]
    exact ⟨Nat.le_trans hl (by decide), fun b hb => q _ _ (e2.trans (Ex.new hb)) ⟨b, rfl, st_of upd_same⟩⟩
theorem er_lst {tr : TA} {P : Hp → List V → Prop} {xs : List a} [Mo R] (h : EvRs tr s H P) (k : ∀ H' vs, P H' vs → All2 (R H') vs xs) (hl : xs.length ≤ 1000) : EvR (RL R) (tLst tr) s H xs := fun H1 e Q q =>
  h H1 e _ fun vs H2 e2 p => by
    have z := k H2 vs p
    exact ⟨by rw [z.1]; exact Nat.le_trans hl (by decide), fun b hb => q _ _ (e2.trans (Ex.new hb)) ⟨b, vs, rfl, trivial, upd_same, z.mono fun _ _ => mo (Ex.new hb)⟩⟩
theorem er_lstI {tr : TA} {P : Hp → List V → Prop} {xs : List Int} (h : EvRs tr s H P) (k : ∀ H' vs, P H' vs → vs = xs.map V.int) (hl : xs.length ≤ 1000) : EvR RIL (tLst tr) s H xs := fun H1 e Q q =>
  h H1 e _ fun vs H2 e2 p => by
    rw [k H2 vs p]
    exact ⟨by rw [List.length_map]; exact Nat.le_trans hl (by decide), fun b hb => q _ _ (e2.trans (Ex.new hb)) ⟨b, rfl, upd_same⟩⟩
theorem er_cat {xs ys : List a} [Mo R] (ha : EvR (RL R) ta s H xs) (hb : EvR (RL R) tb s H ys) (hl : xs.length + ys.length ≤ 16777216) : EvR (RL R) (tOp rCat ta tb) s H (xs ++ ys) := fun H1 e Q q =>
  ha H1 e _ fun w H2 e2 ⟨p, vs, r1, _, r2, r3⟩ => hb H2 (e.trans e2) _ fun z H3 e3 ⟨p', vs', r1', _, r2', r3'⟩ =>
    ⟨p, p', vs, vs', r1, r1', e3 _ _ r2, r2', by rw [r3.1, r3'.1, sizeLine_eq]; exact hl, fun b hb => q _ _ ((e2.trans e3).trans (Ex.new hb)) ⟨b, _, rfl, trivial, upd_same, (r3.mono fun _ _ => mo (e3.trans (Ex.new hb))).app (r3'.mono fun _ _ => mo (Ex.new hb))⟩⟩
theorem er_catI {xs ys : List Int} (ha : EvR RIL ta s H xs) (hb : EvR RIL tb s H ys) (hl : xs.length + ys.length ≤ 16777216) : EvR RIL (tOp rCat ta tb) s H (xs ++ ys) := fun H1 e Q q =>
  ha H1 e _ fun w H2 e2 ⟨p, r1, r2⟩ => hb H2 (e.trans e2) _ fun z H3 e3 ⟨p', r1', r2'⟩ =>
    ⟨p, p', _, _, r1, r1', e3 _ _ r2, r2', by rw [List.length_map, List.length_map, sizeLine_eq]; exact hl, fun b hb => q _ _ ((e2.trans e3).trans (Ex.new hb)) ⟨b, rfl, by rw [List.map_append]; exact upd_same⟩⟩
end

/-! ### new lists -/
section
variable {K : PySem.W.Frag} {s : L2.St} {H : Hp} {ta tb te : TE} {a : Type} {R : Rel a} {n : Int}
theorem el_ints {ns : List Int} (h : EvL te s H (ns.map V.int)) : EvR RIL te s H ns := fun H1 e Q q => h H1 e Q fun p H2 _ e2 h2 => q _ H2 e2 ⟨p, rfl, h2⟩
theorem el_is {xs ys : List V} (h : EvL te s H xs) (e : xs = ys) : EvL te s H ys := by
  rw [← e]
  exact h
theorem elv {xs : List V} (h : EvL te s H xs) : EvR RLv te s H xs := fun H1 e Q q => h H1 e Q fun p H2 _ e2 h2 => q _ H2 e2 ⟨p, rfl, h2⟩
theorem el_lstI {tr : TA} {P : Hp → List V → Prop} {xs : List V} (h : EvRs tr s H P) (k : ∀ H' vs, P H' vs → vs = xs) (hl : xs.length ≤ 1000) : EvL (tLst tr) s H xs := fun H1 e Q q =>
  h H1 e _ fun vs H2 e2 p => by
    rw [k H2 vs p]
    exact ⟨Nat.le_trans hl (by decide), fun b hb => q b _ (fresh_back e2 hb) (e2.trans (Ex.new hb)) upd_same⟩
theorem el_catL {xs ys : List V} (ha : EvR RLv ta s H xs) (hb : EvR RLv tb s H ys) (hl : xs.length + ys.length ≤ 16777216) : EvL (tOp rCat ta tb) s H (xs ++ ys) := fun H1 e Q q =>
  ha H1 e _ fun w H2 e2 ⟨p, r1, r2⟩ => hb H2 (e.trans e2) _ fun z H3 e3 ⟨p', r1', r2'⟩ =>
    ⟨p, p', _, _, r1, r1', e3 _ _ r2, r2', by rw [sizeLine_eq]; exact hl, fun b hb => q b _ (fresh_back (e2.trans e3) hb) ((e2.trans e3).trans (Ex.new hb)) upd_same⟩
theorem flat_rep {xs : List V} {v : V} (h : xs = [v]) : ∀ k : Nat, (List.replicate k xs).flatten = List.replicate k v
  | 0 => rfl
  | k + 1 => by
    rw [List.replicate_succ, List.flatten_cons, flat_rep h k, h]
    rfl
/-- [v] * n -/
theorem el_rep {v : V} (ha : EvR RLv ta s H [v]) (hb : EvR RI tb s H n) (h0 : 0 ≤ n) (h1 : n ≤ 16777216) : EvL (tOp rRep ta tb) s H (List.replicate n.toNat v) := fun H1 e Q q =>
  ha H1 e _ fun w H2 e2 ⟨p, r1, r2⟩ => hb H2 (e.trans e2) _ fun z H3 e3 r4 =>
    ⟨p, n, _, r1, r4, e3 _ _ r2, by omega, by omega, by rw [sizeLine_eq]; simp; omega, fun b hb => q b _ (fresh_back (e2.trans e3) hb) ((e2.trans e3).trans (Ex.new hb)) (by rw [flat_rep rfl]; exact upd_same)⟩
/-- [e for k in range(n)], the items values -/
theorem el_lcR {j : Nat} {vs : List Nat} (f : Nat → V) (hn : EvR RI ta s H n) (h0 : 0 ≤ n) (h1 : n ≤ 40000) (hw : ∀ x, wipe ((wipe s vs).set j (some x)) vs = wipe s vs)
    (he : ∀ (i : Nat) H1, Ex H H1 → (i : Int) < n → EvR RV te ((wipe s vs).set j (some (.int (i : Int)))) H1 (f i)) : EvL (tLc (iRng1 (tCons ta tNil)) (gName j) tYes te vs) s H ((List.range n.toNat).map f) := by
  refine el_is (el_lcR1 (n := n) (fun _ => true) f (fun H1 e Q q => hn H1 e _ fun v H2 e2 r => by cases r; exact q H2 e2) ⟨h0, h1⟩ hw (fun i H1 _ _ H2 _ Q q => q H2 (Ex.refl H2)) fun i H1 e hi _ H2 e2 Q q => he i H1 e hi H2 e2 Q fun v H3 e3 r => by cases r; exact q H3 e3) ?_
  unfold given
  rw [List.filter_eq_self.mpr (by simp)]
end

/-! ### promises of defs that change nothing: by relations -/
def sp1 {a c : Type} (R1 : Rel a) (pre : a → Prop) (R : Rel c) (f : a → c) : Sp := fun vs H Q _ => ∃ v1 x, vs = [v1] ∧ R1 H v1 x ∧ pre x ∧ ∀ v H', Ex H H' → R H' v (f x) → Q v H'
def sp2 {a b c : Type} (R1 : Rel a) (R2 : Rel b) (pre : a → b → Prop) (R : Rel c) (f : a → b → c) : Sp := fun vs H Q _ => ∃ v1 v2 x y, vs = [v1, v2] ∧ R1 H v1 x ∧ R2 H v2 y ∧ pre x y ∧ ∀ v H', Ex H H' → R H' v (f x y) → Q v H'
def sp3 {a b d c : Type} (R1 : Rel a) (R2 : Rel b) (R3 : Rel d) (pre : a → b → d → Prop) (R : Rel c) (f : a → b → d → c) : Sp := fun vs H Q _ => ∃ v1 v2 v3 x y z, vs = [v1, v2, v3] ∧ R1 H v1 x ∧ R2 H v2 y ∧ R3 H v3 z ∧ pre x y z ∧ ∀ v H', Ex H H' → R H' v (f x y z) → Q v H'
def sp4 {a b d g c : Type} (R1 : Rel a) (R2 : Rel b) (R3 : Rel d) (R4 : Rel g) (pre : a → b → d → g → Prop) (R : Rel c) (f : a → b → d → g → c) : Sp := fun vs H Q _ =>
  ∃ v1 v2 v3 v4 x y z u, vs = [v1, v2, v3, v4] ∧ R1 H v1 x ∧ R2 H v2 y ∧ R3 H v3 z ∧ R4 H v4 u ∧ pre x y z u ∧ ∀ v H', Ex H H' → R H' v (f x y z u) → Q v H'
/-- .. that hand over a new list -/
def spL1 {a : Type} (R1 : Rel a) (pre : a → Prop) (f : a → List V) : Sp := fun vs H Q _ => ∃ v1 x, vs = [v1] ∧ R1 H v1 x ∧ pre x ∧ ∀ p H', H p = none → Ex H H' → H' p = some (.lst (f x)) → Q (.ref p) H'
def spL2 {a b : Type} (R1 : Rel a) (R2 : Rel b) (pre : a → b → Prop) (f : a → b → List V) : Sp := fun vs H Q _ => ∃ v1 v2 x y, vs = [v1, v2] ∧ R1 H v1 x ∧ R2 H v2 y ∧ pre x y ∧ ∀ p H', H p = none → Ex H H' → H' p = some (.lst (f x y)) → Q (.ref p) H'
def spL3 {a b d : Type} (R1 : Rel a) (R2 : Rel b) (R3 : Rel d) (pre : a → b → d → Prop) (f : a → b → d → List V) : Sp := fun vs H Q _ => ∃ v1 v2 v3 x y z, vs = [v1, v2, v3] ∧ R1 H v1 x ∧ R2 H v2 y ∧ R3 H v3 z ∧ pre x y z ∧ ∀ p H', H p = none → Ex H H' → H' p = some (.lst (f x y z)) → Q (.ref p) H'
theorem spL1_len {a : Type} {R1 : Rel a} {pre : a → Prop} {f : a → List V} : ∀ vs H Q E, spL1 R1 pre f vs H Q E → vs.length = 1 := fun vs H Q E ⟨_, _, e, _⟩ => by rw [e]; rfl
theorem spL2_len {a b : Type} {R1 : Rel a} {R2 : Rel b} {pre : a → b → Prop} {f : a → b → List V} : ∀ vs H Q E, spL2 R1 R2 pre f vs H Q E → vs.length = 2 := fun vs H Q E ⟨_, _, _, _, e, _⟩ => by rw [e]; rfl
theorem spL3_len {a b d : Type} {R1 : Rel a} {R2 : Rel b} {R3 : Rel d} {pre : a → b → d → Prop} {f : a → b → d → List V} : ∀ vs H Q E, spL3 R1 R2 R3 pre f vs H Q E → vs.length = 3 := fun vs H Q E ⟨_, _, _, _, _, _, e, _⟩ => by rw [e]; rfl
theorem sp1_len {a c : Type} {R1 : Rel a} {pre : a → Prop} {R : Rel c} {f : a → c} : ∀ vs H Q E, sp1 R1 pre R f vs H Q E → vs.length = 1 := fun vs H Q E ⟨_, _, e, _⟩ => by rw [e]; rfl
theorem sp2_len {a b c : Type} {R1 : Rel a} {R2 : Rel b} {pre : a → b → Prop} {R : Rel c} {f : a → b → c} : ∀ vs H Q E, sp2 R1 R2 pre R f vs H Q E → vs.length = 2 := fun vs H Q E ⟨_, _, _, _, e, _⟩ => by rw [e]; rfl
theorem sp3_len {a b d c : Type} {R1 : Rel a} {R2 : Rel b} {R3 : Rel d} {pre : a → b → d → Prop} {R : Rel c} {f : a → b → d → c} : ∀ vs H Q E, sp3 R1 R2 R3 pre R f vs H Q E → vs.length = 3 := fun vs H Q E ⟨_, _, _, _, _, _, e, _⟩ => by rw [e]; rfl
theorem sp4_len {a b d g c : Type} {R1 : Rel a} {R2 : Rel b} {R3 : Rel d} {R4 : Rel g} {pre : a → b → d → g → Prop} {R : Rel c} {f : a → b → d → g → c} : ∀ vs H Q E, sp4 R1 R2 R3 R4 pre R f vs H Q E → vs.length = 4 := fun vs H Q E ⟨_, _, _, _, _, _, _, _, e, _⟩ => by rw [e]; rfl
section
variable {K : PySem.W.Frag} {s : L2.St} {H : Hp} {t1 t2 t3 t4 : TE} {a b d g c : Type} {R1 : Rel a} {R2 : Rel b} {R3 : Rel d} {R4 : Rel g} {R : Rel c} {E : XK} {x : a} {y : b} {z : d} {u : g}
theorem er_call1 {pre : a → Prop} {f : a → c} (h1 : EvR R1 t1 s H x) (hp : pre x) : EvR R (tCall (sp1 R1 pre R f) [] E (tCons t1 tNil)) s H (f x) := fun H1 e Q q =>
  h1 H1 e _ fun v H2 e2 r => ⟨v, x, rfl, r, hp, fun w H3 e3 r3 => q w H3 (e2.trans e3) r3⟩
theorem er_call2 [Mo R1] {pre : a → b → Prop} {f : a → b → c} (h1 : EvR R1 t1 s H x) (h2 : EvR R2 t2 s H y) (hp : pre x y) : EvR R (tCall (sp2 R1 R2 pre R f) [] E (tCons t1 (tCons t2 tNil))) s H (f x y) := fun H1 e Q q =>
  h1 H1 e _ fun v H2 e2 r => h2 H2 (e.trans e2) _ fun v2 H3 e3 r2 => ⟨v, v2, x, y, rfl, mo e3 r, r2, hp, fun w H4 e4 r4 => q w H4 ((e2.trans e3).trans e4) r4⟩
theorem er_call3 [Mo R1] [Mo R2] {pre : a → b → d → Prop} {f : a → b → d → c} (h1 : EvR R1 t1 s H x) (h2 : EvR R2 t2 s H y) (h3 : EvR R3 t3 s H z) (hp : pre x y z) : EvR R (tCall (sp3 R1 R2 R3 pre R f) [] E (tCons t1 (tCons t2 (tCons t3 tNil)))) s H (f x y z) := fun H1 e Q q =>
  h1 H1 e _ fun v H2 e2 r => h2 H2 (e.trans e2) _ fun v2 H3 e3 r2 => h3 H3 ((e.trans e2).trans e3) _ fun v3 H4 e4 r3 => ⟨v, v2, v3, x, y, z, rfl, mo (e3.trans e4) r, mo e4 r2, r3, hp, fun w H5 e5 r5 => q w H5 (((e2.trans e3).trans e4).trans e5) r5⟩
theorem er_call4 [Mo R1] [Mo R2] [Mo R3] {pre : a → b → d → g → Prop} {f : a → b → d → g → c} (h1 : EvR R1 t1 s H x) (h2 : EvR R2 t2 s H y) (h3 : EvR R3 t3 s H z) (h4 : EvR R4 t4 s H u) (hp : pre x y z u) : EvR R (tCall (sp4 R1 R2 R3 R4 pre R f) [] E (tCons t1 (tCons t2 (tCons t3 (tCons t4 tNil))))) s H (f x y z u) := fun H1 e Q q =>
  h1 H1 e _ fun v H2 e2 r => h2 H2 (e.trans e2) _ fun v2 H3 e3 r2 => h3 H3 ((e.trans e2).trans e3) _ fun v3 H4 e4 r3 => h4 H4 (((e.trans e2).trans e3).trans e4) _ fun v4 H5 e5 r4 => ⟨v, v2, v3, v4, x, y, z, u, rfl, mo ((e3.trans e4).trans e5) r, mo (e4.trans e5) r2, mo e5 r3, r4, hp, fun w H6 e6 r6 => q w H6 ((((e2.trans e3).trans e4).trans e5).trans e6) r6⟩
end

section
variable {K : PySem.W.Frag} {s : L2.St} {H : Hp} {t1 t2 t3 t4 : TE} {a b d g c : Type} {R1 : Rel a} {R2 : Rel b} {R3 : Rel d} {R4 : Rel g} {R : Rel c} {E : XK} {x : a} {y : b} {z : d} {u : g}
theorem el_call1 {pre : a → Prop} {f : a → List V} (h1 : EvR R1 t1 s H x) (hp : pre x) : EvL (tCall (spL1 R1 pre f) [] E (tCons t1 tNil)) s H (f x) := fun H1 e Q q =>
  h1 H1 e _ fun v H2 e2 r => ⟨v, x, rfl, r, hp, fun p H3 hp e3 r3 => q p H3 (fresh_back e2 hp) (e2.trans e3) r3⟩
theorem el_call2 [Mo R1] {pre : a → b → Prop} {f : a → b → List V} (h1 : EvR R1 t1 s H x) (h2 : EvR R2 t2 s H y) (hp : pre x y) : EvL (tCall (spL2 R1 R2 pre f) [] E (tCons t1 (tCons t2 tNil))) s H (f x y) := fun H1 e Q q =>
  h1 H1 e _ fun v H2 e2 r => h2 H2 (e.trans e2) _ fun v2 H3 e3 r2 => ⟨v, v2, x, y, rfl, mo e3 r, r2, hp, fun p H4 hp e4 r4 => q p H4 (fresh_back (e2.trans e3) hp) ((e2.trans e3).trans e4) r4⟩
theorem el_call3 [Mo R1] [Mo R2] {pre : a → b → d → Prop} {f : a → b → d → List V} (h1 : EvR R1 t1 s H x) (h2 : EvR R2 t2 s H y) (h3 : EvR R3 t3 s H z) (hp : pre x y z) : EvL (tCall (spL3 R1 R2 R3 pre f) [] E (tCons t1 (tCons t2 (tCons t3 tNil)))) s H (f x y z) := fun H1 e Q q =>
  h1 H1 e _ fun v H2 e2 r => h2 H2 (e.trans e2) _ fun v2 H3 e3 r2 => h3 H3 ((e.trans e2).trans e3) _ fun v3 H4 e4 r3 => ⟨v, v2, v3, x, y, z, rfl, mo (e3.trans e4) r, mo e4 r2, r3, hp, fun p H5 hp e5 r5 => q p H5 (fresh_back ((e2.trans e3).trans e4) hp) (((e2.trans e3).trans e4).trans e5) r5⟩
end

/-! ### statements -/
section
variable {K : PySem.W.Frag} {s : L2.St} {H : Hp} {te : TE} {t : TT} {a : Type} {R : Rel a} {x : a} {n : Int} {D : Ends} {tu tw tz : TS}
theorem sr_ret (h : EvR R te s H x) (k : ∀ v H1, Ex H H1 → R H1 v x → D.rt v H1) : tRet te D s H := h H (Ex.refl H) _ fun v H1 e r => k v H1 e r
theorem qr_asg {i : Nat} (h : EvR R te s H x) (k : ∀ v H1, Ex H H1 → R H1 v x → tz D (s.set i (some v)) H1) : tSeq (tAsg te (gName i)) tz D s H := h H (Ex.refl H) _ fun v H1 e r => k v H1 e r
theorem qr_asgI {i : Nat} (h : EvR RI te s H n) (k : ∀ H1, Ex H H1 → tz D (s.set i (some (.int n))) H1) : tSeq (tAsg te (gName i)) tz D s H := h H (Ex.refl H) _ fun v H1 e r => by
  cases r
  exact k H1 e
theorem sr_asgI {i : Nat} (h : EvR RI te s H n) (k : ∀ H1, Ex H H1 → D.nx (s.set i (some (.int n))) H1) : tAsg te (gName i) D s H := h H (Ex.refl H) _ fun v H1 e r => by
  cases r
  exact k H1 e
theorem sr_asg {i : Nat} (h : EvR R te s H x) (k : ∀ v H1, Ex H H1 → R H1 v x → D.nx (s.set i (some v)) H1) : tAsg te (gName i) D s H := h H (Ex.refl H) _ fun v H1 e r => k v H1 e r
theorem qp_when {p : Prop} [Decidable p] (h : EvT t s H (decide p)) (h1 : p → ∀ H1, Ex H H1 → tu { D with nx := tz D } s H1) (h2 : ¬ p → ∀ H1, Ex H H1 → tz D s H1) : tSeq (tIfS t tu tNext) tz D s H := q_when h (fun b => h1 (of_decide_eq_true b)) fun b => h2 (of_decide_eq_false b)
/-- a, b = a tuple -/
theorem qr_tup2 {i j : Nat} {v w : V} (h : EvR (RT K) te s H [v, w]) (k : ∀ H1, Ex H H1 → tz D ((s.set i (some v)).set j (some w)) H1) : tSeq (tAsg te (gTup K 2 (gCons (gName i) (gCons (gName j) gNil)))) tz D s H := h H (Ex.refl H) _ fun z H1 e ⟨p, r1, r2⟩ =>
  ⟨p, _, r1, r2, rfl, v, _, rfl, w, _, rfl, rfl, k H1 e⟩
theorem qr_tup3 {i j l : Nat} {v w z : V} (h : EvR (RT K) te s H [v, w, z]) (k : ∀ H1, Ex H H1 → tz D (((s.set i (some v)).set j (some w)).set l (some z)) H1) : tSeq (tAsg te (gTup K 3 (gCons (gName i) (gCons (gName j) (gCons (gName l) gNil))))) tz D s H := h H (Ex.refl H) _ fun y H1 e ⟨p, r1, r2⟩ =>
  ⟨p, _, r1, r2, rfl, v, _, rfl, w, _, rfl, z, _, rfl, rfl, k H1 e⟩
end

/-! ### the defs of the text, as they stand behind the top -/
def top (i : Nat) : Stmt := PySem.Challenge.pw_spandraw_s01_answers.main.body.getD i (.Pass ⟨0, 0, 0, 0⟩)
abbrev FnAt (K : PySem.W.Frag) (x qual : Str) (st : Stmt) (f : Addr) : Prop := ∃ fd, FunD K x qual (defArgs st) (defBody st) (defScope st) [] [] f fd
/-- a def of the module keeps a promise -/
structure GF (P : Program) (w : World) (K : PySem.W.Frag) (mg : Str → Option Value) (base : Heap) (x : Str) (k : Nat) (ps : List Str) (sp : Sp) : Prop where
  ex : ∃ fd, FnOk P w K mg base CX0 k (He.ga K x) fd ps sp ∧ Binds K fd ps []
  kp : PySem.W.keepIn K (.ref (He.ga K x)) = true
  g : mg x = some (.ref (He.ga K x))
structure GM (P : Program) (w : World) (K : PySem.W.Frag) (mg : Str → Option Value) (base : Heap) (C : Addr) (m : Str) (k : Nat) (ps : List Str) (sp : Sp) : Prop where
  ex : ∃ fd, FnOk P w K mg base CX0 k (He.ma K C m) fd ps sp ∧ Binds K fd ps []
  mt : Meth K C m (He.ma K C m)
section
variable {X : Cx} {k : Nat} {C : Addr} {ps : List Str} {sp : Sp} {x m : Str} {p pos apos : Pos} {e o : Expr} {es : List Expr} {ta : TE} {t : TA}
theorem pe_gi {i : Int} (hg : Gl X x) (hm : ∃ t, X.mg x = some (.int i t)) (hd : (x == ("__debug__" : Str)) = false := by decide) : PE X (.Name x p) (tC (.int i)) := by
  obtain ⟨t, h⟩ := hm
  exact pe_glob hg h ⟨t, rfl⟩ hd
theorem pe_gf (G : GF X.prog X.w X.K X.mg X.base x k ps sp) (hr : Room k X.A) (hg : Gl X x) (ha : PA X (e :: es) t) (hdb : (x == ("__debug__" : Str)) = false := by decide) (he : starEach (e :: es) X.env = (false, eval e X.env) :: starEach es X.env := by rfl)
    (hpl : (backTo pos (starEach es X.env)).any (·.1) = false := by rfl) : PE X (.Call (.Name x p) (e :: es) [] pos) (tCall sp [] E0 t) := by
  obtain ⟨fd, F, b⟩ := G.ex
  exact pe_call F hr hg G.g G.kp b .nil pass0 ha hdb he hpl
theorem pe_gf0 (G : GF X.prog X.w X.K X.mg X.base x k ps sp) (hr : Room k X.A) (hg : Gl X x) (hdb : (x == ("__debug__" : Str)) = false := by decide) : PE X (.Call (.Name x p) [] [] pos) (tCall sp [] E0 tNil) := by
  obtain ⟨fd, F, b⟩ := G.ex
  exact pe_call0 F hr hg G.g G.kp b .nil pass0 hdb
theorem pe_gm {pl : Sem Bool} (ho : PE X o ta) (c : Cls X.K C) (G : GM X.prog X.w X.K X.mg X.base C m k ps sp) (hr : Room k X.A) (ha : PA X (e :: es) t)
    (hst : starEach (e :: es) X.env = (false, eval e X.env) :: starEach es X.env := by rfl) (hpl : (backTo pos (starEach es X.env)).any (·.1) = false := by rfl)
    (ht : eval (.Call (.Attribute o m apos) (e :: es) [] pos) X.env = (do
      let ov ← eval o X.env
      standAt apos.atName
      let (f, first) ← holding [ov] (getMethod ov m pl)
      callWith pos f first (backTo pos (starEach (e :: es) X.env)) (backToKw pos (keywordEach [] X.env))) := by rfl) : PE X (.Call (.Attribute o m apos) (e :: es) [] pos) (tMeth C m sp [] E0 ta t) := by
  obtain ⟨fd, F, b⟩ := G.ex
  exact pe_meth ho c G.mt F hr b .nil pass0 ha hst hpl ht
theorem pe_gm0 {pl : Sem Bool} (ho : PE X o ta) (c : Cls X.K C) (G : GM X.prog X.w X.K X.mg X.base C m k ps sp) (hr : Room k X.A)
    (ht : eval (.Call (.Attribute o m apos) [] [] pos) X.env = (do
      let ov ← eval o X.env
      standAt apos.atName
      let (f, first) ← holding [ov] (getMethod ov m pl)
      callWith pos f first (backTo pos (starEach [] X.env)) (backToKw pos (keywordEach [] X.env))) := by rfl) : PE X (.Call (.Attribute o m apos) [] [] pos) (tMeth C m sp [] E0 ta tNil) := by
  obtain ⟨fd, F, b⟩ := G.ex
  exact pe_meth0 ho c G.mt F hr b .nil pass0 ht
theorem pe_gk {f : Addr} (M : Mk X.K C f) (G : ∃ fd, FnOk X.prog X.w X.K X.mg X.base CX0 k f fd ps sp ∧ Binds X.K fd ps []) (hr : Room (k + 1) X.A) (hg : Gl X x) (hm : X.mg x = some (.ref C)) (ha : PA X (e :: es) t) (hdb : (x == ("__debug__" : Str)) = false := by decide)
    (he : starEach (e :: es) X.env = (false, eval e X.env) :: starEach es X.env := by rfl) (hpl : (backTo pos (starEach es X.env)).any (·.1) = false := by rfl) : PE X (.Call (.Name x p) (e :: es) [] pos) (tMake C sp [] E0 t) := by
  obtain ⟨fd, F, b⟩ := G
  exact pe_make M F hr hg hm b .nil pass0 ha hdb he hpl
end
section
variable {P : Program} {w : World} {K : PySem.W.Frag} {mg : Str → Option Value} {base : Heap} {x qual m : Str} {st : Stmt} {N ps : List Str} {k : Nat} {sp : Sp} {f C : Addr} {tt : TS}
theorem fn_keep (F : FnAt K x qual st f) (S : FnScope N ps (defScope st)) (len : ∀ vs H Q E, sp vs H Q E → vs.length = ps.length)
    (hb : ∀ (kV doc pm : Value) (an : Option Addr) (cdv ct : Value) (us : List Value), us.length = ps.length → bindArgs (PySem.W.fnOf x qual (defArgs st) (defBody st) (defScope st) .none kV doc pm an cdv ct) ⟨us, []⟩ = pure (ps.zip us))
    (der : ∀ (cdv : Value) (A : Around) (outer : List Env) (s : Shared) (H : Hp) (E : XK), Room k (A.deeper (envOfC qual (defScope st) s.heap.objs.size f cdv)) → PSs (cxOf CX0 P w K mg base N qual (defScope st) f cdv A outer s H E).nox (defBody st) tt)
    (pure_ : ∀ (vs : List V) (H : Hp) (Q : VK) (E : XK), sp vs H Q E → tt { nx := fun _ H' => Q .non H', rt := Q } (start N vs) H) :
    ∃ fd, FnOk P w K mg base CX0 (k + 1) f fd ps sp ∧ Binds K fd ps [] := by
  obtain ⟨fd, F⟩ := F
  exact ⟨fd, F.ok S len fun cdv A outer s H vs Q E hr h => ⟨tt, PSs.nox (der cdv A outer s H E hr), pure_ vs H Q E h⟩, F.bindsN hb⟩
theorem FnAt.kp (F : FnAt K x qual st f) : PySem.W.keepIn K (.ref f) = true := by
  obtain ⟨fd, F⟩ := F
  exact F.kp
end
end Sd
end

section
set_option Elab.async false
set_option linter.all false
set_option maxRecDepth 100000
set_option maxHeartbeats 4000000

/-! ## 2. The text's places, what the top leaves (printed by gen.py) -/
namespace Sd
open PySem PySem.Spec PyProof.Rows L2 Evl

abbrev s_held : Stmt := top 4
abbrev s_byte_times : Stmt := top 5
abbrev s_mean_of : Stmt := top 6
abbrev s_pixel_of : Stmt := top 7
abbrev s_number_of : Stmt := top 8
abbrev s_laid_byte : Stmt := top 9
abbrev s_laid : Stmt := top 10
abbrev s_both_times : Stmt := top 11
abbrev s_fogged : Stmt := top 12
abbrev s_is_calm : Stmt := top 22
abbrev s_single_of : Stmt := top 23
abbrev s_bits_of : Stmt := top 24
abbrev s_is_one_more : Stmt := top 25
abbrev s_near_by : Stmt := top 26
abbrev s_shifted : Stmt := top 27
abbrev s_lowered : Stmt := top 28
abbrev s_rounded : Stmt := top 29
abbrev s_signed : Stmt := top 30
abbrev s_opposite : Stmt := top 31
abbrev s_added : Stmt := top 32
abbrev s_times : Stmt := top 33
abbrev s_turned : Stmt := top 34
abbrev s_is_below : Stmt := top 35
abbrev s_products : Stmt := top 36
abbrev s_nearest : Stmt := top 37
abbrev s_points_of : Stmt := top 44
abbrev s_sides_of : Stmt := top 45
abbrev s_moved : Stmt := top 46
abbrev s_move_all : Stmt := top 47
abbrev s_fitting : Stmt := top 48
abbrev s_placed : Stmt := top 49
abbrev s_place_all : Stmt := top 50
abbrev s_lit_byte : Stmt := top 51
abbrev s_lit : Stmt := top 52
abbrev s_light_all : Stmt := top 53
abbrev s_first_matrix : Stmt := top 60
abbrev s_D_init : Stmt := inClass (top 61) 0
abbrev s_D_is_on : Stmt := inClass (top 61) 1
abbrev s_D_place : Stmt := inClass (top 61) 2
abbrev s_D_set_texture : Stmt := inClass (top 61) 3
abbrev s_D_pixel_at : Stmt := inClass (top 61) 4
abbrev s_D_grab : Stmt := inClass (top 61) 5
abbrev s_D_texel : Stmt := inClass (top 61) 6
abbrev s_D_has_texture : Stmt := inClass (top 61) 7
abbrev s_D_clear : Stmt := inClass (top 61) 8
abbrev s_D_set_fog : Stmt := inClass (top 61) 9
abbrev s_D_lay : Stmt := inClass (top 61) 10
abbrev s_D_keep_depth : Stmt := inClass (top 61) 11
abbrev s_D_depth_at : Stmt := inClass (top 61) 12
abbrev s_D_columns : Stmt := inClass (top 61) 13
abbrev s_D_rows : Stmt := inClass (top 61) 14
abbrev s_D_fill : Stmt := inClass (top 61) 15
abbrev s_D_fade : Stmt := inClass (top 61) 16
abbrev s_D_rectangle : Stmt := inClass (top 61) 17
abbrev s_D_mean_at : Stmt := inClass (top 61) 18
abbrev s_D_small : Stmt := inClass (top 61) 19
abbrev s_D_given : Stmt := inClass (top 61) 20
abbrev s_D_give : Stmt := inClass (top 61) 21
abbrev s_D_tile : Stmt := inClass (top 61) 22
abbrev s_D_apart : Stmt := inClass (top 61) 23
abbrev s_D_draw_sprite : Stmt := inClass (top 61) 24
abbrev s_upper_of : Stmt := top 80
abbrev s_byte_of : Stmt := top 81
abbrev s_colour_at : Stmt := top 82
abbrev s_is_near_enough : Stmt := top 83
abbrev s_draw_place : Stmt := top 84
abbrev s_draw_span : Stmt := top 85
abbrev s_spans_of : Stmt := top 86
abbrev s_may_be_drawn : Stmt := top 87
abbrev s_are_sides : Stmt := top 101
abbrev s_texture : Stmt := top 102
abbrev s_grab : Stmt := top 103
abbrev s_clear : Stmt := top 104
abbrev s_fog : Stmt := top 105
abbrev s_spans : Stmt := top 106
abbrev s_is_sprite : Stmt := top 107
abbrev s_sprite : Stmt := top 108
abbrev s_fill : Stmt := top 109
abbrev s_fade : Stmt := top 110
abbrev s_get : Stmt := top 111
abbrev s_counted : Stmt := top 112
abbrev s_apart : Stmt := top 113
abbrev s_are_calm : Stmt := top 114
abbrev s_matrix : Stmt := top 115
abbrev s_light : Stmt := top 116
abbrev s_on_points : Stmt := top 117
abbrev s_drawn : Stmt := top 118
abbrev s_answer : Stmt := top 119
abbrev s_opened : Stmt := top 120
abbrev s_row_at : Stmt := top 121
abbrev s_answers : Stmt := top 122
theorem sc_held : FnScope ["number"] ["number"] (defScope s_held) := ⟨rfl, rfl, rfl, by decide +kernel, rfl, by decide +kernel, by decide +kernel⟩
theorem sc_byte_times : FnScope ["one", "other", "z"] ["one", "other"] (defScope s_byte_times) := ⟨rfl, rfl, rfl, by decide +kernel, rfl, by decide +kernel, by decide +kernel⟩
theorem sc_mean_of : FnScope ["one", "other"] ["one", "other"] (defScope s_mean_of) := ⟨rfl, rfl, rfl, by decide +kernel, rfl, by decide +kernel, by decide +kernel⟩
theorem sc_pixel_of : FnScope ["colour", "k"] ["colour"] (defScope s_pixel_of) := ⟨rfl, rfl, rfl, by decide +kernel, rfl, by decide +kernel, by decide +kernel⟩
theorem sc_number_of : FnScope ["pixel"] ["pixel"] (defScope s_number_of) := ⟨rfl, rfl, rfl, by decide +kernel, rfl, by decide +kernel, by decide +kernel⟩
theorem sc_laid_byte : FnScope ["how", "cover", "s", "d"] ["how", "cover", "s", "d"] (defScope s_laid_byte) := ⟨rfl, rfl, rfl, by decide +kernel, rfl, by decide +kernel, by decide +kernel⟩
theorem sc_laid : FnScope ["how", "s", "d", "k"] ["how", "s", "d"] (defScope s_laid) := ⟨rfl, rfl, rfl, by decide +kernel, rfl, by decide +kernel, by decide +kernel⟩
theorem sc_both_times : FnScope ["s", "d", "k"] ["s", "d"] (defScope s_both_times) := ⟨rfl, rfl, rfl, by decide +kernel, rfl, by decide +kernel, by decide +kernel⟩
theorem sc_fogged : FnScope ["pixel", "much", "colour", "found", "k"] ["pixel", "much", "colour"] (defScope s_fogged) := ⟨rfl, rfl, rfl, by decide +kernel, rfl, by decide +kernel, by decide +kernel⟩
theorem sc_is_calm : FnScope ["bits"] ["bits"] (defScope s_is_calm) := ⟨rfl, rfl, rfl, by decide +kernel, rfl, by decide +kernel, by decide +kernel⟩
theorem sc_single_of : FnScope ["bits", "minus", "power", "rest"] ["bits"] (defScope s_single_of) := ⟨rfl, rfl, rfl, by decide +kernel, rfl, by decide +kernel, by decide +kernel⟩
theorem sc_bits_of : FnScope ["single", "sign", "up", "size", "minus", "exponent"] ["single"] (defScope s_bits_of) := ⟨rfl, rfl, rfl, by decide +kernel, rfl, by decide +kernel, by decide +kernel⟩
theorem sc_is_one_more : FnScope ["whole", "rest", "under"] ["whole", "rest", "under"] (defScope s_is_one_more) := ⟨rfl, rfl, rfl, by decide +kernel, rfl, by decide +kernel, by decide +kernel⟩
theorem sc_near_by : FnScope ["size", "under", "whole", "rest"] ["size", "under"] (defScope s_near_by) := ⟨rfl, rfl, rfl, by decide +kernel, rfl, by decide +kernel, by decide +kernel⟩
theorem sc_shifted : FnScope ["size", "places"] ["size", "places"] (defScope s_shifted) := ⟨rfl, rfl, rfl, by decide +kernel, rfl, by decide +kernel, by decide +kernel⟩
theorem sc_lowered : FnScope ["size", "exponent"] ["size", "exponent"] (defScope s_lowered) := ⟨rfl, rfl, rfl, by decide +kernel, rfl, by decide +kernel, by decide +kernel⟩
theorem sc_rounded : FnScope ["minus", "size", "exponent", "unit", "near", "last"] ["minus", "size", "exponent"] (defScope s_rounded) := ⟨rfl, rfl, rfl, by decide +kernel, rfl, by decide +kernel, by decide +kernel⟩
theorem sc_signed : FnScope ["single", "low", "size"] ["single", "low"] (defScope s_signed) := ⟨rfl, rfl, rfl, by decide +kernel, rfl, by decide +kernel, by decide +kernel⟩
theorem sc_opposite : FnScope ["single"] ["single"] (defScope s_opposite) := ⟨rfl, rfl, rfl, by decide +kernel, rfl, by decide +kernel, by decide +kernel⟩
theorem sc_added : FnScope ["one", "other", "low", "total"] ["one", "other"] (defScope s_added) := ⟨rfl, rfl, rfl, by decide +kernel, rfl, by decide +kernel, by decide +kernel⟩
theorem sc_times : FnScope ["one", "other"] ["one", "other"] (defScope s_times) := ⟨rfl, rfl, rfl, by decide +kernel, rfl, by decide +kernel, by decide +kernel⟩
theorem sc_turned : FnScope ["one", "more", "size", "rest"] ["one"] (defScope s_turned) := ⟨rfl, rfl, rfl, by decide +kernel, rfl, by decide +kernel, by decide +kernel⟩
theorem sc_is_below : FnScope ["one", "other", "low"] ["one", "other"] (defScope s_is_below) := ⟨rfl, rfl, rfl, by decide +kernel, rfl, by decide +kernel, by decide +kernel⟩
theorem sc_products : FnScope ["row", "point", "first", "second"] ["row", "point"] (defScope s_products) := ⟨rfl, rfl, rfl, by decide +kernel, rfl, by decide +kernel, by decide +kernel⟩
theorem sc_nearest : FnScope ["single", "size"] ["single"] (defScope s_nearest) := ⟨rfl, rfl, rfl, by decide +kernel, rfl, by decide +kernel, by decide +kernel⟩
theorem sc_points_of : FnScope ["row", "singles", "bits", "at"] ["row"] (defScope s_points_of) := ⟨rfl, rfl, rfl, by decide +kernel, rfl, by decide +kernel, by decide +kernel⟩
theorem sc_sides_of : FnScope ["point", "found", "k"] ["point"] (defScope s_sides_of) := ⟨rfl, rfl, rfl, by decide +kernel, rfl, by decide +kernel, by decide +kernel⟩
theorem sc_moved : FnScope ["matrix", "point", "row"] ["matrix", "point"] (defScope s_moved) := ⟨rfl, rfl, rfl, by decide +kernel, rfl, by decide +kernel, by decide +kernel⟩
theorem sc_move_all : FnScope ["matrix", "row", "points", "sides", "bits", "point", "single"] ["matrix", "row"] (defScope s_move_all) := ⟨rfl, rfl, rfl, by decide +kernel, rfl, by decide +kernel, by decide +kernel⟩
theorem sc_fitting : FnScope ["number"] ["number"] (defScope s_fitting) := ⟨rfl, rfl, rfl, by decide +kernel, rfl, by decide +kernel, by decide +kernel⟩
theorem sc_placed : FnScope ["point", "wide", "high", "r", "a", "b", "across", "down", "depth", "x", "y", "z", "w", "one"] ["point", "wide", "high"] (defScope s_placed) := ⟨rfl, rfl, rfl, by decide +kernel, rfl, by decide +kernel, by decide +kernel⟩
theorem sc_place_all : FnScope ["row", "wide", "high", "found", "point"] ["row", "wide", "high"] (defScope s_place_all) := ⟨rfl, rfl, rfl, by decide +kernel, rfl, by decide +kernel, by decide +kernel⟩
theorem sc_lit_byte : FnScope ["single", "number"] ["single"] (defScope s_lit_byte) := ⟨rfl, rfl, rfl, by decide +kernel, rfl, by decide +kernel, by decide +kernel⟩
theorem sc_lit : FnScope ["light", "point", "much", "way", "colour", "without", "k"] ["light", "point"] (defScope s_lit) := ⟨rfl, rfl, rfl, by decide +kernel, rfl, by decide +kernel, by decide +kernel⟩
theorem sc_light_all : FnScope ["light", "row", "found", "point"] ["light", "row"] (defScope s_light_all) := ⟨rfl, rfl, rfl, by decide +kernel, rfl, by decide +kernel, by decide +kernel⟩
theorem sc_first_matrix : FnScope ["one", "row", "column"] [] (defScope s_first_matrix) := ⟨rfl, rfl, rfl, by decide +kernel, rfl, by decide +kernel, by decide +kernel⟩
theorem sc_D_init : FnScope ["self", "wide", "high", "place", "row"] ["self", "wide", "high"] (defScope s_D_init) := ⟨rfl, rfl, rfl, by decide +kernel, rfl, by decide +kernel, by decide +kernel⟩
theorem sc_D_is_on : FnScope ["self", "x", "y"] ["self", "x", "y"] (defScope s_D_is_on) := ⟨rfl, rfl, rfl, by decide +kernel, rfl, by decide +kernel, by decide +kernel⟩
theorem sc_D_place : FnScope ["self", "x", "y"] ["self", "x", "y"] (defScope s_D_place) := ⟨rfl, rfl, rfl, by decide +kernel, rfl, by decide +kernel, by decide +kernel⟩
theorem sc_D_set_texture : FnScope ["self", "k", "row", "at"] ["self", "k", "row"] (defScope s_D_set_texture) := ⟨rfl, rfl, rfl, by decide +kernel, rfl, by decide +kernel, by decide +kernel⟩
theorem sc_D_pixel_at : FnScope ["self", "x", "y"] ["self", "x", "y"] (defScope s_D_pixel_at) := ⟨rfl, rfl, rfl, by decide +kernel, rfl, by decide +kernel, by decide +kernel⟩
theorem sc_D_grab : FnScope ["self", "k", "x", "y", "found", "j", "i"] ["self", "k", "x", "y"] (defScope s_D_grab) := ⟨rfl, rfl, rfl, by decide +kernel, rfl, by decide +kernel, by decide +kernel⟩
theorem sc_D_texel : FnScope ["self", "k", "u", "v"] ["self", "k", "u", "v"] (defScope s_D_texel) := ⟨rfl, rfl, rfl, by decide +kernel, rfl, by decide +kernel, by decide +kernel⟩
theorem sc_D_has_texture : FnScope ["self", "k"] ["self", "k"] (defScope s_D_has_texture) := ⟨rfl, rfl, rfl, by decide +kernel, rfl, by decide +kernel, by decide +kernel⟩
theorem sc_D_clear : FnScope ["self", "colour", "depth", "place"] ["self", "colour", "depth"] (defScope s_D_clear) := ⟨rfl, rfl, rfl, by decide +kernel, rfl, by decide +kernel, by decide +kernel⟩
theorem sc_D_set_fog : FnScope ["self", "colour"] ["self", "colour"] (defScope s_D_set_fog) := ⟨rfl, rfl, rfl, by decide +kernel, rfl, by decide +kernel, by decide +kernel⟩
theorem sc_D_lay : FnScope ["self", "how", "x", "y", "pixel", "at"] ["self", "how", "x", "y", "pixel"] (defScope s_D_lay) := ⟨rfl, rfl, rfl, by decide +kernel, rfl, by decide +kernel, by decide +kernel⟩
theorem sc_D_keep_depth : FnScope ["self", "x", "y", "depth"] ["self", "x", "y", "depth"] (defScope s_D_keep_depth) := ⟨rfl, rfl, rfl, by decide +kernel, rfl, by decide +kernel, by decide +kernel⟩
theorem sc_D_depth_at : FnScope ["self", "x", "y"] ["self", "x", "y"] (defScope s_D_depth_at) := ⟨rfl, rfl, rfl, by decide +kernel, rfl, by decide +kernel, by decide +kernel⟩
theorem sc_D_columns : FnScope ["self", "x", "many"] ["self", "x", "many"] (defScope s_D_columns) := ⟨rfl, rfl, rfl, by decide +kernel, rfl, by decide +kernel, by decide +kernel⟩
theorem sc_D_rows : FnScope ["self", "y", "many"] ["self", "y", "many"] (defScope s_D_rows) := ⟨rfl, rfl, rfl, by decide +kernel, rfl, by decide +kernel, by decide +kernel⟩
theorem sc_D_fill : FnScope ["self", "how", "x", "y", "size", "pixel", "j", "i"] ["self", "how", "x", "y", "size", "pixel"] (defScope s_D_fill) := ⟨rfl, rfl, rfl, by decide +kernel, rfl, by decide +kernel, by decide +kernel⟩
theorem sc_D_fade : FnScope ["self", "much", "pixel", "k"] ["self", "much"] (defScope s_D_fade) := ⟨rfl, rfl, rfl, by decide +kernel, rfl, by decide +kernel, by decide +kernel⟩
theorem sc_D_rectangle : FnScope ["self", "x", "y", "wide", "high", "found", "j", "i"] ["self", "x", "y", "wide", "high"] (defScope s_D_rectangle) := ⟨rfl, rfl, rfl, by decide +kernel, rfl, by decide +kernel, by decide +kernel⟩
theorem sc_D_mean_at : FnScope ["self", "x", "y", "upper", "lower", "a", "b"] ["self", "x", "y"] (defScope s_D_mean_at) := ⟨rfl, rfl, rfl, by decide +kernel, rfl, by decide +kernel, by decide +kernel⟩
theorem sc_D_small : FnScope ["self", "found", "y", "x"] ["self"] (defScope s_D_small) := ⟨rfl, rfl, rfl, by decide +kernel, rfl, by decide +kernel, by decide +kernel⟩
theorem sc_D_given : FnScope ["self", "x", "y", "more", "high", "blue", "green", "red", "cover"] ["self", "x", "y"] (defScope s_D_given) := ⟨rfl, rfl, rfl, by decide +kernel, rfl, by decide +kernel, by decide +kernel⟩
theorem sc_D_give : FnScope ["self", "found", "y", "x"] ["self"] (defScope s_D_give) := ⟨rfl, rfl, rfl, by decide +kernel, rfl, by decide +kernel, by decide +kernel⟩
theorem sc_D_tile : FnScope ["self", "x", "y"] ["self", "x", "y"] (defScope s_D_tile) := ⟨rfl, rfl, rfl, by decide +kernel, rfl, by decide +kernel, by decide +kernel⟩
theorem sc_D_apart : FnScope ["self", "other", "found", "y", "x", "a", "b"] ["self", "other"] (defScope s_D_apart) := ⟨rfl, rfl, rfl, by decide +kernel, rfl, by decide +kernel, by decide +kernel⟩
theorem sc_D_draw_sprite : FnScope ["self", "how", "k", "corner", "size", "spot", "key", "j", "i", "pixel"] ["self", "how", "k", "corner", "size", "spot", "key"] (defScope s_D_draw_sprite) := ⟨rfl, rfl, rfl, by decide +kernel, rfl, by decide +kernel, by decide +kernel⟩
theorem sc_upper_of : FnScope ["span", "at", "place"] ["span", "at", "place"] (defScope s_upper_of) := ⟨rfl, rfl, rfl, by decide +kernel, rfl, by decide +kernel, by decide +kernel⟩
theorem sc_byte_of : FnScope ["number", "step", "place", "total"] ["number", "step", "place"] (defScope s_byte_of) := ⟨rfl, rfl, rfl, by decide +kernel, rfl, by decide +kernel, by decide +kernel⟩
theorem sc_colour_at : FnScope ["span", "place", "k"] ["span", "place"] (defScope s_colour_at) := ⟨rfl, rfl, rfl, by decide +kernel, rfl, by decide +kernel, by decide +kernel⟩
theorem sc_is_near_enough : FnScope ["how", "depth", "there", "way"] ["how", "depth", "there"] (defScope s_is_near_enough) := ⟨rfl, rfl, rfl, by decide +kernel, rfl, by decide +kernel, by decide +kernel⟩
theorem sc_draw_place : FnScope ["drawer", "how", "span", "place", "x", "depth", "pixel", "texel"] ["drawer", "how", "span", "place"] (defScope s_draw_place) := ⟨rfl, rfl, rfl, by decide +kernel, rfl, by decide +kernel, by decide +kernel⟩
theorem sc_draw_span : FnScope ["drawer", "how", "span", "place"] ["drawer", "how", "span"] (defScope s_draw_span) := ⟨rfl, rfl, rfl, by decide +kernel, rfl, by decide +kernel, by decide +kernel⟩
theorem sc_spans_of : FnScope ["row", "at"] ["row"] (defScope s_spans_of) := ⟨rfl, rfl, rfl, by decide +kernel, rfl, by decide +kernel, by decide +kernel⟩
theorem sc_may_be_drawn : FnScope ["drawer", "span"] ["drawer", "span"] (defScope s_may_be_drawn) := ⟨rfl, rfl, rfl, by decide +kernel, rfl, by decide +kernel, by decide +kernel⟩
theorem sc_are_sides : FnScope ["w", "h", "side"] ["w", "h"] (defScope s_are_sides) := ⟨rfl, rfl, rfl, by decide +kernel, rfl, by decide +kernel, by decide +kernel⟩
theorem sc_texture : FnScope ["drawer", "given", "row"] ["drawer", "given", "row"] (defScope s_texture) := ⟨rfl, rfl, rfl, by decide +kernel, rfl, by decide +kernel, by decide +kernel⟩
theorem sc_grab : FnScope ["drawer", "given"] ["drawer", "given"] (defScope s_grab) := ⟨rfl, rfl, rfl, by decide +kernel, rfl, by decide +kernel, by decide +kernel⟩
theorem sc_clear : FnScope ["drawer", "given"] ["drawer", "given"] (defScope s_clear) := ⟨rfl, rfl, rfl, by decide +kernel, rfl, by decide +kernel, by decide +kernel⟩
theorem sc_fog : FnScope ["drawer", "given"] ["drawer", "given"] (defScope s_fog) := ⟨rfl, rfl, rfl, by decide +kernel, rfl, by decide +kernel, by decide +kernel⟩
theorem sc_spans : FnScope ["drawer", "given", "row", "how", "rows", "span"] ["drawer", "given", "row"] (defScope s_spans) := ⟨rfl, rfl, rfl, by decide +kernel, rfl, by decide +kernel, by decide +kernel⟩
theorem sc_is_sprite : FnScope ["given", "o", "how", "k", "u", "v", "w", "h", "x", "y", "key"] ["given"] (defScope s_is_sprite) := ⟨rfl, rfl, rfl, by decide +kernel, rfl, by decide +kernel, by decide +kernel⟩
theorem sc_sprite : FnScope ["drawer", "given", "o", "how", "k", "u", "v", "w", "h", "x", "y", "key"] ["drawer", "given"] (defScope s_sprite) := ⟨rfl, rfl, rfl, by decide +kernel, rfl, by decide +kernel, by decide +kernel⟩
theorem sc_fill : FnScope ["drawer", "given", "o", "how", "x", "y", "w", "h", "colour"] ["drawer", "given"] (defScope s_fill) := ⟨rfl, rfl, rfl, by decide +kernel, rfl, by decide +kernel, by decide +kernel⟩
theorem sc_fade : FnScope ["drawer", "given"] ["drawer", "given"] (defScope s_fade) := ⟨rfl, rfl, rfl, by decide +kernel, rfl, by decide +kernel, by decide +kernel⟩
theorem sc_get : FnScope ["drawer", "given", "o", "x", "y", "w", "h"] ["drawer", "given"] (defScope s_get) := ⟨rfl, rfl, rfl, by decide +kernel, rfl, by decide +kernel, by decide +kernel⟩
theorem sc_counted : FnScope ["row"] ["row"] (defScope s_counted) := ⟨rfl, rfl, rfl, by decide +kernel, rfl, by decide +kernel, by decide +kernel⟩
theorem sc_apart : FnScope ["drawer", "other"] ["drawer", "other"] (defScope s_apart) := ⟨rfl, rfl, rfl, by decide +kernel, rfl, by decide +kernel, by decide +kernel⟩
theorem sc_are_calm : FnScope ["row", "bits"] ["row"] (defScope s_are_calm) := ⟨rfl, rfl, rfl, by decide +kernel, rfl, by decide +kernel, by decide +kernel⟩
theorem sc_matrix : FnScope ["drawer", "row"] ["drawer", "row"] (defScope s_matrix) := ⟨rfl, rfl, rfl, by decide +kernel, rfl, by decide +kernel, by decide +kernel⟩
theorem sc_light : FnScope ["drawer", "row"] ["drawer", "row"] (defScope s_light) := ⟨rfl, rfl, rfl, by decide +kernel, rfl, by decide +kernel, by decide +kernel⟩
theorem sc_on_points : FnScope ["drawer", "number", "given", "row"] ["drawer", "number", "given", "row"] (defScope s_on_points) := ⟨rfl, rfl, rfl, by decide +kernel, rfl, by decide +kernel, by decide +kernel⟩
theorem sc_drawn : FnScope ["drawer", "number", "given", "row"] ["drawer", "number", "given", "row"] (defScope s_drawn) := ⟨rfl, rfl, rfl, by decide +kernel, rfl, by decide +kernel, by decide +kernel⟩
theorem sc_answer : FnScope ["drawers", "number", "given", "row", "drawer"] ["drawers", "number", "given", "row"] (defScope s_answer) := ⟨rfl, rfl, rfl, by decide +kernel, rfl, by decide +kernel, by decide +kernel⟩
theorem sc_opened : FnScope ["drawers", "given"] ["drawers", "given"] (defScope s_opened) := ⟨rfl, rfl, rfl, by decide +kernel, rfl, by decide +kernel, by decide +kernel⟩
theorem sc_row_at : FnScope ["calls", "at", "row", "end", "k", "begin"] ["calls", "at"] (defScope s_row_at) := ⟨rfl, rfl, rfl, by decide +kernel, rfl, by decide +kernel, by decide +kernel⟩
theorem sc_answers : FnScope ["calls", "drawers", "found", "at", "number", "behind", "given", "row", "end", "one"] ["calls"] (defScope s_answers) := ⟨rfl, rfl, rfl, by decide +kernel, rfl, by decide +kernel, by decide +kernel⟩
/-- what the top has left -/
structure Tx (K : PySem.W.Frag) (mg : Str → Option Value) : Prop where
  i_FOUR : ∃ t, mg "FOUR" = some (.int (4) t)
  i_COVER : ∃ t, mg "COVER" = some (.int (3) t)
  i_MOST : ∃ t, mg "MOST" = some (.int (255) t)
  i_FRACTION : ∃ t, mg "FRACTION" = some (.int (23) t)
  i_DIGITS : ∃ t, mg "DIGITS" = some (.int (24) t)
  i_LOWEST_singles : ∃ t, mg "LOWEST_singles" = some (.int (-149) t)
  i_SHIFT : ∃ t, mg "SHIFT" = some (.int (150) t)
  i_SIGN_BIT : ∃ t, mg "SIGN_BIT" = some (.int (31) t)
  i_CALM : ∃ t, mg "CALM" = some (.int (1317011456) t)
  i_WHOLE_BITS : ∃ t, mg "WHOLE_BITS" = some (.int (1065353216) t)
  i_LOWEST_corners : ∃ t, mg "LOWEST_corners" = some (.int (-2147483648) t)
  i_HIGHEST : ∃ t, mg "HIGHEST" = some (.int (2147483647) t)
  i_TEXTURES : ∃ t, mg "TEXTURES" = some (.int (8) t)
  i_SIDE_drawers : ∃ t, mg "SIDE_drawers" = some (.int (64) t)
  i_FARTHEST : ∃ t, mg "FARTHEST" = some (.int (65535) t)
  i_TILE : ∃ t, mg "TILE" = some (.int (8) t)
  i_WORD : ∃ t, mg "WORD" = some (.int (4294967296) t)
  i_HALF_WORD : ∃ t, mg "HALF_WORD" = some (.int (2147483648) t)
  i_UPPER : ∃ t, mg "UPPER" = some (.int (65536) t)
  i_TWENTY : ∃ t, mg "TWENTY" = some (.int (20) t)
  i_MOST_PLACES : ∃ t, mg "MOST_PLACES" = some (.int (1024) t)
  i_MOST_TEXTURE : ∃ t, mg "MOST_TEXTURE" = some (.int (7) t)
  i_Y : ∃ t, mg "Y" = some (.int (0) t)
  i_X : ∃ t, mg "X" = some (.int (1) t)
  i_MANY : ∃ t, mg "MANY" = some (.int (2) t)
  i_DEPTH : ∃ t, mg "DEPTH" = some (.int (3) t)
  i_ACROSS : ∃ t, mg "ACROSS" = some (.int (5) t)
  i_DOWN : ∃ t, mg "DOWN" = some (.int (7) t)
  i_COLOURS : ∃ t, mg "COLOURS" = some (.int (9) t)
  i_FOG : ∃ t, mg "FOG" = some (.int (17) t)
  i_TEXTURE : ∃ t, mg "TEXTURE" = some (.int (19) t)
  i_COVERED : ∃ t, mg "COVERED" = some (.int (64) t)
  i_KEEPS : ∃ t, mg "KEEPS" = some (.int (32) t)
  i_OUT : ∃ t, mg "OUT" = some (.int (-2) t)
  i_NOT_SO : ∃ t, mg "NOT_SO" = some (.int (-3) t)
  i_DRAWERS : ∃ t, mg "DRAWERS" = some (.int (2) t)
  i_LEAST_SIDE : ∃ t, mg "LEAST_SIDE" = some (.int (8) t)
  i_MOST_SIDE : ∃ t, mg "MOST_SIDE" = some (.int (128) t)
  i_MOST_HOW : ∃ t, mg "MOST_HOW" = some (.int (127) t)
  i_MOST_WAY : ∃ t, mg "MOST_WAY" = some (.int (7) t)
  i_MOST_SPANS : ∃ t, mg "MOST_SPANS" = some (.int (64) t)
  i_MOST_SPRITE : ∃ t, mg "MOST_SPRITE" = some (.int (64) t)
  i_SIDE_desk : ∃ t, mg "SIDE_desk" = some (.int (64) t)
  i_MOST_POINTS : ∃ t, mg "MOST_POINTS" = some (.int (256) t)
  i_OPEN : ∃ t, mg "OPEN" = some (.int (0) t)
  f_abs : mg "abs" = none
  f_divmod : mg "divmod" = none
  f_int : mg "int" = none
  f_len : mg "len" = none
  f_list : mg "list" = none
  f_max : mg "max" = none
  f_min : mg "min" = none
  f_range : mg "range" = none
  f_sum : mg "sum" = none
  f_zip : mg "zip" = none
  g_NOUGHT : mg "NOUGHT" = some (.ref (He.ga K "NOUGHT"))
  g_LEAST : mg "LEAST" = some (.ref (He.ga K "LEAST"))
  g_HALF_DEPTH : mg "HALF_DEPTH" = some (.ref (He.ga K "HALF_DEPTH"))
  g_UNIT : mg "UNIT" = some (.ref (He.ga K "UNIT"))
  g_DITHER : mg "DITHER" = some (.ref (He.ga K "DITHER"))
  g_Drawer : mg "Drawer" = some (.ref (He.ga K "Drawer"))
  t_NOUGHT : ∀ H, SqT K H (He.ga K "NOUGHT") [.int (0), .int (0), .int (0)]
  t_LEAST : ∀ H, SqT K H (He.ga K "LEAST") [.int (0), .int (1), .int (-10)]
  t_HALF_DEPTH : ∀ H, SqT K H (He.ga K "HALF_DEPTH") [.int (0), .int (1), .int (15)]
  t_UNIT : ∀ H, SqT K H (He.ga K "UNIT") [.int (0), .int (1), .int (16)]
  t_DITHER : ∃ a0 a1 a2 a3 : Addr, ∀ H, SqT K H (He.ga K "DITHER") [.ref a0, .ref a1, .ref a2, .ref a3] ∧ SqT K H a0 [.int 0, .int 4, .int 1, .int 5] ∧ SqT K H a1 [.int 6, .int 2, .int 7, .int 3] ∧ SqT K H a2 [.int 1, .int 5, .int 0, .int 4] ∧ SqT K H a3 [.int 7, .int 3, .int 6, .int 2]
  cl : Cls K (He.ga K "Drawer")
  mkr : Mk K (He.ga K "Drawer") (He.ma K (He.ga K "Drawer") "__init__")
  n_wide : NoAttr K (He.ga K "Drawer") "wide"
  n_high : NoAttr K (He.ga K "Drawer") "high"
  n_pixels : NoAttr K (He.ga K "Drawer") "pixels"
  n_depths : NoAttr K (He.ga K "Drawer") "depths"
  n_textures : NoAttr K (He.ga K "Drawer") "textures"
  n_fog : NoAttr K (He.ga K "Drawer") "fog"
  n_matrix : NoAttr K (He.ga K "Drawer") "matrix"
  n_light : NoAttr K (He.ga K "Drawer") "light"
  g_held : mg "held" = some (.ref (He.ga K "held"))
  d_held : FnAt K "held" "held" s_held (He.ga K "held")
  g_byte_times : mg "byte_times" = some (.ref (He.ga K "byte_times"))
  d_byte_times : FnAt K "byte_times" "byte_times" s_byte_times (He.ga K "byte_times")
  g_mean_of : mg "mean_of" = some (.ref (He.ga K "mean_of"))
  d_mean_of : FnAt K "mean_of" "mean_of" s_mean_of (He.ga K "mean_of")
  g_pixel_of : mg "pixel_of" = some (.ref (He.ga K "pixel_of"))
  d_pixel_of : FnAt K "pixel_of" "pixel_of" s_pixel_of (He.ga K "pixel_of")
  g_number_of : mg "number_of" = some (.ref (He.ga K "number_of"))
  d_number_of : FnAt K "number_of" "number_of" s_number_of (He.ga K "number_of")
  g_laid_byte : mg "laid_byte" = some (.ref (He.ga K "laid_byte"))
  d_laid_byte : FnAt K "laid_byte" "laid_byte" s_laid_byte (He.ga K "laid_byte")
  g_laid : mg "laid" = some (.ref (He.ga K "laid"))
  d_laid : FnAt K "laid" "laid" s_laid (He.ga K "laid")
  g_both_times : mg "both_times" = some (.ref (He.ga K "both_times"))
  d_both_times : FnAt K "both_times" "both_times" s_both_times (He.ga K "both_times")
  g_fogged : mg "fogged" = some (.ref (He.ga K "fogged"))
  d_fogged : FnAt K "fogged" "fogged" s_fogged (He.ga K "fogged")
  g_is_calm : mg "is_calm" = some (.ref (He.ga K "is_calm"))
  d_is_calm : FnAt K "is_calm" "is_calm" s_is_calm (He.ga K "is_calm")
  g_single_of : mg "single_of" = some (.ref (He.ga K "single_of"))
  d_single_of : FnAt K "single_of" "single_of" s_single_of (He.ga K "single_of")
  g_bits_of : mg "bits_of" = some (.ref (He.ga K "bits_of"))
  d_bits_of : FnAt K "bits_of" "bits_of" s_bits_of (He.ga K "bits_of")
  g_is_one_more : mg "is_one_more" = some (.ref (He.ga K "is_one_more"))
  d_is_one_more : FnAt K "is_one_more" "is_one_more" s_is_one_more (He.ga K "is_one_more")
  g_near_by : mg "near_by" = some (.ref (He.ga K "near_by"))
  d_near_by : FnAt K "near_by" "near_by" s_near_by (He.ga K "near_by")
  g_shifted : mg "shifted" = some (.ref (He.ga K "shifted"))
  d_shifted : FnAt K "shifted" "shifted" s_shifted (He.ga K "shifted")
  g_lowered : mg "lowered" = some (.ref (He.ga K "lowered"))
  d_lowered : FnAt K "lowered" "lowered" s_lowered (He.ga K "lowered")
  g_rounded : mg "rounded" = some (.ref (He.ga K "rounded"))
  d_rounded : FnAt K "rounded" "rounded" s_rounded (He.ga K "rounded")
  g_signed : mg "signed" = some (.ref (He.ga K "signed"))
  d_signed : FnAt K "signed" "signed" s_signed (He.ga K "signed")
  g_opposite : mg "opposite" = some (.ref (He.ga K "opposite"))
  d_opposite : FnAt K "opposite" "opposite" s_opposite (He.ga K "opposite")
  g_added : mg "added" = some (.ref (He.ga K "added"))
  d_added : FnAt K "added" "added" s_added (He.ga K "added")
  g_times : mg "times" = some (.ref (He.ga K "times"))
  d_times : FnAt K "times" "times" s_times (He.ga K "times")
  g_turned : mg "turned" = some (.ref (He.ga K "turned"))
  d_turned : FnAt K "turned" "turned" s_turned (He.ga K "turned")
  g_is_below : mg "is_below" = some (.ref (He.ga K "is_below"))
  d_is_below : FnAt K "is_below" "is_below" s_is_below (He.ga K "is_below")
  g_products : mg "products" = some (.ref (He.ga K "products"))
  d_products : FnAt K "products" "products" s_products (He.ga K "products")
  g_nearest : mg "nearest" = some (.ref (He.ga K "nearest"))
  d_nearest : FnAt K "nearest" "nearest" s_nearest (He.ga K "nearest")
  g_points_of : mg "points_of" = some (.ref (He.ga K "points_of"))
  d_points_of : FnAt K "points_of" "points_of" s_points_of (He.ga K "points_of")
  g_sides_of : mg "sides_of" = some (.ref (He.ga K "sides_of"))
  d_sides_of : FnAt K "sides_of" "sides_of" s_sides_of (He.ga K "sides_of")
  g_moved : mg "moved" = some (.ref (He.ga K "moved"))
  d_moved : FnAt K "moved" "moved" s_moved (He.ga K "moved")
  g_move_all : mg "move_all" = some (.ref (He.ga K "move_all"))
  d_move_all : FnAt K "move_all" "move_all" s_move_all (He.ga K "move_all")
  g_fitting : mg "fitting" = some (.ref (He.ga K "fitting"))
  d_fitting : FnAt K "fitting" "fitting" s_fitting (He.ga K "fitting")
  g_placed : mg "placed" = some (.ref (He.ga K "placed"))
  d_placed : FnAt K "placed" "placed" s_placed (He.ga K "placed")
  g_place_all : mg "place_all" = some (.ref (He.ga K "place_all"))
  d_place_all : FnAt K "place_all" "place_all" s_place_all (He.ga K "place_all")
  g_lit_byte : mg "lit_byte" = some (.ref (He.ga K "lit_byte"))
  d_lit_byte : FnAt K "lit_byte" "lit_byte" s_lit_byte (He.ga K "lit_byte")
  g_lit : mg "lit" = some (.ref (He.ga K "lit"))
  d_lit : FnAt K "lit" "lit" s_lit (He.ga K "lit")
  g_light_all : mg "light_all" = some (.ref (He.ga K "light_all"))
  d_light_all : FnAt K "light_all" "light_all" s_light_all (He.ga K "light_all")
  g_first_matrix : mg "first_matrix" = some (.ref (He.ga K "first_matrix"))
  d_first_matrix : FnAt K "first_matrix" "first_matrix" s_first_matrix (He.ga K "first_matrix")
  d_D_init : FnAt K "__init__" "Drawer.__init__" s_D_init (He.ma K (He.ga K "Drawer") "__init__")
  m_D_is_on : Meth K (He.ga K "Drawer") "is_on" (He.ma K (He.ga K "Drawer") "is_on")
  d_D_is_on : FnAt K "is_on" "Drawer.is_on" s_D_is_on (He.ma K (He.ga K "Drawer") "is_on")
  m_D_place : Meth K (He.ga K "Drawer") "place" (He.ma K (He.ga K "Drawer") "place")
  d_D_place : FnAt K "place" "Drawer.place" s_D_place (He.ma K (He.ga K "Drawer") "place")
  m_D_set_texture : Meth K (He.ga K "Drawer") "set_texture" (He.ma K (He.ga K "Drawer") "set_texture")
  d_D_set_texture : FnAt K "set_texture" "Drawer.set_texture" s_D_set_texture (He.ma K (He.ga K "Drawer") "set_texture")
  m_D_pixel_at : Meth K (He.ga K "Drawer") "pixel_at" (He.ma K (He.ga K "Drawer") "pixel_at")
  d_D_pixel_at : FnAt K "pixel_at" "Drawer.pixel_at" s_D_pixel_at (He.ma K (He.ga K "Drawer") "pixel_at")
  m_D_grab : Meth K (He.ga K "Drawer") "grab" (He.ma K (He.ga K "Drawer") "grab")
  d_D_grab : FnAt K "grab" "Drawer.grab" s_D_grab (He.ma K (He.ga K "Drawer") "grab")
  m_D_texel : Meth K (He.ga K "Drawer") "texel" (He.ma K (He.ga K "Drawer") "texel")
  d_D_texel : FnAt K "texel" "Drawer.texel" s_D_texel (He.ma K (He.ga K "Drawer") "texel")
  m_D_has_texture : Meth K (He.ga K "Drawer") "has_texture" (He.ma K (He.ga K "Drawer") "has_texture")
  d_D_has_texture : FnAt K "has_texture" "Drawer.has_texture" s_D_has_texture (He.ma K (He.ga K "Drawer") "has_texture")
  m_D_clear : Meth K (He.ga K "Drawer") "clear" (He.ma K (He.ga K "Drawer") "clear")
  d_D_clear : FnAt K "clear" "Drawer.clear" s_D_clear (He.ma K (He.ga K "Drawer") "clear")
  m_D_set_fog : Meth K (He.ga K "Drawer") "set_fog" (He.ma K (He.ga K "Drawer") "set_fog")
  d_D_set_fog : FnAt K "set_fog" "Drawer.set_fog" s_D_set_fog (He.ma K (He.ga K "Drawer") "set_fog")
  m_D_lay : Meth K (He.ga K "Drawer") "lay" (He.ma K (He.ga K "Drawer") "lay")
  d_D_lay : FnAt K "lay" "Drawer.lay" s_D_lay (He.ma K (He.ga K "Drawer") "lay")
  m_D_keep_depth : Meth K (He.ga K "Drawer") "keep_depth" (He.ma K (He.ga K "Drawer") "keep_depth")
  d_D_keep_depth : FnAt K "keep_depth" "Drawer.keep_depth" s_D_keep_depth (He.ma K (He.ga K "Drawer") "keep_depth")
  m_D_depth_at : Meth K (He.ga K "Drawer") "depth_at" (He.ma K (He.ga K "Drawer") "depth_at")
  d_D_depth_at : FnAt K "depth_at" "Drawer.depth_at" s_D_depth_at (He.ma K (He.ga K "Drawer") "depth_at")
  m_D_columns : Meth K (He.ga K "Drawer") "columns" (He.ma K (He.ga K "Drawer") "columns")
  d_D_columns : FnAt K "columns" "Drawer.columns" s_D_columns (He.ma K (He.ga K "Drawer") "columns")
  m_D_rows : Meth K (He.ga K "Drawer") "rows" (He.ma K (He.ga K "Drawer") "rows")
  d_D_rows : FnAt K "rows" "Drawer.rows" s_D_rows (He.ma K (He.ga K "Drawer") "rows")
  m_D_fill : Meth K (He.ga K "Drawer") "fill" (He.ma K (He.ga K "Drawer") "fill")
  d_D_fill : FnAt K "fill" "Drawer.fill" s_D_fill (He.ma K (He.ga K "Drawer") "fill")
  m_D_fade : Meth K (He.ga K "Drawer") "fade" (He.ma K (He.ga K "Drawer") "fade")
  d_D_fade : FnAt K "fade" "Drawer.fade" s_D_fade (He.ma K (He.ga K "Drawer") "fade")
  m_D_rectangle : Meth K (He.ga K "Drawer") "rectangle" (He.ma K (He.ga K "Drawer") "rectangle")
  d_D_rectangle : FnAt K "rectangle" "Drawer.rectangle" s_D_rectangle (He.ma K (He.ga K "Drawer") "rectangle")
  m_D_mean_at : Meth K (He.ga K "Drawer") "mean_at" (He.ma K (He.ga K "Drawer") "mean_at")
  d_D_mean_at : FnAt K "mean_at" "Drawer.mean_at" s_D_mean_at (He.ma K (He.ga K "Drawer") "mean_at")
  m_D_small : Meth K (He.ga K "Drawer") "small" (He.ma K (He.ga K "Drawer") "small")
  d_D_small : FnAt K "small" "Drawer.small" s_D_small (He.ma K (He.ga K "Drawer") "small")
  m_D_given : Meth K (He.ga K "Drawer") "given" (He.ma K (He.ga K "Drawer") "given")
  d_D_given : FnAt K "given" "Drawer.given" s_D_given (He.ma K (He.ga K "Drawer") "given")
  m_D_give : Meth K (He.ga K "Drawer") "give" (He.ma K (He.ga K "Drawer") "give")
  d_D_give : FnAt K "give" "Drawer.give" s_D_give (He.ma K (He.ga K "Drawer") "give")
  m_D_tile : Meth K (He.ga K "Drawer") "tile" (He.ma K (He.ga K "Drawer") "tile")
  d_D_tile : FnAt K "tile" "Drawer.tile" s_D_tile (He.ma K (He.ga K "Drawer") "tile")
  m_D_apart : Meth K (He.ga K "Drawer") "apart" (He.ma K (He.ga K "Drawer") "apart")
  d_D_apart : FnAt K "apart" "Drawer.apart" s_D_apart (He.ma K (He.ga K "Drawer") "apart")
  m_D_draw_sprite : Meth K (He.ga K "Drawer") "draw_sprite" (He.ma K (He.ga K "Drawer") "draw_sprite")
  d_D_draw_sprite : FnAt K "draw_sprite" "Drawer.draw_sprite" s_D_draw_sprite (He.ma K (He.ga K "Drawer") "draw_sprite")
  g_upper_of : mg "upper_of" = some (.ref (He.ga K "upper_of"))
  d_upper_of : FnAt K "upper_of" "upper_of" s_upper_of (He.ga K "upper_of")
  g_byte_of : mg "byte_of" = some (.ref (He.ga K "byte_of"))
  d_byte_of : FnAt K "byte_of" "byte_of" s_byte_of (He.ga K "byte_of")
  g_colour_at : mg "colour_at" = some (.ref (He.ga K "colour_at"))
  d_colour_at : FnAt K "colour_at" "colour_at" s_colour_at (He.ga K "colour_at")
  g_is_near_enough : mg "is_near_enough" = some (.ref (He.ga K "is_near_enough"))
  d_is_near_enough : FnAt K "is_near_enough" "is_near_enough" s_is_near_enough (He.ga K "is_near_enough")
  g_draw_place : mg "draw_place" = some (.ref (He.ga K "draw_place"))
  d_draw_place : FnAt K "draw_place" "draw_place" s_draw_place (He.ga K "draw_place")
  g_draw_span : mg "draw_span" = some (.ref (He.ga K "draw_span"))
  d_draw_span : FnAt K "draw_span" "draw_span" s_draw_span (He.ga K "draw_span")
  g_spans_of : mg "spans_of" = some (.ref (He.ga K "spans_of"))
  d_spans_of : FnAt K "spans_of" "spans_of" s_spans_of (He.ga K "spans_of")
  g_may_be_drawn : mg "may_be_drawn" = some (.ref (He.ga K "may_be_drawn"))
  d_may_be_drawn : FnAt K "may_be_drawn" "may_be_drawn" s_may_be_drawn (He.ga K "may_be_drawn")
  g_are_sides : mg "are_sides" = some (.ref (He.ga K "are_sides"))
  d_are_sides : FnAt K "are_sides" "are_sides" s_are_sides (He.ga K "are_sides")
  g_texture : mg "texture" = some (.ref (He.ga K "texture"))
  d_texture : FnAt K "texture" "texture" s_texture (He.ga K "texture")
  g_grab : mg "grab" = some (.ref (He.ga K "grab"))
  d_grab : FnAt K "grab" "grab" s_grab (He.ga K "grab")
  g_clear : mg "clear" = some (.ref (He.ga K "clear"))
  d_clear : FnAt K "clear" "clear" s_clear (He.ga K "clear")
  g_fog : mg "fog" = some (.ref (He.ga K "fog"))
  d_fog : FnAt K "fog" "fog" s_fog (He.ga K "fog")
  g_spans : mg "spans" = some (.ref (He.ga K "spans"))
  d_spans : FnAt K "spans" "spans" s_spans (He.ga K "spans")
  g_is_sprite : mg "is_sprite" = some (.ref (He.ga K "is_sprite"))
  d_is_sprite : FnAt K "is_sprite" "is_sprite" s_is_sprite (He.ga K "is_sprite")
  g_sprite : mg "sprite" = some (.ref (He.ga K "sprite"))
  d_sprite : FnAt K "sprite" "sprite" s_sprite (He.ga K "sprite")
  g_fill : mg "fill" = some (.ref (He.ga K "fill"))
  d_fill : FnAt K "fill" "fill" s_fill (He.ga K "fill")
  g_fade : mg "fade" = some (.ref (He.ga K "fade"))
  d_fade : FnAt K "fade" "fade" s_fade (He.ga K "fade")
  g_get : mg "get" = some (.ref (He.ga K "get"))
  d_get : FnAt K "get" "get" s_get (He.ga K "get")
  g_counted : mg "counted" = some (.ref (He.ga K "counted"))
  d_counted : FnAt K "counted" "counted" s_counted (He.ga K "counted")
  g_apart : mg "apart" = some (.ref (He.ga K "apart"))
  d_apart : FnAt K "apart" "apart" s_apart (He.ga K "apart")
  g_are_calm : mg "are_calm" = some (.ref (He.ga K "are_calm"))
  d_are_calm : FnAt K "are_calm" "are_calm" s_are_calm (He.ga K "are_calm")
  g_matrix : mg "matrix" = some (.ref (He.ga K "matrix"))
  d_matrix : FnAt K "matrix" "matrix" s_matrix (He.ga K "matrix")
  g_light : mg "light" = some (.ref (He.ga K "light"))
  d_light : FnAt K "light" "light" s_light (He.ga K "light")
  g_on_points : mg "on_points" = some (.ref (He.ga K "on_points"))
  d_on_points : FnAt K "on_points" "on_points" s_on_points (He.ga K "on_points")
  g_drawn : mg "drawn" = some (.ref (He.ga K "drawn"))
  d_drawn : FnAt K "drawn" "drawn" s_drawn (He.ga K "drawn")
  g_answer : mg "answer" = some (.ref (He.ga K "answer"))
  d_answer : FnAt K "answer" "answer" s_answer (He.ga K "answer")
  g_opened : mg "opened" = some (.ref (He.ga K "opened"))
  d_opened : FnAt K "opened" "opened" s_opened (He.ga K "opened")
  g_row_at : mg "row_at" = some (.ref (He.ga K "row_at"))
  d_row_at : FnAt K "row_at" "row_at" s_row_at (He.ga K "row_at")
  g_answers : mg "answers" = some (.ref (He.ga K "answers"))
  d_answers : FnAt K "answers" "answers" s_answers (He.ga K "answers")
end Sd
end

section
set_option Elab.async false
set_option linter.all false
set_option maxRecDepth 100000
set_option maxHeartbeats 0

/-! ## the head (printed by gen.py) -/
namespace Sd
open PySem PySem.Spec PyProof.Rows L2 Evl

def fa0 : List He.Fa := [.int "FOUR" (4), .int "COVER" (3), .int "MOST" (255), .int "FRACTION" (23), .int "DIGITS" (24), .int "LOWEST_singles" (-149), .int "SHIFT" (150), .int "SIGN_BIT" (31), .int "CALM" (1317011456), .int "WHOLE_BITS" (1065353216), .int "LOWEST_corners" (-2147483648), .int "HIGHEST" (2147483647), .int "TEXTURES" (8), .int "SIDE_drawers" (64), .int "FARTHEST" (65535), .int "TILE" (8), .int "WORD" (4294967296), .int "HALF_WORD" (2147483648), .int "UPPER" (65536), .int "TWENTY" (20), .int "MOST_PLACES" (1024), .int "MOST_TEXTURE" (7), .int "Y" (0), .int "X" (1), .int "MANY" (2), .int "DEPTH" (3), .int "ACROSS" (5), .int "DOWN" (7), .int "COLOURS" (9), .int "FOG" (17)]
def fa1 : List He.Fa := [.int "TEXTURE" (19), .int "COVERED" (64), .int "KEEPS" (32), .int "OUT" (-2), .int "NOT_SO" (-3), .int "DRAWERS" (2), .int "LEAST_SIDE" (8), .int "MOST_SIDE" (128), .int "MOST_HOW" (127), .int "MOST_WAY" (7), .int "MOST_SPANS" (64), .int "MOST_SPRITE" (64), .int "SIDE_desk" (64), .int "MOST_POINTS" (256), .int "OPEN" (0), .free "abs", .free "divmod", .free "int", .free "len", .free "list", .free "max", .free "min", .free "range", .free "sum", .free "zip", .glo "NOUGHT", .glo "LEAST", .glo "HALF_DEPTH", .glo "UNIT", .glo "DITHER"]
def fa2 : List He.Fa := [.glo "Drawer", .cls "Drawer", .mkr "Drawer", .noat "Drawer" "wide", .noat "Drawer" "high", .noat "Drawer" "pixels", .noat "Drawer" "depths", .noat "Drawer" "textures", .noat "Drawer" "fog", .noat "Drawer" "matrix", .noat "Drawer" "light", .glo "held", .glo "byte_times", .glo "mean_of", .glo "pixel_of", .glo "number_of", .glo "laid_byte", .glo "laid", .glo "both_times", .glo "fogged", .glo "is_calm", .glo "single_of", .glo "bits_of", .glo "is_one_more", .glo "near_by", .glo "shifted", .glo "lowered", .glo "rounded", .glo "signed", .glo "opposite"]
def fa3 : List He.Fa := [.glo "added", .glo "times", .glo "turned", .glo "is_below", .glo "products", .glo "nearest", .glo "points_of", .glo "sides_of", .glo "moved", .glo "move_all", .glo "fitting", .glo "placed", .glo "place_all", .glo "lit_byte", .glo "lit", .glo "light_all", .glo "first_matrix", .meth "Drawer" "is_on", .meth "Drawer" "place", .meth "Drawer" "set_texture", .meth "Drawer" "pixel_at", .meth "Drawer" "grab", .meth "Drawer" "texel", .meth "Drawer" "has_texture", .meth "Drawer" "clear", .meth "Drawer" "set_fog", .meth "Drawer" "lay", .meth "Drawer" "keep_depth", .meth "Drawer" "depth_at", .meth "Drawer" "columns"]
def fa4 : List He.Fa := [.meth "Drawer" "rows", .meth "Drawer" "fill", .meth "Drawer" "fade", .meth "Drawer" "rectangle", .meth "Drawer" "mean_at", .meth "Drawer" "small", .meth "Drawer" "given", .meth "Drawer" "give", .meth "Drawer" "tile", .meth "Drawer" "apart", .meth "Drawer" "draw_sprite", .glo "upper_of", .glo "byte_of", .glo "colour_at", .glo "is_near_enough", .glo "draw_place", .glo "draw_span", .glo "spans_of", .glo "may_be_drawn", .glo "are_sides", .glo "texture", .glo "grab", .glo "clear", .glo "fog", .glo "spans", .glo "is_sprite", .glo "sprite", .glo "fill", .glo "fade", .glo "get"]
def fa5 : List He.Fa := [.glo "counted", .glo "apart", .glo "are_calm", .glo "matrix", .glo "light", .glo "on_points", .glo "drawn", .glo "answer", .glo "opened", .glo "row_at", .glo "answers"]
def fa : List He.Fa := fa0 ++ fa1 ++ fa2 ++ fa3 ++ fa4 ++ fa5
def dd_held : He.DefD := ⟨("held", none), "held", "held", defArgs s_held, defBody s_held, defScope s_held, [], []⟩
def dd_byte_times : He.DefD := ⟨("byte_times", none), "byte_times", "byte_times", defArgs s_byte_times, defBody s_byte_times, defScope s_byte_times, [], []⟩
def dd_mean_of : He.DefD := ⟨("mean_of", none), "mean_of", "mean_of", defArgs s_mean_of, defBody s_mean_of, defScope s_mean_of, [], []⟩
def dd_pixel_of : He.DefD := ⟨("pixel_of", none), "pixel_of", "pixel_of", defArgs s_pixel_of, defBody s_pixel_of, defScope s_pixel_of, [], []⟩
def dd_number_of : He.DefD := ⟨("number_of", none), "number_of", "number_of", defArgs s_number_of, defBody s_number_of, defScope s_number_of, [], []⟩
def dd_laid_byte : He.DefD := ⟨("laid_byte", none), "laid_byte", "laid_byte", defArgs s_laid_byte, defBody s_laid_byte, defScope s_laid_byte, [], []⟩
def dd_laid : He.DefD := ⟨("laid", none), "laid", "laid", defArgs s_laid, defBody s_laid, defScope s_laid, [], []⟩
def dd_both_times : He.DefD := ⟨("both_times", none), "both_times", "both_times", defArgs s_both_times, defBody s_both_times, defScope s_both_times, [], []⟩
def dd_fogged : He.DefD := ⟨("fogged", none), "fogged", "fogged", defArgs s_fogged, defBody s_fogged, defScope s_fogged, [], []⟩
def dd_is_calm : He.DefD := ⟨("is_calm", none), "is_calm", "is_calm", defArgs s_is_calm, defBody s_is_calm, defScope s_is_calm, [], []⟩
def dd_single_of : He.DefD := ⟨("single_of", none), "single_of", "single_of", defArgs s_single_of, defBody s_single_of, defScope s_single_of, [], []⟩
def dd_bits_of : He.DefD := ⟨("bits_of", none), "bits_of", "bits_of", defArgs s_bits_of, defBody s_bits_of, defScope s_bits_of, [], []⟩
def dd_is_one_more : He.DefD := ⟨("is_one_more", none), "is_one_more", "is_one_more", defArgs s_is_one_more, defBody s_is_one_more, defScope s_is_one_more, [], []⟩
def dd_near_by : He.DefD := ⟨("near_by", none), "near_by", "near_by", defArgs s_near_by, defBody s_near_by, defScope s_near_by, [], []⟩
def dd_shifted : He.DefD := ⟨("shifted", none), "shifted", "shifted", defArgs s_shifted, defBody s_shifted, defScope s_shifted, [], []⟩
def dd_lowered : He.DefD := ⟨("lowered", none), "lowered", "lowered", defArgs s_lowered, defBody s_lowered, defScope s_lowered, [], []⟩
def dd_rounded : He.DefD := ⟨("rounded", none), "rounded", "rounded", defArgs s_rounded, defBody s_rounded, defScope s_rounded, [], []⟩
def dd_signed : He.DefD := ⟨("signed", none), "signed", "signed", defArgs s_signed, defBody s_signed, defScope s_signed, [], []⟩
def dd_opposite : He.DefD := ⟨("opposite", none), "opposite", "opposite", defArgs s_opposite, defBody s_opposite, defScope s_opposite, [], []⟩
def dd_added : He.DefD := ⟨("added", none), "added", "added", defArgs s_added, defBody s_added, defScope s_added, [], []⟩
def dd_times : He.DefD := ⟨("times", none), "times", "times", defArgs s_times, defBody s_times, defScope s_times, [], []⟩
def dd_turned : He.DefD := ⟨("turned", none), "turned", "turned", defArgs s_turned, defBody s_turned, defScope s_turned, [], []⟩
def dd_is_below : He.DefD := ⟨("is_below", none), "is_below", "is_below", defArgs s_is_below, defBody s_is_below, defScope s_is_below, [], []⟩
def dd_products : He.DefD := ⟨("products", none), "products", "products", defArgs s_products, defBody s_products, defScope s_products, [], []⟩
def dd_nearest : He.DefD := ⟨("nearest", none), "nearest", "nearest", defArgs s_nearest, defBody s_nearest, defScope s_nearest, [], []⟩
def dd_points_of : He.DefD := ⟨("points_of", none), "points_of", "points_of", defArgs s_points_of, defBody s_points_of, defScope s_points_of, [], []⟩
def dd_sides_of : He.DefD := ⟨("sides_of", none), "sides_of", "sides_of", defArgs s_sides_of, defBody s_sides_of, defScope s_sides_of, [], []⟩
def dd_moved : He.DefD := ⟨("moved", none), "moved", "moved", defArgs s_moved, defBody s_moved, defScope s_moved, [], []⟩
def dd_move_all : He.DefD := ⟨("move_all", none), "move_all", "move_all", defArgs s_move_all, defBody s_move_all, defScope s_move_all, [], []⟩
def dd_fitting : He.DefD := ⟨("fitting", none), "fitting", "fitting", defArgs s_fitting, defBody s_fitting, defScope s_fitting, [], []⟩
def dd_placed : He.DefD := ⟨("placed", none), "placed", "placed", defArgs s_placed, defBody s_placed, defScope s_placed, [], []⟩
def dd_place_all : He.DefD := ⟨("place_all", none), "place_all", "place_all", defArgs s_place_all, defBody s_place_all, defScope s_place_all, [], []⟩
def dd_lit_byte : He.DefD := ⟨("lit_byte", none), "lit_byte", "lit_byte", defArgs s_lit_byte, defBody s_lit_byte, defScope s_lit_byte, [], []⟩
def dd_lit : He.DefD := ⟨("lit", none), "lit", "lit", defArgs s_lit, defBody s_lit, defScope s_lit, [], []⟩
def dd_light_all : He.DefD := ⟨("light_all", none), "light_all", "light_all", defArgs s_light_all, defBody s_light_all, defScope s_light_all, [], []⟩
def dd_first_matrix : He.DefD := ⟨("first_matrix", none), "first_matrix", "first_matrix", defArgs s_first_matrix, defBody s_first_matrix, defScope s_first_matrix, [], []⟩
def dd_D_init : He.DefD := ⟨("Drawer", some "__init__"), "__init__", "Drawer.__init__", defArgs s_D_init, defBody s_D_init, defScope s_D_init, [], []⟩
def dd_D_is_on : He.DefD := ⟨("Drawer", some "is_on"), "is_on", "Drawer.is_on", defArgs s_D_is_on, defBody s_D_is_on, defScope s_D_is_on, [], []⟩
def dd_D_place : He.DefD := ⟨("Drawer", some "place"), "place", "Drawer.place", defArgs s_D_place, defBody s_D_place, defScope s_D_place, [], []⟩
def dd_D_set_texture : He.DefD := ⟨("Drawer", some "set_texture"), "set_texture", "Drawer.set_texture", defArgs s_D_set_texture, defBody s_D_set_texture, defScope s_D_set_texture, [], []⟩
def dd_D_pixel_at : He.DefD := ⟨("Drawer", some "pixel_at"), "pixel_at", "Drawer.pixel_at", defArgs s_D_pixel_at, defBody s_D_pixel_at, defScope s_D_pixel_at, [], []⟩
def dd_D_grab : He.DefD := ⟨("Drawer", some "grab"), "grab", "Drawer.grab", defArgs s_D_grab, defBody s_D_grab, defScope s_D_grab, [], []⟩
def dd_D_texel : He.DefD := ⟨("Drawer", some "texel"), "texel", "Drawer.texel", defArgs s_D_texel, defBody s_D_texel, defScope s_D_texel, [], []⟩
def dd_D_has_texture : He.DefD := ⟨("Drawer", some "has_texture"), "has_texture", "Drawer.has_texture", defArgs s_D_has_texture, defBody s_D_has_texture, defScope s_D_has_texture, [], []⟩
def dd_D_clear : He.DefD := ⟨("Drawer", some "clear"), "clear", "Drawer.clear", defArgs s_D_clear, defBody s_D_clear, defScope s_D_clear, [], []⟩
def dd_D_set_fog : He.DefD := ⟨("Drawer", some "set_fog"), "set_fog", "Drawer.set_fog", defArgs s_D_set_fog, defBody s_D_set_fog, defScope s_D_set_fog, [], []⟩
def dd_D_lay : He.DefD := ⟨("Drawer", some "lay"), "lay", "Drawer.lay", defArgs s_D_lay, defBody s_D_lay, defScope s_D_lay, [], []⟩
def dd_D_keep_depth : He.DefD := ⟨("Drawer", some "keep_depth"), "keep_depth", "Drawer.keep_depth", defArgs s_D_keep_depth, defBody s_D_keep_depth, defScope s_D_keep_depth, [], []⟩
def dd_D_depth_at : He.DefD := ⟨("Drawer", some "depth_at"), "depth_at", "Drawer.depth_at", defArgs s_D_depth_at, defBody s_D_depth_at, defScope s_D_depth_at, [], []⟩
def dd_D_columns : He.DefD := ⟨("Drawer", some "columns"), "columns", "Drawer.columns", defArgs s_D_columns, defBody s_D_columns, defScope s_D_columns, [], []⟩
def dd_D_rows : He.DefD := ⟨("Drawer", some "rows"), "rows", "Drawer.rows", defArgs s_D_rows, defBody s_D_rows, defScope s_D_rows, [], []⟩
def dd_D_fill : He.DefD := ⟨("Drawer", some "fill"), "fill", "Drawer.fill", defArgs s_D_fill, defBody s_D_fill, defScope s_D_fill, [], []⟩
def dd_D_fade : He.DefD := ⟨("Drawer", some "fade"), "fade", "Drawer.fade", defArgs s_D_fade, defBody s_D_fade, defScope s_D_fade, [], []⟩
def dd_D_rectangle : He.DefD := ⟨("Drawer", some "rectangle"), "rectangle", "Drawer.rectangle", defArgs s_D_rectangle, defBody s_D_rectangle, defScope s_D_rectangle, [], []⟩
def dd_D_mean_at : He.DefD := ⟨("Drawer", some "mean_at"), "mean_at", "Drawer.mean_at", defArgs s_D_mean_at, defBody s_D_mean_at, defScope s_D_mean_at, [], []⟩
def dd_D_small : He.DefD := ⟨("Drawer", some "small"), "small", "Drawer.small", defArgs s_D_small, defBody s_D_small, defScope s_D_small, [], []⟩
def dd_D_given : He.DefD := ⟨("Drawer", some "given"), "given", "Drawer.given", defArgs s_D_given, defBody s_D_given, defScope s_D_given, [], []⟩
def dd_D_give : He.DefD := ⟨("Drawer", some "give"), "give", "Drawer.give", defArgs s_D_give, defBody s_D_give, defScope s_D_give, [], []⟩
def dd_D_tile : He.DefD := ⟨("Drawer", some "tile"), "tile", "Drawer.tile", defArgs s_D_tile, defBody s_D_tile, defScope s_D_tile, [], []⟩
def dd_D_apart : He.DefD := ⟨("Drawer", some "apart"), "apart", "Drawer.apart", defArgs s_D_apart, defBody s_D_apart, defScope s_D_apart, [], []⟩
def dd_D_draw_sprite : He.DefD := ⟨("Drawer", some "draw_sprite"), "draw_sprite", "Drawer.draw_sprite", defArgs s_D_draw_sprite, defBody s_D_draw_sprite, defScope s_D_draw_sprite, [], []⟩
def dd_upper_of : He.DefD := ⟨("upper_of", none), "upper_of", "upper_of", defArgs s_upper_of, defBody s_upper_of, defScope s_upper_of, [], []⟩
def dd_byte_of : He.DefD := ⟨("byte_of", none), "byte_of", "byte_of", defArgs s_byte_of, defBody s_byte_of, defScope s_byte_of, [], []⟩
def dd_colour_at : He.DefD := ⟨("colour_at", none), "colour_at", "colour_at", defArgs s_colour_at, defBody s_colour_at, defScope s_colour_at, [], []⟩
def dd_is_near_enough : He.DefD := ⟨("is_near_enough", none), "is_near_enough", "is_near_enough", defArgs s_is_near_enough, defBody s_is_near_enough, defScope s_is_near_enough, [], []⟩
def dd_draw_place : He.DefD := ⟨("draw_place", none), "draw_place", "draw_place", defArgs s_draw_place, defBody s_draw_place, defScope s_draw_place, [], []⟩
def dd_draw_span : He.DefD := ⟨("draw_span", none), "draw_span", "draw_span", defArgs s_draw_span, defBody s_draw_span, defScope s_draw_span, [], []⟩
def dd_spans_of : He.DefD := ⟨("spans_of", none), "spans_of", "spans_of", defArgs s_spans_of, defBody s_spans_of, defScope s_spans_of, [], []⟩
def dd_may_be_drawn : He.DefD := ⟨("may_be_drawn", none), "may_be_drawn", "may_be_drawn", defArgs s_may_be_drawn, defBody s_may_be_drawn, defScope s_may_be_drawn, [], []⟩
def dd_are_sides : He.DefD := ⟨("are_sides", none), "are_sides", "are_sides", defArgs s_are_sides, defBody s_are_sides, defScope s_are_sides, [], []⟩
def dd_texture : He.DefD := ⟨("texture", none), "texture", "texture", defArgs s_texture, defBody s_texture, defScope s_texture, [], []⟩
def dd_grab : He.DefD := ⟨("grab", none), "grab", "grab", defArgs s_grab, defBody s_grab, defScope s_grab, [], []⟩
def dd_clear : He.DefD := ⟨("clear", none), "clear", "clear", defArgs s_clear, defBody s_clear, defScope s_clear, [], []⟩
def dd_fog : He.DefD := ⟨("fog", none), "fog", "fog", defArgs s_fog, defBody s_fog, defScope s_fog, [], []⟩
def dd_spans : He.DefD := ⟨("spans", none), "spans", "spans", defArgs s_spans, defBody s_spans, defScope s_spans, [], []⟩
def dd_is_sprite : He.DefD := ⟨("is_sprite", none), "is_sprite", "is_sprite", defArgs s_is_sprite, defBody s_is_sprite, defScope s_is_sprite, [], []⟩
def dd_sprite : He.DefD := ⟨("sprite", none), "sprite", "sprite", defArgs s_sprite, defBody s_sprite, defScope s_sprite, [], []⟩
def dd_fill : He.DefD := ⟨("fill", none), "fill", "fill", defArgs s_fill, defBody s_fill, defScope s_fill, [], []⟩
def dd_fade : He.DefD := ⟨("fade", none), "fade", "fade", defArgs s_fade, defBody s_fade, defScope s_fade, [], []⟩
def dd_get : He.DefD := ⟨("get", none), "get", "get", defArgs s_get, defBody s_get, defScope s_get, [], []⟩
def dd_counted : He.DefD := ⟨("counted", none), "counted", "counted", defArgs s_counted, defBody s_counted, defScope s_counted, [], []⟩
def dd_apart : He.DefD := ⟨("apart", none), "apart", "apart", defArgs s_apart, defBody s_apart, defScope s_apart, [], []⟩
def dd_are_calm : He.DefD := ⟨("are_calm", none), "are_calm", "are_calm", defArgs s_are_calm, defBody s_are_calm, defScope s_are_calm, [], []⟩
def dd_matrix : He.DefD := ⟨("matrix", none), "matrix", "matrix", defArgs s_matrix, defBody s_matrix, defScope s_matrix, [], []⟩
def dd_light : He.DefD := ⟨("light", none), "light", "light", defArgs s_light, defBody s_light, defScope s_light, [], []⟩
def dd_on_points : He.DefD := ⟨("on_points", none), "on_points", "on_points", defArgs s_on_points, defBody s_on_points, defScope s_on_points, [], []⟩
def dd_drawn : He.DefD := ⟨("drawn", none), "drawn", "drawn", defArgs s_drawn, defBody s_drawn, defScope s_drawn, [], []⟩
def dd_answer : He.DefD := ⟨("answer", none), "answer", "answer", defArgs s_answer, defBody s_answer, defScope s_answer, [], []⟩
def dd_opened : He.DefD := ⟨("opened", none), "opened", "opened", defArgs s_opened, defBody s_opened, defScope s_opened, [], []⟩
def dd_row_at : He.DefD := ⟨("row_at", none), "row_at", "row_at", defArgs s_row_at, defBody s_row_at, defScope s_row_at, [], []⟩
def dd_answers : He.DefD := ⟨("answers", none), "answers", "answers", defArgs s_answers, defBody s_answers, defScope s_answers, [], []⟩
def fn0 : List He.DefD := [dd_held, dd_byte_times, dd_mean_of, dd_pixel_of, dd_number_of, dd_laid_byte, dd_laid, dd_both_times, dd_fogged, dd_is_calm, dd_single_of, dd_bits_of, dd_is_one_more, dd_near_by, dd_shifted, dd_lowered, dd_rounded, dd_signed, dd_opposite, dd_added, dd_times, dd_turned, dd_is_below, dd_products, dd_nearest, dd_points_of, dd_sides_of, dd_moved, dd_move_all, dd_fitting]
def fn1 : List He.DefD := [dd_placed, dd_place_all, dd_lit_byte, dd_lit, dd_light_all, dd_first_matrix, dd_D_init, dd_D_is_on, dd_D_place, dd_D_set_texture, dd_D_pixel_at, dd_D_grab, dd_D_texel, dd_D_has_texture, dd_D_clear, dd_D_set_fog, dd_D_lay, dd_D_keep_depth, dd_D_depth_at, dd_D_columns, dd_D_rows, dd_D_fill, dd_D_fade, dd_D_rectangle, dd_D_mean_at, dd_D_small, dd_D_given, dd_D_give, dd_D_tile, dd_D_apart]
def fn2 : List He.DefD := [dd_D_draw_sprite, dd_upper_of, dd_byte_of, dd_colour_at, dd_is_near_enough, dd_draw_place, dd_draw_span, dd_spans_of, dd_may_be_drawn, dd_are_sides, dd_texture, dd_grab, dd_clear, dd_fog, dd_spans, dd_is_sprite, dd_sprite, dd_fill, dd_fade, dd_get, dd_counted, dd_apart, dd_are_calm, dd_matrix, dd_light, dd_on_points, dd_drawn, dd_answer, dd_opened, dd_row_at]
def fn3 : List He.DefD := [dd_answers]
def fns : List He.DefD := fn0 ++ fn1 ++ fn2 ++ fn3
/-- the i-th item of the tuple that the name x stands for, if it is an object -/
def itAt (x : Str) (i : Nat) (K : PySem.W.Frag) : Addr := match K.lookup (He.ga K x) with
  | some ⟨_, _, .seq its _, _⟩ => (match its.toList[i]? with
    | some (.ref a) => a
    | _ => 0)
  | _ => 0
def tupA (K : PySem.W.Frag) (a : Addr) (vs : List V) : Bool := match K.lookup a with
  | some ⟨.type c, _, .seq its _, _⟩ => decide (c = "tuple") && (decide (its.size ≤ sizeLine) && He.relAll vs its.toList)
  | _ => false
theorem tupA_ok {K : PySem.W.Frag} {a : Addr} {vs : List V} (h : tupA K a vs = true) (H : Hp) : SqT K H a vs := by
  unfold tupA at h
  cases q : K.lookup a with
  | none =>
    rw [q] at h
    cases h
  | some o =>
    obtain ⟨oc, od, dt, osl⟩ := o
    rw [q] at h
    cases oc with
    | type c =>
      cases dt with
      | seq its n =>
        obtain ⟨h1, h2⟩ := He.ba (show (decide (c = "tuple") && (decide (its.size ≤ sizeLine) && He.relAll vs its.toList)) = true from h)
        obtain ⟨h3, h4⟩ := He.ba h2
        exact .inr ⟨_, its, n, q, congrArg Value.type (of_decide_eq_true h1), rfl, of_decide_eq_true h3, He.relAll_ok h4⟩
      | _ => cases h
    | _ => cases dt <;> cases h
def exs (K : PySem.W.Frag) : List Bool := [tupA K (He.ga K "NOUGHT") [.int (0), .int (0), .int (0)],
  tupA K (He.ga K "LEAST") [.int (0), .int (1), .int (-10)],
  tupA K (He.ga K "HALF_DEPTH") [.int (0), .int (1), .int (15)],
  tupA K (He.ga K "UNIT") [.int (0), .int (1), .int (16)],
  tupA K (He.ga K "DITHER") [.ref (itAt "DITHER" 0 K), .ref (itAt "DITHER" 1 K), .ref (itAt "DITHER" 2 K), .ref (itAt "DITHER" 3 K)],
  tupA K (itAt "DITHER" 0 K) [.int 0, .int 4, .int 1, .int 5],
  tupA K (itAt "DITHER" 1 K) [.int 6, .int 2, .int 7, .int 3],
  tupA K (itAt "DITHER" 2 K) [.int 1, .int 5, .int 0, .int 4],
  tupA K (itAt "DITHER" 3 K) [.int 7, .int 3, .int 6, .int 2]]
def ad0 : List Addr := [3, 6, 4, 21, 28, 35, 40, 47, 54, 59, 64, 69, 70, 77, 84, 91, 98, 105, 112, 119, 126, 133, 140, 147, 154, 161, 168, 175, 182, 183, 184, 185, 190, 197, 202, 207, 214, 219, 226, 233]
def ad1 : List Addr := [238, 245, 250, 255, 426, 437, 444, 449, 456, 463, 470, 475, 482, 489, 496, 503, 510, 517, 524, 531, 538, 545, 552, 559, 566, 573, 580, 587, 594, 601, 608, 615, 622, 629, 636, 0, 20, 27, 34, 39]
def ad2 : List Addr := [46, 53, 58, 63, 68, 76, 83, 90, 97, 104, 111, 118, 125, 132, 139, 146, 153, 160, 167, 174, 181, 189, 196, 201, 206, 213, 218, 225, 232, 237, 244, 246, 247, 248, 249, 254, 425, 436, 443, 448]
def ad3 : List Addr := [455, 462, 469, 474, 481, 488, 495, 502, 509, 516, 523, 530, 537, 544, 551, 558, 565, 572, 579, 586, 593, 600, 607, 614, 621, 628, 635, 15, 16, 17, 18, 19, 22, 23, 24, 25, 26, 29, 30, 31]
def ad4 : List Addr := [32, 33, 36, 37, 38, 41, 42, 43, 44, 45, 48, 49, 50, 51, 52, 55, 56, 57, 60, 61, 62, 65, 66, 67, 71, 72, 73, 74, 75, 78, 79, 80, 81, 82, 85, 86, 87, 88, 89, 92]
def ad5 : List Addr := [93, 94, 95, 96, 99, 100, 101, 102, 103, 106, 107, 108, 109, 110, 113, 114, 115, 116, 117, 120, 121, 122, 123, 124, 127, 128, 129, 130, 131, 134, 135, 136, 137, 138, 141, 142, 143, 144, 145, 148]
def ad6 : List Addr := [149, 150, 151, 152, 155, 156, 157, 158, 159, 162, 163, 164, 165, 166, 169, 170, 171, 172, 173, 176, 177, 178, 179, 180, 186, 187, 188, 191, 192, 193, 194, 195, 198, 199, 200, 203, 204, 205, 208, 209]
def ad7 : List Addr := [210, 211, 212, 215, 216, 217, 220, 221, 222, 223, 224, 227, 228, 229, 230, 231, 234, 235, 236, 239, 240, 241, 242, 243, 251, 252, 253, 267, 274, 281, 286, 293, 298, 305, 312, 317, 324, 331, 338, 345]
def ad8 : List Addr := [352, 359, 366, 373, 380, 385, 392, 399, 404, 411, 416, 423, 424, 427, 428, 431, 432, 433, 434, 435, 438, 439, 440, 441, 442, 445, 446, 447, 450, 451, 452, 453, 454, 457, 458, 459, 460, 461, 464, 465]
def ad9 : List Addr := [466, 467, 468, 471, 472, 473, 476, 477, 478, 479, 480, 483, 484, 485, 486, 487, 490, 491, 492, 493, 494, 497, 498, 499, 500, 501, 504, 505, 506, 507, 508, 511, 512, 513, 514, 515, 518, 519, 520, 521]
def ad10 : List Addr := [522, 525, 526, 527, 528, 529, 532, 533, 534, 535, 536, 539, 540, 541, 542, 543, 546, 547, 548, 549, 550, 553, 554, 555, 556, 557, 560, 561, 562, 563, 564, 567, 568, 569, 570, 571, 574, 575, 576, 577]
def ad11 : List Addr := [578, 581, 582, 583, 584, 585, 588, 589, 590, 591, 592, 595, 596, 597, 598, 599, 602, 603, 604, 605, 606, 609, 610, 611, 612, 613, 616, 617, 618, 619, 620, 623, 624, 625, 626, 627, 630, 631, 632, 633]
def ad12 : List Addr := [634, 266, 273, 280, 285, 292, 297, 304, 311, 316, 323, 330, 337, 344, 351, 358, 365, 372, 379, 384, 391, 398, 403, 410, 415, 422, 263, 264, 265, 268, 269, 270, 271, 272, 275, 276, 277, 278, 279, 282]
def ad13 : List Addr := [283, 284, 287, 288, 289, 290, 291, 294, 295, 296, 299, 300, 301, 302, 303, 306, 307, 308, 309, 310, 313, 314, 315, 318, 319, 320, 321, 322, 325, 326, 327, 328, 329, 332, 333, 334, 335, 336, 339, 340]
def ad14 : List Addr := [341, 342, 343, 346, 347, 348, 349, 350, 353, 354, 355, 356, 357, 360, 361, 362, 363, 364, 367, 368, 369, 370, 371, 374, 375, 376, 377, 378, 381, 382, 383, 386, 387, 388, 389, 390, 393, 394, 395, 396]
def ad15 : List Addr := [397, 400, 401, 402, 405, 406, 407, 408, 409, 412, 413, 414, 417, 418, 419, 420, 421]
def ads : List Addr := ad0 ++ ad1 ++ ad2 ++ ad3 ++ ad4 ++ ad5 ++ ad6 ++ ad7 ++ ad8 ++ ad9 ++ ad10 ++ ad11 ++ ad12 ++ ad13 ++ ad14 ++ ad15
def obK (K : PySem.W.Frag) : He.AlD × Bool := (He.obsD fa fns K, (exs K).all id)
def obG (g : Addr → Option Obj) : He.AlD × Bool := obK (He.frG g ads)
def hk : PySem.W.Hook where
  α := He.AlD × Bool
  obs := fun s => obG s.heap.get?
  val := fun _ => (He.valD fns, true)
  says := fun _ h => ∃ K : PySem.W.Frag, K.In h ∧ He.SaysD fa fns K ∧ (exs K).all id = true
  of := fun _ _ e => ⟨_, He.frG_in, congrArg (fun z : He.AlD × Bool => z.1) e, congrArg (fun z : He.AlD × Bool => z.2) e⟩
  keeps := fun _ _ _ ⟨K, hK, c⟩ k => ⟨K, PySem.W.Frag.In.keeps hK k, c⟩
def ob (s : PySem.W.SharedT) : He.AlD × Bool := obG (HeadRun.getT s)
theorem ob_eq (s : PySem.W.SharedT) : ob s = hk.obs s.abs := by
  have e : HeadRun.getT s = s.abs.heap.get? := funext (HeadRun.getT_eq s)
  show obG (HeadRun.getT s) = obG s.abs.heap.get?
  rw [e]
def lo0 : List Str := ["FOUR", "COVER", "MOST", "held", "byte_times", "mean_of", "pixel_of", "number_of", "laid_byte", "laid", "both_times", "fogged", "FRACTION", "DIGITS", "LOWEST_singles", "SHIFT", "SIGN_BIT", "CALM", "NOUGHT", "WHOLE_BITS", "is_calm", "single_of", "bits_of", "is_one_more", "near_by", "shifted", "lowered", "rounded", "signed", "opposite"]
def lo1 : List Str := ["added", "times", "turned", "is_below", "products", "nearest", "LEAST", "HALF_DEPTH", "UNIT", "LOWEST_corners", "HIGHEST", "points_of", "sides_of", "moved", "move_all", "fitting", "placed", "place_all", "lit_byte", "lit", "light_all", "TEXTURES", "SIDE_drawers", "FARTHEST", "TILE", "DITHER", "first_matrix", "Drawer", "WORD", "HALF_WORD"]
def lo2 : List Str := ["UPPER", "TWENTY", "MOST_PLACES", "MOST_TEXTURE", "Y", "X", "MANY", "DEPTH", "ACROSS", "DOWN", "COLOURS", "FOG", "TEXTURE", "COVERED", "KEEPS", "upper_of", "byte_of", "colour_at", "is_near_enough", "draw_place", "draw_span", "spans_of", "may_be_drawn", "OUT", "NOT_SO", "DRAWERS", "LEAST_SIDE", "MOST_SIDE", "MOST_HOW", "MOST_WAY"]
def lo3 : List Str := ["MOST_SPANS", "MOST_SPRITE", "SIDE_desk", "MOST_POINTS", "OPEN", "are_sides", "texture", "grab", "clear", "fog", "spans", "is_sprite", "sprite", "fill", "fade", "get", "counted", "apart", "are_calm", "matrix", "light", "on_points", "drawn", "answer", "opened", "row_at"]
def loose : List Str := lo0 ++ lo1 ++ lo2 ++ lo3
abbrev Rw : PySem.W.OpenSpec := PySem.Challenge.rw_spandraw_s01_answers
abbrev qv : Program := PySem.W.view Rw.prog [122]
set_option maxHeartbeats 0 in
theorem run (w : World) : HeadRun.RunEqS Rw qv hk ob 6000 loose w := by
  intro os
  kernel_rfl
theorem tx_of {K : PySem.W.Frag} {h : Heap} {mg : Str → Option Value} (X : K.In h) (G : h.Ns mainGlobals mg) (c : He.SaysD fa fns K) (ex : (exs K).all id = true) : Tx K mg where
  i_FOUR := He.int_ok X G (c.fact 0 (by rfl))
  i_COVER := He.int_ok X G (c.fact 1 (by rfl))
  i_MOST := He.int_ok X G (c.fact 2 (by rfl))
  i_FRACTION := He.int_ok X G (c.fact 3 (by rfl))
  i_DIGITS := He.int_ok X G (c.fact 4 (by rfl))
  i_LOWEST_singles := He.int_ok X G (c.fact 5 (by rfl))
  i_SHIFT := He.int_ok X G (c.fact 6 (by rfl))
  i_SIGN_BIT := He.int_ok X G (c.fact 7 (by rfl))
  i_CALM := He.int_ok X G (c.fact 8 (by rfl))
  i_WHOLE_BITS := He.int_ok X G (c.fact 9 (by rfl))
  i_LOWEST_corners := He.int_ok X G (c.fact 10 (by rfl))
  i_HIGHEST := He.int_ok X G (c.fact 11 (by rfl))
  i_TEXTURES := He.int_ok X G (c.fact 12 (by rfl))
  i_SIDE_drawers := He.int_ok X G (c.fact 13 (by rfl))
  i_FARTHEST := He.int_ok X G (c.fact 14 (by rfl))
  i_TILE := He.int_ok X G (c.fact 15 (by rfl))
  i_WORD := He.int_ok X G (c.fact 16 (by rfl))
  i_HALF_WORD := He.int_ok X G (c.fact 17 (by rfl))
  i_UPPER := He.int_ok X G (c.fact 18 (by rfl))
  i_TWENTY := He.int_ok X G (c.fact 19 (by rfl))
  i_MOST_PLACES := He.int_ok X G (c.fact 20 (by rfl))
  i_MOST_TEXTURE := He.int_ok X G (c.fact 21 (by rfl))
  i_Y := He.int_ok X G (c.fact 22 (by rfl))
  i_X := He.int_ok X G (c.fact 23 (by rfl))
  i_MANY := He.int_ok X G (c.fact 24 (by rfl))
  i_DEPTH := He.int_ok X G (c.fact 25 (by rfl))
  i_ACROSS := He.int_ok X G (c.fact 26 (by rfl))
  i_DOWN := He.int_ok X G (c.fact 27 (by rfl))
  i_COLOURS := He.int_ok X G (c.fact 28 (by rfl))
  i_FOG := He.int_ok X G (c.fact 29 (by rfl))
  i_TEXTURE := He.int_ok X G (c.fact 30 (by rfl))
  i_COVERED := He.int_ok X G (c.fact 31 (by rfl))
  i_KEEPS := He.int_ok X G (c.fact 32 (by rfl))
  i_OUT := He.int_ok X G (c.fact 33 (by rfl))
  i_NOT_SO := He.int_ok X G (c.fact 34 (by rfl))
  i_DRAWERS := He.int_ok X G (c.fact 35 (by rfl))
  i_LEAST_SIDE := He.int_ok X G (c.fact 36 (by rfl))
  i_MOST_SIDE := He.int_ok X G (c.fact 37 (by rfl))
  i_MOST_HOW := He.int_ok X G (c.fact 38 (by rfl))
  i_MOST_WAY := He.int_ok X G (c.fact 39 (by rfl))
  i_MOST_SPANS := He.int_ok X G (c.fact 40 (by rfl))
  i_MOST_SPRITE := He.int_ok X G (c.fact 41 (by rfl))
  i_SIDE_desk := He.int_ok X G (c.fact 42 (by rfl))
  i_MOST_POINTS := He.int_ok X G (c.fact 43 (by rfl))
  i_OPEN := He.int_ok X G (c.fact 44 (by rfl))
  f_abs := He.free_ok X G (c.fact 45 (by rfl))
  f_divmod := He.free_ok X G (c.fact 46 (by rfl))
  f_int := He.free_ok X G (c.fact 47 (by rfl))
  f_len := He.free_ok X G (c.fact 48 (by rfl))
  f_list := He.free_ok X G (c.fact 49 (by rfl))
  f_max := He.free_ok X G (c.fact 50 (by rfl))
  f_min := He.free_ok X G (c.fact 51 (by rfl))
  f_range := He.free_ok X G (c.fact 52 (by rfl))
  f_sum := He.free_ok X G (c.fact 53 (by rfl))
  f_zip := He.free_ok X G (c.fact 54 (by rfl))
  g_NOUGHT := He.glo_ok X G (c.fact 55 (by rfl))
  g_LEAST := He.glo_ok X G (c.fact 56 (by rfl))
  g_HALF_DEPTH := He.glo_ok X G (c.fact 57 (by rfl))
  g_UNIT := He.glo_ok X G (c.fact 58 (by rfl))
  g_DITHER := He.glo_ok X G (c.fact 59 (by rfl))
  g_Drawer := He.glo_ok X G (c.fact 60 (by rfl))
  t_NOUGHT := fun H => tupA_ok (List.all_eq_true.mp ex _ (List.mem_of_getElem? (i := 0) (by rfl))) H
  t_LEAST := fun H => tupA_ok (List.all_eq_true.mp ex _ (List.mem_of_getElem? (i := 1) (by rfl))) H
  t_HALF_DEPTH := fun H => tupA_ok (List.all_eq_true.mp ex _ (List.mem_of_getElem? (i := 2) (by rfl))) H
  t_UNIT := fun H => tupA_ok (List.all_eq_true.mp ex _ (List.mem_of_getElem? (i := 3) (by rfl))) H
  t_DITHER := ⟨_, _, _, _, fun H => ⟨tupA_ok (List.all_eq_true.mp ex _ (List.mem_of_getElem? (i := 4) (by rfl))) H, tupA_ok (List.all_eq_true.mp ex _ (List.mem_of_getElem? (i := 5) (by rfl))) H, tupA_ok (List.all_eq_true.mp ex _ (List.mem_of_getElem? (i := 6) (by rfl))) H, tupA_ok (List.all_eq_true.mp ex _ (List.mem_of_getElem? (i := 7) (by rfl))) H, tupA_ok (List.all_eq_true.mp ex _ (List.mem_of_getElem? (i := 8) (by rfl))) H⟩⟩
  cl := He.cls_ok (c.fact 61 (by rfl))
  mkr := He.mkr_ok (c.fact 62 (by rfl))
  n_wide := He.noat_ok (c.fact 63 (by rfl))
  n_high := He.noat_ok (c.fact 64 (by rfl))
  n_pixels := He.noat_ok (c.fact 65 (by rfl))
  n_depths := He.noat_ok (c.fact 66 (by rfl))
  n_textures := He.noat_ok (c.fact 67 (by rfl))
  n_fog := He.noat_ok (c.fact 68 (by rfl))
  n_matrix := He.noat_ok (c.fact 69 (by rfl))
  n_light := He.noat_ok (c.fact 70 (by rfl))
  g_held := He.glo_ok X G (c.fact 71 (by rfl))
  d_held := c.def_ 0 (by rfl)
  g_byte_times := He.glo_ok X G (c.fact 72 (by rfl))
  d_byte_times := c.def_ 1 (by rfl)
  g_mean_of := He.glo_ok X G (c.fact 73 (by rfl))
  d_mean_of := c.def_ 2 (by rfl)
  g_pixel_of := He.glo_ok X G (c.fact 74 (by rfl))
  d_pixel_of := c.def_ 3 (by rfl)
  g_number_of := He.glo_ok X G (c.fact 75 (by rfl))
  d_number_of := c.def_ 4 (by rfl)
  g_laid_byte := He.glo_ok X G (c.fact 76 (by rfl))
  d_laid_byte := c.def_ 5 (by rfl)
  g_laid := He.glo_ok X G (c.fact 77 (by rfl))
  d_laid := c.def_ 6 (by rfl)
  g_both_times := He.glo_ok X G (c.fact 78 (by rfl))
  d_both_times := c.def_ 7 (by rfl)
  g_fogged := He.glo_ok X G (c.fact 79 (by rfl))
  d_fogged := c.def_ 8 (by rfl)
  g_is_calm := He.glo_ok X G (c.fact 80 (by rfl))
  d_is_calm := c.def_ 9 (by rfl)
  g_single_of := He.glo_ok X G (c.fact 81 (by rfl))
  d_single_of := c.def_ 10 (by rfl)
  g_bits_of := He.glo_ok X G (c.fact 82 (by rfl))
  d_bits_of := c.def_ 11 (by rfl)
  g_is_one_more := He.glo_ok X G (c.fact 83 (by rfl))
  d_is_one_more := c.def_ 12 (by rfl)
  g_near_by := He.glo_ok X G (c.fact 84 (by rfl))
  d_near_by := c.def_ 13 (by rfl)
  g_shifted := He.glo_ok X G (c.fact 85 (by rfl))
  d_shifted := c.def_ 14 (by rfl)
  g_lowered := He.glo_ok X G (c.fact 86 (by rfl))
  d_lowered := c.def_ 15 (by rfl)
  g_rounded := He.glo_ok X G (c.fact 87 (by rfl))
  d_rounded := c.def_ 16 (by rfl)
  g_signed := He.glo_ok X G (c.fact 88 (by rfl))
  d_signed := c.def_ 17 (by rfl)
  g_opposite := He.glo_ok X G (c.fact 89 (by rfl))
  d_opposite := c.def_ 18 (by rfl)
  g_added := He.glo_ok X G (c.fact 90 (by rfl))
  d_added := c.def_ 19 (by rfl)
  g_times := He.glo_ok X G (c.fact 91 (by rfl))
  d_times := c.def_ 20 (by rfl)
  g_turned := He.glo_ok X G (c.fact 92 (by rfl))
  d_turned := c.def_ 21 (by rfl)
  g_is_below := He.glo_ok X G (c.fact 93 (by rfl))
  d_is_below := c.def_ 22 (by rfl)
  g_products := He.glo_ok X G (c.fact 94 (by rfl))
  d_products := c.def_ 23 (by rfl)
  g_nearest := He.glo_ok X G (c.fact 95 (by rfl))
  d_nearest := c.def_ 24 (by rfl)
  g_points_of := He.glo_ok X G (c.fact 96 (by rfl))
  d_points_of := c.def_ 25 (by rfl)
  g_sides_of := He.glo_ok X G (c.fact 97 (by rfl))
  d_sides_of := c.def_ 26 (by rfl)
  g_moved := He.glo_ok X G (c.fact 98 (by rfl))
  d_moved := c.def_ 27 (by rfl)
  g_move_all := He.glo_ok X G (c.fact 99 (by rfl))
  d_move_all := c.def_ 28 (by rfl)
  g_fitting := He.glo_ok X G (c.fact 100 (by rfl))
  d_fitting := c.def_ 29 (by rfl)
  g_placed := He.glo_ok X G (c.fact 101 (by rfl))
  d_placed := c.def_ 30 (by rfl)
  g_place_all := He.glo_ok X G (c.fact 102 (by rfl))
  d_place_all := c.def_ 31 (by rfl)
  g_lit_byte := He.glo_ok X G (c.fact 103 (by rfl))
  d_lit_byte := c.def_ 32 (by rfl)
  g_lit := He.glo_ok X G (c.fact 104 (by rfl))
  d_lit := c.def_ 33 (by rfl)
  g_light_all := He.glo_ok X G (c.fact 105 (by rfl))
  d_light_all := c.def_ 34 (by rfl)
  g_first_matrix := He.glo_ok X G (c.fact 106 (by rfl))
  d_first_matrix := c.def_ 35 (by rfl)
  d_D_init := c.def_ 36 (by rfl)
  m_D_is_on := He.meth_ok (c.fact 107 (by rfl))
  d_D_is_on := c.def_ 37 (by rfl)
  m_D_place := He.meth_ok (c.fact 108 (by rfl))
  d_D_place := c.def_ 38 (by rfl)
  m_D_set_texture := He.meth_ok (c.fact 109 (by rfl))
  d_D_set_texture := c.def_ 39 (by rfl)
  m_D_pixel_at := He.meth_ok (c.fact 110 (by rfl))
  d_D_pixel_at := c.def_ 40 (by rfl)
  m_D_grab := He.meth_ok (c.fact 111 (by rfl))
  d_D_grab := c.def_ 41 (by rfl)
  m_D_texel := He.meth_ok (c.fact 112 (by rfl))
  d_D_texel := c.def_ 42 (by rfl)
  m_D_has_texture := He.meth_ok (c.fact 113 (by rfl))
  d_D_has_texture := c.def_ 43 (by rfl)
  m_D_clear := He.meth_ok (c.fact 114 (by rfl))
  d_D_clear := c.def_ 44 (by rfl)
  m_D_set_fog := He.meth_ok (c.fact 115 (by rfl))
  d_D_set_fog := c.def_ 45 (by rfl)
  m_D_lay := He.meth_ok (c.fact 116 (by rfl))
  d_D_lay := c.def_ 46 (by rfl)
  m_D_keep_depth := He.meth_ok (c.fact 117 (by rfl))
  d_D_keep_depth := c.def_ 47 (by rfl)
  m_D_depth_at := He.meth_ok (c.fact 118 (by rfl))
  d_D_depth_at := c.def_ 48 (by rfl)
  m_D_columns := He.meth_ok (c.fact 119 (by rfl))
  d_D_columns := c.def_ 49 (by rfl)
  m_D_rows := He.meth_ok (c.fact 120 (by rfl))
  d_D_rows := c.def_ 50 (by rfl)
  m_D_fill := He.meth_ok (c.fact 121 (by rfl))
  d_D_fill := c.def_ 51 (by rfl)
  m_D_fade := He.meth_ok (c.fact 122 (by rfl))
  d_D_fade := c.def_ 52 (by rfl)
  m_D_rectangle := He.meth_ok (c.fact 123 (by rfl))
  d_D_rectangle := c.def_ 53 (by rfl)
  m_D_mean_at := He.meth_ok (c.fact 124 (by rfl))
  d_D_mean_at := c.def_ 54 (by rfl)
  m_D_small := He.meth_ok (c.fact 125 (by rfl))
  d_D_small := c.def_ 55 (by rfl)
  m_D_given := He.meth_ok (c.fact 126 (by rfl))
  d_D_given := c.def_ 56 (by rfl)
  m_D_give := He.meth_ok (c.fact 127 (by rfl))
  d_D_give := c.def_ 57 (by rfl)
  m_D_tile := He.meth_ok (c.fact 128 (by rfl))
  d_D_tile := c.def_ 58 (by rfl)
  m_D_apart := He.meth_ok (c.fact 129 (by rfl))
  d_D_apart := c.def_ 59 (by rfl)
  m_D_draw_sprite := He.meth_ok (c.fact 130 (by rfl))
  d_D_draw_sprite := c.def_ 60 (by rfl)
  g_upper_of := He.glo_ok X G (c.fact 131 (by rfl))
  d_upper_of := c.def_ 61 (by rfl)
  g_byte_of := He.glo_ok X G (c.fact 132 (by rfl))
  d_byte_of := c.def_ 62 (by rfl)
  g_colour_at := He.glo_ok X G (c.fact 133 (by rfl))
  d_colour_at := c.def_ 63 (by rfl)
  g_is_near_enough := He.glo_ok X G (c.fact 134 (by rfl))
  d_is_near_enough := c.def_ 64 (by rfl)
  g_draw_place := He.glo_ok X G (c.fact 135 (by rfl))
  d_draw_place := c.def_ 65 (by rfl)
  g_draw_span := He.glo_ok X G (c.fact 136 (by rfl))
  d_draw_span := c.def_ 66 (by rfl)
  g_spans_of := He.glo_ok X G (c.fact 137 (by rfl))
  d_spans_of := c.def_ 67 (by rfl)
  g_may_be_drawn := He.glo_ok X G (c.fact 138 (by rfl))
  d_may_be_drawn := c.def_ 68 (by rfl)
  g_are_sides := He.glo_ok X G (c.fact 139 (by rfl))
  d_are_sides := c.def_ 69 (by rfl)
  g_texture := He.glo_ok X G (c.fact 140 (by rfl))
  d_texture := c.def_ 70 (by rfl)
  g_grab := He.glo_ok X G (c.fact 141 (by rfl))
  d_grab := c.def_ 71 (by rfl)
  g_clear := He.glo_ok X G (c.fact 142 (by rfl))
  d_clear := c.def_ 72 (by rfl)
  g_fog := He.glo_ok X G (c.fact 143 (by rfl))
  d_fog := c.def_ 73 (by rfl)
  g_spans := He.glo_ok X G (c.fact 144 (by rfl))
  d_spans := c.def_ 74 (by rfl)
  g_is_sprite := He.glo_ok X G (c.fact 145 (by rfl))
  d_is_sprite := c.def_ 75 (by rfl)
  g_sprite := He.glo_ok X G (c.fact 146 (by rfl))
  d_sprite := c.def_ 76 (by rfl)
  g_fill := He.glo_ok X G (c.fact 147 (by rfl))
  d_fill := c.def_ 77 (by rfl)
  g_fade := He.glo_ok X G (c.fact 148 (by rfl))
  d_fade := c.def_ 78 (by rfl)
  g_get := He.glo_ok X G (c.fact 149 (by rfl))
  d_get := c.def_ 79 (by rfl)
  g_counted := He.glo_ok X G (c.fact 150 (by rfl))
  d_counted := c.def_ 80 (by rfl)
  g_apart := He.glo_ok X G (c.fact 151 (by rfl))
  d_apart := c.def_ 81 (by rfl)
  g_are_calm := He.glo_ok X G (c.fact 152 (by rfl))
  d_are_calm := c.def_ 82 (by rfl)
  g_matrix := He.glo_ok X G (c.fact 153 (by rfl))
  d_matrix := c.def_ 83 (by rfl)
  g_light := He.glo_ok X G (c.fact 154 (by rfl))
  d_light := c.def_ 84 (by rfl)
  g_on_points := He.glo_ok X G (c.fact 155 (by rfl))
  d_on_points := c.def_ 85 (by rfl)
  g_drawn := He.glo_ok X G (c.fact 156 (by rfl))
  d_drawn := c.def_ 86 (by rfl)
  g_answer := He.glo_ok X G (c.fact 157 (by rfl))
  d_answer := c.def_ 87 (by rfl)
  g_opened := He.glo_ok X G (c.fact 158 (by rfl))
  d_opened := c.def_ 88 (by rfl)
  g_row_at := He.glo_ok X G (c.fact 159 (by rfl))
  d_row_at := c.def_ 89 (by rfl)
  g_answers := He.glo_ok X G (c.fact 160 (by rfl))
  d_answers := c.def_ 90 (by rfl)
end Sd
end

section
set_option Elab.async false
set_option linter.all false
set_option maxRecDepth 100000
set_option maxHeartbeats 0
/-! ## 3. What the kernel decides of the text alone (here, while little else is held) -/
namespace Sd
open PySem PyProof.Rows
theorem said : Rw.wellSaid = true := by decide +kernel
theorem bare_text : Rw.prog.bare := ⟨rfl, rfl, rfl, rfl, rfl, by decide +kernel⟩
end Sd
end

section
set_option Elab.async false
set_option linter.all false
set_option maxRecDepth 100000
set_option maxHeartbeats 4000000
/-! ## 3. pixels.py -/
namespace Sd
open PySem PySem.Spec PyProof.Rows L2 Evl
local macro_rules | `(tactic| walk_at "ev") => `(tactic| first
  | with_reducible exact er_cI
  | focus ((with_reducible apply er_varI); with_unfolding_all rfl)
  | focus ((with_reducible apply er_var); all_goals first | with_unfolding_all rfl | assumption)
  | focus ((with_reducible apply er_op0); all_goals walk_at "ev")
  | focus ((with_reducible apply er_op); all_goals walk_at "ev")
  | focus ((with_reducible apply er_neg); all_goals walk_at "ev")
  | focus ((with_reducible apply er_max); all_goals walk_at "ev")
  | focus ((with_reducible apply er_min); all_goals walk_at "ev")
  | focus ((with_reducible apply er_abs); all_goals walk_at "ev")
  | focus ((with_reducible apply er_intB); all_goals walk_at "ev")
  | focus ((with_reducible apply er_bits); all_goals walk_at "ev")
  | focus ((with_reducible apply er_ixD); all_goals walk_at "ev")
  | focus ((with_reducible apply er_call1); all_goals walk_at "ev")
  | focus ((with_reducible apply er_call2); all_goals walk_at "ev")
  | focus ((with_reducible apply er_call3); all_goals walk_at "ev")
  | focus ((with_reducible apply er_call4); all_goals walk_at "ev")
  | focus ((with_reducible apply er_eq); all_goals walk_at "ev")
  | focus ((with_reducible apply er_ne); all_goals walk_at "ev")
  | focus ((with_reducible apply er_cmp); all_goals walk_at "ev")
  | focus ((with_reducible apply er_chain); all_goals walk_at "ev")
  | focus ((with_reducible apply er_andU); all_goals walk_at "ev")
  | focus ((with_reducible apply er_orU); all_goals walk_at "ev")
  | focus ((with_reducible apply et_t); all_goals walk_at "ev")
  | focus ((with_reducible apply et_b); all_goals walk_at "ev")
  | focus ((with_reducible apply et_andU); all_goals walk_at "ev")
  | focus ((with_reducible apply et_orU); all_goals walk_at "ev")
  | focus ((with_reducible apply Evl.et_not); all_goals walk_at "ev")
  | walk_at "side")
local macro_rules | `(tactic| walk_at "evr") => `(tactic| (refine er_is (by walk_at "ev") (by with_unfolding_all rfl)))
local macro_rules | `(tactic| walk_at "side") => `(tactic| first
  | assumption
  | exact True.intro
  | exact cdiv_ok (by decide) (by decide)
  | exact cmul_l (by omega) (by omega)
  | exact cmul_r (by omega) (by omega)
  | omega
  | decide
  | (dsimp only; done)
  | (dsimp only; first | assumption | omega | decide)
  | (constructor <;> assumption))
def heldM (n : Int) : Int := if (if n < 255 then n else 255) > 0 then (if n < 255 then n else 255) else 0
def btM (a b : Int) : Int := (a * b + 128 + (a * b + 128) / 256) / 256
def meanM (a b : Int) : Int := (a + b + 1) / 2
def IsB (a : Int) : Prop := 0 ≤ a ∧ a ≤ 255
/-- four bytes -/
def IsP (l : List Int) : Prop := l.length = 4 ∧ ∀ i, IsB (l.getD i 0)
def laidByteM (how cover s d : Int) : Int :=
  if how = 0 then s else if how = 1 then heldM (s + d) else if how = 2 then heldM (d - s) else if how = 3 then meanM s d else if how = 4 then heldM (btM cover s + btM (255 - cover) d)
  else if how = 5 then btM s d else if how = 6 then (if d > s then d else s) else (if d < s then d else s)
def pixelOfM (c : Int) : List Int := (List.range 4).map fun k => c / 2 ^ (8 * k) % 256
def numberOfM (l : List Int) : Int := l.getD 0 0 + 256 * (l.getD 1 0 + 256 * (l.getD 2 0 + 256 * l.getD 3 0))
def laidM (how : Int) (s d : List Int) : List Int := (List.range 4).map fun k => laidByteM how (s.getD 3 0) (s.getD k 0) (d.getD k 0)
def bothM (s d : List Int) : List Int := (List.range 4).map fun k => btM (s.getD k 0) (d.getD k 0)
def foggedM (p : List Int) (much : Int) (c : List Int) : List Int := ((List.range 3).map fun k => heldM (btM (255 - much) (p.getD k 0) + btM much (c.getD k 0))) ++ [p.getD 3 0]
abbrev vI (l : List Int) : List V := l.map V.int
abbrev sp_held : Sp := sp1 RI (fun _ => True) RI heldM
abbrev sp_byte_times : Sp := sp2 RI RI (fun a _ => IsB a) RI btM
abbrev sp_mean_of : Sp := sp2 RI RI (fun _ _ => True) RI meanM
abbrev sp_pixel_of : Sp := spL1 RI (fun _ => True) fun c => vI (pixelOfM c)
abbrev sp_number_of : Sp := sp1 RIL (fun l => l.length = 4) RI numberOfM
abbrev sp_laid_byte : Sp := sp4 RI RI RI RI (fun _ c s _ => IsB c ∧ IsB s) RI laidByteM
abbrev sp_laid : Sp := spL3 RI RIL RIL (fun _ s d => IsP s ∧ d.length = 4) fun h s d => vI (laidM h s d)
abbrev sp_both_times : Sp := spL2 RIL RIL (fun s d => IsP s ∧ d.length = 4) fun s d => vI (bothM s d)
abbrev sp_fogged : Sp := spL3 RIL RI RIL (fun p m c => p.length = 4 ∧ IsB m ∧ c.length = 4) fun p m c => vI (foggedM p m c)
/-- held: 0 number -/
def t_held : TS :=
  (tRet (tCB rMax2 (tCons (tC (.int 0)) (tCons (tCB rMin2 (tCons (tC (.int (255))) (tCons (tVar 0) tNil))) tNil))))
/-- byte_times: 0 one, 1 other, 2 z -/
def t_byte_times : TS :=
  (tSeq (tAsg (tOp rAddI (tOp rMulI (tVar 0) (tVar 1)) (tC (.int 128))) (gName 2))
    (tRet (tOp rDivI (tOp rAddI (tVar 2) (tOp rDivI (tVar 2) (tC (.int 256)))) (tC (.int 256)))))
/-- mean_of: 0 one, 1 other -/
def t_mean_of : TS :=
  (tRet (tOp rDivI (tOp rAddI (tOp rAddI (tVar 0) (tVar 1)) (tC (.int 1))) (tC (.int 2))))
/-- pixel_of: 0 colour, 1 k -/
def t_pixel_of : TS :=
  (tRet (tLc (iRng1 (tCons (tC (.int (4))) tNil)) (gName 1) tYes (tOp rModI (tOp rShrI (tVar 0) (tOp rMulI (tC (.int 8)) (tVar 1))) (tC (.int 256))) [1]))
/-- number_of: 0 pixel -/
def t_number_of (K : PySem.W.Frag) : TS :=
  (tRet (tOp rAddI (tOp (rIxL K) (tVar 0) (tC (.int 0))) (tOp rMulI (tC (.int 256)) (tOp rAddI (tOp (rIxL K) (tVar 0) (tC (.int 1))) (tOp rMulI (tC (.int 256)) (tOp rAddI (tOp (rIxL K) (tVar 0) (tC (.int 2))) (tOp rMulI (tC (.int 256)) (tOp (rIxL K) (tVar 0) (tC (.int 3))))))))))
/-- laid_byte: 0 how, 1 cover, 2 s, 3 d -/
def t_laid_byte : TS :=
  (tSeq (tIfS (tTest (tOp rEq (tVar 0) (tC (.int 0)))) (tRet (tVar 2)) tNext)
    (tSeq (tIfS (tTest (tOp rEq (tVar 0) (tC (.int 1)))) (tRet (tCall sp_held [] E0 (tCons (tOp rAddI (tVar 2) (tVar 3)) tNil))) tNext)
    (tSeq (tIfS (tTest (tOp rEq (tVar 0) (tC (.int 2)))) (tRet (tCall sp_held [] E0 (tCons (tOp rSubI (tVar 3) (tVar 2)) tNil))) tNext)
    (tSeq (tIfS (tTest (tOp rEq (tVar 0) (tC (.int 3)))) (tRet (tCall sp_mean_of [] E0 (tCons (tVar 2) (tCons (tVar 3) tNil)))) tNext)
    (tSeq (tIfS (tTest (tOp rEq (tVar 0) (tC (.int 4)))) (tRet (tCall sp_held [] E0 (tCons (tOp rAddI (tCall sp_byte_times [] E0 (tCons (tVar 1) (tCons (tVar 2) tNil))) (tCall sp_byte_times [] E0 (tCons (tOp rSubI (tC (.int (255))) (tVar 1)) (tCons (tVar 3) tNil)))) tNil))) tNext)
    (tSeq (tIfS (tTest (tOp rEq (tVar 0) (tC (.int 5)))) (tRet (tCall sp_byte_times [] E0 (tCons (tVar 2) (tCons (tVar 3) tNil)))) tNext)
    (tSeq (tIfS (tTest (tOp rEq (tVar 0) (tC (.int 6)))) (tRet (tCB rMax2 (tCons (tVar 2) (tCons (tVar 3) tNil)))) tNext)
    (tRet (tCB rMin2 (tCons (tVar 2) (tCons (tVar 3) tNil)))))))))))
/-- laid: 0 how, 1 s, 2 d, 3 k -/
def t_laid (K : PySem.W.Frag) : TS :=
  (tRet (tLc (iRng1 (tCons (tC (.int (4))) tNil)) (gName 3) tYes (tCall sp_laid_byte [] E0 (tCons (tVar 0) (tCons (tOp (rIxL K) (tVar 1) (tC (.int (3)))) (tCons (tOp (rIxL K) (tVar 1) (tVar 3)) (tCons (tOp (rIxL K) (tVar 2) (tVar 3)) tNil))))) [3]))
/-- both_times: 0 s, 1 d, 2 k -/
def t_both_times (K : PySem.W.Frag) : TS :=
  (tRet (tLc (iRng1 (tCons (tC (.int (4))) tNil)) (gName 2) tYes (tCall sp_byte_times [] E0 (tCons (tOp (rIxL K) (tVar 0) (tVar 2)) (tCons (tOp (rIxL K) (tVar 1) (tVar 2)) tNil))) [2]))
/-- fogged: 0 pixel, 1 much, 2 colour, 3 found, 4 k -/
def t_fogged (K : PySem.W.Frag) : TS :=
  (tSeq (tAsg (tLc (iRng1 (tCons (tC (.int (3))) tNil)) (gName 4) tYes (tCall sp_held [] E0 (tCons (tOp rAddI (tCall sp_byte_times [] E0 (tCons (tOp rSubI (tC (.int (255))) (tVar 1)) (tCons (tOp (rIxL K) (tVar 0) (tVar 4)) tNil))) (tCall sp_byte_times [] E0 (tCons (tVar 1) (tCons (tOp (rIxL K) (tVar 2) (tVar 4)) tNil)))) tNil)) [4]) (gName 3))
    (tRet (tOp rCat (tVar 3) (tLst (tCons (tOp (rIxL K) (tVar 0) (tC (.int (3)))) tNil)))))
section
variable {P : Program} {w : World} {K : PySem.W.Frag} {mg : Str → Option Value} {base : Heap}
theorem len_held : ∀ vs H Q E, sp_held vs H Q E → vs.length = 1 := sp1_len
theorem len_byte_times : ∀ vs H Q E, sp_byte_times vs H Q E → vs.length = 2 := sp2_len
theorem len_mean_of : ∀ vs H Q E, sp_mean_of vs H Q E → vs.length = 2 := sp2_len
theorem len_pixel_of : ∀ vs H Q E, sp_pixel_of vs H Q E → vs.length = 1 := spL1_len
theorem len_number_of : ∀ vs H Q E, sp_number_of vs H Q E → vs.length = 1 := sp1_len
theorem len_laid_byte : ∀ vs H Q E, sp_laid_byte vs H Q E → vs.length = 4 := sp4_len
theorem len_laid : ∀ vs H Q E, sp_laid vs H Q E → vs.length = 3 := spL3_len
theorem len_both_times : ∀ vs H Q E, sp_both_times vs H Q E → vs.length = 2 := spL2_len
theorem len_fogged : ∀ vs H Q E, sp_fogged vs H Q E → vs.length = 3 := spL3_len
theorem pure_held (T : Tx K mg) (vs : List V) (H : Hp) (Q : VK) (E : XK) (h : sp_held vs H Q E) : t_held { nx := fun _ H' => Q .non H', rt := Q } (start ["number"] vs) H := by
  obtain ⟨_, n, rfl, rfl, -, k⟩ := h
  exact sr_ret (by walk_at "evr") k
theorem ok_held (T : Tx K mg)  : GF P w K mg base "held" 1 ["number"] sp_held := by
  refine ⟨fn_keep (k := 0) (tt := t_held) T.d_held sc_held len_held (fun _ _ _ _ _ _ us hl => match us, hl with | [_], _ => rfl) (fun cdv A outer s H E hr => ?_) (pure_held T), T.d_held.kp, T.g_held⟩
  exact (pss_one (ps_ret (pe_callB (call_max2 rfl) rfl T.f_max (by decide +kernel) (pa_cons pe_int (pa_cons (pe_callB (call_min2 rfl) rfl T.f_min (by decide +kernel) (pa_cons (pe_gi rfl T.i_MOST) (pa_cons (pv 0) pa_nil))) pa_nil)))))
theorem IsB.mul {a b : Int} (h : IsB a) : CMul a b := .inl ⟨by unfold IsB at h; omega, by unfold IsB at h; omega⟩
theorem pure_byte_times (T : Tx K mg) (vs : List V) (H : Hp) (Q : VK) (E : XK) (h : sp_byte_times vs H Q E) : t_byte_times { nx := fun _ H' => Q .non H', rt := Q } (start ["one", "other", "z"] vs) H := by
  obtain ⟨_, _, a, b, rfl, rfl, rfl, hb, k⟩ := h
  have hm : CMul a b := hb.mul
  refine qr_asgI (by walk_at "ev") fun H1 e1 => ?_
  exact sr_ret (by walk_at "evr") fun v H2 e2 r => k v H2 (e1.trans e2) r
theorem ok_byte_times (T : Tx K mg)  : GF P w K mg base "byte_times" 1 ["one", "other"] sp_byte_times := by
  refine ⟨fn_keep (k := 0) (tt := t_byte_times) T.d_byte_times sc_byte_times len_byte_times (fun _ _ _ _ _ _ us hl => match us, hl with | [_, _], _ => rfl) (fun cdv A outer s H E hr => ?_) (pure_byte_times T), T.d_byte_times.kp, T.g_byte_times⟩
  exact (pss_cons (ps_set (i := 2) sc_byte_times.nd rfl (.inl rfl) (pe_op op_add (pe_op op_mul (pv 0) (pv 1)) pe_int))
    (pss_one (ps_ret (pe_op op_fdiv (pe_op op_add (pv 2) (pe_op op_fdiv (pv 2) pe_int)) pe_int))))
theorem pure_mean_of (T : Tx K mg) (vs : List V) (H : Hp) (Q : VK) (E : XK) (h : sp_mean_of vs H Q E) : t_mean_of { nx := fun _ H' => Q .non H', rt := Q } (start ["one", "other"] vs) H := by
  obtain ⟨_, _, a, b, rfl, rfl, rfl, -, k⟩ := h
  exact sr_ret (by walk_at "evr") k
theorem ok_mean_of (T : Tx K mg)  : GF P w K mg base "mean_of" 1 ["one", "other"] sp_mean_of := by
  refine ⟨fn_keep (k := 0) (tt := t_mean_of) T.d_mean_of sc_mean_of len_mean_of (fun _ _ _ _ _ _ us hl => match us, hl with | [_, _], _ => rfl) (fun cdv A outer s H E hr => ?_) (pure_mean_of T), T.d_mean_of.kp, T.g_mean_of⟩
  exact (pss_one (ps_ret (pe_op op_fdiv (pe_op op_add (pe_op op_add (pv 0) (pv 1)) pe_int) pe_int)))
theorem pure_pixel_of (T : Tx K mg) (vs : List V) (H : Hp) (Q : VK) (E : XK) (h : sp_pixel_of vs H Q E) : t_pixel_of { nx := fun _ H' => Q .non H', rt := Q } (start ["colour", "k"] vs) H := by
  obtain ⟨_, c, rfl, rfl, -, k⟩ := h
  refine s_retL (el_is (el_lcR (n := 4) (fun k => V.int (c / 2 ^ (8 * k) % 256)) (by walk_at "ev") (by decide) (by decide) (fun _ => rfl) fun i H1 e hi => erV (er_is (by walk_at "ev") ?_)) ?_) k
  · show c / 2 ^ (8 * (i : Int)).toNat % 256 = _
    rw [show (8 * (i : Int)).toNat = 8 * i by omega]
  · exact (List.map_map ..).symm
theorem ok_pixel_of (T : Tx K mg)  : GF P w K mg base "pixel_of" 1 ["colour"] sp_pixel_of := by
  refine ⟨fn_keep (k := 0) (tt := t_pixel_of) T.d_pixel_of sc_pixel_of len_pixel_of (fun _ _ _ _ _ _ us hl => match us, hl with | [_], _ => rfl) (fun cdv A outer s H E hr => ?_) (pure_pixel_of T), T.d_pixel_of.kp, T.g_pixel_of⟩
  exact (pss_one (ps_ret (pe_lc (own := [("k", 1)]) (g := (gName 1)) (tt := tYes) rfl sc_pixel_of.nd (pi_range1 rfl T.f_range (pa_cons (pe_gi rfl T.i_FOUR) pa_nil)) (blkOk_by (N := ["colour", "k"]) (sc := defScope s_pixel_of) (by decide +kernel)) (fun _ _ _ _ _ => (pg_name (i := 1) sc_pixel_of.nd rfl (.inl rfl))) (fun _ _ _ _ _ => pts_nil) (fun _ _ _ _ _ => (pe_op op_mod (pe_op op_shr (pv 0) (pe_op op_mul pe_int (pv 1))) pe_int)))))
theorem pure_number_of (T : Tx K mg) (vs : List V) (H : Hp) (Q : VK) (E : XK) (h : sp_number_of vs H Q E) : t_number_of K { nx := fun _ H' => Q .non H', rt := Q } (start ["pixel"] vs) H := by
  obtain ⟨_, l, rfl, r, hl, k⟩ := h
  have hl : l.length = 4 := hl
  exact sr_ret (by walk_at "evr") k
theorem ok_number_of (T : Tx K mg)  : GF P w K mg base "number_of" 1 ["pixel"] sp_number_of := by
  refine ⟨fn_keep (k := 0) (tt := (t_number_of K)) T.d_number_of sc_number_of len_number_of (fun _ _ _ _ _ _ us hl => match us, hl with | [_], _ => rfl) (fun cdv A outer s H E hr => ?_) (pure_number_of T), T.d_number_of.kp, T.g_number_of⟩
  exact (pss_one (ps_ret (pe_op op_add (pe_ix ix_list (pv 0) pe_int (fun _ _ => rfl)) (pe_op op_mul pe_int (pe_op op_add (pe_ix ix_list (pv 0) pe_int (fun _ _ => rfl)) (pe_op op_mul pe_int (pe_op op_add (pe_ix ix_list (pv 0) pe_int (fun _ _ => rfl)) (pe_op op_mul pe_int (pe_ix ix_list (pv 0) pe_int (fun _ _ => rfl))))))))))
theorem pure_laid_byte (T : Tx K mg) (vs : List V) (H : Hp) (Q : VK) (E : XK) (h : sp_laid_byte vs H Q E) : t_laid_byte { nx := fun _ H' => Q .non H', rt := Q } (start ["how", "cover", "s", "d"] vs) H := by
  obtain ⟨_, _, _, _, a, c, x, y, rfl, rfl, rfl, rfl, rfl, ⟨hc, hs⟩, k⟩ := h
  have hc' : IsB (255 - c) := ⟨by unfold IsB at hc; omega, by unfold IsB at hc; omega⟩
  have kk : ∀ {z : Int}, laidByteM a c x y = z → ∀ v H', Ex H H' → RI H' v z → Q v H' := fun hz v H' e r => k v H' e (by rw [hz]; exact r)
  have f0 := Ex.refl H
  refine qp_when (by walk_at "ev") (fun b0 H1 e1 => sr_ret (by walk_at "ev") fun v H2 e2 r => kk (by simp only [laidByteM, if_pos b0]) v H2 ((f0.trans e1).trans e2) r) fun b0 H0_ e_ => ?_
  have f1 := f0.trans e_
  refine qp_when (by walk_at "ev") (fun b1 H1 e1 => sr_ret (by walk_at "ev") fun v H2 e2 r => kk (by simp only [laidByteM, if_neg b0, if_pos b1]) v H2 ((f1.trans e1).trans e2) r) fun b1 H1_ e_ => ?_
  have f2 := f1.trans e_
  refine qp_when (by walk_at "ev") (fun b2 H1 e1 => sr_ret (by walk_at "ev") fun v H2 e2 r => kk (by simp only [laidByteM, if_neg b0, if_neg b1, if_pos b2]) v H2 ((f2.trans e1).trans e2) r) fun b2 H2_ e_ => ?_
  have f3 := f2.trans e_
  refine qp_when (by walk_at "ev") (fun b3 H1 e1 => sr_ret (by walk_at "ev") fun v H2 e2 r => kk (by simp only [laidByteM, if_neg b0, if_neg b1, if_neg b2, if_pos b3]) v H2 ((f3.trans e1).trans e2) r) fun b3 H3_ e_ => ?_
  have f4 := f3.trans e_
  refine qp_when (by walk_at "ev") (fun b4 H1 e1 => sr_ret (by walk_at "ev") fun v H2 e2 r => kk (by simp only [laidByteM, if_neg b0, if_neg b1, if_neg b2, if_neg b3, if_pos b4]) v H2 ((f4.trans e1).trans e2) r) fun b4 H4_ e_ => ?_
  have f5 := f4.trans e_
  refine qp_when (by walk_at "ev") (fun b5 H1 e1 => sr_ret (by walk_at "ev") fun v H2 e2 r => kk (by simp only [laidByteM, if_neg b0, if_neg b1, if_neg b2, if_neg b3, if_neg b4, if_pos b5]) v H2 ((f5.trans e1).trans e2) r) fun b5 H5_ e_ => ?_
  have f6 := f5.trans e_
  refine qp_when (by walk_at "ev") (fun b6 H1 e1 => sr_ret (by walk_at "ev") fun v H2 e2 r => kk (by simp only [laidByteM, if_neg b0, if_neg b1, if_neg b2, if_neg b3, if_neg b4, if_neg b5, if_pos b6]) v H2 ((f6.trans e1).trans e2) r) fun b6 H6_ e_ => ?_
  have f7 := f6.trans e_
  exact sr_ret (by walk_at "ev") fun v H2 e2 r => kk (by simp only [laidByteM, if_neg b0, if_neg b1, if_neg b2, if_neg b3, if_neg b4, if_neg b5, if_neg b6]) v H2 (f7.trans e2) r
theorem ok_laid_byte (T : Tx K mg) (G_byte_times : GF P w K mg base "byte_times" 1 ["one", "other"] sp_byte_times) (G_held : GF P w K mg base "held" 1 ["number"] sp_held) (G_mean_of : GF P w K mg base "mean_of" 1 ["one", "other"] sp_mean_of) : GF P w K mg base "laid_byte" 2 ["how", "cover", "s", "d"] sp_laid_byte := by
  refine ⟨fn_keep (k := 1) (tt := t_laid_byte) T.d_laid_byte sc_laid_byte len_laid_byte (fun _ _ _ _ _ _ us hl => match us, hl with | [_, _, _, _], _ => rfl) (fun cdv A outer s H E hr => ?_) (pure_laid_byte T), T.d_laid_byte.kp, T.g_laid_byte⟩
  exact (pss_cons (ps_if (pt_cmpR op_eq (pv 0) pe_int (nomark _)) (pss_one (ps_ret (pv 2))) pss_nil)
    (pss_cons (ps_if (pt_cmpR op_eq (pv 0) pe_int (nomark _)) (pss_one (ps_ret (pe_gf G_held (hr.mono (by decide)) rfl (pa_cons (pe_op op_add (pv 2) (pv 3)) pa_nil)))) pss_nil)
    (pss_cons (ps_if (pt_cmpR op_eq (pv 0) pe_int (nomark _)) (pss_one (ps_ret (pe_gf G_held (hr.mono (by decide)) rfl (pa_cons (pe_op op_sub (pv 3) (pv 2)) pa_nil)))) pss_nil)
    (pss_cons (ps_if (pt_cmpR op_eq (pv 0) pe_int (nomark _)) (pss_one (ps_ret (pe_gf G_mean_of (hr.mono (by decide)) rfl (pa_cons (pv 2) (pa_cons (pv 3) pa_nil))))) pss_nil)
    (pss_cons (ps_if (pt_cmpR op_eq (pv 0) pe_int (nomark _)) (pss_one (ps_ret (pe_gf G_held (hr.mono (by decide)) rfl (pa_cons (pe_op op_add (pe_gf G_byte_times (hr.mono (by decide)) rfl (pa_cons (pv 1) (pa_cons (pv 2) pa_nil))) (pe_gf G_byte_times (hr.mono (by decide)) rfl (pa_cons (pe_op op_sub (pe_gi rfl T.i_MOST) (pv 1)) (pa_cons (pv 3) pa_nil)))) pa_nil)))) pss_nil)
    (pss_cons (ps_if (pt_cmpR op_eq (pv 0) pe_int (nomark _)) (pss_one (ps_ret (pe_gf G_byte_times (hr.mono (by decide)) rfl (pa_cons (pv 2) (pa_cons (pv 3) pa_nil))))) pss_nil)
    (pss_cons (ps_if (pt_cmpR op_eq (pv 0) pe_int (nomark _)) (pss_one (ps_ret (pe_callB (call_max2 rfl) rfl T.f_max (by decide +kernel) (pa_cons (pv 2) (pa_cons (pv 3) pa_nil))))) pss_nil)
    (pss_one (ps_ret (pe_callB (call_min2 rfl) rfl T.f_min (by decide +kernel) (pa_cons (pv 2) (pa_cons (pv 3) pa_nil))))))))))))
theorem pure_laid (T : Tx K mg) (vs : List V) (H : Hp) (Q : VK) (E : XK) (h : sp_laid vs H Q E) : t_laid K { nx := fun _ H' => Q .non H', rt := Q } (start ["how", "s", "d", "k"] vs) H := by
  obtain ⟨_, _, _, a, x, y, rfl, rfl, rx, ry, ⟨⟨lx, bx⟩, ly⟩, k⟩ := h
  refine s_retL (el_is (el_lcR (n := 4) (fun k => V.int (laidByteM a (x.getD 3 0) (x.getD k 0) (y.getD k 0))) (by walk_at "ev") (by decide) (by decide) (fun _ => rfl) fun i H1 e hi => ?_) ?_) k
  · have rx := mo e rx
    have ry := mo e ry
    have b3 := bx 3
    have bi := bx i
    exact erV (by walk_at "evr")
  · exact (List.map_map ..).symm
theorem ok_laid (T : Tx K mg) (G_laid_byte : GF P w K mg base "laid_byte" 2 ["how", "cover", "s", "d"] sp_laid_byte) : GF P w K mg base "laid" 3 ["how", "s", "d"] sp_laid := by
  refine ⟨fn_keep (k := 2) (tt := (t_laid K)) T.d_laid sc_laid len_laid (fun _ _ _ _ _ _ us hl => match us, hl with | [_, _, _], _ => rfl) (fun cdv A outer s H E hr => ?_) (pure_laid T), T.d_laid.kp, T.g_laid⟩
  exact (pss_one (ps_ret (pe_lc (own := [("k", 3)]) (g := (gName 3)) (tt := tYes) rfl sc_laid.nd (pi_range1 rfl T.f_range (pa_cons (pe_gi rfl T.i_FOUR) pa_nil)) (blkOk_by (N := ["how", "s", "d", "k"]) (sc := defScope s_laid) (by decide +kernel)) (fun _ _ _ _ _ => (pg_name (i := 3) sc_laid.nd rfl (.inl rfl))) (fun _ _ _ _ _ => pts_nil) (fun _ _ _ _ _ => (pe_gf G_laid_byte (hr.mono (by decide)) rfl (pa_cons (pv 0) (pa_cons (pe_ix ix_list (pv 1) (pe_gi rfl T.i_COVER) (fun _ _ => rfl)) (pa_cons (pe_ix ix_list (pv 1) (pv 3) (fun _ _ => rfl)) (pa_cons (pe_ix ix_list (pv 2) (pv 3) (fun _ _ => rfl)) pa_nil)))))))))
theorem pure_both_times (T : Tx K mg) (vs : List V) (H : Hp) (Q : VK) (E : XK) (h : sp_both_times vs H Q E) : t_both_times K { nx := fun _ H' => Q .non H', rt := Q } (start ["s", "d", "k"] vs) H := by
  obtain ⟨_, _, x, y, rfl, rx, ry, ⟨⟨lx, bx⟩, ly⟩, k⟩ := h
  refine s_retL (el_is (el_lcR (n := 4) (fun k => V.int (btM (x.getD k 0) (y.getD k 0))) (by walk_at "ev") (by decide) (by decide) (fun _ => rfl) fun i H1 e hi => ?_) ?_) k
  · have rx := mo e rx
    have ry := mo e ry
    have bi := bx i
    exact erV (by walk_at "evr")
  · exact (List.map_map ..).symm
theorem ok_both_times (T : Tx K mg) (G_byte_times : GF P w K mg base "byte_times" 1 ["one", "other"] sp_byte_times) : GF P w K mg base "both_times" 2 ["s", "d"] sp_both_times := by
  refine ⟨fn_keep (k := 1) (tt := (t_both_times K)) T.d_both_times sc_both_times len_both_times (fun _ _ _ _ _ _ us hl => match us, hl with | [_, _], _ => rfl) (fun cdv A outer s H E hr => ?_) (pure_both_times T), T.d_both_times.kp, T.g_both_times⟩
  exact (pss_one (ps_ret (pe_lc (own := [("k", 2)]) (g := (gName 2)) (tt := tYes) rfl sc_both_times.nd (pi_range1 rfl T.f_range (pa_cons (pe_gi rfl T.i_FOUR) pa_nil)) (blkOk_by (N := ["s", "d", "k"]) (sc := defScope s_both_times) (by decide +kernel)) (fun _ _ _ _ _ => (pg_name (i := 2) sc_both_times.nd rfl (.inl rfl))) (fun _ _ _ _ _ => pts_nil) (fun _ _ _ _ _ => (pe_gf G_byte_times (hr.mono (by decide)) rfl (pa_cons (pe_ix ix_list (pv 0) (pv 2) (fun _ _ => rfl)) (pa_cons (pe_ix ix_list (pv 1) (pv 2) (fun _ _ => rfl)) pa_nil)))))))
theorem pure_fogged (T : Tx K mg) (vs : List V) (H : Hp) (Q : VK) (E : XK) (h : sp_fogged vs H Q E) : t_fogged K { nx := fun _ H' => Q .non H', rt := Q } (start ["pixel", "much", "colour", "found", "k"] vs) H := by
  obtain ⟨_, _, _, x, m, y, rfl, rx, rfl, ry, ⟨lx, bm, ly⟩, k⟩ := h
  have bm' : IsB (255 - m) := ⟨by unfold IsB at bm; omega, by unfold IsB at bm; omega⟩
  refine q_asgL (el_lcR (n := 3) (fun k => V.int (heldM (btM (255 - m) (x.getD k 0) + btM m (y.getD k 0)))) (by walk_at "ev") (by decide) (by decide) (fun _ => rfl) fun i H1 e hi => ?_) fun p H1 hp e1 h1 => ?_
  · have rx := mo e rx
    have ry := mo e ry
    exact erV (by walk_at "evr")
  · have rx := mo e1 rx
    refine s_retL (el_is (el_catL (er_var (R := RLv) (by with_unfolding_all rfl) ⟨p, rfl, h1⟩) (elv (el_lstI (xs := [.int (x.getD 3 0)]) (ers_cons (by walk_at "ev") ers_nil) ?_ (by simp))) (by simp)) ?_) fun q H2 hq e2 h2 => k q H2 (fresh_back e1 hq) (e1.trans e2) h2
    · rintro H' vs ⟨v, r, rfl, r1, rfl⟩
      rw [r1]
      rfl
    · show _ = vI (foggedM x m y)
      unfold foggedM vI
      rw [List.map_append, List.map_map]
      rfl
theorem ok_fogged (T : Tx K mg) (G_byte_times : GF P w K mg base "byte_times" 1 ["one", "other"] sp_byte_times) (G_held : GF P w K mg base "held" 1 ["number"] sp_held) : GF P w K mg base "fogged" 2 ["pixel", "much", "colour"] sp_fogged := by
  refine ⟨fn_keep (k := 1) (tt := (t_fogged K)) T.d_fogged sc_fogged len_fogged (fun _ _ _ _ _ _ us hl => match us, hl with | [_, _, _], _ => rfl) (fun cdv A outer s H E hr => ?_) (pure_fogged T), T.d_fogged.kp, T.g_fogged⟩
  exact (pss_cons (ps_setLc (i := 3) (own := [("k", 4)]) (g := (gName 4)) (tt := tYes) rfl sc_fogged.nd rfl rfl (sw_true rfl rfl rfl (by decide +kernel)) (pi_range1 rfl T.f_range (pa_cons (pe_gi rfl T.i_COVER) pa_nil)) (blkOk_by (N := ["pixel", "much", "colour", "found", "k"]) (sc := defScope s_fogged) (by decide +kernel)) (fun _ _ _ _ _ => (pg_name (i := 4) sc_fogged.nd rfl (.inl rfl))) (fun _ _ _ _ _ => pts_nil) (fun _ _ _ _ _ => (pe_gf G_held (hr.mono (by decide)) rfl (pa_cons (pe_op op_add (pe_gf G_byte_times (hr.mono (by decide)) rfl (pa_cons (pe_op op_sub (pe_gi rfl T.i_MOST) (pv 1)) (pa_cons (pe_ix ix_list (pv 0) (pv 4) (fun _ _ => rfl)) pa_nil))) (pe_gf G_byte_times (hr.mono (by decide)) rfl (pa_cons (pv 1) (pa_cons (pe_ix ix_list (pv 2) (pv 4) (fun _ _ => rfl)) pa_nil)))) pa_nil))))
    (pss_one (ps_ret (pe_op op_cat (pv 3) (pe_lst (pa_cons (pe_ix ix_list (pv 0) (pe_gi rfl T.i_COVER) (fun _ _ => rfl)) pa_nil))))))
end
end Sd
end

section
set_option linter.all false
set_option exponentiation.threshold 1000
set_option maxRecDepth 100000
/-! ## 4. The mathematics of singles: tuples (minus, size, exponent) against bits -/
namespace Sd
open Si20 (near single value negative)

theorem pw {a b c : Nat} (h : a + b = c) : 2 ^ a * 2 ^ b = 2 ^ c := by rw [← Nat.pow_add, h]
theorem pow_pos2 (n : Nat) : 0 < 2 ^ n := Nat.two_pow_pos n
theorem near_scale (a b c : Nat) (hc : 0 < c) : near (a * c) (b * c) = near a b := by
  unfold near
  dsimp only
  rw [Nat.mul_div_mul_right _ _ hc, Nat.mul_mod_mul_right]
  have e1 : (2 * (a % b * c) < b * c) = (2 * (a % b) < b) := by
    rw [← Nat.mul_assoc]
    exact propext ⟨fun h => Nat.lt_of_mul_lt_mul_right h, fun h => Nat.mul_lt_mul_of_pos_right h hc⟩
  have e2 : (b * c < 2 * (a % b * c)) = (b < 2 * (a % b)) := by
    rw [← Nat.mul_assoc]
    exact propext ⟨fun h => Nat.lt_of_mul_lt_mul_right h, fun h => Nat.mul_lt_mul_of_pos_right h hc⟩
  simp only [e1, e2]
theorem near_le {a b k : Nat} (hb : 0 < b) (h : a ≤ k * b) : near a b ≤ k := by
  have hd := Nat.div_add_mod a b
  have hq : a / b ≤ k := by
    have := Nat.div_le_div_right (c := b) h
    rwa [Nat.mul_div_cancel _ hb] at this
  unfold near
  dsimp only
  by_cases hk : a / b = k
  · have hr : a % b = 0 := by
      have h2 : b * (a / b) = k * b := by rw [hk, Nat.mul_comm]
      omega
    rw [hr, if_pos (by omega)]
    exact hq
  · have hq' : a / b + 1 ≤ k := by omega
    split
    · exact hq
    · split
      · exact hq'
      · split
        · exact hq
        · exact hq'
theorem near_ge {a b k : Nat} (hb : 0 < b) (h : k * b ≤ a) : k ≤ near a b := by
  have hq : k ≤ a / b := (Nat.le_div_iff_mul_le hb).mpr h
  unfold near
  dsimp only
  split
  · exact hq
  · split
    · omega
    · split
      · exact hq
      · omega
theorem near_dvd (k : Nat) {b : Nat} (hb : 0 < b) : near (k * b) b = k := Nat.le_antisymm (near_le hb (Nat.le_refl _)) (near_ge hb (Nat.le_refl _))
theorem near_zero (b : Nat) (hb : 0 < b) : near 0 b = 0 := by
  have := near_dvd 0 hb
  rwa [Nat.zero_mul] at this

def mant (n : Nat) : Nat := if n / 2 ^ 23 % 256 = 0 then n % 2 ^ 23 else (2 ^ 23 + n % 2 ^ 23) * 2 ^ (n / 2 ^ 23 % 256 - 1)
theorem value_eq (n : Nat) : value n = if negative n = true then -((mant n : Nat) : Int) else ((mant n : Nat) : Int) := by
  have e : ((mant n : Nat) : Int) = if n / 2 ^ 23 % 256 = 0 then ((n % 2 ^ 23 : Nat) : Int) else (((2 ^ 23 + n % 2 ^ 23) * 2 ^ (n / 2 ^ 23 % 256 - 1) : Nat) : Int) := by
    unfold mant
    split <;> rfl
  rw [e]
  unfold value negative
  by_cases h : n / 2 ^ 31 % 2 = 1
  · have hb : (n / 2 ^ 31 % 2 == 1) = true := by simp [h]
    rw [if_pos h, if_pos hb]
  · have hb : ¬ (n / 2 ^ 31 % 2 == 1) = true := by simpa using h
    rw [if_neg h, if_neg hb]
theorem value_abs (n : Nat) : (value n).natAbs = mant n := by
  rw [value_eq]
  split
  · rw [Int.natAbs_neg, Int.natAbs_natCast]
  · rw [Int.natAbs_natCast]

/-- the bits of a size n (up to 2^24) at the unit u -/
def enc (neg : Bool) (u n : Nat) : Nat := (if neg = true then 2 ^ 31 else 0) + (u * 2 ^ 23 + n)
theorem enc_parts {neg : Bool} {u n : Nat} (hu : u ≤ 250) (hn : n < 2 ^ 24) (h : u = 0 ∨ 2 ^ 23 ≤ n) :
    enc neg u n / 2 ^ 31 % 2 = (if neg = true then 1 else 0) ∧ enc neg u n < 2 ^ 32 ∧ enc neg u n / 2 ^ 23 % 256 = (if n < 2 ^ 23 then 0 else u + 1) ∧ enc neg u n % 2 ^ 23 = (if n < 2 ^ 23 then n else n - 2 ^ 23) := by
  unfold enc
  cases neg
  · simp only [Bool.false_eq_true, if_false]
    split
    · have : u = 0 := by omega
      subst this
      omega
    · omega
  · simp only [if_true]
    split
    · have : u = 0 := by omega
      subst this
      omega
    · omega
theorem enc_carry {neg : Bool} {u : Nat} : enc neg u (2 ^ 24) = enc neg (u + 1) (2 ^ 23) := by
  unfold enc
  omega
theorem enc_value {neg : Bool} {u n : Nat} (hu : u ≤ 249) (hn : n ≤ 2 ^ 24) (h : u = 0 ∨ 2 ^ 23 ≤ n) :
    negative (enc neg u n) = neg ∧ (value (enc neg u n)).natAbs = n * 2 ^ u ∧ enc neg u n < 2 ^ 32 ∧ enc neg u n / 2 ^ 23 % 256 ≠ 255 := by
  rw [value_abs]
  by_cases hc : n = 2 ^ 24
  · subst hc
    rw [enc_carry]
    obtain ⟨h1, h2, h3, h4⟩ := enc_parts (neg := neg) (u := u + 1) (n := 2 ^ 23) (by omega) (by omega) (by omega)
    rw [if_neg (by omega)] at h3 h4
    refine ⟨?_, ?_, h2, by omega⟩
    · unfold negative
      rw [h1]
      cases neg <;> rfl
    · unfold mant
      rw [h3, h4, if_neg (by omega), show u + 1 + 1 - 1 = u + 1 by omega, Nat.pow_succ]
      omega
  · obtain ⟨h1, h2, h3, h4⟩ := enc_parts (neg := neg) (u := u) (n := n) (by omega) (by omega) h
    refine ⟨?_, ?_, h2, ?_⟩
    · unfold negative
      rw [h1]
      cases neg <;> rfl
    · unfold mant
      rw [h3, h4]
      by_cases hs : n < 2 ^ 23
      · have : u = 0 := by omega
        subst this
        rw [if_pos hs, if_pos hs, if_pos rfl, Nat.pow_zero, Nat.mul_one]
      · rw [if_neg hs, if_neg hs, if_neg (by omega), show u + 1 - 1 = u by omega, show 2 ^ 23 + (n - 2 ^ 23) = n by omega]
    · rw [h3]
      split <;> omega

/-- how many digits -/
def bl (n : Nat) : Nat := if n = 0 then 0 else n.log2 + 1
theorem lt_bl (n : Nat) : n < 2 ^ bl n := by
  unfold bl
  split
  · omega
  · exact Nat.lt_log2_self
theorem bl_le {n : Nat} (h : n ≠ 0) : 2 ^ (bl n - 1) ≤ n := by
  unfold bl
  rw [if_neg h]
  exact Nat.log2_self_le h
theorem bl_le_of_lt {n k : Nat} (h : n < 2 ^ k) : bl n ≤ k := by
  unfold bl
  split
  · omega
  · rename_i hn
    exact (Nat.log2_lt hn).mpr h

/-- a single: minus, size, exponent -/
structure Sgl where
  m : Int
  s : Int
  e : Int
/-- it stands for the bits n -/
def Rep (x : Sgl) (n : Nat) : Prop := ∃ S p : Nat, x.s = (S : Int) ∧ x.e = (p : Int) - 149 ∧ S < 2 ^ 24 ∧ (S = 0 → p ≤ 149) ∧ x.m = (if negative n = true then 1 else 0) ∧ S * 2 ^ p = (value n).natAbs ∧ n < 2 ^ 32 ∧ n / 2 ^ 23 % 256 ≠ 255
/-- no farther from 0 than 2^k -/
def Bd (k : Nat) (n : Nat) : Prop := (value n).natAbs ≤ 2 ^ (k + 149)

/-- what rounded gives: size and exponent -/
def rndN (A : Nat) (e : Int) : Int × Int :=
  if A = 0 then (0, -149) else
  if max ((bl A : Int) + e - 24) (-149) ≤ e then ((A : Int), e) else
  if 2 ^ 24 ≤ near A (2 ^ (max ((bl A : Int) + e - 24) (-149) - e).toNat) then
    (((near A (2 ^ (max ((bl A : Int) + e - 24) (-149) - e).toNat) / 2 : Nat) : Int), max ((bl A : Int) + e - 24) (-149) + 1)
  else (((near A (2 ^ (max ((bl A : Int) + e - 24) (-149) - e).toNat) : Nat) : Int), max ((bl A : Int) + e - 24) (-149))

/-- the unit that the specification takes -/
def unitOf (a b : Nat) : Nat := if a < 2 ^ 23 * b then 0 else Nat.log2 (a / b) - 23
theorem single_eq (neg : Bool) (a b : Nat) : single neg a b = enc neg (unitOf a b) (near a (b * 2 ^ unitOf a b)) := rfl
theorem unit_bounds {a b : Nat} (hb : 0 < b) : (unitOf a b = 0 ∨ 2 ^ 23 ≤ near a (b * 2 ^ unitOf a b)) ∧ near a (b * 2 ^ unitOf a b) ≤ 2 ^ 24 := by
  unfold unitOf
  split
  · rename_i h
    refine ⟨.inl rfl, Nat.le_trans (near_le (k := 2 ^ 23) ?_ ?_) (by omega)⟩
    · simpa using hb
    · simp only [Nat.pow_zero, Nat.mul_one]
      omega
  · rename_i h
    have hq : 2 ^ 23 ≤ a / b := (Nat.le_div_iff_mul_le hb).mpr (by omega)
    have hne : a / b ≠ 0 := by omega
    have hl : 23 ≤ Nat.log2 (a / b) := (Nat.le_log2 hne).mpr hq
    have h1 : 2 ^ Nat.log2 (a / b) ≤ a / b := Nat.log2_self_le hne
    have h2 : a / b < 2 ^ (Nat.log2 (a / b) + 1) := Nat.lt_log2_self
    generalize Nat.log2 (a / b) = L at hl h1 h2
    have hp : 0 < b * 2 ^ (L - 23) := Nat.mul_pos hb (pow_pos2 _)
    refine ⟨.inr (near_ge hp ?_), near_le hp ?_⟩
    · have : 2 ^ L * b ≤ a := (Nat.le_div_iff_mul_le hb).mp h1
      have e : 2 ^ 23 * (b * 2 ^ (L - 23)) = 2 ^ L * b := by
        rw [Nat.mul_comm b, ← Nat.mul_assoc, ← Nat.pow_add, show 23 + (L - 23) = L by omega]
      omega
    · have : a < 2 ^ (L + 1) * b := (Nat.div_lt_iff_lt_mul hb).mp h2
      have e : 2 ^ 24 * (b * 2 ^ (L - 23)) = 2 ^ (L + 1) * b := by
        rw [Nat.mul_comm b, ← Nat.mul_assoc, ← Nat.pow_add, show 24 + (L - 23) = L + 1 by omega]
      omega
theorem unit_le {a b k : Nat} (hb : 0 < b) (h : a ≤ 2 ^ k * b) : unitOf a b ≤ k - 23 := by
  unfold unitOf
  split
  · omega
  · rename_i hs
    have hq : a / b ≤ 2 ^ k := by
      have := Nat.div_le_div_right (c := b) h
      rwa [Nat.mul_div_cancel _ hb] at this
    have hq2 : 2 ^ 23 ≤ a / b := (Nat.le_div_iff_mul_le hb).mpr (by omega)
    have hl : Nat.log2 (a / b) < k + 1 := (Nat.log2_lt (by omega)).mpr (by rw [Nat.pow_succ]; have := pow_pos2 k; omega)
    omega
/-- what single gives, with its bound -/
theorem single_value {neg : Bool} {a b k : Nat} (hb : 0 < b) (hk : 23 ≤ k) (hk2 : k ≤ 270) (h : a ≤ 2 ^ k * b) :
    negative (single neg a b) = neg ∧ (value (single neg a b)).natAbs = near a (b * 2 ^ unitOf a b) * 2 ^ unitOf a b ∧ single neg a b < 2 ^ 32 ∧ single neg a b / 2 ^ 23 % 256 ≠ 255 ∧ (value (single neg a b)).natAbs ≤ 2 ^ k := by
  have hu := unit_le hb h
  obtain ⟨h1, h2⟩ := unit_bounds (a := a) hb
  rw [single_eq]
  obtain ⟨e1, e2, e3, e4⟩ := enc_value (neg := neg) (u := unitOf a b) (by omega) h2 h1
  refine ⟨e1, e2, e3, e4, ?_⟩
  rw [e2]
  have hp : 0 < b * 2 ^ unitOf a b := Nat.mul_pos hb (pow_pos2 _)
  have : near a (b * 2 ^ unitOf a b) ≤ 2 ^ (k - unitOf a b) := near_le hp (by
    rw [Nat.mul_comm b, ← Nat.mul_assoc, ← Nat.pow_add, show k - unitOf a b + unitOf a b = k by omega]
    exact h)
  calc near a (b * 2 ^ unitOf a b) * 2 ^ unitOf a b ≤ 2 ^ (k - unitOf a b) * 2 ^ unitOf a b := Nat.mul_le_mul_right _ this
    _ = 2 ^ k := by rw [← Nat.pow_add, show k - unitOf a b + unitOf a b = k by omega]
/-- the unit by the digits -/
theorem unit_bits {A p q : Nat} (hA : A ≠ 0) : ((unitOf (A * 2 ^ p) (2 ^ q) : Nat) : Int) = max ((bl A : Int) + p - q - 24) 0 := by
  have hb : bl A = A.log2 + 1 := by unfold bl; rw [if_neg hA]
  have l1 : 2 ^ A.log2 ≤ A := Nat.log2_self_le hA
  have l2 : A < 2 ^ (A.log2 + 1) := Nat.lt_log2_self
  rw [hb]
  generalize A.log2 = L at l1 l2
  have g1 : 2 ^ (L + p) ≤ A * 2 ^ p := by rw [Nat.pow_add]; exact Nat.mul_le_mul_right _ l1
  have g2 : A * 2 ^ p < 2 ^ (L + 1 + p) := by rw [Nat.pow_add]; exact Nat.mul_lt_mul_of_pos_right l2 (pow_pos2 _)
  unfold unitOf
  split
  · rename_i h
    have : 2 ^ (L + p) < 2 ^ (23 + q) := by rw [Nat.pow_add 2 23 q]; omega
    have := (Nat.pow_lt_pow_iff_right (by decide : 1 < 2)).mp this
    omega
  · rename_i h
    have : 2 ^ (23 + q) < 2 ^ (L + 1 + p) := by rw [Nat.pow_add 2 23 q]; omega
    have := (Nat.pow_lt_pow_iff_right (by decide : 1 < 2)).mp this
    have hL : 23 + q ≤ L + p := by omega
    have d1 : 2 ^ (L + p - q) ≤ A * 2 ^ p / 2 ^ q := (Nat.le_div_iff_mul_le (pow_pos2 q)).mpr (by rw [← Nat.pow_add, show L + p - q + q = L + p by omega]; exact g1)
    have d2 : A * 2 ^ p / 2 ^ q < 2 ^ (L + p - q + 1) := (Nat.div_lt_iff_lt_mul (pow_pos2 q)).mpr (by rw [← Nat.pow_add, show L + p - q + 1 + q = L + 1 + p by omega]; exact g2)
    have hne : A * 2 ^ p / 2 ^ q ≠ 0 := by have := pow_pos2 (L + p - q); omega
    have e1 : L + p - q ≤ Nat.log2 (A * 2 ^ p / 2 ^ q) := (Nat.le_log2 hne).mpr d1
    have e2 : Nat.log2 (A * 2 ^ p / 2 ^ q) < L + p - q + 1 := (Nat.log2_lt hne).mpr d2
    omega
/-- THE ROUNDING: rounded's tuple stands for the specification's single -/
theorem rnd_rep {A p q k : Nat} {e : Int} (neg : Bool) (he : e = (p : Int) - q - 149) (hk : 23 ≤ k) (hk2 : k ≤ 270) (h : A * 2 ^ p ≤ 2 ^ k * 2 ^ q) :
    Rep ⟨if neg = true then 1 else 0, (rndN A e).1, (rndN A e).2⟩ (single neg (A * 2 ^ p) (2 ^ q)) := by
  obtain ⟨v1, v2, v3, v4, _⟩ := single_value (neg := neg) (pow_pos2 q) hk hk2 h
  obtain ⟨b1, b2⟩ := unit_bounds (a := A * 2 ^ p) (pow_pos2 q)
  by_cases hA : A = 0
  · subst hA
    refine ⟨0, 0, ?_, ?_, by decide, fun _ => by omega, by rw [v1], ?_, v3, v4⟩
    · unfold rndN; simp
    · unfold rndN; simp
    · rw [v2]
      have z : near (0 * 2 ^ p) (2 ^ q * 2 ^ unitOf (0 * 2 ^ p) (2 ^ q)) = 0 := Nat.le_zero.mp (near_le (Nat.mul_pos (pow_pos2 _) (pow_pos2 _)) (by rw [Nat.zero_mul]; exact Nat.zero_le _))
      rw [z]
      simp
  · have hu := unit_bits (p := p) (q := q) hA
    generalize unitOf (A * 2 ^ p) (2 ^ q) = u at *
    have hmax : max ((bl A : Int) + e - 24) (-149) = (u : Int) - 149 := by omega
    have hbA := lt_bl A
    unfold rndN
    rw [if_neg hA, hmax]
    by_cases hc : (u : Int) - 149 ≤ e
    · rw [if_pos hc]
      have hpq : q + u ≤ p := by omega
      refine ⟨A, p - q, rfl, by show e = _; omega, ?_, fun z => absurd z hA, by rw [v1], ?_, v3, v4⟩
      · have : bl A ≤ 24 := by omega
        exact Nat.lt_of_lt_of_le hbA (Nat.pow_le_pow_right (by decide) this)
      · rw [v2]
        have e1 : A * 2 ^ p = A * 2 ^ (p - q - u) * (2 ^ q * 2 ^ u) := by
          rw [Nat.mul_assoc, ← Nat.pow_add, ← Nat.pow_add, show p - q - u + (q + u) = p by omega]
        rw [e1, near_dvd _ (Nat.mul_pos (pow_pos2 _) (pow_pos2 _)), Nat.mul_assoc, ← Nat.pow_add, show p - q - u + u = p - q by omega]
    · rw [if_neg hc]
      have hd : ((u : Int) - 149 - e).toNat = u + q - p := by omega
      rw [hd]
      have hn : near A (2 ^ (u + q - p)) = near (A * 2 ^ p) (2 ^ q * 2 ^ u) := by
        rw [← near_scale A _ (2 ^ p) (pow_pos2 p), ← Nat.pow_add, ← Nat.pow_add, show u + q - p + p = q + u by omega]
      rw [hn]
      generalize near (A * 2 ^ p) (2 ^ q * 2 ^ u) = N at *
      by_cases hN : 2 ^ 24 ≤ N
      · rw [if_pos hN]
        have hN' : N = 2 ^ 24 := by omega
        subst hN'
        refine ⟨2 ^ 23, u + 1, rfl, by show (u : Int) - 149 + 1 = _; omega, by decide, fun z => absurd z (by decide), by rw [v1], ?_, v3, v4⟩
        rw [v2, Nat.pow_succ]
        omega
      · rw [if_neg hN]
        refine ⟨N, u, rfl, rfl, by omega, ?_, by rw [v1], by rw [v2], v3, v4⟩
        intro hz
        rcases b1 with z | z
        · omega
        · omega

/-! ### the operations -/
theorem Rep.fin {x : Sgl} {n : Nat} (h : Rep x n) : n < 2 ^ 32 ∧ n / 2 ^ 23 % 256 ≠ 255 := by
  obtain ⟨S, p, _, _, _, _, _, _, h1, h2⟩ := h
  exact ⟨h1, h2⟩
/-- the value of a tuple as a whole number at a low exponent -/
def sgnM (x : Sgl) (low : Int) : Int := if x.m = 1 then 0 - x.s * 2 ^ (x.e - low).toNat else x.s * 2 ^ (x.e - low).toNat
theorem sgn_value {x : Sgl} {n l : Nat} (h : Rep x n) {low : Int} (hl : low = (l : Int) - 149) (hle : low ≤ x.e) : sgnM x low * 2 ^ l = value n := by
  obtain ⟨S, p, hs, he, _, _, hm, hv, _, _⟩ := h
  unfold sgnM
  have e1 : (x.e - low).toNat = p - l := by omega
  have e2 : x.s * 2 ^ (x.e - low).toNat * 2 ^ l = ((mant n : Nat) : Int) := by
    rw [e1, hs, Int.mul_assoc, ← Int.pow_add, show p - l + l = p by omega, ← value_abs, ← hv, Int.natCast_mul, Int.natCast_pow]
    rfl
  rw [value_eq, hm]
  cases negative n
  · simp only [Bool.false_eq_true, if_false]
    rw [if_neg (by decide)]
    exact e2
  · simp only [if_true]
    rw [Int.sub_mul, Int.zero_mul, e2]
    omega
theorem pow_pos_int (l : Nat) : (0 : Int) < 2 ^ l := Int.pow_pos (by decide)
theorem below_iff {x y : Sgl} {a b : Nat} (hx : Rep x a) (hy : Rep y b) : decide (sgnM x (min x.e y.e) < sgnM y (min x.e y.e)) = decide (value a < value b) := by
  obtain ⟨S, p, _, he, _⟩ := id hx
  obtain ⟨S', p', _, he', _⟩ := id hy
  have hl : min x.e y.e = ((min p p' : Nat) : Int) - 149 := by omega
  rw [← sgn_value hx hl (by omega), ← sgn_value hy hl (by omega)]
  have hp := pow_pos_int (min p p')
  rw [decide_eq_decide]
  exact ⟨fun h => Int.mul_lt_mul_of_pos_right h hp, fun h => Int.lt_of_mul_lt_mul_right h (Int.le_of_lt hp)⟩
def rndM (m : Int) (A : Nat) (e : Int) : Sgl := ⟨m, (rndN A e).1, (rndN A e).2⟩
def timesM (x y : Sgl) : Sgl := rndM ((x.m + y.m) % 2) (x.s * y.s).toNat (x.e + y.e)
def addedM (x y : Sgl) : Sgl := if x.s = 0 ∧ y.s = 0 then ⟨x.m * y.m, 0, -149⟩ else
  rndM (if sgnM x (min x.e y.e) + sgnM y (min x.e y.e) < 0 then 1 else 0) (sgnM x (min x.e y.e) + sgnM y (min x.e y.e)).natAbs (min x.e y.e)
def oppM (x : Sgl) : Sgl := ⟨1 - x.m, x.s, x.e⟩
theorem times_rep {x y : Sgl} {a b i j : Nat} (hx : Rep x a) (hy : Rep y b) (ha : Bd i a) (hb : Bd j b) (hij : i + j ≤ 120) : Rep (timesM x y) (Si20.product a b) ∧ Bd (i + j) (Si20.product a b) := by
  obtain ⟨S, p, hs, he, _, _, hm, hv, _, _⟩ := hx
  obtain ⟨S', p', hs', he', _, _, hm', hv', _, _⟩ := hy
  have hle : S * S' * 2 ^ (p + p') ≤ 2 ^ (i + j + 149) * 2 ^ 149 := by
    have e1 : S * S' * 2 ^ (p + p') = (S * 2 ^ p) * (S' * 2 ^ p') := by
      rw [Nat.pow_add, Nat.mul_assoc, Nat.mul_assoc]
      congr 1
      rw [← Nat.mul_assoc, Nat.mul_comm S' (2 ^ p), Nat.mul_assoc]
    rw [e1, hv, hv']
    have := Nat.mul_le_mul ha hb
    calc _ ≤ 2 ^ (i + 149) * 2 ^ (j + 149) := this
      _ = 2 ^ (i + j + 149) * 2 ^ 149 := by rw [← Nat.pow_add, ← Nat.pow_add]; congr 1; omega
  have ep : Si20.product a b = single (negative a != negative b) (S * S' * 2 ^ (p + p')) (2 ^ 149) := by
    unfold Si20.product
    rw [← hv, ← hv']
    congr 1
    rw [Nat.pow_add, Nat.mul_assoc, Nat.mul_assoc]
    congr 1
    rw [← Nat.mul_assoc, Nat.mul_comm (2 ^ p) S', Nat.mul_assoc]
  have z := rnd_rep (A := S * S') (p := p + p') (q := 149) (k := i + j + 149) (e := x.e + y.e) (negative a != negative b) (by omega) (by omega) (by omega) hle
  have z2 := (single_value (neg := (negative a != negative b)) (pow_pos2 149) (by omega) (by omega) hle).2.2.2.2
  rw [ep]
  refine ⟨?_, z2⟩
  unfold timesM rndM
  have e3 : (x.s * y.s).toNat = S * S' := by rw [hs, hs', ← Int.natCast_mul]; rfl
  have e4 : (x.m + y.m) % 2 = if (negative a != negative b) = true then 1 else 0 := by
    rw [hm, hm']
    cases negative a <;> cases negative b <;> rfl
  rw [e3, e4]
  exact z
theorem added_rep {x y : Sgl} {a b k : Nat} (hx : Rep x a) (hy : Rep y b) (ha : Bd k a) (hb : Bd k b) (hk : k ≤ 118) : Rep (addedM x y) (Si20.plus a b) ∧ Bd (k + 1) (Si20.plus a b) := by
  obtain ⟨S, p, hs, he, _, _, hm, hv, _, _⟩ := id hx
  obtain ⟨S', p', hs', he', _, _, hm', hv', _, _⟩ := id hy
  have hl : min x.e y.e = ((min p p' : Nat) : Int) - 149 := by omega
  have t1 := sgn_value hx hl (by omega)
  have t2 := sgn_value hy hl (by omega)
  unfold addedM Si20.plus
  dsimp only
  rw [← t1, ← t2, ← Int.add_mul]
  have hva : (value a).natAbs ≤ 2 ^ (k + 149) := ha
  have hvb : (value b).natAbs ≤ 2 ^ (k + 149) := hb
  rw [← t1] at hva
  rw [← t2] at hvb
  have hp := pow_pos_int (min p p')
  by_cases h0 : x.s = 0 ∧ y.s = 0
  · rw [if_pos h0]
    have z1 : sgnM x (min x.e y.e) = 0 := by
      unfold sgnM
      rw [h0.1]
      split <;> simp
    have z2 : sgnM y (min x.e y.e) = 0 := by
      unfold sgnM
      rw [h0.2]
      split <;> simp
    rw [z1, z2, if_pos (by simp)]
    by_cases hn : negative a = true ∧ negative b = true
    · rw [if_pos hn]
      exact ⟨⟨0, 0, rfl, rfl, by decide, fun _ => by omega, by show x.m * y.m = _; rw [hm, hm', hn.1, hn.2]; decide, by decide, by decide, by decide⟩, by unfold Bd; rw [show (value (2 ^ 31)).natAbs = 0 by decide]; exact Nat.zero_le _⟩
    · rw [if_neg hn]
      refine ⟨⟨0, 0, rfl, rfl, by decide, fun _ => by omega, ?_, by decide, by decide, by decide⟩, by unfold Bd; rw [show (value 0).natAbs = 0 by decide]; exact Nat.zero_le _⟩
      show x.m * y.m = _
      rw [hm, hm', show negative 0 = false by decide]
      cases h1 : negative a <;> cases h2 : negative b
      · rfl
      · rfl
      · rfl
      · exact absurd ⟨h1, h2⟩ hn
  · rw [if_neg h0]
    by_cases hz : sgnM x (min x.e y.e) + sgnM y (min x.e y.e) = 0
    · rw [hz, Int.zero_mul, if_pos rfl]
      have hn : ¬ (negative a = true ∧ negative b = true) := by
        intro hn
        apply h0
        have q1 : sgnM x (min x.e y.e) ≤ 0 := by
          unfold sgnM
          rw [hm, hn.1, if_pos (by decide), hs]
          have : (0 : Int) ≤ (S : Int) * 2 ^ (x.e - min x.e y.e).toNat := Int.mul_nonneg (by omega) (Int.le_of_lt (pow_pos_int _))
          omega
        have q2 : sgnM y (min x.e y.e) ≤ 0 := by
          unfold sgnM
          rw [hm', hn.2, if_pos (by decide), hs']
          have : (0 : Int) ≤ (S' : Int) * 2 ^ (y.e - min x.e y.e).toNat := Int.mul_nonneg (by omega) (Int.le_of_lt (pow_pos_int _))
          omega
        have r1 : sgnM x (min x.e y.e) = 0 := by omega
        have r2 : sgnM y (min x.e y.e) = 0 := by omega
        have zero : ∀ (z : Sgl) (l : Int), sgnM z l = 0 → z.s = 0 := by
          intro z l hz
          unfold sgnM at hz
          have hz' : z.s * 2 ^ (z.e - l).toNat = 0 := by
            split at hz <;> omega
          rcases Int.mul_eq_zero.mp hz' with h | h
          · exact h
          · have := pow_pos_int (z.e - l).toNat
            omega
        exact ⟨zero _ _ r1, zero _ _ r2⟩
      rw [if_neg hn, if_neg (by decide)]
      exact ⟨⟨0, 0, by unfold rndM rndN; simp, by unfold rndM rndN; simp, by decide, fun _ => by omega, rfl, by decide, by decide, by decide⟩, by unfold Bd; rw [show (value 0).natAbs = 0 by decide]; exact Nat.zero_le _⟩
    · have hz' : ¬ (sgnM x (min x.e y.e) + sgnM y (min x.e y.e)) * 2 ^ min p p' = 0 := by
        intro h
        rcases Int.mul_eq_zero.mp h with h | h
        · exact hz h
        · omega
      rw [if_neg hz']
      have hsum : ((sgnM x (min x.e y.e) + sgnM y (min x.e y.e)) * 2 ^ min p p').natAbs ≤ 2 ^ (k + 1 + 149) := by
        rw [Int.add_mul]
        have := Int.natAbs_add_le (sgnM x (min x.e y.e) * 2 ^ min p p') (sgnM y (min x.e y.e) * 2 ^ min p p')
        rw [show k + 1 + 149 = k + 149 + 1 by omega, Nat.pow_succ]
        omega
      generalize sgnM x (min x.e y.e) + sgnM y (min x.e y.e) = tt at *
      have ht : (tt * 2 ^ min p p').natAbs = tt.natAbs * 2 ^ min p p' := by
        rw [Int.natAbs_mul, Int.natAbs_pow]
        rfl
      rw [ht] at hsum ⊢
      have hneg : decide (tt * 2 ^ min p p' < 0) = decide (tt < 0) := by
        rw [decide_eq_decide]
        constructor
        · intro h
          by_cases h2 : tt < 0
          · exact h2
          · have := Int.mul_nonneg (a := tt) (by omega) (Int.le_of_lt hp)
            omega
        · intro h
          have := Int.mul_neg_of_neg_of_pos h hp
          exact this
      rw [hneg]
      have hle : tt.natAbs * 2 ^ min p p' ≤ 2 ^ (k + 1 + 149) * 2 ^ 0 := by rw [Nat.pow_zero, Nat.mul_one]; exact hsum
      have z := rnd_rep (A := tt.natAbs) (p := min p p') (q := 0) (k := k + 1 + 149) (e := min x.e y.e) (decide (tt < 0)) (by omega) (by omega) (by omega) hle
      have z2 := (single_value (neg := decide (tt < 0)) (pow_pos2 0) (by omega) (by omega) hle).2.2.2.2
      refine ⟨?_, z2⟩
      unfold rndM
      have e4 : (if tt < 0 then (1 : Int) else 0) = if decide (tt < 0) = true then 1 else 0 := by
        by_cases h : tt < 0
        · rw [if_pos h, if_pos (decide_eq_true h)]
        · rw [if_neg h, decide_eq_false h]
          rfl
      rw [e4]
      exact z
theorem opp_rep {x : Sgl} {n : Nat} (h : Rep x n) : Rep (oppM x) (Si20.minus n) ∧ value (Si20.minus n) = - value n := by
  obtain ⟨S, p, hs, he, h1, h2, hm, hv, hn, hf⟩ := h
  have e1 : Si20.minus n = if n < 2 ^ 31 then n + 2 ^ 31 else n - 2 ^ 31 := by
    unfold Si20.minus
    split <;> omega
  have g : negative (Si20.minus n) = !negative n := by
    rw [e1]
    unfold negative
    split
    · have a1 : n / 2 ^ 31 % 2 = 0 := by omega
      have a2 : (n + 2 ^ 31) / 2 ^ 31 % 2 = 1 := by omega
      rw [a1, a2]
      rfl
    · have a1 : n / 2 ^ 31 % 2 = 1 := by omega
      have a2 : (n - 2 ^ 31) / 2 ^ 31 % 2 = 0 := by omega
      rw [a1, a2]
      rfl
  have gm : mant (Si20.minus n) = mant n := by
    rw [e1]
    unfold mant
    have a1 : (if n < 2 ^ 31 then n + 2 ^ 31 else n - 2 ^ 31) / 2 ^ 23 % 256 = n / 2 ^ 23 % 256 := by split <;> omega
    have a2 : (if n < 2 ^ 31 then n + 2 ^ 31 else n - 2 ^ 31) % 2 ^ 23 = n % 2 ^ 23 := by split <;> omega
    rw [a1, a2]
  refine ⟨⟨S, p, hs, he, h1, h2, ?_, ?_, ?_, ?_⟩, ?_⟩
  · show 1 - x.m = _
    rw [hm, g]
    cases negative n <;> rfl
  · rw [value_abs, gm, ← value_abs]
    exact hv
  · rw [e1]
    split <;> omega
  · rw [e1]
    split <;> omega
  · rw [value_eq, value_eq, g, gm]
    cases negative n
    · rfl
    · simp
/-- nearest: the whole number -/
def shM (s places : Int) : Int := if 0 ≤ places then s * 2 ^ places.toNat else ((near s.toNat (2 ^ (-places).toNat) : Nat) : Int)
def nearM (x : Sgl) : Int := if x.m = 1 then 0 - shM x.s x.e else shM x.s x.e
def wholeZ (n : Nat) : Int := if negative n = true then -((near (value n).natAbs (2 ^ 149) : Nat) : Int) else ((near (value n).natAbs (2 ^ 149) : Nat) : Int)
theorem near_rep {x : Sgl} {n : Nat} (h : Rep x n) : nearM x = wholeZ n := by
  obtain ⟨S, p, hs, he, h1, h2, hm, hv, hn, hf⟩ := h
  have e : shM x.s x.e = ((near (value n).natAbs (2 ^ 149) : Nat) : Int) := by
    unfold shM
    rw [← hv, hs]
    split
    · have hp : 149 ≤ p := by omega
      rw [show x.e.toNat = p - 149 by omega]
      have : S * 2 ^ p = S * 2 ^ (p - 149) * 2 ^ 149 := by rw [Nat.mul_assoc, ← Nat.pow_add, show p - 149 + 149 = p by omega]
      rw [this, near_dvd _ (pow_pos2 _), Int.natCast_mul, Int.natCast_pow]
      rfl
    · have hp : p < 149 := by omega
      rw [show (-x.e).toNat = 149 - p by omega, Int.toNat_natCast]
      have : (2 : Nat) ^ 149 = 2 ^ (149 - p) * 2 ^ p := by rw [← Nat.pow_add, show 149 - p + p = 149 by omega]
      rw [this, near_scale _ _ _ (pow_pos2 _)]
  unfold nearM wholeZ
  rw [e, hm]
  cases negative n
  · rfl
  · simp
/-! bits there and back -/
def singleOfM (b : Int) : Sgl := if b / 2 ^ 23 % 256 = 0 then ⟨b / 2 ^ 31, b % 2 ^ 23, -149⟩ else ⟨b / 2 ^ 31, b % 2 ^ 23 + 2 ^ 23, b / 2 ^ 23 % 256 - 150⟩
theorem single_of_rep {n : Nat} (hn : n < 2 ^ 32) (hf : n / 2 ^ 23 % 256 ≠ 255) : Rep (singleOfM n) n := by
  have hm : (n : Int) / 2 ^ 31 = if negative n = true then 1 else 0 := by
    unfold negative
    have h2 : n / 2 ^ 31 % 2 = 0 ∨ n / 2 ^ 31 % 2 = 1 := by omega
    rcases h2 with h | h
    · rw [h]
      show (n : Int) / 2 ^ 31 = 0
      omega
    · rw [h]
      show (n : Int) / 2 ^ 31 = 1
      omega
  unfold singleOfM
  by_cases h : n / 2 ^ 23 % 256 = 0
  · rw [if_pos (by omega)]
    refine ⟨n % 2 ^ 23, 0, by show (n : Int) % 2 ^ 23 = _; omega, rfl, by omega, fun _ => by omega, hm, ?_, hn, hf⟩
    rw [value_abs]
    unfold mant
    rw [if_pos h, Nat.pow_zero, Nat.mul_one]
  · rw [if_neg (by omega)]
    refine ⟨2 ^ 23 + n % 2 ^ 23, n / 2 ^ 23 % 256 - 1, by show (n : Int) % 2 ^ 23 + 2 ^ 23 = _; omega, by show (n : Int) / 2 ^ 23 % 256 - 150 = _; omega, by omega, fun z => by omega, hm, ?_, hn, hf⟩
    rw [value_abs]
    unfold mant
    rw [if_neg h]
def upM (x : Sgl) : Int := min (max 0 (24 - (bl x.s.toNat : Int))) (x.e + 149)
def bitsOfM (x : Sgl) : Int := if x.s = 0 then x.m * 2 ^ 31 else
  if x.s * 2 ^ (upM x).toNat / 2 ^ 23 = 0 then x.m * 2 ^ 31 + x.s * 2 ^ (upM x).toNat else x.m * 2 ^ 31 + (x.e - upM x + 150) * 2 ^ 23 + x.s * 2 ^ (upM x).toNat - 2 ^ 23
theorem mant_zero {n : Nat} (h : mant n = 0) : n % 2 ^ 31 = 0 := by
  unfold mant at h
  split at h
  · omega
  · rename_i hn
    have := Nat.mul_pos (show 0 < 2 ^ 23 + n % 2 ^ 23 by omega) (pow_pos2 (n / 2 ^ 23 % 256 - 1))
    omega
theorem pow_split {a b c d : Nat} (h : a * 2 ^ c = b * 2 ^ d) (ha : 2 ^ 23 ≤ a) (ha2 : a < 2 ^ 24) (hb : 2 ^ 23 ≤ b) (hb2 : b < 2 ^ 24) : c = d ∧ a = b := by
  have key : ∀ {a b c d : Nat}, a * 2 ^ c = b * 2 ^ d → 2 ^ 23 ≤ a → b < 2 ^ 24 → c ≤ d := by
    intro a b c d h ha hb
    by_cases hc : c ≤ d
    · exact hc
    · exfalso
      have e : a * 2 ^ c = a * 2 ^ (c - d) * 2 ^ d := by rw [Nat.mul_assoc, ← Nat.pow_add, show c - d + d = c by omega]
      rw [e] at h
      have h2 := Nat.eq_of_mul_eq_mul_right (pow_pos2 d) h
      have h3 : 2 ≤ 2 ^ (c - d) := by
        have : 2 ^ 1 ≤ 2 ^ (c - d) := Nat.pow_le_pow_right (by decide) (by omega)
        exact this
      have h4 : a * 2 ≤ a * 2 ^ (c - d) := Nat.mul_le_mul_left _ h3
      omega
  have hc : c = d := Nat.le_antisymm (key h ha hb2) (key h.symm hb ha2)
  subst hc
  exact ⟨rfl, Nat.eq_of_mul_eq_mul_right (pow_pos2 c) h⟩
theorem bits_of_rep {x : Sgl} {n : Nat} (h : Rep x n) : bitsOfM x = (n : Int) ∧ 0 ≤ upM x ∧ upM x ≤ 24 := by
  obtain ⟨S, p, hs, he, h1, h2, hm, hv, hn, hf⟩ := h
  rw [value_abs] at hv
  have hup : upM x = ((min (24 - bl S) p : Nat) : Int) := by
    unfold upM
    rw [hs, Int.toNat_natCast]
    omega
  refine ⟨?_, by rw [hup]; omega, by rw [hup]; omega⟩
  have hsg : x.m * 2 ^ 31 = ((n / 2 ^ 31 * 2 ^ 31 : Nat) : Int) := by
    rw [hm]
    unfold negative
    have h2 : n / 2 ^ 31 = 0 ∨ n / 2 ^ 31 = 1 := by omega
    rcases h2 with h | h <;> rw [h] <;> rfl
  unfold bitsOfM
  rw [hup, hsg, hs, Int.toNat_natCast]
  by_cases h0 : S = 0
  · subst h0
    rw [if_pos (show ((0 : Nat) : Int) = 0 by decide)]
    have := mant_zero (n := n) (by omega)
    omega
  · rw [if_neg (by omega)]
    have hbl := lt_bl S
    have hbl2 := bl_le h0
    have hbp : 1 ≤ bl S := by unfold bl; rw [if_neg h0]; omega
    have hb24 : bl S ≤ 24 := bl_le_of_lt h1
    have ecast : (S : Int) * 2 ^ min (24 - bl S) p = ((S * 2 ^ min (24 - bl S) p : Nat) : Int) := by rw [Int.natCast_mul, Int.natCast_pow]; rfl
    rw [ecast]
    have hz : S * 2 ^ min (24 - bl S) p * 2 ^ (p - min (24 - bl S) p) = mant n := by rw [Nat.mul_assoc, ← Nat.pow_add, ← hv]; congr 2; omega
    have hlt : S * 2 ^ min (24 - bl S) p < 2 ^ 24 := by
      have a1 : 2 ^ min (24 - bl S) p ≤ 2 ^ (24 - bl S) := Nat.pow_le_pow_right (by decide) (by omega)
      calc S * 2 ^ min (24 - bl S) p ≤ S * 2 ^ (24 - bl S) := Nat.mul_le_mul_left _ a1
        _ < 2 ^ bl S * 2 ^ (24 - bl S) := Nat.mul_lt_mul_of_pos_right hbl (pow_pos2 _)
        _ = 2 ^ 24 := by rw [← Nat.pow_add, show bl S + (24 - bl S) = 24 by omega]
    have hge : S * 2 ^ min (24 - bl S) p < 2 ^ 23 → p ≤ 24 - bl S := by
      intro hh
      by_cases hpp : p ≤ 24 - bl S
      · exact hpp
      · exfalso
        rw [show min (24 - bl S) p = 24 - bl S by omega] at hh
        have : 2 ^ (bl S - 1) * 2 ^ (24 - bl S) ≤ S * 2 ^ (24 - bl S) := Nat.mul_le_mul_right _ hbl2
        rw [← Nat.pow_add, show bl S - 1 + (24 - bl S) = 23 by omega] at this
        omega
    generalize hZ : S * 2 ^ min (24 - bl S) p = Z at *
    generalize hU : min (24 - bl S) p = U at *
    by_cases hs23 : Z < 2 ^ 23
    · rw [if_pos (by omega)]
      have hpU : p - U = 0 := by have := hge hs23; omega
      rw [hpU, Nat.pow_zero, Nat.mul_one] at hz
      unfold mant at hz
      split at hz
      · omega
      · exfalso
        have := Nat.mul_le_mul_left (2 ^ 23 + n % 2 ^ 23) (pow_pos2 (n / 2 ^ 23 % 256 - 1))
        omega
    · rw [if_neg (by omega)]
      unfold mant at hz
      split at hz
      · exfalso
        have := Nat.mul_le_mul_left Z (pow_pos2 (p - U))
        omega
      · rename_i hE
        obtain ⟨c1, c2⟩ := pow_split hz (by omega) hlt (by omega) (by omega)
        omega
/-! calm -/
theorem calm_iff {n : Nat} (hn : n < 2 ^ 32) : Si20.calm n = decide (n % 2 ^ 31 ≤ 1317011456) := by
  unfold Si20.calm
  rw [value_abs]
  rw [Bool.eq_iff_iff]
  simp only [Bool.and_eq_true, decide_eq_true_eq]
  unfold mant
  constructor
  · rintro ⟨⟨_, h⟩, h2⟩
    split at h
    · omega
    · rename_i hE
      by_cases hh : n / 2 ^ 23 % 256 ≤ 156
      · omega
      · have hE2 : 157 ≤ n / 2 ^ 23 % 256 := by omega
        by_cases h157 : n / 2 ^ 23 % 256 = 157
        · rw [h157] at h
          have : 2 ^ 23 + n % 2 ^ 23 ≤ 2 ^ 23 := by
            have e : (2 : Nat) ^ 179 = 2 ^ 23 * 2 ^ (157 - 1) := by rw [← Nat.pow_add]
            rw [e] at h
            exact Nat.le_of_mul_le_mul_right h (pow_pos2 _)
          omega
        · exfalso
          have a : 2 ^ 23 * 2 ^ 157 ≤ (2 ^ 23 + n % 2 ^ 23) * 2 ^ (n / 2 ^ 23 % 256 - 1) := Nat.mul_le_mul (by omega) (Nat.pow_le_pow_right (by decide) (by omega))
          have b : (2 : Nat) ^ 23 * 2 ^ 157 = 2 ^ 180 := by rw [← Nat.pow_add]
          have c : (2 : Nat) ^ 179 < 2 ^ 180 := by decide
          omega
  · intro h
    have hE : n / 2 ^ 23 % 256 ≤ 157 := by omega
    refine ⟨⟨hn, ?_⟩, by omega⟩
    split
    · have : n % 2 ^ 23 < 2 ^ 23 := Nat.mod_lt _ (by decide)
      have : (2 : Nat) ^ 23 ≤ 2 ^ 179 := Nat.pow_le_pow_right (by decide) (by decide)
      omega
    · by_cases h157 : n / 2 ^ 23 % 256 = 157
      · have : n % 2 ^ 23 = 0 := by omega
        rw [h157, this, Nat.add_zero, ← Nat.pow_add]
        exact Nat.le_refl _
      · have a : (2 ^ 23 + n % 2 ^ 23) * 2 ^ (n / 2 ^ 23 % 256 - 1) ≤ 2 ^ 24 * 2 ^ 155 := Nat.mul_le_mul (by omega) (Nat.pow_le_pow_right (by decide) (by omega))
        have b : (2 : Nat) ^ 24 * 2 ^ 155 = 2 ^ 179 := by rw [← Nat.pow_add]
        omega
theorem calm_bd {n : Nat} (h : Si20.calm n = true) : n < 2 ^ 32 ∧ n / 2 ^ 23 % 256 ≠ 255 ∧ Bd 30 n := by
  unfold Si20.calm at h
  simp only [Bool.and_eq_true, decide_eq_true_eq] at h
  exact ⟨h.1.1, h.2, h.1.2⟩
/-! 1 by a single -/
theorem sticky {M S E : Nat} (hS : 0 < S) (hE : 0 < E) : near (2 * M) (S * (4 * E)) = near (2 * (M / S) + (if 0 < M % S then 1 else 0)) (4 * E) := by
  have hM := Nat.div_add_mod M S
  have hr : M % S < S := Nat.mod_lt _ hS
  have hk := Nat.div_add_mod (2 * (M / S)) (4 * E)
  have ht : 2 * (M / S) % (4 * E) < 4 * E := Nat.mod_lt _ (by omega)
  have hev : 2 * (M / S) % (4 * E) % 2 = 0 := by
    have : 2 * (M / S) % (4 * E) = 2 * (M / S) - 4 * E * (2 * (M / S) / (4 * E)) := by omega
    rw [this, Nat.mul_assoc 4]
    omega
  generalize 2 * (M / S) % (4 * E) = t at *
  generalize hkk : 2 * (M / S) / (4 * E) = k at *
  generalize M % S = r at *
  generalize hq : M / S = q0 at *
  have e1 : 2 * M = S * (4 * E) * k + (S * t + 2 * r) := by
    calc 2 * M = S * (2 * q0) + 2 * r := by rw [← hM]; rw [Nat.mul_add, ← Nat.mul_assoc, Nat.mul_comm 2 S, Nat.mul_assoc]
      _ = S * (4 * E * k + t) + 2 * r := by rw [hk]
      _ = S * (4 * E) * k + (S * t + 2 * r) := by rw [Nat.mul_add, Nat.mul_assoc S (4 * E) k, Nat.add_assoc]
  have hSt : S * t ≤ S * (4 * E - 2) := Nat.mul_le_mul_left _ (by omega)
  have hS4 : S * (4 * E - 2) + 2 * S = S * (4 * E) := by
    rw [Nat.mul_comm 2 S, ← Nat.mul_add]
    congr 1
    omega
  have l1 : S * t + 2 * r < S * (4 * E) := by omega
  have hpos : 0 < S * (4 * E) := Nat.mul_pos hS (by omega)
  have d1 : 2 * M / (S * (4 * E)) = k := by
    rw [e1, Nat.mul_add_div hpos, Nat.div_eq_of_lt l1, Nat.add_zero]
  have m1 : 2 * M % (S * (4 * E)) = S * t + 2 * r := by
    rw [e1, Nat.mul_add_mod, Nat.mod_eq_of_lt l1]
  generalize hsg : (if 0 < r then 1 else 0) = sg at *
  have hsg1 : sg ≤ 1 := by rw [← hsg]; split <;> omega
  have l2 : t + sg < 4 * E := by omega
  have e2 : 2 * q0 + sg = 4 * E * k + (t + sg) := by omega
  have d2 : (2 * q0 + sg) / (4 * E) = k := by
    rw [e2, Nat.mul_add_div (by omega), Nat.div_eq_of_lt l2, Nat.add_zero]
  have m2 : (2 * q0 + sg) % (4 * E) = t + sg := by
    rw [e2, Nat.mul_add_mod, Nat.mod_eq_of_lt l2]
  have hS2 : S * (2 * E) * 2 = S * (4 * E) := by rw [Nat.mul_assoc]; congr 1; omega
  have c1 : (2 * (S * t + 2 * r) < S * (4 * E)) = (2 * (t + sg) < 4 * E) := by
    apply propext
    by_cases hlt : t < 2 * E
    · have a1 : S * t ≤ S * (2 * E - 2) := Nat.mul_le_mul_left _ (by omega)
      have a2 : S * (2 * E - 2) + 2 * S = S * (2 * E) := by rw [Nat.mul_comm 2 S, ← Nat.mul_add]; congr 1; omega
      exact ⟨fun _ => by omega, fun _ => by omega⟩
    · have a1 : S * (2 * E) ≤ S * t := Nat.mul_le_mul_left _ (by omega)
      exact ⟨fun h => by omega, fun h => by omega⟩
  have c2 : (S * (4 * E) < 2 * (S * t + 2 * r)) = (4 * E < 2 * (t + sg)) := by
    apply propext
    by_cases hlt : t < 2 * E
    · have a1 : S * t ≤ S * (2 * E - 2) := Nat.mul_le_mul_left _ (by omega)
      have a2 : S * (2 * E - 2) + 2 * S = S * (2 * E) := by rw [Nat.mul_comm 2 S, ← Nat.mul_add]; congr 1; omega
      exact ⟨fun _ => by omega, fun _ => by omega⟩
    · by_cases heq : t = 2 * E
      · subst heq
        constructor
        · intro h
          have : 0 < r := by omega
          rw [if_pos this] at hsg
          omega
        · intro h
          have : 0 < r := by
            by_cases h0 : 0 < r
            · exact h0
            · rw [if_neg h0] at hsg
              omega
          omega
      · have a1 : S * (2 * E + 2) ≤ S * t := Nat.mul_le_mul_left _ (by omega)
        have a2 : S * (2 * E + 2) = S * (2 * E) + 2 * S := by rw [Nat.mul_add, Nat.mul_comm S 2]
        exact ⟨fun _ => by omega, fun _ => by omega⟩
  unfold near
  dsimp only
  rw [d1, m1, d2, m2]
  simp only [c1, c2]
def turnA (S : Nat) : Nat := 2 * (2 ^ (50 + bl S) / S) + (if 0 < 2 ^ (50 + bl S) % S then 1 else 0)
def turnedM (x : Sgl) : Sgl := rndM 0 (turnA x.s.toNat) (0 - (50 + (bl x.s.toNat : Int)) - 1 - x.e)
theorem turn_single {S p : Nat} (hS : S ≠ 0) (hS2 : S < 2 ^ 24) (h1 : 2 ^ 139 ≤ S * 2 ^ p) (h2 : S * 2 ^ p ≤ 2 ^ 179) :
    single false (2 ^ 149 * 2 ^ 149) (S * 2 ^ p) = single false (turnA S * 2 ^ 298) (2 ^ (51 + bl S + p)) ∧ turnA S * 2 ^ 298 ≤ 2 ^ 160 * 2 ^ (51 + bl S + p) := by
  have hS0 : 0 < S := by omega
  have hb1 := lt_bl S
  have hb2 := bl_le hS
  have hb24 : bl S ≤ 24 := bl_le_of_lt hS2
  have hb0 : 1 ≤ bl S := by unfold bl; rw [if_neg hS]; omega
  have q50 : 2 ^ 50 ≤ 2 ^ (50 + bl S) / S := (Nat.le_div_iff_mul_le hS0).mpr (by rw [Nat.pow_add]; exact Nat.mul_le_mul_left _ (by omega))
  have hp1 : 140 ≤ bl S + p := by
    have : 2 ^ 139 < 2 ^ (bl S + p) := Nat.lt_of_le_of_lt h1 (by rw [Nat.pow_add]; exact Nat.mul_lt_mul_of_pos_right hb1 (pow_pos2 _))
    have := (Nat.pow_lt_pow_iff_right (by decide : 1 < 2)).mp this
    omega
  have hp2 : bl S + p ≤ 180 := by
    have : 2 ^ (bl S - 1 + p) ≤ 2 ^ 179 := Nat.le_trans (by rw [Nat.pow_add]; exact Nat.mul_le_mul_right _ hb2) h2
    have := (Nat.pow_le_pow_iff_right (by decide : 1 < 2)).mp this
    omega
  -- the two quotients stand in the same powers
  have hA1 : ∀ j, 1 ≤ j → (2 ^ j ≤ turnA S ↔ 2 ^ (j - 1) ≤ 2 ^ (50 + bl S) / S) := by
    intro j hj
    unfold turnA
    have : 2 * 2 ^ (j - 1) = 2 ^ j := pw (a := 1) (by omega)
    constructor
    · intro h
      split at h <;> omega
    · intro h
      omega
  have key : ∀ k, 119 ≤ k → (2 ^ k * (S * 2 ^ p) ≤ 2 ^ 149 * 2 ^ 149 ↔ 2 ^ k * 2 ^ (51 + bl S + p) ≤ turnA S * 2 ^ 298) := by
    intro k hk
    have hj : 1 ≤ k + p + bl S - 247 := by omega
    have e1 : 2 ^ k * (S * 2 ^ p) = S * 2 ^ (k + p + bl S - 247 - 1) * 2 ^ (248 - bl S) := by
      rw [Nat.mul_comm, Nat.mul_assoc, Nat.mul_assoc, pw (c := p + k) rfl, pw (c := p + k) (by omega)]
    have e2 : (2 : Nat) ^ 149 * 2 ^ 149 = 2 ^ (50 + bl S) * 2 ^ (248 - bl S) := (pw (c := 298) (by omega)).trans (pw (c := 298) (by omega)).symm
    have e3 : 2 ^ k * 2 ^ (51 + bl S + p) = 2 ^ (k + p + bl S - 247) * 2 ^ 298 := (pw (c := k + p + bl S + 51) (by omega)).trans (pw (by omega)).symm
    rw [e1, e2, e3]
    constructor
    · intro h
      have h' := Nat.le_of_mul_le_mul_right h (pow_pos2 _)
      refine Nat.mul_le_mul_right _ ((hA1 _ hj).mpr ?_)
      exact (Nat.le_div_iff_mul_le hS0).mpr (by rw [Nat.mul_comm]; exact h')
    · intro h
      have h' := (hA1 _ hj).mp (Nat.le_of_mul_le_mul_right h (pow_pos2 _))
      have := (Nat.le_div_iff_mul_le hS0).mp h'
      rw [Nat.mul_comm] at this
      exact Nat.mul_le_mul_right _ this
  have hbW : 0 < S * 2 ^ p := Nat.mul_pos hS0 (pow_pos2 _)
  have hbQ : 0 < 2 ^ (51 + bl S + p) := pow_pos2 _
  have b119 : 2 ^ 119 * (S * 2 ^ p) ≤ 2 ^ 149 * 2 ^ 149 := by
    calc 2 ^ 119 * (S * 2 ^ p) ≤ 2 ^ 119 * 2 ^ 179 := Nat.mul_le_mul_left _ h2
      _ = 2 ^ 149 * 2 ^ 149 := (pw (c := 298) (by omega)).trans (pw (c := 298) (by omega)).symm
  have d1 : 2 ^ 119 ≤ 2 ^ 149 * 2 ^ 149 / (S * 2 ^ p) := (Nat.le_div_iff_mul_le hbW).mpr b119
  have d2 : 2 ^ 119 ≤ turnA S * 2 ^ 298 / 2 ^ (51 + bl S + p) := (Nat.le_div_iff_mul_le hbQ).mpr ((key 119 (by omega)).mp b119)
  have n1 : 2 ^ 149 * 2 ^ 149 / (S * 2 ^ p) ≠ 0 := Nat.ne_of_gt (Nat.lt_of_lt_of_le (pow_pos2 119) d1)
  have n2 : turnA S * 2 ^ 298 / 2 ^ (51 + bl S + p) ≠ 0 := Nat.ne_of_gt (Nat.lt_of_lt_of_le (pow_pos2 119) d2)
  have hL1 : 119 ≤ Nat.log2 (2 ^ 149 * 2 ^ 149 / (S * 2 ^ p)) := (Nat.le_log2 n1).mpr d1
  have hL2 : 119 ≤ Nat.log2 (turnA S * 2 ^ 298 / 2 ^ (51 + bl S + p)) := (Nat.le_log2 n2).mpr d2
  have hL : Nat.log2 (2 ^ 149 * 2 ^ 149 / (S * 2 ^ p)) = Nat.log2 (turnA S * 2 ^ 298 / 2 ^ (51 + bl S + p)) := by
    refine Nat.le_antisymm ?_ ?_
    · exact (Nat.le_log2 n2).mpr ((Nat.le_div_iff_mul_le hbQ).mpr ((key _ hL1).mp ((Nat.le_div_iff_mul_le hbW).mp (Nat.log2_self_le n1))))
    · exact (Nat.le_log2 n1).mpr ((Nat.le_div_iff_mul_le hbW).mpr ((key _ hL2).mpr ((Nat.le_div_iff_mul_le hbQ).mp (Nat.log2_self_le n2))))
  have hu : unitOf (2 ^ 149 * 2 ^ 149) (S * 2 ^ p) = unitOf (turnA S * 2 ^ 298) (2 ^ (51 + bl S + p)) := by
    unfold unitOf
    have c : (2 : Nat) ^ 23 ≤ 2 ^ 119 := Nat.pow_le_pow_right (by decide) (by decide)
    rw [if_neg (Nat.not_lt.mpr ((Nat.le_div_iff_mul_le hbW).mp (Nat.le_trans c d1))), if_neg (Nat.not_lt.mpr ((Nat.le_div_iff_mul_le hbQ).mp (Nat.le_trans c d2))), hL]
  have hA51 : 2 ^ 51 ≤ turnA S := (hA1 51 (by omega)).mpr q50
  have hup : turnA S * 2 ^ 298 < 2 ^ 160 * 2 ^ (51 + bl S + p) := by
    apply Nat.lt_of_not_le
    intro hc
    have := (key 160 (by omega)).mpr hc
    have c2 : 2 ^ 160 * 2 ^ 139 ≤ 2 ^ 160 * (S * 2 ^ p) := Nat.mul_le_mul_left _ h1
    have c3 : (2 : Nat) ^ 160 * 2 ^ 139 = 2 ^ 149 * 2 ^ 149 * 2 := by rw [pw (a := 149) (b := 149) (c := 298) (by omega), pw (a := 160) (b := 139) (c := 299) (by omega), ← pw (a := 298) (b := 1) (c := 299) (by omega)]
    have c4 : 0 < (2 : Nat) ^ 149 * 2 ^ 149 := Nat.mul_pos (pow_pos2 _) (pow_pos2 _)
    omega
  refine ⟨?_, Nat.le_of_lt hup⟩
  rw [single_eq, single_eq, hu]
  refine congrArg (enc false _) ?_
  -- the unit is large: at least 28 digits go
  have huL : unitOf (turnA S * 2 ^ 298) (2 ^ (51 + bl S + p)) = Nat.log2 (turnA S * 2 ^ 298 / 2 ^ (51 + bl S + p)) - 23 := by
    unfold unitOf
    have c : (2 : Nat) ^ 23 ≤ 2 ^ 119 := Nat.pow_le_pow_right (by decide) (by decide)
    rw [if_neg (Nat.not_lt.mpr ((Nat.le_div_iff_mul_le hbQ).mp (Nat.le_trans c d2)))]
  have hLbig : 298 + 51 < Nat.log2 (turnA S * 2 ^ 298 / 2 ^ (51 + bl S + p)) + 1 + (51 + bl S + p) := by
    have g1 : turnA S * 2 ^ 298 / 2 ^ (51 + bl S + p) < 2 ^ (Nat.log2 (turnA S * 2 ^ 298 / 2 ^ (51 + bl S + p)) + 1) := Nat.lt_log2_self
    have g2 : turnA S * 2 ^ 298 < 2 ^ (Nat.log2 (turnA S * 2 ^ 298 / 2 ^ (51 + bl S + p)) + 1) * 2 ^ (51 + bl S + p) := (Nat.div_lt_iff_lt_mul hbQ).mp g1
    have g3 : 2 ^ (51 + 298) ≤ turnA S * 2 ^ 298 := by rw [Nat.pow_add]; exact Nat.mul_le_mul_right _ hA51
    rw [← Nat.pow_add] at g2
    have := (Nat.pow_lt_pow_iff_right (by decide : 1 < 2)).mp (Nat.lt_of_le_of_lt g3 g2)
    omega
  have hD : 247 - bl S + 2 ≤ p + unitOf (turnA S * 2 ^ 298) (2 ^ (51 + bl S + p)) := by
    rw [huL]
    omega
  clear huL hLbig hup hA51 hu hL hL2 hL1 n2 n1 d2 d1 b119 key hA1
  generalize unitOf (turnA S * 2 ^ 298) (2 ^ (51 + bl S + p)) = u at hD ⊢
  have a1 : (2 : Nat) ^ 149 * 2 ^ 149 = 2 * 2 ^ (50 + bl S) * 2 ^ (247 - bl S) := by
    have x1 : 2 * 2 ^ (50 + bl S) = 2 ^ (51 + bl S) := pw (a := 1) (by omega)
    rw [x1]
    exact (pw (c := 298) (by omega)).trans (pw (c := 298) (by omega)).symm
  have a2 : S * 2 ^ p * 2 ^ u = S * (4 * 2 ^ (p + u - (247 - bl S) - 2)) * 2 ^ (247 - bl S) := by
    have x1 : 4 * 2 ^ (p + u - (247 - bl S) - 2) = 2 ^ (p + u - (247 - bl S)) := pw (a := 2) (by omega)
    rw [x1, Nat.mul_assoc, Nat.mul_assoc, pw (c := p + u) rfl, pw (c := p + u) (by omega)]
  have a4 : 2 ^ (51 + bl S + p) * 2 ^ u = 4 * 2 ^ (p + u - (247 - bl S) - 2) * 2 ^ 298 := by
    have x1 : 4 * 2 ^ (p + u - (247 - bl S) - 2) = 2 ^ (p + u - (247 - bl S)) := pw (a := 2) (by omega)
    rw [x1]
    exact (pw (c := 51 + bl S + p + u) rfl).trans (pw (by omega)).symm
  rw [a1, a2, near_scale _ _ _ (pow_pos2 _), a4, near_scale _ _ _ (pow_pos2 _)]
  exact sticky hS0 (pow_pos2 _)
theorem turned_rep {x : Sgl} {n : Nat} (h : Rep x n) (h1 : 2 ^ 139 ≤ value n) (h2 : value n ≤ 2 ^ 179) : Rep (turnedM x) (Si20.quotient Si20.one n) ∧ Bd 11 (Si20.quotient Si20.one n) ∧ 0 < x.s := by
  obtain ⟨S, p, hs, he, hS, _, hm, hv, hn, hf⟩ := h
  have hneg : negative n = false := by
    cases hc : negative n
    · rfl
    · exfalso
      rw [value_eq, hc, if_pos rfl] at h1
      have : (0 : Int) < 2 ^ 139 := by decide
      omega
  have hval : value n = ((S * 2 ^ p : Nat) : Int) := by
    rw [value_eq, hneg, hv, value_abs]
    rfl
  have w1 : 2 ^ 139 ≤ S * 2 ^ p := by
    rw [hval] at h1
    exact_mod_cast h1
  have w2 : S * 2 ^ p ≤ 2 ^ 179 := by
    rw [hval] at h2
    exact_mod_cast h2
  have hS0 : S ≠ 0 := by
    intro z
    subst z
    have := pow_pos2 139
    omega
  obtain ⟨k1, k2⟩ := turn_single hS0 hS w1 w2
  have eq : Si20.quotient Si20.one n = single false (2 ^ 149 * 2 ^ 149) (S * 2 ^ p) := by
    unfold Si20.quotient
    rw [← hv, hneg, show negative Si20.one = false by decide, show (value Si20.one).natAbs = 2 ^ 149 by decide +kernel]
    rfl
  rw [eq, k1]
  have z := rnd_rep (A := turnA S) (p := 298) (q := 51 + bl S + p) (k := 160) (e := 0 - (50 + (bl S : Int)) - 1 - x.e) false (by omega) (by omega) (by omega) k2
  have z2 := (single_value (neg := false) (pow_pos2 (51 + bl S + p)) (by omega) (by omega) k2).2.2.2.2
  refine ⟨?_, z2, by omega⟩
  unfold turnedM rndM
  rw [hs, Int.toNat_natCast]
  exact z
theorem prod_bd {a b i j : Nat} (ha : Bd i a) (hb : Bd j b) (h : i + j ≤ 120) : Bd (i + j) (Si20.product a b) := by
  unfold Si20.product
  refine (single_value (k := i + j + 149) (pow_pos2 149) (by omega) (by omega) ?_).2.2.2.2
  calc _ ≤ 2 ^ (i + 149) * 2 ^ (j + 149) := Nat.mul_le_mul ha hb
    _ = 2 ^ (i + j + 149) * 2 ^ 149 := (pw (c := i + j + 298) (by omega)).trans (pw (by omega)).symm
theorem plus_bd {a b k : Nat} (ha : Bd k a) (hb : Bd k b) (h : k ≤ 118) : Bd (k + 1) (Si20.plus a b) := by
  unfold Si20.plus
  dsimp only
  split
  · split
    · unfold Bd
      rw [show (value (2 ^ 31)).natAbs = 0 by decide]
      exact Nat.zero_le _
    · unfold Bd
      rw [show (value 0).natAbs = 0 by decide]
      exact Nat.zero_le _
  · refine (single_value (k := k + 1 + 149) (by decide) (by omega) (by omega) ?_).2.2.2.2
    have := Int.natAbs_add_le (value a) (value b)
    have e : 2 ^ (k + 1 + 149) = 2 ^ (k + 149) + 2 ^ (k + 149) := by rw [← Nat.two_mul]; exact (pw (a := 1) (by omega)).symm
    have h1 : (value a).natAbs ≤ 2 ^ (k + 149) := ha
    have h2 : (value b).natAbs ≤ 2 ^ (k + 149) := hb
    omega
theorem Bd.up {j k n : Nat} (h : Bd j n) (hk : j ≤ k) : Bd k n := Nat.le_trans h (Nat.pow_le_pow_right (by decide) (by omega))
theorem dot_bd {a b : List Nat} (ha : ∀ i, Bd 30 (a.getD i 0)) (hb : ∀ i, Bd 30 (b.getD i 0)) : Bd 62 (Si20.dot a b) := by
  unfold Si20.dot
  have p : ∀ i, Bd 60 (Si20.product (a.getD i 0) (b.getD i 0)) := fun i => prod_bd (i := 30) (j := 30) (ha i) (hb i) (by decide)
  have q1 := plus_bd (k := 60) (p 0) (p 1) (by decide)
  have q2 := plus_bd (k := 60) (p 2) (p 3) (by decide)
  generalize Si20.plus (Si20.product (a.getD 0 0) (b.getD 0 0)) (Si20.product (a.getD 1 0) (b.getD 1 0)) = u at q1 ⊢
  generalize Si20.plus (Si20.product (a.getD 2 0) (b.getD 2 0)) (Si20.product (a.getD 3 0) (b.getD 3 0)) = z at q2 ⊢
  exact plus_bd (k := 61) q1 q2 (by decide)
theorem minus_bd {n k : Nat} (hn : n < 2 ^ 32) (h : Bd k n) : Bd k (Si20.minus n) := by
  unfold Bd at *
  rw [value_abs] at *
  have gm : mant (Si20.minus n) = mant n := by
    unfold Si20.minus mant
    have a1 : (n + 2 ^ 31) % 2 ^ 32 / 2 ^ 23 % 256 = n / 2 ^ 23 % 256 := by omega
    have a2 : (n + 2 ^ 31) % 2 ^ 32 % 2 ^ 23 = n % 2 ^ 23 := by omega
    rw [a1, a2]
  rw [gm]
  exact h
/-! constants -/
theorem exact_rep {A p k : Nat} (hA : A ≠ 0) (hA2 : A < 2 ^ 24) (hk : 23 ≤ k) (hk2 : k ≤ 270) (h : A * 2 ^ p ≤ 2 ^ k) : Rep ⟨0, (A : Int), (p : Int) - 149⟩ (single false (A * 2 ^ p) 1) ∧ (value (single false (A * 2 ^ p) 1)).natAbs ≤ 2 ^ k := by
  have h' : A * 2 ^ p ≤ 2 ^ k * 2 ^ 0 := by rw [Nat.pow_zero, Nat.mul_one]; exact h
  have z := rnd_rep (A := A) (p := p) (q := 0) (k := k) (e := (p : Int) - 149) false (by omega) hk hk2 h'
  have z2 := (single_value (neg := false) (pow_pos2 0) hk hk2 h').2.2.2.2
  have e : rndN A ((p : Int) - 149) = ((A : Int), (p : Int) - 149) := by
    unfold rndN
    have := bl_le_of_lt hA2
    rw [if_neg hA, if_pos (by omega)]
  rw [e] at z
  exact ⟨z, z2⟩
theorem ofNat_rep {N k : Nat} (h0 : N ≠ 0) (h : N < 2 ^ 24) (hk : N ≤ 2 ^ k) (hk2 : k ≤ 100) : Rep ⟨0, (N : Int), 0⟩ (Si20.ofNat N) ∧ Bd k (Si20.ofNat N) := by
  have hb : N * 2 ^ 149 ≤ 2 ^ (k + 149) := by
    rw [← pw (a := k) (b := 149) rfl]
    exact Nat.mul_le_mul_right _ hk
  exact exact_rep (A := N) (p := 149) (k := k + 149) h0 h (by omega) (by omega) hb
theorem ofPow_rep {N : Nat} (hN : N ≤ 60) : Rep ⟨0, 1, (N : Int)⟩ (Si20.ofNat (2 ^ N)) ∧ Bd N (Si20.ofNat (2 ^ N)) := by
  have hb : 1 * 2 ^ (N + 149) ≤ 2 ^ (N + 149) := by rw [Nat.one_mul]; exact Nat.le_refl _
  have z := exact_rep (A := 1) (p := N + 149) (k := N + 149) (by decide) (by decide) (by omega) (by omega) hb
  have e : Si20.ofNat (2 ^ N) = single false (1 * 2 ^ (N + 149)) 1 := by
    unfold Si20.ofNat
    rw [pw rfl, Nat.one_mul]
  have e2 : ((N + 149 : Nat) : Int) - 149 = (N : Int) := by omega
  rw [e2] at z
  rw [e]
  exact z
theorem rep_nought : Rep ⟨0, 0, 0⟩ 0 := ⟨0, 149, rfl, rfl, by decide, fun _ => by omega, by decide, by decide, by decide, by decide⟩
theorem rep_least : Rep ⟨0, 1, -10⟩ 981467136 ∧ value 981467136 = 2 ^ 139 := by
  have e : mant 981467136 = 2 ^ 139 := by decide +kernel
  refine ⟨⟨1, 139, rfl, rfl, by decide, fun z => absurd z (by decide), by decide, ?_, by decide, by decide⟩, ?_⟩
  · rw [value_abs, e, Nat.one_mul]
  · rw [value_eq, e, if_neg (by decide)]
    decide +kernel
theorem whole_eq (n : Nat) : Si20.whole n = if -2147483648 ≤ wholeZ n ∧ wholeZ n ≤ 2147483647 then wholeZ n else -2147483648 := by
  unfold Si20.whole
  dsimp only
  have e : (if negative n = true then -((near (value n).natAbs (2 ^ 149) : Nat) : Int) else ((near (value n).natAbs (2 ^ 149) : Nat) : Int)) = wholeZ n := rfl
  rw [e]
  generalize wholeZ n = z
  by_cases h : -2147483648 ≤ z ∧ z ≤ 2147483647
  · rw [if_pos h, if_pos (by omega)]
  · rw [if_neg h, if_neg (by omega)]
    decide
theorem prod_lt {a b i j : Nat} (ha : Bd i a) (hb : Bd j b) (h : i + j ≤ 120) : Si20.product a b < 2 ^ 32 := by
  unfold Si20.product
  refine (single_value (k := i + j + 149) (pow_pos2 149) (by omega) (by omega) ?_).2.2.1
  calc _ ≤ 2 ^ (i + 149) * 2 ^ (j + 149) := Nat.mul_le_mul ha hb
    _ = 2 ^ (i + j + 149) * 2 ^ 149 := (pw (c := i + j + 298) (by omega)).trans (pw (by omega)).symm
theorem quot_bd {n : Nat} (hn : n < 2 ^ 32) (hf : n / 2 ^ 23 % 256 ≠ 255) (h1 : 2 ^ 139 ≤ value n) (h2 : value n ≤ 2 ^ 179) : Bd 11 (Si20.quotient Si20.one n) := (turned_rep (single_of_rep hn hf) h1 h2).2.1
end Sd
end

section
set_option Elab.async false
set_option linter.all false
set_option maxRecDepth 100000
set_option maxHeartbeats 4000000
set_option exponentiation.threshold 2000
/-! ## 5. singles.py -/
namespace Sd
open PySem PySem.Spec PyProof.Rows L2 Evl
local macro_rules | `(tactic| walk_at "ev") => `(tactic| first
  | with_reducible exact er_cI
  | focus ((with_reducible apply er_varI); with_unfolding_all rfl)
  | focus ((with_reducible apply er_var); all_goals first | with_unfolding_all rfl | assumption)
  | focus ((with_reducible apply er_op0); all_goals walk_at "ev")
  | focus ((with_reducible apply er_op); all_goals walk_at "ev")
  | focus ((with_reducible apply er_neg); all_goals walk_at "ev")
  | focus ((with_reducible apply er_max); all_goals walk_at "ev")
  | focus ((with_reducible apply er_min); all_goals walk_at "ev")
  | focus ((with_reducible apply er_abs); all_goals walk_at "ev")
  | focus ((with_reducible apply er_intB); all_goals walk_at "ev")
  | focus ((with_reducible apply er_bits); all_goals walk_at "ev")
  | focus ((with_reducible apply er_ixD); all_goals walk_at "ev")
  | focus ((with_reducible apply er_call1); all_goals walk_at "ev")
  | focus ((with_reducible apply er_call2); all_goals walk_at "ev")
  | focus ((with_reducible apply er_call3); all_goals walk_at "ev")
  | focus ((with_reducible apply er_call4); all_goals walk_at "ev")
  | focus ((with_reducible apply er_eq); all_goals walk_at "ev")
  | focus ((with_reducible apply er_ne); all_goals walk_at "ev")
  | focus ((with_reducible apply er_cmp); all_goals walk_at "ev")
  | focus ((with_reducible apply er_chain); all_goals walk_at "ev")
  | focus ((with_reducible apply er_andU); all_goals walk_at "ev")
  | focus ((with_reducible apply er_orU); all_goals walk_at "ev")
  | focus ((with_reducible apply et_t); all_goals walk_at "ev")
  | focus ((with_reducible apply et_b); all_goals walk_at "ev")
  | focus ((with_reducible apply et_andU); all_goals walk_at "ev")
  | focus ((with_reducible apply et_orU); all_goals walk_at "ev")
  | focus ((with_reducible apply Evl.et_not); all_goals walk_at "ev")
  | walk_at "side")
local macro_rules | `(tactic| walk_at "evr") => `(tactic| (refine er_is (by walk_at "ev") (by with_unfolding_all rfl)))
local macro_rules | `(tactic| walk_at "side") => `(tactic| first
  | assumption
  | exact True.intro
  | exact cdiv_ok (by decide) (by decide)
  | exact cmul_l (by omega) (by omega)
  | exact cmul_r (by omega) (by omega)
  | omega
  | decide
  | (dsimp only; done)
  | (dsimp only; first | assumption | omega | decide)
  | (constructor <;> assumption))
abbrev ibits (n : Int) : Nat := Builtin.Int.intBits n
theorem ib_nat {n : Int} (h : 0 ≤ n) : ibits n = bl n.toNat := by
  show Builtin.Int.intBits n = bl n.toNat
  unfold Builtin.Int.intBits bl
  by_cases h0 : n = 0
  · subst h0
    rfl
  · rw [if_neg (by simpa using h0), if_neg (by omega), show n.natAbs = n.toNat by omega]
def RS (K : PySem.W.Frag) : Rel Sgl := fun H v x => ∃ p, v = .ref p ∧ SqT K H p [.int x.m, .int x.s, .int x.e]
instance {K : PySem.W.Frag} : Mo (RS K) := ⟨fun e ⟨p, h1, h2⟩ => ⟨p, h1, ex_t e h2⟩⟩
/-- a single by its bits -/
def RF (K : PySem.W.Frag) : Rel Nat := fun H v n => ∃ x, RS K H v x ∧ Rep x n
instance {K : PySem.W.Frag} : Mo (RF K) := ⟨fun e ⟨x, h1, h2⟩ => ⟨x, mo e h1, h2⟩⟩
section
variable {K : PySem.W.Frag} {s : L2.St} {H : Hp} {ta tb tc te : TE} {x : Sgl} {a b c : Int} {n : Nat}
theorem er_s0 (ha : EvR (RS K) ta s H x) : EvR RI (tOp (rIxT K) ta (tC (.int 0))) s H x.m := fun H1 e Q q =>
  ha H1 e _ fun w H2 e2 ⟨p, r1, r2⟩ => ⟨p, _, 0, _, r1, rfl, r2, rfl, q _ H2 e2 rfl⟩
theorem er_s1 (ha : EvR (RS K) ta s H x) : EvR RI (tOp (rIxT K) ta (tC (.int 1))) s H x.s := fun H1 e Q q =>
  ha H1 e _ fun w H2 e2 ⟨p, r1, r2⟩ => ⟨p, _, 1, _, r1, rfl, r2, rfl, q _ H2 e2 rfl⟩
theorem er_s2 (ha : EvR (RS K) ta s H x) : EvR RI (tOp (rIxT K) ta (tC (.int 2))) s H x.e := fun H1 e Q q =>
  ha H1 e _ fun w H2 e2 ⟨p, r1, r2⟩ => ⟨p, _, 2, _, r1, rfl, r2, rfl, q _ H2 e2 rfl⟩
theorem er_tupS (h1 : EvR RI ta s H a) (h2 : EvR RI tb s H b) (h3 : EvR RI tc s H c) : EvR (RS K) (tTup (tCons ta (tCons tb (tCons tc tNil)))) s H ⟨a, b, c⟩ := fun H1 e Q q =>
  h1 H1 e _ fun v H2 e2 r => h2 H2 (e.trans e2) _ fun v2 H3 e3 r2 => h3 H3 ((e.trans e2).trans e3) _ fun v3 H4 e4 r3 => by
    cases r
    cases r2
    cases r3
    exact ⟨by rw [sizeLine_eq]; simp, fun p hp => q _ _ (((e2.trans e3).trans e4).trans (Ex.new hp)) ⟨p, rfl, st_of upd_same⟩⟩
theorem er_tupI2 (h1 : EvR RI ta s H a) (h2 : EvR RI tb s H b) : EvR (RT K) (tTup (tCons ta (tCons tb tNil))) s H [.int a, .int b] := fun H1 e Q q =>
  h1 H1 e _ fun v H2 e2 r => h2 H2 (e.trans e2) _ fun v2 H3 e3 r2 => by
    cases r
    cases r2
    exact ⟨by rw [sizeLine_eq]; simp, fun p hp => q _ _ ((e2.trans e3).trans (Ex.new hp)) ⟨p, rfl, st_of upd_same⟩⟩
theorem er_rf (h : EvR (RS K) te s H x) (r : Rep x n) : EvR (RF K) te s H n := fun H1 e Q q => h H1 e Q fun v H2 e2 z => q v H2 e2 ⟨x, z, r⟩
end
theorem cshl_ok {i j : Int} (h0 : 0 ≤ j) (h : (ibits i : Int) + j ≤ 100000) : CShl i j := ⟨h0, Int.le_trans h (by decide)⟩
local macro_rules | `(tactic| walk_at "ev") => `(tactic| first
  | focus ((with_reducible apply er_s0); all_goals walk_at "ev")
  | focus ((with_reducible apply er_s1); all_goals walk_at "ev")
  | focus ((with_reducible apply er_s2); all_goals walk_at "ev")
  | focus ((with_reducible apply er_tupS); all_goals walk_at "ev")
  | focus ((with_reducible apply er_tupI2); all_goals walk_at "ev")
  | focus ((with_reducible apply er_divmod); all_goals walk_at "ev"))
local macro_rules | `(tactic| walk_at "side") => `(tactic| exact cshl_ok (by omega) (by omega))
theorem ib1 : ibits 1 = 1 := by decide
theorem ib2 : ibits 2 = 2 := by decide
theorem sh31 : CShl 1 31 := cshl_ok (by decide) (by rw [ib1]; decide)
theorem sh23 : CShl 1 23 := cshl_ok (by decide) (by rw [ib1]; decide)
def oneMoreM (w r u : Int) : Bool := decide (u < 2 * r) || (decide (2 * r = u) && decide (w % 2 = 1))
def loweredM (s e : Int) : List V := if 2 ^ 24 ≤ s then [.int (s / 2), .int (e + 1)] else [.int s, .int e]
abbrev sp_is_calm : Sp := sp1 RI (fun _ => True) RB fun b => decide (b % 2147483648 ≤ 1317011456)
abbrev sp_single_of (K : PySem.W.Frag) : Sp := sp1 RI (fun b => ∃ n : Nat, b = (n : Int) ∧ n < 2 ^ 32 ∧ n / 2 ^ 23 % 256 ≠ 255) (RF K) Int.toNat
abbrev sp_bits_of (K : PySem.W.Frag) : Sp := sp1 (RF K) (fun _ => True) RI fun n => (n : Int)
abbrev sp_is_one_more : Sp := sp3 RI RI RI (fun _ _ _ => True) RB oneMoreM
abbrev sp_near_by : Sp := sp2 RI RI (fun s u => 0 ≤ s ∧ 0 < u ∧ ibits s ≤ 1000) RI fun s u => ((Si20.near s.toNat u.toNat : Nat) : Int)
abbrev sp_shifted : Sp := sp2 RI RI (fun s p => 0 ≤ s ∧ ibits s ≤ 1000 ∧ -2000 ≤ p ∧ p ≤ 2000) RI shM
abbrev sp_lowered (K : PySem.W.Frag) : Sp := sp2 RI RI (fun s _ => 0 ≤ s ∧ s ≤ 2 ^ 24) (RT K) loweredM
abbrev sp_rounded (K : PySem.W.Frag) : Sp := sp3 RI RI RI (fun _ s e => 0 ≤ s ∧ ibits s ≤ 1000 ∧ -1000 ≤ e ∧ e ≤ 1000) (RS K) fun m s e => rndM m s.toNat e
abbrev sp_signed (K : PySem.W.Frag) : Sp := sp2 (RS K) RI (fun x low => 0 ≤ x.s ∧ x.s < 2 ^ 24 ∧ low ≤ x.e ∧ x.e - low ≤ 500) RI sgnM
abbrev sp_opposite (K : PySem.W.Frag) : Sp := sp1 (RF K) (fun _ => True) (RF K) Si20.minus
abbrev sp_added (K : PySem.W.Frag) : Sp := sp2 (RF K) (RF K) (fun a b => Bd 110 a ∧ Bd 110 b) (RF K) Si20.plus
abbrev sp_times (K : PySem.W.Frag) : Sp := sp2 (RF K) (RF K) (fun a b => ∃ i j, Bd i a ∧ Bd j b ∧ i + j ≤ 110) (RF K) Si20.product
abbrev sp_turned (K : PySem.W.Frag) : Sp := sp1 (RF K) (fun n => 2 ^ 139 ≤ Si20.value n ∧ Si20.value n ≤ 2 ^ 179) (RF K) (Si20.quotient Si20.one)
abbrev sp_is_below (K : PySem.W.Frag) : Sp := sp2 (RF K) (RF K) (fun a b => Bd 110 a ∧ Bd 110 b) RB fun a b => decide (Si20.value a < Si20.value b)
def Calm4 (l : List Nat) : Prop := l.length = 4 ∧ ∀ i, Bd 30 (l.getD i 0)
abbrev sp_products (K : PySem.W.Frag) : Sp := sp2 (RL (RF K)) (RL (RF K)) (fun a b => Calm4 a ∧ Calm4 b) (RF K) Si20.dot
abbrev sp_nearest (K : PySem.W.Frag) : Sp := sp1 (RF K) (Bd 110) RI wholeZ
/-- is_calm: 0 bits -/
def t_is_calm : TS :=
  (tRet (tOp rLeI (tOp rModI (tVar 0) (tOp rShlI (tC (.int 1)) (tC (.int (31))))) (tC (.int (1317011456)))))
/-- single_of: 0 bits, 1 minus, 2 power, 3 rest -/
def t_single_of : TS :=
  (tSeq (tAsg (tOp rShrI (tVar 0) (tC (.int (31)))) (gName 1))
    (tSeq (tAsg (tOp rModI (tOp rShrI (tVar 0) (tC (.int (23)))) (tC (.int 256))) (gName 2))
    (tSeq (tAsg (tOp rModI (tVar 0) (tOp rShlI (tC (.int 1)) (tC (.int (23))))) (gName 3))
    (tSeq (tIfS (tTest (tOp rEq (tVar 2) (tC (.int 0)))) (tRet (tTup (tCons (tVar 1) (tCons (tVar 3) (tCons (tC (.int (-149))) tNil))))) tNext)
    (tRet (tTup (tCons (tVar 1) (tCons (tOp rAddI (tVar 3) (tOp rShlI (tC (.int 1)) (tC (.int (23))))) (tCons (tOp rSubI (tVar 2) (tC (.int (150)))) tNil)))))))))
/-- bits_of: 0 single, 1 sign, 2 up, 3 size, 4 minus, 5 exponent -/
def t_bits_of (K : PySem.W.Frag) : TS :=
  (tSeq (tAsg (tVar 0) (gTup K 3 (gCons (gName 4) (gCons (gName 3) (gCons (gName 5) gNil)))))
    (tSeq (tAsg (tOp rShlI (tVar 4) (tC (.int (31)))) (gName 1))
    (tSeq (tIfS (tTest (tOp rEq (tVar 3) (tC (.int 0)))) (tRet (tVar 1)) tNext)
    (tSeq (tAsg (tCB rMax2 (tCons (tC (.int 0)) (tCons (tOp rSubI (tC (.int (24))) (tBits (tVar 3))) tNil))) (gName 2))
    (tSeq (tAsg (tCB rMin2 (tCons (tVar 2) (tCons (tOp rSubI (tVar 5) (tC (.int (-149)))) tNil))) (gName 2))
    (tSeq (tAsg (tOp rShlI (tVar 3) (tVar 2)) (gName 3))
    (tSeq (tIfS (tTest (tOp rEq (tOp rShrI (tVar 3) (tC (.int (23)))) (tC (.int 0)))) (tRet (tOp rAddI (tVar 1) (tVar 3))) tNext)
    (tRet (tOp rSubI (tOp rAddI (tOp rAddI (tVar 1) (tOp rShlI (tOp rAddI (tOp rSubI (tVar 5) (tVar 2)) (tC (.int (150)))) (tC (.int (23))))) (tVar 3)) (tOp rShlI (tC (.int 1)) (tC (.int (23)))))))))))))
/-- is_one_more: 0 whole, 1 rest, 2 under -/
def t_is_one_more : TS :=
  (tRet (tOrV (tOp rGtI (tOp rMulI (tC (.int 2)) (tVar 1)) (tVar 2)) (tAndV (tOp rEq (tOp rMulI (tC (.int 2)) (tVar 1)) (tVar 2)) (tOp rEq (tOp rModI (tVar 0) (tC (.int 2))) (tC (.int 1))))))
/-- near_by: 0 size, 1 under, 2 whole, 3 rest -/
def t_near_by (K : PySem.W.Frag) : TS :=
  (tSeq (tAsg (tCB rDivmod (tCons (tVar 0) (tCons (tVar 1) tNil))) (gTup K 2 (gCons (gName 2) (gCons (gName 3) gNil))))
    (tRet (tOp rAddI (tVar 2) (tCB rInt1 (tCons (tCall sp_is_one_more [] E0 (tCons (tVar 2) (tCons (tVar 3) (tCons (tVar 1) tNil)))) tNil)))))
/-- shifted: 0 size, 1 places -/
def t_shifted : TS :=
  (tSeq (tIfS (tTest (tOp rGeI (tVar 1) (tC (.int 0)))) (tRet (tOp rShlI (tVar 0) (tVar 1))) tNext)
    (tRet (tCall sp_near_by [] E0 (tCons (tVar 0) (tCons (tOp rShlI (tC (.int 1)) (tUn rNegI (tVar 1))) tNil)))))
/-- lowered: 0 size, 1 exponent -/
def t_lowered : TS :=
  (tSeq (tWhile (tTest (tOp rGtI (tBits (tVar 0)) (tC (.int (24))))) (tSeq (tAsg (tOp rDivI (tVar 0) (tC (.int 2))) (gName 0))
    (tAsg (tOp rAddI (tVar 1) (tC (.int 1))) (gName 1))))
    (tRet (tTup (tCons (tVar 0) (tCons (tVar 1) tNil)))))
/-- rounded: 0 minus, 1 size, 2 exponent, 3 unit, 4 near, 5 last -/
def t_rounded (K : PySem.W.Frag) : TS :=
  (tSeq (tIfS (tTest (tOp rEq (tVar 1) (tC (.int 0)))) (tRet (tTup (tCons (tVar 0) (tCons (tC (.int 0)) (tCons (tC (.int (-149))) tNil))))) tNext)
    (tSeq (tAsg (tCB rMax2 (tCons (tOp rSubI (tOp rAddI (tBits (tVar 1)) (tVar 2)) (tC (.int (24)))) (tCons (tC (.int (-149))) tNil))) (gName 3))
    (tSeq (tIfS (tTest (tOp rLeI (tVar 3) (tVar 2))) (tRet (tTup (tCons (tVar 0) (tCons (tVar 1) (tCons (tVar 2) tNil))))) tNext)
    (tSeq (tAsg (tCall (sp_lowered K) [] E0 (tCons (tCall sp_shifted [] E0 (tCons (tVar 1) (tCons (tOp rSubI (tVar 2) (tVar 3)) tNil))) (tCons (tVar 3) tNil))) (gTup K 2 (gCons (gName 4) (gCons (gName 5) gNil))))
    (tRet (tTup (tCons (tVar 0) (tCons (tVar 4) (tCons (tVar 5) tNil)))))))))
/-- signed: 0 single, 1 low, 2 size -/
def t_signed (K : PySem.W.Frag) : TS :=
  (tSeq (tAsg (tOp rShlI (tOp (rIxT K) (tVar 0) (tC (.int 1))) (tOp rSubI (tOp (rIxT K) (tVar 0) (tC (.int 2))) (tVar 1))) (gName 2))
    (tSeq (tIfS (tTest (tOp rEq (tOp (rIxT K) (tVar 0) (tC (.int 0))) (tC (.int 1)))) (tRet (tOp rSubI (tC (.int 0)) (tVar 2))) tNext)
    (tRet (tVar 2))))
/-- opposite: 0 single -/
def t_opposite (K : PySem.W.Frag) : TS :=
  (tRet (tTup (tCons (tOp rSubI (tC (.int 1)) (tOp (rIxT K) (tVar 0) (tC (.int 0)))) (tCons (tOp (rIxT K) (tVar 0) (tC (.int 1))) (tCons (tOp (rIxT K) (tVar 0) (tC (.int 2))) tNil)))))
/-- added: 0 one, 1 other, 2 low, 3 total -/
def t_added (K : PySem.W.Frag) : TS :=
  (tSeq (tAsg (tCB rMin2 (tCons (tOp (rIxT K) (tVar 0) (tC (.int 2))) (tCons (tOp (rIxT K) (tVar 1) (tC (.int 2))) tNil))) (gName 2))
    (tSeq (tAsg (tOp rAddI (tCall (sp_signed K) [] E0 (tCons (tVar 0) (tCons (tVar 2) tNil))) (tCall (sp_signed K) [] E0 (tCons (tVar 1) (tCons (tVar 2) tNil)))) (gName 3))
    (tSeq (tIfS (tAnd (tTest (tOp rEq (tOp (rIxT K) (tVar 0) (tC (.int 1))) (tC (.int 0)))) (tTest (tOp rEq (tOp (rIxT K) (tVar 1) (tC (.int 1))) (tC (.int 0))))) (tRet (tTup (tCons (tOp rMulI (tOp (rIxT K) (tVar 0) (tC (.int 0))) (tOp (rIxT K) (tVar 1) (tC (.int 0)))) (tCons (tC (.int 0)) (tCons (tC (.int (-149))) tNil))))) tNext)
    (tRet (tCall (sp_rounded K) [] E0 (tCons (tCB rInt1 (tCons (tOp rLtI (tVar 3) (tC (.int 0))) tNil)) (tCons (tCB rAbs (tCons (tVar 3) tNil)) (tCons (tVar 2) tNil))))))))
/-- times: 0 one, 1 other -/
def t_times (K : PySem.W.Frag) : TS :=
  (tRet (tCall (sp_rounded K) [] E0 (tCons (tOp rModI (tOp rAddI (tOp (rIxT K) (tVar 0) (tC (.int 0))) (tOp (rIxT K) (tVar 1) (tC (.int 0)))) (tC (.int 2))) (tCons (tOp rMulI (tOp (rIxT K) (tVar 0) (tC (.int 1))) (tOp (rIxT K) (tVar 1) (tC (.int 1)))) (tCons (tOp rAddI (tOp (rIxT K) (tVar 0) (tC (.int 2))) (tOp (rIxT K) (tVar 1) (tC (.int 2)))) tNil)))))
/-- turned: 0 one, 1 more, 2 size, 3 rest -/
def t_turned (K : PySem.W.Frag) : TS :=
  (tSeq (tAsg (tOp rAddI (tOp rAddI (tOp rMulI (tC (.int 2)) (tC (.int (24)))) (tBits (tOp (rIxT K) (tVar 0) (tC (.int 1))))) (tC (.int 2))) (gName 1))
    (tSeq (tAsg (tCB rDivmod (tCons (tOp rShlI (tC (.int 1)) (tVar 1)) (tCons (tOp (rIxT K) (tVar 0) (tC (.int 1))) tNil))) (gTup K 2 (gCons (gName 2) (gCons (gName 3) gNil))))
    (tRet (tCall (sp_rounded K) [] E0 (tCons (tC (.int 0)) (tCons (tOp rAddI (tOp rMulI (tC (.int 2)) (tVar 2)) (tCB rInt1 (tCons (tOp rGtI (tVar 3) (tC (.int 0))) tNil))) (tCons (tOp rSubI (tOp rSubI (tOp rSubI (tC (.int 0)) (tVar 1)) (tC (.int 1))) (tOp (rIxT K) (tVar 0) (tC (.int 2)))) tNil)))))))
/-- is_below: 0 one, 1 other, 2 low -/
def t_is_below (K : PySem.W.Frag) : TS :=
  (tSeq (tAsg (tCB rMin2 (tCons (tOp (rIxT K) (tVar 0) (tC (.int 2))) (tCons (tOp (rIxT K) (tVar 1) (tC (.int 2))) tNil))) (gName 2))
    (tRet (tOp rLtI (tCall (sp_signed K) [] E0 (tCons (tVar 0) (tCons (tVar 2) tNil))) (tCall (sp_signed K) [] E0 (tCons (tVar 1) (tCons (tVar 2) tNil))))))
/-- products: 0 row, 1 point, 2 first, 3 second -/
def t_products (K : PySem.W.Frag) : TS :=
  (tSeq (tAsg (tCall (sp_added K) [] E0 (tCons (tCall (sp_times K) [] E0 (tCons (tOp (rIxL K) (tVar 0) (tC (.int 0))) (tCons (tOp (rIxL K) (tVar 1) (tC (.int 0))) tNil))) (tCons (tCall (sp_times K) [] E0 (tCons (tOp (rIxL K) (tVar 0) (tC (.int 1))) (tCons (tOp (rIxL K) (tVar 1) (tC (.int 1))) tNil))) tNil))) (gName 2))
    (tSeq (tAsg (tCall (sp_added K) [] E0 (tCons (tCall (sp_times K) [] E0 (tCons (tOp (rIxL K) (tVar 0) (tC (.int 2))) (tCons (tOp (rIxL K) (tVar 1) (tC (.int 2))) tNil))) (tCons (tCall (sp_times K) [] E0 (tCons (tOp (rIxL K) (tVar 0) (tC (.int 3))) (tCons (tOp (rIxL K) (tVar 1) (tC (.int 3))) tNil))) tNil))) (gName 3))
    (tRet (tCall (sp_added K) [] E0 (tCons (tVar 2) (tCons (tVar 3) tNil))))))
/-- nearest: 0 single, 1 size -/
def t_nearest (K : PySem.W.Frag) : TS :=
  (tSeq (tAsg (tCall sp_shifted [] E0 (tCons (tOp (rIxT K) (tVar 0) (tC (.int 1))) (tCons (tOp (rIxT K) (tVar 0) (tC (.int 2))) tNil))) (gName 1))
    (tSeq (tIfS (tTest (tOp rEq (tOp (rIxT K) (tVar 0) (tC (.int 0))) (tC (.int 1)))) (tRet (tOp rSubI (tC (.int 0)) (tVar 1))) tNext)
    (tRet (tVar 1))))
section
variable {P : Program} {w : World} {K : PySem.W.Frag} {mg : Str → Option Value} {base : Heap}
theorem len_is_calm : ∀ vs H Q E, sp_is_calm vs H Q E → vs.length = 1 := sp1_len
theorem len_single_of : ∀ vs H Q E, sp_single_of K vs H Q E → vs.length = 1 := sp1_len
theorem len_bits_of : ∀ vs H Q E, sp_bits_of K vs H Q E → vs.length = 1 := sp1_len
theorem len_is_one_more : ∀ vs H Q E, sp_is_one_more vs H Q E → vs.length = 3 := sp3_len
theorem len_near_by : ∀ vs H Q E, sp_near_by vs H Q E → vs.length = 2 := sp2_len
theorem len_shifted : ∀ vs H Q E, sp_shifted vs H Q E → vs.length = 2 := sp2_len
theorem len_lowered : ∀ vs H Q E, sp_lowered K vs H Q E → vs.length = 2 := sp2_len
theorem len_rounded : ∀ vs H Q E, sp_rounded K vs H Q E → vs.length = 3 := sp3_len
theorem len_signed : ∀ vs H Q E, sp_signed K vs H Q E → vs.length = 2 := sp2_len
theorem len_opposite : ∀ vs H Q E, sp_opposite K vs H Q E → vs.length = 1 := sp1_len
theorem len_added : ∀ vs H Q E, sp_added K vs H Q E → vs.length = 2 := sp2_len
theorem len_times : ∀ vs H Q E, sp_times K vs H Q E → vs.length = 2 := sp2_len
theorem len_turned : ∀ vs H Q E, sp_turned K vs H Q E → vs.length = 1 := sp1_len
theorem len_is_below : ∀ vs H Q E, sp_is_below K vs H Q E → vs.length = 2 := sp2_len
theorem len_products : ∀ vs H Q E, sp_products K vs H Q E → vs.length = 2 := sp2_len
theorem len_nearest : ∀ vs H Q E, sp_nearest K vs H Q E → vs.length = 1 := sp1_len
theorem pure_is_calm (T : Tx K mg) (vs : List V) (H : Hp) (Q : VK) (E : XK) (h : sp_is_calm vs H Q E) : t_is_calm { nx := fun _ H' => Q .non H', rt := Q } (start ["bits"] vs) H := by
  obtain ⟨_, n, rfl, rfl, -, k⟩ := h
  have s31 := sh31
  exact sr_ret (er_is (by walk_at "ev") (by rfl)) k
theorem ok_is_calm (T : Tx K mg)  : GF P w K mg base "is_calm" 1 ["bits"] sp_is_calm := by
  refine ⟨fn_keep (k := 0) (tt := t_is_calm) T.d_is_calm sc_is_calm len_is_calm (fun _ _ _ _ _ _ us hl => match us, hl with | [_], _ => rfl) (fun cdv A outer s H E hr => ?_) (pure_is_calm T), T.d_is_calm.kp, T.g_is_calm⟩
  exact (pss_one (ps_ret (pe_cmpR op_le (pe_op op_mod (pv 0) (pe_op op_shlW pe_int (pe_gi rfl T.i_SIGN_BIT))) (pe_gi rfl T.i_CALM) (nomark _))))
theorem pure_single_of (T : Tx K mg) (vs : List V) (H : Hp) (Q : VK) (E : XK) (h : sp_single_of K vs H Q E) : t_single_of { nx := fun _ H' => Q .non H', rt := Q } (start ["bits", "minus", "power", "rest"] vs) H := by
  obtain ⟨_, b, rfl, rfl, ⟨n, rfl, hn, hf⟩, k⟩ := h
  have s23 := sh23
  have rep := single_of_rep hn hf
  unfold singleOfM at rep
  refine qr_asgI (by walk_at "ev") fun H1 e1 => ?_
  refine qr_asgI (by walk_at "ev") fun H2 e2 => ?_
  refine qr_asgI (by walk_at "ev") fun H3 e3 => ?_
  have f3 := (e1.trans e2).trans e3
  refine qp_when (by walk_at "ev") (fun c H4 e4 => ?_) fun c H4 e4 => ?_
  · rw [if_pos (show (n : Int) / 2 ^ 23 % 256 = 0 from c)] at rep
    exact sr_ret (er_rf (K := K) (er_is (by walk_at "ev") (by rfl)) rep) fun v H5 e5 r => k v H5 ((f3.trans e4).trans e5) r
  · rw [if_neg (show ¬ (n : Int) / 2 ^ 23 % 256 = 0 from c)] at rep
    exact sr_ret (er_rf (K := K) (er_is (by walk_at "ev") (by rfl)) rep) fun v H5 e5 r => k v H5 ((f3.trans e4).trans e5) r
theorem ok_single_of (T : Tx K mg)  : GF P w K mg base "single_of" 1 ["bits"] (sp_single_of K) := by
  refine ⟨fn_keep (k := 0) (tt := t_single_of) T.d_single_of sc_single_of len_single_of (fun _ _ _ _ _ _ us hl => match us, hl with | [_], _ => rfl) (fun cdv A outer s H E hr => ?_) (pure_single_of T), T.d_single_of.kp, T.g_single_of⟩
  exact (pss_cons (ps_set (i := 1) sc_single_of.nd rfl (.inl rfl) (pe_op op_shr (pv 0) (pe_gi rfl T.i_SIGN_BIT)))
    (pss_cons (ps_set (i := 2) sc_single_of.nd rfl (.inl rfl) (pe_op op_mod (pe_op op_shr (pv 0) (pe_gi rfl T.i_FRACTION)) pe_int))
    (pss_cons (ps_set (i := 3) sc_single_of.nd rfl (.inl rfl) (pe_op op_mod (pv 0) (pe_op op_shlW pe_int (pe_gi rfl T.i_FRACTION))))
    (pss_cons (ps_if (pt_cmpR op_eq (pv 2) pe_int (nomark _)) (pss_one (ps_ret (pe_tup (pa_cons (pv 1) (pa_cons (pv 3) (pa_cons (pe_gi rfl T.i_LOWEST_singles) pa_nil)))))) pss_nil)
    (pss_one (ps_ret (pe_tup (pa_cons (pv 1) (pa_cons (pe_op op_add (pv 3) (pe_op op_shlW pe_int (pe_gi rfl T.i_FRACTION))) (pa_cons (pe_op op_sub (pv 2) (pe_gi rfl T.i_SHIFT)) pa_nil))))))))))
theorem pure_is_one_more (T : Tx K mg) (vs : List V) (H : Hp) (Q : VK) (E : XK) (h : sp_is_one_more vs H Q E) : t_is_one_more { nx := fun _ H' => Q .non H', rt := Q } (start ["whole", "rest", "under"] vs) H := by
  obtain ⟨_, _, _, a, b, c, rfl, rfl, rfl, rfl, -, k⟩ := h
  exact sr_ret (by walk_at "evr") k
theorem ok_is_one_more (T : Tx K mg)  : GF P w K mg base "is_one_more" 1 ["whole", "rest", "under"] sp_is_one_more := by
  refine ⟨fn_keep (k := 0) (tt := t_is_one_more) T.d_is_one_more sc_is_one_more len_is_one_more (fun _ _ _ _ _ _ us hl => match us, hl with | [_, _, _], _ => rfl) (fun cdv A outer s H E hr => ?_) (pure_is_one_more T), T.d_is_one_more.kp, T.g_is_one_more⟩
  exact (pss_one (ps_ret (pe_or (pe_cmpR op_gt (pe_op op_mul pe_int (pv 1)) (pv 2) (nomark _)) (pe_one (pe_and (pe_cmpR op_eq (pe_op op_mul pe_int (pv 1)) (pv 2) (nomark _)) (pe_one (pe_cmpR op_eq (pe_op op_mod (pv 0) pe_int) pe_int (nomark _))))))))
theorem near_int {s u : Nat} (hu : 0 < u) : (s : Int) / u + (if oneMoreM ((s : Int) / u) ((s : Int) % u) u then 1 else 0) = ((Si20.near s u : Nat) : Int) := by
  have e1 : (s : Int) / u = ((s / u : Nat) : Int) := rfl
  have e2 : (s : Int) % u = ((s % u : Nat) : Int) := rfl
  rw [e1, e2]
  unfold oneMoreM Si20.near
  dsimp only
  by_cases h1 : 2 * (s % u) < u
  · rw [if_pos h1, if_neg]
    · omega
    · simp only [Bool.or_eq_true, Bool.and_eq_true, decide_eq_true_eq]
      omega
  · rw [if_neg h1]
    by_cases h2 : u < 2 * (s % u)
    · rw [if_pos h2, if_pos]
      · omega
      · simp only [Bool.or_eq_true, decide_eq_true_eq]
        exact .inl (by omega)
    · rw [if_neg h2]
      by_cases h3 : s / u % 2 = 0
      · rw [if_pos h3, if_neg]
        · omega
        · simp only [Bool.or_eq_true, Bool.and_eq_true, decide_eq_true_eq]
          omega
      · rw [if_neg h3, if_pos]
        · omega
        · simp only [Bool.or_eq_true, Bool.and_eq_true, decide_eq_true_eq]
          exact .inr ⟨by omega, by omega⟩
theorem pure_near_by (T : Tx K mg) (vs : List V) (H : Hp) (Q : VK) (E : XK) (h : sp_near_by vs H Q E) : t_near_by K { nx := fun _ H' => Q .non H', rt := Q } (start ["size", "under", "whole", "rest"] vs) H := by
  obtain ⟨_, _, s, u, rfl, rfl, rfl, ⟨h0, h1, h2⟩, k⟩ := h
  have hd : CDivP s u := divp_ok h1 (by show ibits s ≤ _; omega)
  refine qr_tup2 (by walk_at "ev") fun H1 e1 => ?_
  refine sr_ret (er_is (by walk_at "ev") ?_) fun v H2 e2 r => k v H2 (e1.trans e2) r
  obtain ⟨s', rfl⟩ := Int.eq_ofNat_of_zero_le h0
  obtain ⟨u', rfl⟩ := Int.eq_ofNat_of_zero_le (Int.le_of_lt h1)
  exact near_int (by omega)
theorem ok_near_by (T : Tx K mg) (G_is_one_more : GF P w K mg base "is_one_more" 1 ["whole", "rest", "under"] sp_is_one_more) : GF P w K mg base "near_by" 2 ["size", "under"] sp_near_by := by
  refine ⟨fn_keep (k := 1) (tt := (t_near_by K)) T.d_near_by sc_near_by len_near_by (fun _ _ _ _ _ _ us hl => match us, hl with | [_, _], _ => rfl) (fun cdv A outer s H E hr => ?_) (pure_near_by T), T.d_near_by.kp, T.g_near_by⟩
  exact (pss_cons (ps_asg (pe_callB call_divmodW rfl T.f_divmod (by decide +kernel) (pa_cons (pv 0) (pa_cons (pv 1) pa_nil))) (pg_tup rfl (pgs_cons (pg_name (i := 2) sc_near_by.nd rfl (.inl rfl)) (pgs_cons (pg_name (i := 3) sc_near_by.nd rfl (.inl rfl)) pgs_nil))))
    (pss_one (ps_ret (pe_op op_add (pv 2) (pe_callTy call_int1 rfl T.f_int (by decide +kernel) (pa_cons (pe_gf G_is_one_more (hr.mono (by decide)) rfl (pa_cons (pv 2) (pa_cons (pv 3) (pa_cons (pv 1) pa_nil)))) pa_nil))))))
theorem pure_shifted (T : Tx K mg) (vs : List V) (H : Hp) (Q : VK) (E : XK) (h : sp_shifted vs H Q E) : t_shifted { nx := fun _ H' => Q .non H', rt := Q } (start ["size", "places"] vs) H := by
  obtain ⟨_, _, s, p, rfl, rfl, rfl, ⟨h0, h1, h2, h3⟩, k⟩ := h
  refine qp_when (by walk_at "ev") (fun c H1 e1 => ?_) fun c H1 e1 => ?_
  · refine sr_ret (er_is (by walk_at "ev") ?_) fun v H2 e2 r => k v H2 (e1.trans e2) r
    show _ = shM s p
    unfold shM
    rw [if_pos c]
  · have i1 := ib1
    have hsh : CShl 1 (-p) := cshl_ok (by omega) (by rw [i1]; omega)
    have hpos : (0 : Int) < 1 * 2 ^ (-p).toNat := by rw [Int.one_mul]; exact pow_pos_int _
    have pre : 0 ≤ s ∧ 0 < 1 * (2 : Int) ^ (-p).toNat ∧ ibits s ≤ 1000 := ⟨h0, hpos, h1⟩
    refine sr_ret (er_is (by walk_at "ev") ?_) fun v H2 e2 r => k v H2 (e1.trans e2) r
    show _ = shM s p
    unfold shM
    rw [if_neg c, Int.one_mul]
    have : ((2 : Int) ^ (-p).toNat).toNat = 2 ^ (-p).toNat := by
      have : (2 : Int) ^ (-p).toNat = ((2 ^ (-p).toNat : Nat) : Int) := by rw [Int.natCast_pow]; rfl
      rw [this, Int.toNat_natCast]
    rw [this]
theorem ok_shifted (T : Tx K mg) (G_near_by : GF P w K mg base "near_by" 2 ["size", "under"] sp_near_by) : GF P w K mg base "shifted" 3 ["size", "places"] sp_shifted := by
  refine ⟨fn_keep (k := 2) (tt := t_shifted) T.d_shifted sc_shifted len_shifted (fun _ _ _ _ _ _ us hl => match us, hl with | [_, _], _ => rfl) (fun cdv A outer s H E hr => ?_) (pure_shifted T), T.d_shifted.kp, T.g_shifted⟩
  exact (pss_cons (ps_if (pt_cmpR op_ge (pv 1) pe_int (nomark _)) (pss_one (ps_ret (pe_op op_shlW (pv 0) (pv 1)))) pss_nil)
    (pss_one (ps_ret (pe_gf G_near_by (hr.mono (by decide)) rfl (pa_cons (pv 0) (pa_cons (pe_op op_shlW pe_int (pe_un un_neg (pv 1))) pa_nil))))))
theorem pure_lowered (T : Tx K mg) (vs : List V) (H : Hp) (Q : VK) (E : XK) (h : sp_lowered K vs H Q E) : t_lowered { nx := fun _ H' => Q .non H', rt := Q } (start ["size", "exponent"] vs) H := by
  obtain ⟨_, _, s, e, rfl, rfl, rfl, ⟨h0, h1⟩, k⟩ := h
  refine q_while (fun m σ H' => Ex H H' ∧ ((m = 1 ∧ σ = [some (.int s), some (.int e)]) ∨ (m = 0 ∧ 2 ^ 24 ≤ s ∧ σ = [some (.int (s / 2)), some (.int (e + 1))]))) 1 ⟨Ex.refl H, .inl ⟨rfl, rfl⟩⟩ fun m σ H' hw => ?_
  obtain ⟨e1, ⟨rfl, rfl⟩ | ⟨rfl, hs, rfl⟩⟩ := hw
  · refine ⟨_, by walk_at "ev", fun hb H1 e2 => ?_, fun hb H1 e2 => ?_⟩
    · have hb := of_decide_eq_true hb
      refine ⟨fun σ2 H2 => Ex H H2 ∧ 2 ^ 24 ≤ s ∧ σ2 = [some (.int (s / 2)), some (.int (e + 1))], fun σ2 H2 ⟨a, b, c⟩ => ⟨0, by decide, a, .inr ⟨rfl, b, c⟩⟩, ?_⟩
      refine qr_asgI (by walk_at "ev") fun H2 e3 => ?_
      refine sr_asgI (by walk_at "ev") fun H3 e4 => ⟨((e1.trans e2).trans e3).trans e4, ?_, rfl⟩
      have hb' : 24 < Builtin.Int.intBits s := by omega
      have hb' : 24 < ibits s := hb'
      rw [ib_nat h0] at hb'
      have : ¬ s.toNat < 2 ^ 24 := fun hh => by have := bl_le_of_lt hh; omega
      omega
    · have hb := of_decide_eq_false hb
      refine sr_ret (er_is (by walk_at "ev") ?_) fun v H2 e3 r => k v H2 ((e1.trans e2).trans e3) r
      have hb' : Builtin.Int.intBits s ≤ 24 := by omega
      have hb' : ibits s ≤ 24 := hb'
      rw [ib_nat h0] at hb'
      have : s.toNat < 2 ^ 24 := Nat.lt_of_lt_of_le (lt_bl _) (Nat.pow_le_pow_right (by decide) hb')
      show _ = loweredM s e
      unfold loweredM
      rw [if_neg (by omega)]
  · refine ⟨false, et_t (er_is (by walk_at "ev") ?_), fun hb => Bool.noConfusion hb, fun hb H1 e2 => ?_⟩
    · refine decide_eq_false ?_
      have : s / 2 = 8388608 := by omega
      rw [this]
      decide
    · refine sr_ret (er_is (by walk_at "ev") ?_) fun v H2 e3 r => k v H2 ((e1.trans e2).trans e3) r
      show _ = loweredM s e
      unfold loweredM
      rw [if_pos hs]
theorem ok_lowered (T : Tx K mg)  : GF P w K mg base "lowered" 1 ["size", "exponent"] (sp_lowered K) := by
  refine ⟨fn_keep (k := 0) (tt := t_lowered) T.d_lowered sc_lowered len_lowered (fun _ _ _ _ _ _ us hl => match us, hl with | [_, _], _ => rfl) (fun cdv A outer s H E hr => ?_) (pure_lowered T), T.d_lowered.kp, T.g_lowered⟩
  exact (pss_cons (ps_while PassesOwn.never (pt_cmpR op_gt (pe_bits (pv 0)) (pe_gi rfl T.i_DIGITS) (nomark _)) (pss_cons (ps_set (i := 0) sc_lowered.nd rfl (.inl rfl) (pe_op op_fdiv (pv 0) pe_int))
    (pss_one (ps_set (i := 1) sc_lowered.nd rfl (.inl rfl) (pe_op op_add (pv 1) pe_int)))))
    (pss_one (ps_ret (pe_tup (pa_cons (pv 0) (pa_cons (pv 1) pa_nil))))))
theorem rnd_small {A : Nat} {e : Int} (hA : A ≠ 0) (h : ¬ max ((bl A : Int) + e - 24) (-149) ≤ e) : Si20.near A (2 ^ (max ((bl A : Int) + e - 24) (-149) - e).toNat) ≤ 2 ^ 24 := by
  refine near_le (pow_pos2 _) ?_
  have h1 := lt_bl A
  have h2 : 2 ^ bl A ≤ 2 ^ (24 + (max ((bl A : Int) + e - 24) (-149) - e).toNat) := Nat.pow_le_pow_right (by decide) (by omega)
  rw [Nat.pow_add] at h2
  exact Nat.le_of_lt (Nat.lt_of_lt_of_le h1 h2)
theorem pure_rounded (T : Tx K mg) (vs : List V) (H : Hp) (Q : VK) (E : XK) (h : sp_rounded K vs H Q E) : t_rounded K { nx := fun _ H' => Q .non H', rt := Q } (start ["minus", "size", "exponent", "unit", "near", "last"] vs) H := by
  obtain ⟨_, _, _, m, s, e, rfl, rfl, rfl, rfl, ⟨h0, h1, h2, h3⟩, k⟩ := h
  obtain ⟨A, rfl⟩ := Int.eq_ofNat_of_zero_le h0
  have k : ∀ v H', Ex H H' → RS K H' v (rndM m A e) → Q v H' := k
  have hib : ibits (A : Int) = bl A := ib_nat h0
  unfold rndM rndN at k
  refine qp_when (by walk_at "ev") (fun c H1 e1 => ?_) fun c H1 e1 => ?_
  · have hA : A = 0 := by omega
    subst hA
    exact sr_ret (er_is (by walk_at "ev") (by rfl)) fun v H2 e2 r => k v H2 (e1.trans e2) r
  · have hA : A ≠ 0 := by omega
    rw [if_neg hA] at k
    refine qr_asgI (by walk_at "ev") fun H2 e2 => ?_
    have hunit : (if -149 > (Builtin.Int.intBits (A : Int) : Int) + e - 24 then (-149 : Int) else (Builtin.Int.intBits (A : Int) : Int) + e - 24) = max ((bl A : Int) + e - 24) (-149) := by
      have : (Builtin.Int.intBits (A : Int) : Int) = bl A := by rw [← hib]
      rw [this]
      split <;> omega
    rw [hunit]
    have hr := rnd_small (A := A) (e := e) hA
    have hbA : bl A ≤ 1000 := by omega
    generalize hM : max ((bl A : Int) + e - 24) (-149) = M at *
    refine qp_when (by walk_at "ev") (fun c2 H3 e3 => ?_) fun c2 H3 e3 => ?_
    · rw [if_pos c2] at k
      exact sr_ret (er_is (by walk_at "ev") (by rfl)) fun v H4 e4 r => k v H4 (((e1.trans e2).trans e3).trans e4) r
    · rw [if_neg c2] at k
      have hr := hr c2
      have hsh : shM (A : Int) (e - M) = ((Si20.near A (2 ^ (M - e).toNat) : Nat) : Int) := by
        unfold shM
        rw [if_neg (by omega), Int.toNat_natCast, show -(e - M) = M - e by omega]
      have p1 : 0 ≤ (A : Int) ∧ ibits (A : Int) ≤ 1000 ∧ -2000 ≤ e - M ∧ e - M ≤ 2000 := ⟨h0, h1, by omega, by omega⟩
      have p2 : 0 ≤ shM (A : Int) (e - M) ∧ shM (A : Int) (e - M) ≤ 2 ^ 24 := by rw [hsh]; omega
      generalize hN : Si20.near A (2 ^ (M - e).toNat) = N at *
      have hl : EvR (RT K) (tCall (sp_lowered K) [] E0 (tCons (tCall sp_shifted [] E0 (tCons (tVar 1) (tCons (tOp rSubI (tVar 2) (tVar 3)) tNil))) (tCons (tVar 3) tNil))) ((start ["minus", "size", "exponent", "unit", "near", "last"] [V.int m, V.int A, V.int e]).set 3 (some (.int M))) H3 (loweredM (shM (A : Int) (e - M)) M) := by walk_at "ev"
      rw [hsh] at hl
      unfold loweredM at hl
      by_cases c3 : 2 ^ 24 ≤ N
      · rw [if_pos (by omega)] at hl
        rw [if_pos c3] at k
        refine qr_tup2 hl fun H4 e4 => ?_
        refine sr_ret (er_is (by walk_at "ev") ?_) fun v H5 e5 r => k v H5 ((((e1.trans e2).trans e3).trans e4).trans e5) r
        rfl
      · rw [if_neg (by omega)] at hl
        rw [if_neg c3] at k
        refine qr_tup2 hl fun H4 e4 => ?_
        refine sr_ret (er_is (by walk_at "ev") ?_) fun v H5 e5 r => k v H5 ((((e1.trans e2).trans e3).trans e4).trans e5) r
        rfl
theorem ok_rounded (T : Tx K mg) (G_lowered : GF P w K mg base "lowered" 1 ["size", "exponent"] (sp_lowered K)) (G_shifted : GF P w K mg base "shifted" 3 ["size", "places"] sp_shifted) : GF P w K mg base "rounded" 4 ["minus", "size", "exponent"] (sp_rounded K) := by
  refine ⟨fn_keep (k := 3) (tt := (t_rounded K)) T.d_rounded sc_rounded len_rounded (fun _ _ _ _ _ _ us hl => match us, hl with | [_, _, _], _ => rfl) (fun cdv A outer s H E hr => ?_) (pure_rounded T), T.d_rounded.kp, T.g_rounded⟩
  exact (pss_cons (ps_if (pt_cmpR op_eq (pv 1) pe_int (nomark _)) (pss_one (ps_ret (pe_tup (pa_cons (pv 0) (pa_cons pe_int (pa_cons (pe_gi rfl T.i_LOWEST_singles) pa_nil)))))) pss_nil)
    (pss_cons (ps_set (i := 3) sc_rounded.nd rfl (.inl rfl) (pe_callB (call_max2 rfl) rfl T.f_max (by decide +kernel) (pa_cons (pe_op op_sub (pe_op op_add (pe_bits (pv 1)) (pv 2)) (pe_gi rfl T.i_DIGITS)) (pa_cons (pe_gi rfl T.i_LOWEST_singles) pa_nil))))
    (pss_cons (ps_if (pt_cmpR op_le (pv 3) (pv 2) (nomark _)) (pss_one (ps_ret (pe_tup (pa_cons (pv 0) (pa_cons (pv 1) (pa_cons (pv 2) pa_nil)))))) pss_nil)
    (pss_cons (ps_asg (pe_gf G_lowered (hr.mono (by decide)) rfl (pa_cons (pe_gf G_shifted (hr.mono (by decide)) rfl (pa_cons (pv 1) (pa_cons (pe_op op_sub (pv 2) (pv 3)) pa_nil))) (pa_cons (pv 3) pa_nil))) (pg_tup rfl (pgs_cons (pg_name (i := 4) sc_rounded.nd rfl (.inl rfl)) (pgs_cons (pg_name (i := 5) sc_rounded.nd rfl (.inl rfl)) pgs_nil))))
    (pss_one (ps_ret (pe_tup (pa_cons (pv 0) (pa_cons (pv 4) (pa_cons (pv 5) pa_nil))))))))))
theorem rep_rng {x : Sgl} {n k : Nat} (h : Rep x n) (hb : Bd k n) : 0 ≤ x.s ∧ x.s < 2 ^ 24 ∧ -149 ≤ x.e ∧ x.e ≤ k ∧ (x.m = 0 ∨ x.m = 1) := by
  obtain ⟨S, p, hs, he, hS, hz, hm, hv, _, _⟩ := h
  refine ⟨by omega, by omega, by omega, ?_, by rw [hm]; split <;> simp⟩
  by_cases h0 : S = 0
  · have := hz h0
    omega
  · have hb' : S * 2 ^ p ≤ 2 ^ (k + 149) := by rw [hv]; exact hb
    have h1 : 2 ^ p ≤ 2 ^ (k + 149) := Nat.le_trans (by have := Nat.mul_le_mul_right (2 ^ p) (show 1 ≤ S by omega); omega) hb'
    have := (Nat.pow_le_pow_iff_right (by decide : 1 < 2)).mp h1
    omega
theorem pure_signed (T : Tx K mg) (vs : List V) (H : Hp) (Q : VK) (E : XK) (h : sp_signed K vs H Q E) : t_signed K { nx := fun _ H' => Q .non H', rt := Q } (start ["single", "low", "size"] vs) H := by
  obtain ⟨v, _, x, low, rfl, rx, rfl, ⟨h0, h1, h2, h3⟩, k⟩ := h
  have hib : ibits x.s ≤ 24 := by rw [ib_nat h0]; exact bl_le_of_lt (by omega)
  have hsh : CShl x.s (x.e - low) := cshl_ok (by omega) (by omega)
  refine qr_asgI (by walk_at "ev") fun H1 e1 => ?_
  have rx1 := mo e1 rx
  refine qp_when (by walk_at "ev") (fun c H2 e2 => ?_) fun c H2 e2 => ?_
  · refine sr_ret (er_is (by walk_at "ev") ?_) fun v H3 e3 r => k v H3 ((e1.trans e2).trans e3) r
    show _ = sgnM x low
    unfold sgnM
    rw [if_pos c]
  · refine sr_ret (er_is (by walk_at "ev") ?_) fun v H3 e3 r => k v H3 ((e1.trans e2).trans e3) r
    show _ = sgnM x low
    unfold sgnM
    rw [if_neg c]
theorem ok_signed (T : Tx K mg)  : GF P w K mg base "signed" 1 ["single", "low"] (sp_signed K) := by
  refine ⟨fn_keep (k := 0) (tt := (t_signed K)) T.d_signed sc_signed len_signed (fun _ _ _ _ _ _ us hl => match us, hl with | [_, _], _ => rfl) (fun cdv A outer s H E hr => ?_) (pure_signed T), T.d_signed.kp, T.g_signed⟩
  exact (pss_cons (ps_set (i := 2) sc_signed.nd rfl (.inl rfl) (pe_op op_shlW (pe_ix ix_tup (pv 0) pe_int (fun _ _ => rfl)) (pe_op op_sub (pe_ix ix_tup (pv 0) pe_int (fun _ _ => rfl)) (pv 1))))
    (pss_cons (ps_if (pt_cmpR op_eq (pe_ix ix_tup (pv 0) pe_int (fun _ _ => rfl)) pe_int (nomark _)) (pss_one (ps_ret (pe_op op_sub pe_int (pv 2)))) pss_nil)
    (pss_one (ps_ret (pv 2)))))
theorem pure_opposite (T : Tx K mg) (vs : List V) (H : Hp) (Q : VK) (E : XK) (h : sp_opposite K vs H Q E) : t_opposite K { nx := fun _ H' => Q .non H', rt := Q } (start ["single"] vs) H := by
  obtain ⟨v, n, rfl, ⟨x, rx, px⟩, -, k⟩ := h
  exact sr_ret (er_rf (K := K) (x := oppM x) (er_is (by walk_at "ev") (by rfl)) (opp_rep px).1) k
theorem ok_opposite (T : Tx K mg)  : GF P w K mg base "opposite" 1 ["single"] (sp_opposite K) := by
  refine ⟨fn_keep (k := 0) (tt := (t_opposite K)) T.d_opposite sc_opposite len_opposite (fun _ _ _ _ _ _ us hl => match us, hl with | [_], _ => rfl) (fun cdv A outer s H E hr => ?_) (pure_opposite T), T.d_opposite.kp, T.g_opposite⟩
  exact (pss_one (ps_ret (pe_tup (pa_cons (pe_op op_sub pe_int (pe_ix ix_tup (pv 0) pe_int (fun _ _ => rfl))) (pa_cons (pe_ix ix_tup (pv 0) pe_int (fun _ _ => rfl)) (pa_cons (pe_ix ix_tup (pv 0) pe_int (fun _ _ => rfl)) pa_nil))))))
theorem sgn_lt {x : Sgl} {low : Int} (h0 : 0 ≤ x.s) (h1 : x.s < 2 ^ 24) (h2 : x.e - low ≤ 300) : (sgnM x low).natAbs < 2 ^ 324 := by
  have : (sgnM x low).natAbs = x.s.toNat * 2 ^ (x.e - low).toNat := by
    unfold sgnM
    obtain ⟨S, hS⟩ := Int.eq_ofNat_of_zero_le h0
    rw [hS, Int.toNat_natCast]
    have e : (S : Int) * 2 ^ (x.e - low).toNat = ((S * 2 ^ (x.e - low).toNat : Nat) : Int) := by rw [Int.natCast_mul, Int.natCast_pow]; rfl
    rw [e]
    generalize S * 2 ^ (x.e - low).toNat = Z
    split
    · omega
    · omega
  rw [this]
  calc x.s.toNat * 2 ^ (x.e - low).toNat ≤ x.s.toNat * 2 ^ 300 := Nat.mul_le_mul_left _ (Nat.pow_le_pow_right (by decide) (by omega))
    _ < 2 ^ 24 * 2 ^ 300 := Nat.mul_lt_mul_of_pos_right (by omega) (pow_pos2 _)
    _ = 2 ^ 324 := pw (by omega)
theorem if_min {a b : Int} : (if b < a then b else a) = min a b := by
  split <;> omega
theorem pure_added (T : Tx K mg) (vs : List V) (H : Hp) (Q : VK) (E : XK) (h : sp_added K vs H Q E) : t_added K { nx := fun _ H' => Q .non H', rt := Q } (start ["one", "other", "low", "total"] vs) H := by
  obtain ⟨v1, v2, a, b, rfl, ⟨x, rx, px⟩, ⟨y, ry, py⟩, ⟨ha, hb⟩, k⟩ := h
  obtain ⟨x0, x1, x2, x3, _⟩ := rep_rng px ha
  obtain ⟨y0, y1, y2, y3, _⟩ := rep_rng py hb
  have rep := (added_rep px py ha hb (by decide)).1
  unfold addedM at rep
  refine qr_asgI (er_is (by walk_at "ev") if_min) fun H1 e1 => ?_
  have rx1 := mo e1 rx
  have ry1 := mo e1 ry
  have p1 : 0 ≤ x.s ∧ x.s < 2 ^ 24 ∧ min x.e y.e ≤ x.e ∧ x.e - min x.e y.e ≤ 500 := ⟨x0, x1, by omega, by omega⟩
  have p2 : 0 ≤ y.s ∧ y.s < 2 ^ 24 ∧ min x.e y.e ≤ y.e ∧ y.e - min x.e y.e ≤ 500 := ⟨y0, y1, by omega, by omega⟩
  have l1 := sgn_lt (x := x) (low := min x.e y.e) x0 x1 (by omega)
  have l2 := sgn_lt (x := y) (low := min x.e y.e) y0 y1 (by omega)
  refine qr_asgI (by walk_at "ev") fun H2 e2 => ?_
  have rx2 := mo e2 rx1
  have ry2 := mo e2 ry1
  refine q_when (by walk_at "ev") (fun c H3 e3 => ?_) fun c H3 e3 => ?_
  · have c' : x.s = 0 ∧ y.s = 0 := by simpa using c
    rw [if_pos c'] at rep
    have rx3 := mo e3 rx2
    have ry3 := mo e3 ry2
    have hm : CMul x.m y.m := by
      obtain ⟨_, _, _, _, h⟩ := rep_rng px ha
      exact cmul_l (by omega) (by omega)
    exact sr_ret (er_rf (K := K) (by walk_at "ev") rep) fun v H4 e4 r => k v H4 (((e1.trans e2).trans e3).trans e4) r
  · have c' : ¬ (x.s = 0 ∧ y.s = 0) := by simpa using c
    rw [if_neg c'] at rep
    have hmin : -149 ≤ min x.e y.e ∧ min x.e y.e ≤ 110 := by omega
    generalize min x.e y.e = low at *
    have habs : (if sgnM x low + sgnM y low < 0 then -(sgnM x low + sgnM y low) else sgnM x low + sgnM y low) = (((sgnM x low + sgnM y low).natAbs : Nat) : Int) := by
      split <;> omega
    have lt : (sgnM x low + sgnM y low).natAbs < 2 ^ 325 := by
      have e : (2 : Nat) ^ 325 = 2 ^ 324 + 2 ^ 324 := by rw [← Nat.two_mul]
      have := Int.natAbs_add_le (sgnM x low) (sgnM y low)
      omega
    have ev1 : EvR RI (tCB rAbs (tCons (tVar 3) tNil)) (((start ["one", "other", "low", "total"] [v1, v2]).set 2 (some (.int low))).set 3 (some (.int (sgnM x low + sgnM y low)))) H3 (((sgnM x low + sgnM y low).natAbs : Nat) : Int) := er_is (by walk_at "ev") habs
    generalize sgnM x low + sgnM y low = tt at *
    have hib : ibits ((tt.natAbs : Nat) : Int) ≤ 1000 := by
      rw [ib_nat (by omega), Int.toNat_natCast]
      exact Nat.le_trans (bl_le_of_lt lt) (by decide)
    have pre : 0 ≤ ((tt.natAbs : Nat) : Int) ∧ ibits ((tt.natAbs : Nat) : Int) ≤ 1000 ∧ -1000 ≤ low ∧ low ≤ 1000 := ⟨by omega, hib, by omega, by omega⟩
    refine sr_ret (er_rf (K := K) (er_is (er_call3 (er_intB (by walk_at "ev")) ev1 (by walk_at "ev") pre) ?_) rep) fun v H4 e4 r => k v H4 (((e1.trans e2).trans e3).trans e4) r
    show rndM _ (Int.toNat _) low = _
    rw [Int.toNat_natCast]
    congr 1
    by_cases hh : tt < 0
    · rw [if_pos (decide_eq_true hh), if_pos hh]
    · rw [if_neg (by simpa using hh), if_neg hh]
theorem ok_added (T : Tx K mg) (G_rounded : GF P w K mg base "rounded" 4 ["minus", "size", "exponent"] (sp_rounded K)) (G_signed : GF P w K mg base "signed" 1 ["single", "low"] (sp_signed K)) : GF P w K mg base "added" 5 ["one", "other"] (sp_added K) := by
  refine ⟨fn_keep (k := 4) (tt := (t_added K)) T.d_added sc_added len_added (fun _ _ _ _ _ _ us hl => match us, hl with | [_, _], _ => rfl) (fun cdv A outer s H E hr => ?_) (pure_added T), T.d_added.kp, T.g_added⟩
  exact (pss_cons (ps_set (i := 2) sc_added.nd rfl (.inl rfl) (pe_callB (call_min2 rfl) rfl T.f_min (by decide +kernel) (pa_cons (pe_ix ix_tup (pv 0) pe_int (fun _ _ => rfl)) (pa_cons (pe_ix ix_tup (pv 1) pe_int (fun _ _ => rfl)) pa_nil))))
    (pss_cons (ps_set (i := 3) sc_added.nd rfl (.inl rfl) (pe_op op_add (pe_gf G_signed (hr.mono (by decide)) rfl (pa_cons (pv 0) (pa_cons (pv 2) pa_nil))) (pe_gf G_signed (hr.mono (by decide)) rfl (pa_cons (pv 1) (pa_cons (pv 2) pa_nil)))))
    (pss_cons (ps_if (PW.pt (pw_and (pt_cmpR op_eq (pe_ix ix_tup (pv 0) pe_int (fun _ _ => rfl)) pe_int (nomark _)) (pw_and1 (pt_cmpR op_eq (pe_ix ix_tup (pv 1) pe_int (fun _ _ => rfl)) pe_int (nomark _))))) (pss_one (ps_ret (pe_tup (pa_cons (pe_op op_mul (pe_ix ix_tup (pv 0) pe_int (fun _ _ => rfl)) (pe_ix ix_tup (pv 1) pe_int (fun _ _ => rfl))) (pa_cons pe_int (pa_cons (pe_gi rfl T.i_LOWEST_singles) pa_nil)))))) pss_nil)
    (pss_one (ps_ret (pe_gf G_rounded (hr.mono (by decide)) rfl (pa_cons (pe_callTy call_int1 rfl T.f_int (by decide +kernel) (pa_cons (pe_cmpR op_lt (pv 3) pe_int (nomark _)) pa_nil)) (pa_cons (pe_callB call_abs rfl T.f_abs (by decide +kernel) (pa_cons (pv 3) pa_nil)) (pa_cons (pv 2) pa_nil)))))))))
theorem pure_times (T : Tx K mg) (vs : List V) (H : Hp) (Q : VK) (E : XK) (h : sp_times K vs H Q E) : t_times K { nx := fun _ H' => Q .non H', rt := Q } (start ["one", "other"] vs) H := by
  obtain ⟨v1, v2, a, b, rfl, ⟨x, rx, px⟩, ⟨y, ry, py⟩, ⟨i, j, ha, hb, hij⟩, k⟩ := h
  obtain ⟨x0, x1, x2, x3, _⟩ := rep_rng px ha
  obtain ⟨y0, y1, y2, y3, _⟩ := rep_rng py hb
  have rep := (times_rep px py ha hb (by omega)).1
  have hm : CMul x.s y.s := cmul_l (by omega) (by omega)
  have hp : 0 ≤ x.s * y.s := Int.mul_nonneg x0 y0
  have hib : ibits (x.s * y.s) ≤ 1000 := by
    rw [ib_nat hp]
    refine Nat.le_trans (bl_le_of_lt (k := 48) ?_) (by decide)
    obtain ⟨S, hS⟩ := Int.eq_ofNat_of_zero_le x0
    obtain ⟨S', hS'⟩ := Int.eq_ofNat_of_zero_le y0
    rw [hS, hS', ← Int.natCast_mul, Int.toNat_natCast]
    calc S * S' < 2 ^ 24 * 2 ^ 24 := Nat.mul_lt_mul'' (by omega) (by omega)
      _ = 2 ^ 48 := pw (by omega)
  have pre : 0 ≤ x.s * y.s ∧ ibits (x.s * y.s) ≤ 1000 ∧ -1000 ≤ x.e + y.e ∧ x.e + y.e ≤ 1000 := ⟨hp, hib, by omega, by omega⟩
  exact sr_ret (er_rf (K := K) (x := timesM x y) (er_is (by walk_at "ev") (by rfl)) rep) k
theorem ok_times (T : Tx K mg) (G_rounded : GF P w K mg base "rounded" 4 ["minus", "size", "exponent"] (sp_rounded K)) : GF P w K mg base "times" 5 ["one", "other"] (sp_times K) := by
  refine ⟨fn_keep (k := 4) (tt := (t_times K)) T.d_times sc_times len_times (fun _ _ _ _ _ _ us hl => match us, hl with | [_, _], _ => rfl) (fun cdv A outer s H E hr => ?_) (pure_times T), T.d_times.kp, T.g_times⟩
  exact (pss_one (ps_ret (pe_gf G_rounded (hr.mono (by decide)) rfl (pa_cons (pe_op op_mod (pe_op op_add (pe_ix ix_tup (pv 0) pe_int (fun _ _ => rfl)) (pe_ix ix_tup (pv 1) pe_int (fun _ _ => rfl))) pe_int) (pa_cons (pe_op op_mul (pe_ix ix_tup (pv 0) pe_int (fun _ _ => rfl)) (pe_ix ix_tup (pv 1) pe_int (fun _ _ => rfl))) (pa_cons (pe_op op_add (pe_ix ix_tup (pv 0) pe_int (fun _ _ => rfl)) (pe_ix ix_tup (pv 1) pe_int (fun _ _ => rfl))) pa_nil))))))
theorem pure_turned (T : Tx K mg) (vs : List V) (H : Hp) (Q : VK) (E : XK) (h : sp_turned K vs H Q E) : t_turned K { nx := fun _ H' => Q .non H', rt := Q } (start ["one", "more", "size", "rest"] vs) H := by
  obtain ⟨v1, a, rfl, ⟨x, rx, px⟩, ⟨ha, hb⟩, k⟩ := h
  have hbd : Bd 30 a := by
    unfold Bd
    have : (0 : Int) ≤ Si20.value a := Int.le_trans (by decide) ha
    have e : ((Si20.value a).natAbs : Int) = Si20.value a := by omega
    have e2 : (((2 : Nat) ^ (30 + 149) : Nat) : Int) = 2 ^ 179 := by decide
    omega
  obtain ⟨x0, x1, x2, x3, _⟩ := rep_rng px hbd
  obtain ⟨rep, _, xp⟩ := turned_rep px ha hb
  obtain ⟨S, hS⟩ := Int.eq_ofNat_of_zero_le x0
  have hib : (Builtin.Int.intBits x.s : Int) = bl S := by
    have : ibits x.s = bl x.s.toNat := ib_nat x0
    rw [hS, Int.toNat_natCast] at this
    rw [hS]
    exact congrArg _ this
  have hb24 : bl S ≤ 24 := bl_le_of_lt (by omega)
  refine qr_asgI (n := 50 + (bl S : Int)) (er_is (by walk_at "ev") (by rw [hib]; omega)) fun H1 e1 => ?_
  have rx1 := mo e1 rx
  have i1 := ib1
  have hsh : CShl 1 (50 + (bl S : Int)) := cshl_ok (by omega) (by rw [i1]; omega)
  have e1' : (1 : Int) * 2 ^ (50 + (bl S : Int)).toNat = ((2 ^ (50 + bl S) : Nat) : Int) := by
    rw [Int.one_mul, show (50 + (bl S : Int)).toNat = 50 + bl S by omega, Int.natCast_pow]
    rfl
  have ev1 : EvR RI (tOp rShlI (tC (.int 1)) (tVar 1)) ((start ["one", "more", "size", "rest"] [v1]).set 1 (some (.int (50 + (bl S : Int))))) H1 ((2 ^ (50 + bl S) : Nat) : Int) := er_is (by walk_at "ev") e1'
  have hdv : CDivP ((2 ^ (50 + bl S) : Nat) : Int) x.s := divp_ok xp (by
    have : ibits ((2 ^ (50 + bl S) : Nat) : Int) ≤ 51 + bl S := by
      rw [ib_nat (Int.natCast_nonneg _), Int.toNat_natCast]
      exact bl_le_of_lt (Nat.pow_lt_pow_right (by decide) (by omega))
    show ibits ((2 ^ (50 + bl S) : Nat) : Int) ≤ _
    omega)
  refine qr_tup2 (er_divmod (K := K) ev1 (by walk_at "ev") hdv) fun H2 e2 => ?_
  have rx2 := mo e2 rx1
  have eq : ((2 ^ (50 + bl S) : Nat) : Int) / x.s = ((2 ^ (50 + bl S) / S : Nat) : Int) := by rw [hS]; rfl
  have er : ((2 ^ (50 + bl S) : Nat) : Int) % x.s = ((2 ^ (50 + bl S) % S : Nat) : Int) := by rw [hS]; rfl
  rw [eq, er]
  have hA : 2 * ((2 ^ (50 + bl S) / S : Nat) : Int) + (if decide (0 < ((2 ^ (50 + bl S) % S : Nat) : Int)) = true then 1 else 0) = ((turnA S : Nat) : Int) := by
    unfold turnA
    generalize 2 ^ (50 + bl S) % S = r
    generalize 2 ^ (50 + bl S) / S = q
    by_cases hh : 0 < r
    · rw [if_pos hh, if_pos (decide_eq_true (by omega))]
      omega
    · rw [if_neg hh, if_neg (by simp; omega)]
      omega
  have ev2 : EvR RI (tOp rAddI (tOp rMulI (tC (.int 2)) (tVar 2)) (tCB rInt1 (tCons (tOp rGtI (tVar 3) (tC (.int 0))) tNil))) ((((start ["one", "more", "size", "rest"] [v1]).set 1 (some (.int (50 + (bl S : Int))))).set 2 (some (.int ((2 ^ (50 + bl S) / S : Nat) : Int)))).set 3 (some (.int ((2 ^ (50 + bl S) % S : Nat) : Int)))) H2 ((turnA S : Nat) : Int) := er_is (by walk_at "ev") hA
  have hAb : ibits ((turnA S : Nat) : Int) ≤ 1000 := by
    rw [ib_nat (by omega), Int.toNat_natCast]
    refine Nat.le_trans (bl_le_of_lt (k := 100) ?_) (by decide)
    have q : 2 ^ (50 + bl S) / S ≤ 2 ^ (50 + bl S) := Nat.div_le_self _ _
    have q2 : 2 ^ (50 + bl S) ≤ 2 ^ 74 := Nat.pow_le_pow_right (by decide) (by omega)
    have q3 : (2 : Nat) ^ 74 * 2 + 1 < 2 ^ 100 := by decide
    unfold turnA
    split <;> omega
  have pre : 0 ≤ ((turnA S : Nat) : Int) ∧ ibits ((turnA S : Nat) : Int) ≤ 1000 ∧ -1000 ≤ 0 - (50 + (bl S : Int)) - 1 - x.e ∧ 0 - (50 + (bl S : Int)) - 1 - x.e ≤ 1000 := ⟨by omega, hAb, by omega, by omega⟩
  refine sr_ret (er_rf (K := K) (x := turnedM x) (er_is (er_call3 (by walk_at "ev") ev2 (by walk_at "ev") pre) ?_) rep) fun v H3 e3 r => k v H3 ((e1.trans e2).trans e3) r
  show rndM 0 (Int.toNat _) _ = turnedM x
  unfold turnedM
  rw [Int.toNat_natCast, hS, Int.toNat_natCast]
theorem ok_turned (T : Tx K mg) (G_rounded : GF P w K mg base "rounded" 4 ["minus", "size", "exponent"] (sp_rounded K)) : GF P w K mg base "turned" 5 ["one"] (sp_turned K) := by
  refine ⟨fn_keep (k := 4) (tt := (t_turned K)) T.d_turned sc_turned len_turned (fun _ _ _ _ _ _ us hl => match us, hl with | [_], _ => rfl) (fun cdv A outer s H E hr => ?_) (pure_turned T), T.d_turned.kp, T.g_turned⟩
  exact (pss_cons (ps_set (i := 1) sc_turned.nd rfl (.inl rfl) (pe_op op_add (pe_op op_add (pe_op op_mul pe_int (pe_gi rfl T.i_DIGITS)) (pe_bits (pe_ix ix_tup (pv 0) pe_int (fun _ _ => rfl)))) pe_int))
    (pss_cons (ps_asg (pe_callB call_divmodW rfl T.f_divmod (by decide +kernel) (pa_cons (pe_op op_shlW pe_int (pv 1)) (pa_cons (pe_ix ix_tup (pv 0) pe_int (fun _ _ => rfl)) pa_nil))) (pg_tup rfl (pgs_cons (pg_name (i := 2) sc_turned.nd rfl (.inl rfl)) (pgs_cons (pg_name (i := 3) sc_turned.nd rfl (.inl rfl)) pgs_nil))))
    (pss_one (ps_ret (pe_gf G_rounded (hr.mono (by decide)) rfl (pa_cons pe_int (pa_cons (pe_op op_add (pe_op op_mul pe_int (pv 2)) (pe_callTy call_int1 rfl T.f_int (by decide +kernel) (pa_cons (pe_cmpR op_gt (pv 3) pe_int (nomark _)) pa_nil))) (pa_cons (pe_op op_sub (pe_op op_sub (pe_op op_sub pe_int (pv 1)) pe_int) (pe_ix ix_tup (pv 0) pe_int (fun _ _ => rfl))) pa_nil))))))))
theorem pure_is_below (T : Tx K mg) (vs : List V) (H : Hp) (Q : VK) (E : XK) (h : sp_is_below K vs H Q E) : t_is_below K { nx := fun _ H' => Q .non H', rt := Q } (start ["one", "other", "low"] vs) H := by
  obtain ⟨v1, v2, a, b, rfl, ⟨x, rx, px⟩, ⟨y, ry, py⟩, ⟨ha, hb⟩, k⟩ := h
  obtain ⟨x0, x1, x2, x3, _⟩ := rep_rng px ha
  obtain ⟨y0, y1, y2, y3, _⟩ := rep_rng py hb
  refine qr_asgI (er_is (by walk_at "ev") if_min) fun H1 e1 => ?_
  have rx1 := mo e1 rx
  have ry1 := mo e1 ry
  have p1 : 0 ≤ x.s ∧ x.s < 2 ^ 24 ∧ min x.e y.e ≤ x.e ∧ x.e - min x.e y.e ≤ 500 := ⟨x0, x1, by omega, by omega⟩
  have p2 : 0 ≤ y.s ∧ y.s < 2 ^ 24 ∧ min x.e y.e ≤ y.e ∧ y.e - min x.e y.e ≤ 500 := ⟨y0, y1, by omega, by omega⟩
  exact sr_ret (er_is (by walk_at "ev") (below_iff px py)) fun v H2 e2 r => k v H2 (e1.trans e2) r
theorem ok_is_below (T : Tx K mg) (G_signed : GF P w K mg base "signed" 1 ["single", "low"] (sp_signed K)) : GF P w K mg base "is_below" 2 ["one", "other"] (sp_is_below K) := by
  refine ⟨fn_keep (k := 1) (tt := (t_is_below K)) T.d_is_below sc_is_below len_is_below (fun _ _ _ _ _ _ us hl => match us, hl with | [_, _], _ => rfl) (fun cdv A outer s H E hr => ?_) (pure_is_below T), T.d_is_below.kp, T.g_is_below⟩
  exact (pss_cons (ps_set (i := 2) sc_is_below.nd rfl (.inl rfl) (pe_callB (call_min2 rfl) rfl T.f_min (by decide +kernel) (pa_cons (pe_ix ix_tup (pv 0) pe_int (fun _ _ => rfl)) (pa_cons (pe_ix ix_tup (pv 1) pe_int (fun _ _ => rfl)) pa_nil))))
    (pss_one (ps_ret (pe_cmpR op_lt (pe_gf G_signed (hr.mono (by decide)) rfl (pa_cons (pv 0) (pa_cons (pv 2) pa_nil))) (pe_gf G_signed (hr.mono (by decide)) rfl (pa_cons (pv 1) (pa_cons (pv 2) pa_nil))) (nomark _)))))
theorem pure_nearest (T : Tx K mg) (vs : List V) (H : Hp) (Q : VK) (E : XK) (h : sp_nearest K vs H Q E) : t_nearest K { nx := fun _ H' => Q .non H', rt := Q } (start ["single", "size"] vs) H := by
  obtain ⟨v1, a, rfl, ⟨x, rx, px⟩, ha, k⟩ := h
  obtain ⟨x0, x1, x2, x3, _⟩ := rep_rng px ha
  have hib : ibits x.s ≤ 24 := by rw [ib_nat x0]; exact bl_le_of_lt (by omega)
  have pre : 0 ≤ x.s ∧ ibits x.s ≤ 1000 ∧ -2000 ≤ x.e ∧ x.e ≤ 2000 := ⟨x0, by omega, by omega, by omega⟩
  have k : ∀ v H', Ex H H' → RI H' v (wholeZ a) → Q v H' := k
  rw [← near_rep px] at k
  unfold nearM at k
  refine qr_asgI (by walk_at "ev") fun H1 e1 => ?_
  have rx1 := mo e1 rx
  refine qp_when (by walk_at "ev") (fun c H2 e2 => ?_) fun c H2 e2 => ?_
  · rw [if_pos c] at k
    exact sr_ret (er_is (by walk_at "ev") (by rfl)) fun v H3 e3 r => k v H3 ((e1.trans e2).trans e3) r
  · rw [if_neg c] at k
    exact sr_ret (er_is (by walk_at "ev") (by rfl)) fun v H3 e3 r => k v H3 ((e1.trans e2).trans e3) r
theorem ok_nearest (T : Tx K mg) (G_shifted : GF P w K mg base "shifted" 3 ["size", "places"] sp_shifted) : GF P w K mg base "nearest" 4 ["single"] (sp_nearest K) := by
  refine ⟨fn_keep (k := 3) (tt := (t_nearest K)) T.d_nearest sc_nearest len_nearest (fun _ _ _ _ _ _ us hl => match us, hl with | [_], _ => rfl) (fun cdv A outer s H E hr => ?_) (pure_nearest T), T.d_nearest.kp, T.g_nearest⟩
  exact (pss_cons (ps_set (i := 1) sc_nearest.nd rfl (.inl rfl) (pe_gf G_shifted (hr.mono (by decide)) rfl (pa_cons (pe_ix ix_tup (pv 0) pe_int (fun _ _ => rfl)) (pa_cons (pe_ix ix_tup (pv 0) pe_int (fun _ _ => rfl)) pa_nil))))
    (pss_cons (ps_if (pt_cmpR op_eq (pe_ix ix_tup (pv 0) pe_int (fun _ _ => rfl)) pe_int (nomark _)) (pss_one (ps_ret (pe_op op_sub pe_int (pv 1)))) pss_nil)
    (pss_one (ps_ret (pv 1)))))
theorem pure_bits_of (T : Tx K mg) (vs : List V) (H : Hp) (Q : VK) (E : XK) (h : sp_bits_of K vs H Q E) : t_bits_of K { nx := fun _ H' => Q .non H', rt := Q } (start ["single", "sign", "up", "size", "minus", "exponent"] vs) H := by
  obtain ⟨v1, a, rfl, ⟨x, rx, px⟩, -, k⟩ := h
  obtain ⟨hbits, hu0, hu1⟩ := bits_of_rep px
  have k : ∀ v H', Ex H H' → RI H' v (a : Int) → Q v H' := k
  rw [← hbits] at k
  obtain ⟨S, p, hs, he, hS, hz, hm, hv, hn, hf⟩ := px
  have hm' : x.m = 0 ∨ x.m = 1 := by rw [hm]; split <;> simp
  unfold bitsOfM at k
  have ev0 : EvR (RT K) (tVar 0) (start ["single", "sign", "up", "size", "minus", "exponent"] [v1]) H [.int x.m, .int x.s, .int x.e] := er_var rfl rx
  refine qr_tup3 ev0 fun H1 e1 => ?_
  have hibm : ibits x.m ≤ 1 := by
    rcases hm' with h | h <;> rw [h] <;> decide
  have hsh : CShl x.m 31 := cshl_ok (by decide) (by omega)
  refine qr_asgI (by walk_at "ev") fun H2 e2 => ?_
  have f2 := e1.trans e2
  refine qp_when (by walk_at "ev") (fun c H3 e3 => ?_) fun c H3 e3 => ?_
  · rw [if_pos c] at k
    exact sr_ret (er_is (by walk_at "ev") (by rfl)) fun v H4 e4 r => k v H4 ((f2.trans e3).trans e4) r
  · rw [if_neg c] at k
    have f3 := f2.trans e3
    refine qr_asgI (by walk_at "ev") fun H4 e4 => ?_
    have hib : (Builtin.Int.intBits x.s : Int) = bl x.s.toNat := congrArg _ (ib_nat (by omega))
    refine qr_asgI (n := upM x) (er_is (by walk_at "ev") ?_) fun H5 e5 => ?_
    · unfold upM
      rw [hib]
      split <;> split <;> omega
    have hsx : ibits x.s ≤ 24 := by rw [ib_nat (by omega)]; exact bl_le_of_lt (by omega)
    have hsh2 : CShl x.s (upM x) := cshl_ok hu0 (by omega)
    have f5 := (f3.trans e4).trans e5
    refine qr_asgI (by walk_at "ev") fun H6 e6 => ?_
    have f6 := f5.trans e6
    refine qp_when (by walk_at "ev") (fun c2 H7 e7 => ?_) fun c2 H7 e7 => ?_
    · rw [if_pos (show x.s * 2 ^ (upM x).toNat / 2 ^ 23 = 0 from c2)] at k
      exact sr_ret (er_is (by walk_at "ev") (by rfl)) fun v H8 e8 r => k v H8 ((f6.trans e7).trans e8) r
    · rw [if_neg (show ¬ x.s * 2 ^ (upM x).toNat / 2 ^ 23 = 0 from c2)] at k
      have hub : upM x ≤ x.e + 149 := by unfold upM; omega
      have hpb : p ≤ 300 := by
        have h1 : mant a < 2 ^ 278 := by
          unfold mant
          split
          · exact Nat.lt_of_lt_of_le (Nat.mod_lt _ (by decide)) (Nat.pow_le_pow_right (by decide) (by decide))
          · have g1 : 2 ^ 23 + a % 2 ^ 23 < 2 ^ 24 := by omega
            calc (2 ^ 23 + a % 2 ^ 23) * 2 ^ (a / 2 ^ 23 % 256 - 1) < 2 ^ 24 * 2 ^ (a / 2 ^ 23 % 256 - 1) := Nat.mul_lt_mul_of_pos_right g1 (pow_pos2 _)
              _ ≤ 2 ^ 24 * 2 ^ 254 := Nat.mul_le_mul_left _ (Nat.pow_le_pow_right (by decide) (by omega))
              _ = 2 ^ 278 := pw (by omega)
        rw [← value_abs, ← hv] at h1
        have h2 : 2 ^ p < 2 ^ 278 := Nat.lt_of_le_of_lt (by have := Nat.mul_le_mul_right (2 ^ p) (show 1 ≤ S by omega); omega) h1
        have := (Nat.pow_lt_pow_iff_right (by decide : 1 < 2)).mp h2
        omega
      have hib3 : ibits (x.e - upM x + 150) ≤ 100 := by
        rw [ib_nat (by omega)]
        refine Nat.le_trans (bl_le_of_lt (k := 20) ?_) (by decide)
        have : (2 : Nat) ^ 20 = 1048576 := by decide
        omega
      have hsh3 : CShl (x.e - upM x + 150) 23 := cshl_ok (by decide) (by omega)
      have s23 := sh23
      exact sr_ret (er_is (by walk_at "ev") (by rfl)) fun v H8 e8 r => k v H8 ((f6.trans e7).trans e8) r
theorem ok_bits_of (T : Tx K mg)  : GF P w K mg base "bits_of" 1 ["single"] (sp_bits_of K) := by
  refine ⟨fn_keep (k := 0) (tt := (t_bits_of K)) T.d_bits_of sc_bits_of len_bits_of (fun _ _ _ _ _ _ us hl => match us, hl with | [_], _ => rfl) (fun cdv A outer s H E hr => ?_) (pure_bits_of T), T.d_bits_of.kp, T.g_bits_of⟩
  exact (pss_cons (ps_asg (pv 0) (pg_tup rfl (pgs_cons (pg_name (i := 4) sc_bits_of.nd rfl (.inl rfl)) (pgs_cons (pg_name (i := 3) sc_bits_of.nd rfl (.inl rfl)) (pgs_cons (pg_name (i := 5) sc_bits_of.nd rfl (.inl rfl)) pgs_nil)))))
    (pss_cons (ps_set (i := 1) sc_bits_of.nd rfl (.inl rfl) (pe_op op_shlW (pv 4) (pe_gi rfl T.i_SIGN_BIT)))
    (pss_cons (ps_if (pt_cmpR op_eq (pv 3) pe_int (nomark _)) (pss_one (ps_ret (pv 1))) pss_nil)
    (pss_cons (ps_set (i := 2) sc_bits_of.nd rfl (.inl rfl) (pe_callB (call_max2 rfl) rfl T.f_max (by decide +kernel) (pa_cons pe_int (pa_cons (pe_op op_sub (pe_gi rfl T.i_DIGITS) (pe_bits (pv 3))) pa_nil))))
    (pss_cons (ps_set (i := 2) sc_bits_of.nd rfl (.inl rfl) (pe_callB (call_min2 rfl) rfl T.f_min (by decide +kernel) (pa_cons (pv 2) (pa_cons (pe_op op_sub (pv 5) (pe_gi rfl T.i_LOWEST_singles)) pa_nil))))
    (pss_cons (ps_set (i := 3) sc_bits_of.nd rfl (.inl rfl) (pe_op op_shlW (pv 3) (pv 2)))
    (pss_cons (ps_if (pt_cmpR op_eq (pe_op op_shr (pv 3) (pe_gi rfl T.i_FRACTION)) pe_int (nomark _)) (pss_one (ps_ret (pe_op op_add (pv 1) (pv 3)))) pss_nil)
    (pss_one (ps_ret (pe_op op_sub (pe_op op_add (pe_op op_add (pv 1) (pe_op op_shlW (pe_op op_add (pe_op op_sub (pv 5) (pv 2)) (pe_gi rfl T.i_SHIFT)) (pe_gi rfl T.i_FRACTION))) (pv 3)) (pe_op op_shlW pe_int (pe_gi rfl T.i_FRACTION))))))))))))
theorem RL.at_ {R : Rel Nat} {H : Hp} {v : V} {l : List Nat} {i : Nat} (h : i < l.length) : l[i]? = some (l.getD i 0) := by
  rw [List.getElem?_eq_getElem h, List.getD_eq_getElem?_getD, List.getElem?_eq_getElem h]
  rfl
theorem er_ixF {ta : TE} {s : L2.St} {H : Hp} {A : Addr → Prop} {l : List Nat} {i : Nat} {n : Int} (ha : EvR (RLn A (RF K)) ta s H l) (h : i < l.length) (hn : n = (i : Int)) : EvR (RF K) (tOp (rIxL K) ta (tC (.int n))) s H (l.getD i 0) := by
  subst hn
  exact er_ixL (j := i) ha er_cI rfl (RL.at_ (R := RF K) (H := H) (v := .non) h)
theorem pure_products (T : Tx K mg) (vs : List V) (H : Hp) (Q : VK) (E : XK) (h : sp_products K vs H Q E) : t_products K { nx := fun _ H' => Q .non H', rt := Q } (start ["row", "point", "first", "second"] vs) H := by
  obtain ⟨v1, v2, a, b, rfl, ra, rb, ⟨⟨la, ha⟩, lb, hb⟩, k⟩ := h
  have lp : ∀ i, ∃ i' j', Bd i' (a.getD i 0) ∧ Bd j' (b.getD i 0) ∧ i' + j' ≤ 110 := fun i => ⟨30, 30, ha i, hb i, by decide⟩
  have gx : ∀ {H1 : Hp} {s : L2.St}, s[0]? = some (some v1) → Ex H H1 → ∀ i : Nat, i < 4 → EvR (RF K) (tOp (rIxL K) (tVar 0) (tC (.int (i : Int)))) s H1 (a.getD i 0) := fun hs e i hi => er_ixF (er_var hs (mo e ra)) (by omega) rfl
  have gy : ∀ {H1 : Hp} {s : L2.St}, s[1]? = some (some v2) → Ex H H1 → ∀ i : Nat, i < 4 → EvR (RF K) (tOp (rIxL K) (tVar 1) (tC (.int (i : Int)))) s H1 (b.getD i 0) := fun hs e i hi => er_ixF (er_var hs (mo e rb)) (by omega) rfl
  have bp : ∀ i, Bd 60 (Si20.product (a.getD i 0) (b.getD i 0)) := fun i => prod_bd (i := 30) (j := 30) (ha i) (hb i) (by decide)
  have evp : ∀ {H1 : Hp} {s : L2.St}, s[0]? = some (some v1) → s[1]? = some (some v2) → Ex H H1 → ∀ i : Nat, i < 4 → EvR (RF K) (tCall (sp_times K) [] E0 (tCons (tOp (rIxL K) (tVar 0) (tC (.int (i : Int)))) (tCons (tOp (rIxL K) (tVar 1) (tC (.int (i : Int)))) tNil))) s H1 (Si20.product (a.getD i 0) (b.getD i 0)) := fun h1 h2 e i hi => er_call2 (gx h1 e i hi) (gy h2 e i hi) (lp i)
  refine qr_asg (er_call2 (R := RF K) (evp rfl rfl (Ex.refl H) 0 (by decide)) (evp rfl rfl (Ex.refl H) 1 (by decide)) ⟨(bp 0).up (by decide), (bp 1).up (by decide)⟩) fun u H1 e1 ru => ?_
  refine qr_asg (er_call2 (R := RF K) (evp rfl rfl e1 2 (by decide)) (evp rfl rfl e1 3 (by decide)) ⟨(bp 2).up (by decide), (bp 3).up (by decide)⟩) fun z H2 e2 rz => ?_
  have b1 := plus_bd (k := 60) (bp 0) (bp 1) (by decide)
  have b2 := plus_bd (k := 60) (bp 2) (bp 3) (by decide)
  exact sr_ret (er_call2 (R := RF K) (er_var rfl (mo e2 ru)) (er_var rfl rz) ⟨b1.up (by decide), b2.up (by decide)⟩) fun v H3 e3 r => k v H3 ((e1.trans e2).trans e3) r
theorem ok_products (T : Tx K mg) (G_added : GF P w K mg base "added" 5 ["one", "other"] (sp_added K)) (G_times : GF P w K mg base "times" 5 ["one", "other"] (sp_times K)) : GF P w K mg base "products" 6 ["row", "point"] (sp_products K) := by
  refine ⟨fn_keep (k := 5) (tt := (t_products K)) T.d_products sc_products len_products (fun _ _ _ _ _ _ us hl => match us, hl with | [_, _], _ => rfl) (fun cdv A outer s H E hr => ?_) (pure_products T), T.d_products.kp, T.g_products⟩
  exact (pss_cons (ps_set (i := 2) sc_products.nd rfl (.inl rfl) (pe_gf G_added (hr.mono (by decide)) rfl (pa_cons (pe_gf G_times (hr.mono (by decide)) rfl (pa_cons (pe_ix ix_list (pv 0) pe_int (fun _ _ => rfl)) (pa_cons (pe_ix ix_list (pv 1) pe_int (fun _ _ => rfl)) pa_nil))) (pa_cons (pe_gf G_times (hr.mono (by decide)) rfl (pa_cons (pe_ix ix_list (pv 0) pe_int (fun _ _ => rfl)) (pa_cons (pe_ix ix_list (pv 1) pe_int (fun _ _ => rfl)) pa_nil))) pa_nil))))
    (pss_cons (ps_set (i := 3) sc_products.nd rfl (.inl rfl) (pe_gf G_added (hr.mono (by decide)) rfl (pa_cons (pe_gf G_times (hr.mono (by decide)) rfl (pa_cons (pe_ix ix_list (pv 0) pe_int (fun _ _ => rfl)) (pa_cons (pe_ix ix_list (pv 1) pe_int (fun _ _ => rfl)) pa_nil))) (pa_cons (pe_gf G_times (hr.mono (by decide)) rfl (pa_cons (pe_ix ix_list (pv 0) pe_int (fun _ _ => rfl)) (pa_cons (pe_ix ix_list (pv 1) pe_int (fun _ _ => rfl)) pa_nil))) pa_nil))))
    (pss_one (ps_ret (pe_gf G_added (hr.mono (by decide)) rfl (pa_cons (pv 2) (pa_cons (pv 3) pa_nil)))))))
end
end Sd
end

section
set_option Elab.async false
set_option linter.all false
set_option maxRecDepth 100000
set_option maxHeartbeats 4000000
/-! ## 6. Comprehensions and loops that collect -/
namespace Sd
open PySem PySem.Spec PyProof.Rows L2 Evl

/-- a relation that a change of a list does not touch -/
class MoL {a : Type} (R : Rel a) : Prop where
  mol : ∀ {H : Hp} {D : Addr} {acc acc' : List V} {v : V} {x : a}, H D = some (.lst acc) → R H v x → R (upd H D (.lst acc')) v x
instance : MoL RI := ⟨fun _ h => h⟩
instance : MoL RB := ⟨fun _ h => h⟩
instance : MoL RV := ⟨fun _ h => h⟩
theorem sqt_mol {K : PySem.W.Frag} {H : Hp} {D p : Addr} {acc acc' xs : List V} (h : H D = some (.lst acc)) (r : SqT K H p xs) : SqT K (upd H D (.lst acc')) p xs := by
  rcases r with (r | ⟨o, r⟩) | r
  · have ne : p ≠ D := ne_of r h (by intro z; cases z)
    exact .inl (.inl (by rw [upd_ne ne]; exact r))
  · have ne : p ≠ D := ne_of r h (by intro z; cases z)
    exact .inl (.inr ⟨o, by rw [upd_ne ne]; exact r⟩)
  · exact .inr r
instance {K : PySem.W.Frag} : MoL (RT K) := ⟨fun h ⟨p, r1, r2⟩ => ⟨p, r1, sqt_mol h r2⟩⟩
instance {K : PySem.W.Frag} : MoL (RS K) := ⟨fun h ⟨p, r1, r2⟩ => ⟨p, r1, sqt_mol h r2⟩⟩
instance {K : PySem.W.Frag} : MoL (RF K) := ⟨fun h ⟨x, r1, r2⟩ => ⟨x, MoL.mol h r1, r2⟩⟩

/-- a new list of flat things -/
def EvN {a : Type} (R : Rel a) (te : TE) (s : L2.St) (H : Hp) (xs : List a) : Prop := ∀ H1, Ex H H1 → ∀ Q : VK, (∀ p vs H2, H1 p = none → Ex H1 H2 → H2 p = some (.lst vs) → All2 (R H2) vs xs → Q (.ref p) H2) → te s H1 Q
/-- an item that is a new list of flat things -/
def NewIt {a : Type} (R : Rel a) (H0 : Hp) : Rel (List a) := fun H v xs => ∃ q ws, v = .ref q ∧ H0 q = none ∧ H q = some (.lst ws) ∧ All2 (R H) ws xs
/-- a new list of new lists of flat things -/
def EvNN {a : Type} (R : Rel a) (te : TE) (s : L2.St) (H : Hp) (xss : List (List a)) : Prop := ∀ H1, Ex H H1 → ∀ Q : VK, (∀ p vs H2, H1 p = none → Ex H1 H2 → H2 p = some (.lst vs) → All2 (NewIt R H1 H2) vs xss → Q (.ref p) H2) → te s H1 Q
section
variable {K : PySem.W.Frag} {s : L2.St} {H : Hp} {ta tb tc te tl : TE} {a b : Type} {R : Rel a} {R0 : Rel b} {n : Int} {vs : List Nat} {j : Nat}
theorem EvN.rl {xs : List a} (h : EvN R te s H xs) : EvR (RL R) te s H xs := fun H1 e Q q => h H1 e Q fun p vs H2 _ e2 h2 r => q _ H2 e2 ⟨p, vs, rfl, trivial, h2, r⟩
theorem EvN.rln {xs : List a} (h : EvN R te s H xs) : EvR (RLn (fun p => H p = none) R) te s H xs := fun H1 e Q q => h H1 e Q fun p vs H2 hp e2 h2 r => q _ H2 e2 ⟨p, vs, rfl, fresh_back e hp, h2, r⟩
theorem EvN.ints {xs : List Int} (h : EvN RI te s H xs) : EvL te s H (xs.map V.int) := fun H1 e Q q => h H1 e Q fun p vs H2 hp e2 h2 r => q p H2 hp e2 (by rw [h2, ints_of r])
theorem EvN.is {xs ys : List a} (h : EvN R te s H xs) (e : xs = ys) : EvN R te s H ys := by
  rw [← e]
  exact h
theorem EvNN.is {xs ys : List (List a)} (h : EvNN R te s H xs) (e : xs = ys) : EvNN R te s H ys := by
  rw [← e]
  exact h
theorem EvNN.rl {xss : List (List a)} (h : EvNN R te s H xss) : EvR (RL (RL R)) te s H xss := fun H1 e Q q => h H1 e Q fun p vs H2 _ e2 h2 r => q _ H2 e2 ⟨p, vs, rfl, trivial, h2, r.mono fun v xs ⟨q', ws, e1, _, e3, e4⟩ => ⟨q', ws, e1, trivial, e3, e4⟩⟩
theorem EvNN.rln {xss : List (List a)} (h : EvNN R te s H xss) : EvR (RLn (fun p => H p = none) (RLn (fun p => H p = none) R)) te s H xss := fun H1 e Q q => h H1 e Q fun p vs H2 hp e2 h2 r => q _ H2 e2 ⟨p, vs, rfl, fresh_back e hp, h2, r.mono fun v xs ⟨q', ws, e1, e0, e3, e4⟩ => ⟨q', ws, e1, fresh_back e e0, e3, e4⟩⟩
theorem el_n {ns : List Int} (h : EvL te s H (ns.map V.int)) : EvN RI te s H ns := fun H1 e Q q => h H1 e Q fun p H2 hp e2 h2 => q p _ H2 hp e2 h2 (All2.ofMap _ fun _ _ => rfl)

/-- what holds between two turns of a comprehension -/
def LcI (R : Rel a) (H1 : Hp) (D : Addr) (ys : List a) (H' : Hp) : Prop := H1 D = none ∧ Ex H1 H' ∧ ∃ acc, H' D = some (.lst acc) ∧ All2 (R H') acc ys
def LcNI (R : Rel a) (H1 : Hp) (D : Addr) (ys : List (List a)) (H' : Hp) : Prop := H1 D = none ∧ Ex H1 H' ∧ ∃ acc, H' D = some (.lst acc) ∧ All2 (fun v xs => ∃ q ws, v = .ref q ∧ H1 q = none ∧ q ≠ D ∧ H' q = some (.lst ws) ∧ All2 (R H') ws xs) acc ys
theorem lci_0 {H1 : Hp} {D : Addr} (hD : H1 D = none) : LcI R H1 D [] (upd H1 D (.lst [])) := ⟨hD, Ex.new hD, [], upd_same, All2.nil⟩
theorem lcni_0 {H1 : Hp} {D : Addr} (hD : H1 D = none) : LcNI R H1 D [] (upd H1 D (.lst [])) := ⟨hD, Ex.new hD, [], upd_same, All2.nil⟩
theorem lci_turn [Mo R] [MoL R] {H1 H' : Hp} {D : Addr} {ys zs : List a} {y : a} (p : LcI R H1 D ys H') (hz : zs = ys ++ [y]) (hl : ys.length < 16777216) (he : EvR R te s H' y) :
    te s H' fun v H4 => ∃ acc, H4 D = some (.lst acc) ∧ acc.length < sizeLine ∧ LcI R H1 D zs (upd H4 D (.lst (acc ++ [v]))) := by
  obtain ⟨p1, p2, acc, p3, p4⟩ := p
  refine he H' (Ex.refl H') _ fun v H4 e4 r => ⟨acc, e4 _ _ p3, by rw [p4.1, sizeLine_eq]; exact hl, p1, Ex.mut (p2.trans e4) p1, acc ++ [v], upd_same, ?_⟩
  rw [hz]
  exact (p4.mono fun _ _ z => MoL.mol (e4 _ _ p3) (mo e4 z)).snoc (MoL.mol (e4 _ _ p3) r)
theorem lcni_turn [Mo R] [MoL R] {H1 H' : Hp} {D : Addr} {ys zs : List (List a)} {y : List a} (p : LcNI R H1 D ys H') (hz : zs = ys ++ [y]) (hl : ys.length < 16777216) (he : EvN R te s H' y) :
    te s H' fun v H4 => ∃ acc, H4 D = some (.lst acc) ∧ acc.length < sizeLine ∧ LcNI R H1 D zs (upd H4 D (.lst (acc ++ [v]))) := by
  obtain ⟨p1, p2, acc, p3, p4⟩ := p
  refine he H' (Ex.refl H') _ fun q ws H4 hq e4 h4 r => ⟨acc, e4 _ _ p3, by rw [p4.1, sizeLine_eq]; exact hl, p1, Ex.mut (p2.trans e4) p1, acc ++ [.ref q], upd_same, ?_⟩
  rw [hz]
  have hqD : q ≠ D := fun z => by rw [z, p3] at hq; cases hq
  refine All2.snoc (p4.mono ?_) ⟨q, ws, rfl, fresh_back p2 hq, hqD, by rw [upd_ne hqD]; exact h4, r.mono fun _ _ z => MoL.mol (e4 _ _ p3) z⟩
  rintro v xs ⟨q', ws', e1, e0, e2, e3, e5⟩
  exact ⟨q', ws', e1, e0, e2, by rw [upd_ne e2]; exact e4 _ _ e3, e5.mono fun _ _ z => MoL.mol (e4 _ _ p3) (mo e4 z)⟩
theorem LcNI.out {H1 H' : Hp} {D : Addr} {ys : List (List a)} (p : LcNI R H1 D ys H') : ∃ acc, H' D = some (.lst acc) ∧ All2 (NewIt R H1 H') acc ys := by
  obtain ⟨_, _, acc, p3, p4⟩ := p
  exact ⟨acc, p3, p4.mono fun v xs ⟨q, ws, e1, e0, _, e3, e4⟩ => ⟨q, ws, e1, e0, e3, e4⟩⟩
theorem take_succ_of {b : Type} {l : List b} {i : Nat} {x : b} (h : l[i]? = some x) : l.take (i + 1) = l.take i ++ [x] := by
  rw [List.take_add_one, h]
  rfl
/-- [e for x in xs] -/
theorem en_lcL [Mo R] [MoL R] [Mo R0] {A : Addr → Prop} {xs : List b} (f : b → a) (hl : EvR (RLn A R0) tl s H xs) (hn : xs.length ≤ 16777216) (hw : ∀ x, wipe ((wipe s vs).set j (some x)) vs = wipe s vs)
    (he : ∀ (i : Nat) x v H1, Ex H H1 → xs[i]? = some x → R0 H1 v x → EvR R te ((wipe s vs).set j (some v)) H1 (f x)) : EvN R (tLc (iList K tl) (gName j) tYes te vs) s H (xs.map f) := fun H0 e Q q => hl H0 e _ fun w H1 e1 ⟨p, ws, r1, _, r2, r3⟩ => ⟨p, r1, ⟨ws, SqL.of r2⟩, fun D hD =>
  lc_list (xs := ws) (fun i H' => LcI R H1 D ((xs.take i).map f) H') (by simpa using lci_0 hD) (fun i H' _ pv => SqL.of (pv.2.1 _ _ r2)) (fun i v H' hv pv => by
    obtain ⟨x, hx, rx⟩ := r3.get' hv
    have hi : i < xs.length := (List.getElem?_eq_some_iff.mp hx).1
    exact ⟨hw v, lci_turn pv (by rw [take_succ_of hx, List.map_append]; rfl) (by rw [List.length_map, List.length_take]; omega) (he i x v H' ((e.trans e1).trans pv.2.1) hx (mo pv.2.1 rx))⟩)
    (fun H' pv => by
      rw [r3.1, List.take_length] at pv
      obtain ⟨p1, p2, acc, p3, p4⟩ := pv
      exact q D acc H' (fresh_back e1 p1) (e1.trans p2) p3 p4)⟩
theorem enn_lcL [Mo R] [MoL R] [Mo R0] {A : Addr → Prop} {xs : List b} (f : b → List a) (hl : EvR (RLn A R0) tl s H xs) (hn : xs.length ≤ 16777216) (hw : ∀ x, wipe ((wipe s vs).set j (some x)) vs = wipe s vs)
    (he : ∀ (i : Nat) x v H1, Ex H H1 → xs[i]? = some x → R0 H1 v x → EvN R te ((wipe s vs).set j (some v)) H1 (f x)) : EvNN R (tLc (iList K tl) (gName j) tYes te vs) s H (xs.map f) := fun H0 e Q q => hl H0 e _ fun w H1 e1 ⟨p, ws, r1, _, r2, r3⟩ => ⟨p, r1, ⟨ws, SqL.of r2⟩, fun D hD =>
  lc_list (xs := ws) (fun i H' => LcNI R H1 D ((xs.take i).map f) H') (by simpa using lcni_0 hD) (fun i H' _ pv => SqL.of (pv.2.1 _ _ r2)) (fun i v H' hv pv => by
    obtain ⟨x, hx, rx⟩ := r3.get' hv
    have hi : i < xs.length := (List.getElem?_eq_some_iff.mp hx).1
    exact ⟨hw v, lcni_turn pv (by rw [take_succ_of hx, List.map_append]; rfl) (by rw [List.length_map, List.length_take]; omega) (he i x v H' ((e.trans e1).trans pv.2.1) hx (mo pv.2.1 rx))⟩)
    (fun H' pv => by
      rw [r3.1, List.take_length] at pv
      obtain ⟨acc, p3, p4⟩ := pv.out
      exact q D acc H' (fresh_back e1 pv.1) (e1.trans pv.2.1) p3 (p4.mono fun v xs ⟨q', ws, f1, f0, f3, f4⟩ => ⟨q', ws, f1, fresh_back e1 f0, f3, f4⟩))⟩
/-- [e for k in range(n)] -/
theorem en_lcR [Mo R] [MoL R] (f : Nat → a) (hn : EvR RI ta s H n) (h0 : 0 ≤ n) (h1 : n ≤ 16777216) (hw : ∀ x, wipe ((wipe s vs).set j (some x)) vs = wipe s vs)
    (he : ∀ (i : Nat) H1, Ex H H1 → (i : Int) < n → EvR R te ((wipe s vs).set j (some (.int (i : Int)))) H1 (f i)) : EvN R (tLc (iRng1 (tCons ta tNil)) (gName j) tYes te vs) s H ((List.range n.toNat).map f) := fun H0 e Q q => hn H0 e _ fun w H1 e1 r => ⟨n, by rw [r], by omega, by omega, fun D hD =>
  lc_range (lo := 0) (n := n.toNat) (fun i H' => LcI R H1 D ((List.range i).map f) H') (by simpa using lci_0 hD) (fun i H' hi pv => by
    show wipe ((wipe s vs).set j (some (.int ((0 : Int) + (i : Int))))) vs = wipe s vs ∧ te ((wipe s vs).set j (some (.int ((0 : Int) + (i : Int))))) H' _
    rw [Int.zero_add]
    exact ⟨hw _, lci_turn pv (by rw [List.range_succ, List.map_append]; rfl) (by rw [List.length_map, List.length_range]; omega) (he i H' ((e.trans e1).trans pv.2.1) (by omega))⟩)
    (fun H' ⟨p1, p2, acc, p3, p4⟩ => q D acc H' (fresh_back e1 p1) (e1.trans p2) p3 p4)⟩
theorem enn_lcR [Mo R] [MoL R] (f : Nat → List a) (hn : EvR RI ta s H n) (h0 : 0 ≤ n) (h1 : n ≤ 16777216) (hw : ∀ x, wipe ((wipe s vs).set j (some x)) vs = wipe s vs)
    (he : ∀ (i : Nat) H1, Ex H H1 → (i : Int) < n → EvN R te ((wipe s vs).set j (some (.int (i : Int)))) H1 (f i)) : EvNN R (tLc (iRng1 (tCons ta tNil)) (gName j) tYes te vs) s H ((List.range n.toNat).map f) := fun H0 e Q q => hn H0 e _ fun w H1 e1 r => ⟨n, by rw [r], by omega, by omega, fun D hD =>
  lc_range (lo := 0) (n := n.toNat) (fun i H' => LcNI R H1 D ((List.range i).map f) H') (by simpa using lcni_0 hD) (fun i H' hi pv => by
    show wipe ((wipe s vs).set j (some (.int ((0 : Int) + (i : Int))))) vs = wipe s vs ∧ te ((wipe s vs).set j (some (.int ((0 : Int) + (i : Int))))) H' _
    rw [Int.zero_add]
    exact ⟨hw _, lcni_turn pv (by rw [List.range_succ, List.map_append]; rfl) (by rw [List.length_map, List.length_range]; omega) (he i H' ((e.trans e1).trans pv.2.1) (by omega))⟩)
    (fun H' pv => by
      obtain ⟨acc, p3, p4⟩ := pv.out
      exact q D acc H' (fresh_back e1 pv.1) (e1.trans pv.2.1) p3 (p4.mono fun v xs ⟨q', ws, f1, f0, f3, f4⟩ => ⟨q', ws, f1, fresh_back e1 f0, f3, f4⟩))⟩
/-- range(0, n, c) -/
theorem rgc_ok {n : Int} {c : Nat} (h0 : 0 ≤ n) (h1 : n ≤ 16777216) (hc : 0 < c) (hc2 : c < 1000) : RgC 0 n (c : Int) ((n.toNat + (c - 1)) / c) := by
  have hsz : Builtin.Range.rangeSize 0 n (c : Int) = ((n.toNat + (c - 1)) / c : Nat) := ?_
  refine ⟨by omega, by omega, ?_, hsz⟩
  · unfold Builtin.Range.small
    rw [hsz, if_pos (show (c : Int) > 0 by omega)]
    have hle : (n.toNat + (c - 1)) / c ≤ n.toNat + (c - 1) := Nat.div_le_self _ _
    generalize (n.toNat + (c - 1)) / c = q at hle
    simp only [Builtin.Range.rangeFitsLong, Bool.and_eq_true, Bool.or_eq_true, decide_eq_true_eq, beq_iff_eq]
    omega
  · unfold Builtin.Range.rangeSize
    rw [if_pos (by omega)]
    obtain ⟨m, rfl⟩ := Int.eq_ofNat_of_zero_le h0
    rw [Int.toNat_natCast]
    by_cases hm : m = 0
    · subst hm
      rw [if_neg (by omega), Nat.zero_add, Nat.div_eq_of_lt (by omega)]
      rfl
    · rw [if_pos (by omega)]
      have : (m + (c - 1)) / c = (m - 1) / c + 1 := by
        rw [show m + (c - 1) = (m - 1) + c by omega, Nat.add_div_right _ hc]
      rw [this, show (m : Int) - 0 - 1 = ((m - 1 : Nat) : Int) by omega]
      rfl
theorem lc_rangeC {lo c : Int} {n : Nat} {g : TG} {tt : TT} {te : TE} {vs : List Nat} {s : L2.St} {H1 : Hp} {D : Addr} {Qd : Hp → Prop} (Pv : Nat → Hp → Prop) (h0 : Pv 0 (upd H1 D (.lst [])))
    (hs : ∀ i H, i < n → Pv i H → g (.int (lo + (i : Nat) * c)) (wipe s vs) H fun s2 H2 => wipe s2 vs = wipe s vs ∧ tt s2 H2 fun b H3 =>
      if b = true then te s2 H3 fun y H4 => ∃ acc, H4 D = some (.lst acc) ∧ acc.length < sizeLine ∧ Pv (i + 1) (upd H4 D (.lst (acc ++ [y]))) else Pv (i + 1) H3) (hd : ∀ H, Pv n H → Qd H) :
    ∃ W : Nat → Nat → Hp → Prop, (∃ m, W 0 m (upd H1 D (.lst []))) ∧ ∀ i m H, W i m H →
      ((Itc lo c n).stop i H ∧ Qd H) ∨ ((Itc lo c n).go i H ∧ ∃ Nx : Hp → Prop, (∀ H', Nx H' → ∃ m', m' < m ∧ W (i + 1) m' H') ∧ ∀ x H', (Itc lo c n).yld i H x H' → g x (wipe s vs) H' fun s2 H2 => wipe s2 vs = wipe s vs ∧ tt s2 H2 fun b H3 =>
        if b = true then te s2 H3 fun y H4 => ∃ acc, H4 D = some (.lst acc) ∧ acc.length < sizeLine ∧ Nx (upd H4 D (.lst (acc ++ [y]))) else Nx H3) := by
  refine ⟨fun i m H => m = n - i ∧ i ≤ n ∧ Pv i H, ⟨n, by simp, Nat.zero_le _, h0⟩, ?_⟩
  rintro i m H ⟨rfl, hi, p⟩
  by_cases hlt : i < n
  · refine .inr ⟨hlt, Pv (i + 1), fun H' p' => ⟨n - (i + 1), by omega, rfl, hlt, p'⟩, fun x H' y => ?_⟩
    obtain ⟨e, y⟩ := y
    subst e y
    exact hs i _ hlt p
  · have e : i = n := by omega
    subst e
    exact .inl ⟨Nat.le_refl _, hd H p⟩
/-- [e for k in range(0, n, c)], e new lists -/
theorem enn_lcR3 [Mo R] [MoL R] {c : Nat} (f : Nat → List a) (hn : EvR RI ta s H n) (h0 : 0 ≤ n) (h1 : n ≤ 16777216) (hc : 0 < c) (hc2 : c < 1000) (hw : ∀ x, wipe ((wipe s vs).set j (some x)) vs = wipe s vs)
    (he : ∀ (i : Nat) H1, Ex H H1 → i < (n.toNat + (c - 1)) / c → EvN R te ((wipe s vs).set j (some (.int ((i * c : Nat) : Int)))) H1 (f i)) : EvNN R (tLc (iRng3 (tCons (tC (.int 0)) (tCons ta (tCons (tC (.int (c : Int))) tNil)))) (gName j) tYes te vs) s H ((List.range ((n.toNat + (c - 1)) / c)).map f) := fun H0 e Q q => hn H0 e _ fun w H1 e1 r => ⟨0, n, c, (n.toNat + (c - 1)) / c, by rw [r], rgc_ok h0 h1 hc hc2, fun D hD =>
  lc_rangeC (lo := 0) (n := (n.toNat + (c - 1)) / c) (fun i H' => LcNI R H1 D ((List.range i).map f) H') (by simpa using lcni_0 hD) (fun i H' hi pv => by
    show wipe ((wipe s vs).set j (some (.int ((0 : Int) + (i : Nat) * (c : Int))))) vs = wipe s vs ∧ te ((wipe s vs).set j (some (.int ((0 : Int) + (i : Nat) * (c : Int))))) H' _
    rw [Int.zero_add, ← Int.natCast_mul]
    refine ⟨hw _, lcni_turn pv (by rw [List.range_succ, List.map_append]; rfl) ?_ (he i H' ((e.trans e1).trans pv.2.1) hi)⟩
    rw [List.length_map, List.length_range]
    have : (n.toNat + (c - 1)) / c ≤ n.toNat + (c - 1) := Nat.div_le_self _ _
    have h2 : (n.toNat + (c - 1)) / c ≤ n.toNat := by
      by_cases hz : n.toNat = 0
      · rw [hz, Nat.zero_add, Nat.div_eq_of_lt (by omega)]
        exact Nat.zero_le _
      · have : n.toNat + (c - 1) ≤ n.toNat * c := by
          have := Nat.mul_le_mul_left (c - 1) (show 1 ≤ n.toNat by omega)
          have e : n.toNat * c = (c - 1) * n.toNat + n.toNat := by
            rw [Nat.mul_comm, ← Nat.succ_mul]
            congr 1
            omega
          omega
        exact Nat.div_le_of_le_mul (by rw [Nat.mul_comm]; exact this)
    omega)
    (fun H' pv => by
      obtain ⟨acc, p3, p4⟩ := pv.out
      exact q D acc H' (fresh_back e1 pv.1) (e1.trans pv.2.1) p3 (p4.mono fun v xs ⟨q', ws, f1, f0, f3, f4⟩ => ⟨q', ws, f1, fresh_back e1 f0, f3, f4⟩))⟩

/-! ### slices, and lists cut into pieces -/
theorem cutV_nat (xs : List V) (i k : Nat) : cutV xs (some ((i : Nat) : Int)) (some ((i + k : Nat) : Int)) = (xs.drop i).take k := by
  unfold cutV
  rw [HT.sIx_nat, HT.sIx_nat]
  by_cases h : i ≤ xs.length
  · rw [Nat.min_eq_left h]
    by_cases h2 : i + k ≤ xs.length
    · rw [Nat.min_eq_left h2, Nat.add_sub_cancel_left]
    · rw [Nat.min_eq_right (by omega)]
      rw [List.take_of_length_le (by simp), List.take_of_length_le (by simp; omega)]
  · rw [Nat.min_eq_right (by omega), Nat.min_eq_right (by omega), Nat.sub_self, List.take_zero, List.drop_of_length_le (by omega), List.take_nil]
theorem All2.cut {a b : Type} {Q : a → b → Prop} {l : List a} {m : List b} (h : All2 Q l m) (i k : Nat) : All2 Q ((l.drop i).take k) ((m.drop i).take k) := by
  refine ⟨by simp [h.1], fun t x y hx hy => ?_⟩
  rw [List.getElem?_take] at hx hy
  split at hx
  · rename_i ht
    rw [if_pos ht] at hy
    rw [List.getElem?_drop] at hx hy
    exact h.2 _ x y hx hy
  · cases hx
/-- xs[i:i + k] of a list of flat things -/
theorem en_cut {s : L2.St} {A : Addr → Prop} {xs : List a} {tl th : TE} {i k : Nat} (h : EvR (RLn A R) te s H xs) (h1 : EvR RI tl s H ((i : Nat) : Int)) (h2 : EvR RI th s H ((i + k : Nat) : Int)) [Mo R] : EvN R (tSl (rSlL K) te (tPart tl) (tPart th)) s H ((xs.drop i).take k) := fun H1 e Q q =>
  h H1 e _ fun v H2 e2 ⟨p, vs, r1, _, r2, r3⟩ => h1 H2 (e.trans e2) _ fun v1 H3 e3 q1 => ⟨_, q1, h2 H3 ((e.trans e2).trans e3) _ fun v2 H4 e4 q2 => ⟨_, q2, p, vs, r1, SqL.of (e4 _ _ (e3 _ _ r2)), fun d hd => by
    rw [cutV_nat]
    exact q d _ _ (fresh_back ((e2.trans e3).trans e4) hd) (((e2.trans e3).trans e4).trans (Ex.new hd)) upd_same ((r3.cut i k).mono fun _ _ z => mo ((e3.trans e4).trans (Ex.new hd)) z)⟩⟩
/-- [xs[at:at + c] for at in range(0, len(xs), c)] -/
def pieces {b : Type} (c : Nat) (l : List b) : List (List b) := (List.range ((l.length + (c - 1)) / c)).map fun i => (l.drop (i * c)).take c
theorem enn_pieces [Mo R] [MoL R] {A : Addr → Prop} {xs : List a} {i0 : Nat} {c : Nat} {v0 : V} (hs : s[i0]? = some (some v0)) (hs2 : ∀ x, ((wipe s [j]).set j (some x))[i0]? = some (some v0)) (hj : ∀ x, ((wipe s [j]).set j (some x))[j]? = some (some x)) (hw : ∀ x, wipe ((wipe s [j]).set j (some x)) [j] = wipe s [j])
    (h : RLn A R H v0 xs) (hn : xs.length ≤ 1000000) (hc : 0 < c) (hc2 : c < 1000) :
    EvNN R (tLc (iRng3 (tCons (tC (.int 0)) (tCons (tCB (rLenS K) (tCons (tVar i0) tNil)) (tCons (tC (.int (c : Int))) tNil)))) (gName j) tYes (tSl (rSlL K) (tVar i0) (tPart (tVar j)) (tPart (tOp rAddI (tVar j) (tC (.int (c : Int)))))) [j]) s H (pieces c xs) :=
  enn_lcR3 (n := (xs.length : Int)) (fun i => (xs.drop (i * c)).take c) (er_len (er_var hs h)) (by omega) (by omega) hc hc2 hw fun i H1 e hi =>
    en_cut (A := A) (er_var (hs2 _) (mo e h)) (er_varI (hj _)) (er_is (er_op0 (er_varI (hj _)) er_cI) (by rw [Int.natCast_add]))
/-! ### for x in xs: found.extend(e), the items whole numbers -/
theorem ext_turn {H0 H' : Hp} {tf : TE} {p : Addr} {acc zs : List Int} {D : Ends} (hf : EvR RV tf s H' (.ref p)) (h0 : H0 p = none) (e0 : Ex H0 H') (hp : H' p = some (.lst (acc.map V.int))) (hl : acc.length + zs.length ≤ 16777216) (he : EvR RIL te s H' zs)
    (k : ∀ H2, Ex H0 H2 → H2 p = some (.lst ((acc ++ zs).map V.int)) → D.nx s H2) : tDrop (tBM K "list" rExtend tf (tCons te tNil)) D s H' := hf H' (Ex.refl _) _ fun v H1 e1 r => by
  cases r
  refine ⟨Or.inl ⟨rfl, _, sq_of (e1 _ _ hp)⟩, he H1 e1 _ fun w H2 e2 ⟨q, r1, r2⟩ => ⟨p, q, _, _, rfl, by rw [r1], e2 _ _ (e1 _ _ hp), r2, by rw [List.length_map, List.length_map, sizeLine_eq]; exact hl, ?_⟩⟩
  refine k _ (Ex.mut ((e0.trans e1).trans e2) h0) ?_
  rw [List.map_append]
  exact upd_same
/-! ### promises of new lists -/
def spN1 {a c : Type} (R1 : Rel a) (pre : a → Prop) (R : Rel c) (f : a → List c) : Sp := fun vs H Q _ => ∃ v1 x, vs = [v1] ∧ R1 H v1 x ∧ pre x ∧ ∀ p ws H', H p = none → Ex H H' → H' p = some (.lst ws) → All2 (R H') ws (f x) → Q (.ref p) H'
def spN2 {a b c : Type} (R1 : Rel a) (R2 : Rel b) (pre : a → b → Prop) (R : Rel c) (f : a → b → List c) : Sp := fun vs H Q _ => ∃ v1 v2 x y, vs = [v1, v2] ∧ R1 H v1 x ∧ R2 H v2 y ∧ pre x y ∧ ∀ p ws H', H p = none → Ex H H' → H' p = some (.lst ws) → All2 (R H') ws (f x y) → Q (.ref p) H'
def spNN1 {a c : Type} (R1 : Rel a) (pre : a → Prop) (R : Rel c) (f : a → List (List c)) : Sp := fun vs H Q _ => ∃ v1 x, vs = [v1] ∧ R1 H v1 x ∧ pre x ∧ ∀ p ws H', H p = none → Ex H H' → H' p = some (.lst ws) → All2 (NewIt R H H') ws (f x) → Q (.ref p) H'
theorem spN1_len {a c : Type} {R1 : Rel a} {pre : a → Prop} {R : Rel c} {f : a → List c} : ∀ vs H Q E, spN1 R1 pre R f vs H Q E → vs.length = 1 := fun vs H Q E ⟨_, _, e, _⟩ => by rw [e]; rfl
theorem spN2_len {a b c : Type} {R1 : Rel a} {R2 : Rel b} {pre : a → b → Prop} {R : Rel c} {f : a → b → List c} : ∀ vs H Q E, spN2 R1 R2 pre R f vs H Q E → vs.length = 2 := fun vs H Q E ⟨_, _, _, _, e, _⟩ => by rw [e]; rfl
theorem spNN1_len {a c : Type} {R1 : Rel a} {pre : a → Prop} {R : Rel c} {f : a → List (List c)} : ∀ vs H Q E, spNN1 R1 pre R f vs H Q E → vs.length = 1 := fun vs H Q E ⟨_, _, e, _⟩ => by rw [e]; rfl
theorem en_call1 {c : Type} {R1 : Rel b} {Rc : Rel c} {E : XK} {x : b} {pre : b → Prop} {f : b → List c} (h1 : EvR R1 ta s H x) (hp : pre x) : EvN Rc (tCall (spN1 R1 pre Rc f) [] E (tCons ta tNil)) s H (f x) := fun H1 e Q q =>
  h1 H1 e _ fun v H2 e2 r => ⟨v, x, rfl, r, hp, fun p ws H3 hp e3 r3 r4 => q p ws H3 (fresh_back e2 hp) (e2.trans e3) r3 r4⟩
theorem en_call2 {c : Type} {R1 : Rel a} {R2 : Rel b} {Rc : Rel c} [Mo R1] {E : XK} {x : a} {y : b} {pre : a → b → Prop} {f : a → b → List c} (h1 : EvR R1 ta s H x) (h2 : EvR R2 tb s H y) (hp : pre x y) : EvN Rc (tCall (spN2 R1 R2 pre Rc f) [] E (tCons ta (tCons tb tNil))) s H (f x y) := fun H1 e Q q =>
  h1 H1 e _ fun v H2 e2 r => h2 H2 (e.trans e2) _ fun v2 H3 e3 r2 => ⟨v, v2, x, y, rfl, mo e3 r, r2, hp, fun p ws H4 hp e4 r4 r5 => q p ws H4 (fresh_back (e2.trans e3) hp) ((e2.trans e3).trans e4) r4 r5⟩
theorem enn_call1 {c : Type} {R1 : Rel b} {Rc : Rel c} {E : XK} {x : b} {pre : b → Prop} {f : b → List (List c)} (h1 : EvR R1 ta s H x) (hp : pre x) : EvNN Rc (tCall (spNN1 R1 pre Rc f) [] E (tCons ta tNil)) s H (f x) := fun H1 e Q q =>
  h1 H1 e _ fun v H2 e2 r => ⟨v, x, rfl, r, hp, fun p ws H3 hp e3 r3 r4 => q p ws H3 (fresh_back e2 hp) (e2.trans e3) r3 (r4.mono fun v xs ⟨q', ws, f1, f0, f3, f4⟩ => ⟨q', ws, f1, fresh_back e2 f0, f3, f4⟩)⟩
variable {D : Ends} {tz : TS}
theorem s_retN {xs : List a} (h : EvN R te s H xs) (k : ∀ p vs H1, H p = none → Ex H H1 → H1 p = some (.lst vs) → All2 (R H1) vs xs → D.rt (.ref p) H1) : tRet te D s H := h H (Ex.refl H) _ k
theorem s_retNN {xss : List (List a)} (h : EvNN R te s H xss) (k : ∀ p vs H1, H p = none → Ex H H1 → H1 p = some (.lst vs) → All2 (NewIt R H H1) vs xss → D.rt (.ref p) H1) : tRet te D s H := h H (Ex.refl H) _ k
theorem q_asgN {i : Nat} {xs : List a} (h : EvN R te s H xs) (k : ∀ p H1, H p = none → Ex H H1 → RL R H1 (.ref p) xs → tz D (s.set i (some (.ref p))) H1) : tSeq (tAsg te (gName i)) tz D s H := h H (Ex.refl H) _ fun p vs H1 hp e h1 r => k p H1 hp e ⟨p, vs, rfl, trivial, h1, r⟩
theorem q_asgNN {i : Nat} {xss : List (List a)} (h : EvNN R te s H xss) (k : ∀ p H1, H p = none → Ex H H1 → RL (RL R) H1 (.ref p) xss → tz D (s.set i (some (.ref p))) H1) : tSeq (tAsg te (gName i)) tz D s H := h H (Ex.refl H) _ fun p vs H1 hp e h1 r => k p H1 hp e ⟨p, vs, rfl, trivial, h1, r.mono fun v xs ⟨q', ws, e1, _, e3, e4⟩ => ⟨q', ws, e1, trivial, e3, e4⟩⟩
/-- the heap without an object -/
def era (D : Addr) (H : Hp) : Hp := fun b => if b = D then none else H b
theorem era_ne {D b : Addr} {H : Hp} (h : b ≠ D) : era D H b = H b := by
  unfold era
  rw [if_neg h]
theorem era_ex {D : Addr} {H H' : Hp} (k : ∀ b o, b ≠ D → H b = some o → H' b = some o) : Ex (era D H) H' := fun b o h => by
  unfold era at h
  by_cases hb : b = D
  · rw [if_pos hb] at h
    cases h
  · rw [if_neg hb] at h
    exact k b o hb h
class Flat {a : Type} (R : Rel a) : Prop where
  fl : ∀ {H : Hp} {D : Addr} {acc : List V} {v : V} {x : a}, H D = some (.lst acc) → R H v x → R (era D H) v x
instance : Flat RI := ⟨fun _ h => h⟩
theorem sqt_fl {K : PySem.W.Frag} {H : Hp} {D p : Addr} {acc xs : List V} (h : H D = some (.lst acc)) (r : SqT K H p xs) : SqT K (era D H) p xs := by
  rcases r with (r | ⟨o, r⟩) | r
  · exact .inl (.inl (by rw [era_ne (ne_of r h (by intro z; cases z))]; exact r))
  · exact .inl (.inr ⟨o, by rw [era_ne (ne_of r h (by intro z; cases z))]; exact r⟩)
  · exact .inr r
instance {K : PySem.W.Frag} : Flat (RS K) := ⟨fun h ⟨p, r1, r2⟩ => ⟨p, r1, sqt_fl h r2⟩⟩
instance {K : PySem.W.Frag} : Flat (RF K) := ⟨fun h ⟨x, r1, r2⟩ => ⟨x, Flat.fl h r1, r2⟩⟩
/-- the loop over a list that stands in He, a heap that all later ones go on from -/
theorem for_collect {He H0 H1 : Hp} {p q : Addr} {ws : List V} {R0 : Rel b} [Mo R0] {xs : List b} {i j : Nat} (g : b → List Int) (h0 : H0 p = none) (hq : He q = some (.lst ws)) (r3 : All2 (R0 He) ws xs) (eE : Ex He H1) (heE : ∀ H', (∀ b o, b ≠ p → H1 b = some o → H' b = some o) → Ex He H') (e01 : Ex H0 H1) (hp1 : H1 p = some (.lst [])) (hlen : (xs.flatMap g).length ≤ 16777216)
    (hj : s.set j none = s) (hjj : ∀ (o : Option V) (v : V), ((s.set j o).set j (some v)) = s.set j (some v)) (hi : ∀ v : V, (s.set j (some v))[i]? = some (some (.ref p)))
    (he : ∀ (k : Nat) x v H', Ex H0 H' → xs[k]? = some x → R0 H' v x → EvR RIL te (s.set j (some v)) H' (g x))
    (kz : ∀ o H', Ex H0 H' → Ex He H' → H' p = some (.lst ((xs.flatMap g).map V.int)) → D.nx (s.set j o) H') :
    ∃ W : Nat → Nat → L2.St → Hp → Prop, (∃ m, W 0 m s H1) ∧ ∀ i' m σ H, W i' m σ H → ((Itl K q).stop i' H ∧ D.nx σ H) ∨ ((Itl K q).go i' H ∧ ∃ N : L2.St → Hp → Prop, (∀ σ' H', N σ' H' → ∃ m', m' < m ∧ W (i' + 1) m' σ' H') ∧
      ∀ x H', (Itl K q).yld i' H x H' → gName j x σ H' fun σ2 H2 => tDrop (tBM K "list" rExtend (tVar i) (tCons te tNil)) { D with nx := N, ct := N, bk := D.nx } σ2 H2) := by
  refine for_list (K := K) (a := q) (xs := ws) (fun k σ' H' => ∃ o, σ' = s.set j o ∧ Ex H0 H' ∧ (∀ b o, b ≠ p → H1 b = some o → H' b = some o) ∧ H' p = some (.lst (((xs.take k).flatMap g).map V.int))) ⟨none, hj.symm, e01, fun _ _ _ h => h, by simpa using hp1⟩ ?_ ?_ ?_
  · rintro k σ' H' hk ⟨o, rfl, e, fr, hpp⟩
    exact SqL.of (heE H' fr _ _ hq)
  · rintro k v σ' H' hv ⟨o, rfl, e, fr, hpp⟩
    obtain ⟨x, hx, rx⟩ := r3.get' hv
    have hk : k < xs.length := (List.getElem?_eq_some_iff.mp hx).1
    have hl : ((xs.take k).flatMap g).length + (g x).length ≤ 16777216 := by
      have : (xs.take (k + 1)).flatMap g = (xs.take k).flatMap g ++ g x := by rw [take_succ_of hx, List.flatMap_append]; simp
      have h2 : ((xs.take (k + 1)).flatMap g).length + ((xs.drop (k + 1)).flatMap g).length = (xs.flatMap g).length := by rw [← List.length_append, ← List.flatMap_append, List.take_append_drop]
      rw [this, List.length_append] at h2
      omega
    show tDrop _ _ ((s.set j o).set j (some v)) H'
    rw [hjj]
    have ev := he k x v H' e hx (mo (heE H' fr) rx)
    refine ⟨.ref p, hi v, Or.inl ⟨rfl, _, sq_of hpp⟩, ev H' (Ex.refl _) _ fun u2 H3 e3 ⟨q2, r1, r2⟩ => ⟨p, q2, _, _, rfl, by rw [r1], e3 _ _ hpp, r2, by rw [List.length_map, List.length_map, sizeLine_eq]; exact hl, ?_⟩⟩
    refine ⟨some v, rfl, Ex.mut (e.trans e3) h0, fun b o hb h => by rw [upd_ne hb]; exact e3 _ _ (fr b o hb h), ?_⟩
    have : (xs.take (k + 1)).flatMap g = (xs.take k).flatMap g ++ g x := by rw [take_succ_of hx, List.flatMap_append]; simp
    rw [this, List.map_append]
    exact upd_same
  · rintro σ' H' ⟨o, rfl, e, fr, hpp⟩
    rw [r3.1, List.take_length] at hpp
    exact kz o H' e (heE H' fr) hpp
/-- found = []; for x in xs: found.extend(e), xs known ahead -/
theorem q_collect {A : Addr → Prop} {R0 : Rel b} [Mo R0] {xs : List b} {i j : Nat} {v0 : V} {i0 : Nat} (g : b → List Int) (h0 : ∀ p : Addr, (s.set i (some (.ref p)))[i0]? = some (some v0)) (hl : RLn A R0 H v0 xs) (hlen : (xs.flatMap g).length ≤ 16777216)
    (hj : ∀ p : Addr, (s.set i (some (.ref p))).set j none = s.set i (some (.ref p))) (hjj : ∀ (p : Addr) (o : Option V) (v : V), (((s.set i (some (.ref p))).set j o).set j (some v)) = ((s.set i (some (.ref p))).set j (some v))) (hi : ∀ (p : Addr) (v : V), ((s.set i (some (.ref p))).set j (some v))[i]? = some (some (.ref p)))
    (he : ∀ (k : Nat) x v p H1, Ex H H1 → xs[k]? = some x → R0 H1 v x → EvR RIL te ((s.set i (some (.ref p))).set j (some v)) H1 (g x))
    (kz : ∀ p o H1, H p = none → Ex H H1 → H1 p = some (.lst ((xs.flatMap g).map V.int)) → tz D ((s.set i (some (.ref p))).set j o) H1) :
    tSeq (tAsg (tLst tNil) (gName i)) (tSeq (tFor (iList K (tVar i0)) (gName j) (tDrop (tBM K "list" rExtend (tVar i) (tCons te tNil)))) tz) D s H := by
  refine ⟨by rw [sizeLine_eq]; simp, fun p hp => ?_⟩
  obtain ⟨q, ws, r1, _, r2, r3⟩ := hl
  refine ⟨v0, h0 p, q, r1, ⟨ws, SqL.of (Ex.new hp _ _ r2)⟩, ?_⟩
  exact for_collect (K := K) (D := { D with nx := tz D }) (He := H) (H0 := H) (H1 := upd H p (.lst [])) g hp r2 r3 (Ex.new hp) (fun H' fr b o h => fr b o (ne_of_none h hp) (Ex.new hp _ _ h)) (Ex.new hp) upd_same hlen (hj p) (hjj p) (hi p)
    (fun k x v H' e hx r => he k x v p H' e hx r) fun o H' e _ h => kz p o H' hp e h
/-- the same over a new list of new lists of flat things -/
theorem q_collectN [Mo R] [Flat R] {xs : List (List a)} {i j : Nat} (g : List a → List Int) (hl : ∀ p H1, H p = none → Ex H H1 → EvNN R tl (s.set i (some (.ref p))) H1 xs) (hlen : (xs.flatMap g).length ≤ 16777216)
    (hj : ∀ p : Addr, (s.set i (some (.ref p))).set j none = s.set i (some (.ref p))) (hjj : ∀ (p : Addr) (o : Option V) (v : V), (((s.set i (some (.ref p))).set j o).set j (some v)) = ((s.set i (some (.ref p))).set j (some v))) (hi : ∀ (p : Addr) (v : V), ((s.set i (some (.ref p))).set j (some v))[i]? = some (some (.ref p)))
    (he : ∀ (k : Nat) x v p H1, Ex H H1 → xs[k]? = some x → RL R H1 v x → EvR RIL te ((s.set i (some (.ref p))).set j (some v)) H1 (g x))
    (kz : ∀ p o H1, H p = none → Ex H H1 → H1 p = some (.lst ((xs.flatMap g).map V.int)) → tz D ((s.set i (some (.ref p))).set j o) H1) :
    tSeq (tAsg (tLst tNil) (gName i)) (tSeq (tFor (iList K tl) (gName j) (tDrop (tBM K "list" rExtend (tVar i) (tCons te tNil)))) tz) D s H := by
  refine ⟨by rw [sizeLine_eq]; simp, fun p hp => ?_⟩
  refine hl p _ hp (Ex.new hp) _ (Ex.refl _) _ fun q ws H1 hq e1 r2 r3 => ⟨q, rfl, ⟨ws, SqL.of r2⟩, ?_⟩
  have hpu : (upd H p (.lst [])) p = some (.lst []) := upd_same
  have hp1 : H1 p = some (.lst []) := e1 _ _ hpu
  have nep : ∀ b, (upd H p (.lst [])) b = none → b ≠ p := fun b h z => by rw [z, hpu] at h; cases h
  exact for_collect (K := K) (D := { D with nx := tz D }) (R0 := RL R) (He := era p H1) (H0 := H) (H1 := H1) (p := p) g hp (by rw [era_ne (nep q hq)]; exact r2)
    (r3.mono fun v xs ⟨q', ws', f1, f0, f3, f4⟩ => ⟨q', ws', f1, trivial, by rw [era_ne (nep q' f0)]; exact f3, f4.mono fun _ _ z => Flat.fl hp1 z⟩)
    (era_ex fun _ _ _ h => h) (fun H' fr => era_ex fr) ((Ex.new hp).trans e1) hp1 hlen (hj p) (hjj p) (hi p) (fun k x v H' e hx r => he k x v p H' e hx r) fun o H' e _ h => kz p o H' hp e h
theorem ea_1 (h : EvR RI ta s H n) : EvA (tCons ta tNil) s H [.int n] := fun H1 e Q q => h H1 e _ fun v H2 e2 r => by
  cases r
  exact q H2 e2
theorem ea_2 {m : Int} (h : EvR RI ta s H n) (h2 : EvR RI tb s H m) : EvA (tCons ta (tCons tb tNil)) s H [.int n, .int m] := fun H1 e Q q => h H1 e _ fun v H2 e2 r => h2 H2 (e.trans e2) _ fun v2 H3 e3 r2 => by
  cases r
  cases r2
  exact q H3 (e2.trans e3)
/-- a tuple of things -/
def RTn (K : PySem.W.Frag) {c : Type} (R : Rel c) : Rel (List c) := fun H v xs => ∃ p ws, v = .ref p ∧ SqT K H p ws ∧ All2 (R H) ws xs
theorem en_lcT [Mo R] [MoL R] [Mo R0] {xs : List b} (f : b → a) (hl : EvR (RTn K R0) tl s H xs) (hn : xs.length ≤ 16777216) (hw : ∀ x, wipe ((wipe s vs).set j (some x)) vs = wipe s vs)
    (he : ∀ (i : Nat) x v H1, Ex H H1 → xs[i]? = some x → R0 H1 v x → EvR R te ((wipe s vs).set j (some v)) H1 (f x)) : EvN R (tLc (iTup K tl) (gName j) tYes te vs) s H (xs.map f) := fun H0 e Q q => hl H0 e _ fun w H1 e1 ⟨p, ws, r1, r2, r3⟩ => ⟨p, r1, ⟨ws, r2⟩, fun D hD =>
  lc_tup (xs := ws) (fun i H' => LcI R H1 D ((xs.take i).map f) H') (by simpa using lci_0 hD) (fun i H' _ pv => ex_t pv.2.1 r2) (fun i v H' hv pv => by
    obtain ⟨x, hx, rx⟩ := r3.get' hv
    have hi : i < xs.length := (List.getElem?_eq_some_iff.mp hx).1
    exact ⟨hw v, lci_turn pv (by rw [take_succ_of hx, List.map_append]; rfl) (by rw [List.length_map, List.length_take]; omega) (he i x v H' ((e.trans e1).trans pv.2.1) hx (mo pv.2.1 rx))⟩)
    (fun H' pv => by
      rw [r3.1, List.take_length] at pv
      obtain ⟨p1, p2, acc, p3, p4⟩ := pv
      exact q D acc H' (fresh_back e1 p1) (e1.trans p2) p3 p4)⟩
theorem er_tupN {tr : TA} {P : Hp → List V → Prop} {xs : List a} [Mo R] (h : EvRs tr s H P) (k : ∀ H' vs, P H' vs → All2 (R H') vs xs) (hl : xs.length ≤ 1000) : EvR (RTn K R) (tTup tr) s H xs := fun H1 e Q q =>
  h H1 e _ fun vs H2 e2 p => by
    have z := k H2 vs p
    exact ⟨by rw [z.1]; exact Nat.le_trans hl (by decide), fun b hb => q _ _ (e2.trans (Ex.new hb)) ⟨b, vs, rfl, st_of upd_same, z.mono fun _ _ => mo (Ex.new hb)⟩⟩
theorem all2_cons {c d : Type} {Q : c → d → Prop} {x : c} {y : d} {l : List c} {m : List d} (h : Q x y) (r : All2 Q l m) : All2 Q (x :: l) (y :: m) := ⟨by simp [r.1], fun i u v hu hv => by
  cases i with
  | zero => simp at hu hv; rw [← hu, ← hv]; exact h
  | succ i => simp at hu hv; exact r.2 i u v hu hv⟩
/-- a, b, .. = a list -/
theorem qr_unl {A : Addr → Prop} {R0 : Rel b} {xs : List b} {m : Nat} {t : TGs} (h : EvR (RLn A R0) te s H xs) (hm : xs.length = m) (k : ∀ ws H1, Ex H H1 → All2 (R0 H1) ws xs → t ws s H1 fun s2 H2 => tz D s2 H2) : tSeq (tAsg te (gUnl K m t)) tz D s H := h H (Ex.refl H) _ fun v H1 e ⟨p, ws, r1, _, r2, r3⟩ =>
  ⟨p, ws, r1, SqL.of r2, by rw [r3.1]; exact hm, k ws H1 e r3⟩
end
end Sd
end

section
set_option Elab.async false
set_option linter.all false
set_option maxRecDepth 100000
set_option maxHeartbeats 4000000
set_option exponentiation.threshold 2000
/-! ## 7. corners.py -/
namespace Sd
open PySem PySem.Spec PyProof.Rows L2 Evl
local macro_rules | `(tactic| walk_at "ev") => `(tactic| first
  | with_reducible exact er_cI
  | focus ((with_reducible apply er_varI); with_unfolding_all rfl)
  | focus ((with_reducible apply er_var); all_goals first | with_unfolding_all rfl | assumption)
  | focus ((with_reducible apply er_op0); all_goals walk_at "ev")
  | focus ((with_reducible apply er_op); all_goals walk_at "ev")
  | focus ((with_reducible apply er_neg); all_goals walk_at "ev")
  | focus ((with_reducible apply er_max); all_goals walk_at "ev")
  | focus ((with_reducible apply er_min); all_goals walk_at "ev")
  | focus ((with_reducible apply er_abs); all_goals walk_at "ev")
  | focus ((with_reducible apply er_intB); all_goals walk_at "ev")
  | focus ((with_reducible apply er_bits); all_goals walk_at "ev")
  | focus ((with_reducible apply er_ixD); all_goals walk_at "ev")
  | focus ((with_reducible apply er_call1); all_goals walk_at "ev")
  | focus ((with_reducible apply er_call2); all_goals walk_at "ev")
  | focus ((with_reducible apply er_call3); all_goals walk_at "ev")
  | focus ((with_reducible apply er_call4); all_goals walk_at "ev")
  | focus ((with_reducible apply er_eq); all_goals walk_at "ev")
  | focus ((with_reducible apply er_ne); all_goals walk_at "ev")
  | focus ((with_reducible apply er_cmp); all_goals walk_at "ev")
  | focus ((with_reducible apply er_chain); all_goals walk_at "ev")
  | focus ((with_reducible apply er_andU); all_goals walk_at "ev")
  | focus ((with_reducible apply er_orU); all_goals walk_at "ev")
  | focus ((with_reducible apply et_t); all_goals walk_at "ev")
  | focus ((with_reducible apply et_b); all_goals walk_at "ev")
  | focus ((with_reducible apply et_andU); all_goals walk_at "ev")
  | focus ((with_reducible apply et_orU); all_goals walk_at "ev")
  | focus ((with_reducible apply Evl.et_not); all_goals walk_at "ev")
  | walk_at "side")
local macro_rules | `(tactic| walk_at "evr") => `(tactic| (refine er_is (by walk_at "ev") (by with_unfolding_all rfl)))
local macro_rules | `(tactic| walk_at "side") => `(tactic| first
  | assumption
  | exact True.intro
  | exact cdiv_ok (by decide) (by decide)
  | exact cmul_l (by omega) (by omega)
  | exact cmul_r (by omega) (by omega)
  | omega
  | decide
  | (dsimp only; done)
  | (dsimp only; first | assumption | omega | decide)
  | (constructor <;> assumption))
local macro_rules | `(tactic| walk_at "ev") => `(tactic| first
  | focus ((with_reducible apply er_s0); all_goals walk_at "ev")
  | focus ((with_reducible apply er_s1); all_goals walk_at "ev")
  | focus ((with_reducible apply er_s2); all_goals walk_at "ev")
  | focus ((with_reducible apply er_tupS); all_goals walk_at "ev")
  | focus ((with_reducible apply er_tupI2); all_goals walk_at "ev")
  | focus ((with_reducible apply er_divmod); all_goals walk_at "ev"))
local macro_rules | `(tactic| walk_at "side") => `(tactic| exact cshl_ok (by omega) (by omega))
/-- bits as they may be handed in -/
def FinB (b : Int) : Prop := ∃ n : Nat, b = (n : Int) ∧ n < 2 ^ 32 ∧ n / 2 ^ 23 % 256 ≠ 255
abbrev nats (l : List Int) : List Nat := l.map Int.toNat
abbrev sp_points_of (K : PySem.W.Frag) : Sp := spNN1 RIL (fun l => l.length ≤ 1024 ∧ ∀ b ∈ l, FinB b) (RF K) fun l => pieces 4 (nats l)
abbrev sp_sides_of (K : PySem.W.Frag) : Sp := sp1 (RL (RF K)) (fun p => p.length = 4 ∧ ∀ i, Bd 62 (p.getD i 0)) RI fun p => ((Si20.sides p : Nat) : Int)
abbrev sp_moved (K : PySem.W.Frag) : Sp := spN2 (RL (RL (RF K))) (RL (RF K)) (fun m p => (∀ r ∈ m, Calm4 r) ∧ m.length = 4 ∧ Calm4 p) (RF K) fun m p => m.map fun r => Si20.dot r p
abbrev sp_fitting : Sp := sp1 RI (fun _ => True) RI fun n => if -2147483648 ≤ n ∧ n ≤ 2147483647 then n else -2147483648
/-- points_of: 0 row, 1 singles, 2 bits, 3 at -/
def t_points_of (K : PySem.W.Frag) : TS :=
  (tSeq (tAsg (tLc (iList K (tVar 0)) (gName 2) tYes (tCall (sp_single_of K) [] E0 (tCons (tVar 2) tNil)) [2]) (gName 1))
    (tRet (tLc (iRng3 (tCons (tC (.int 0)) (tCons (tCB (rLenS K) (tCons (tVar 1) tNil)) (tCons (tC (.int (4))) tNil)))) (gName 3) tYes (tSl (rSlL K) (tVar 1) (tPart (tVar 3)) (tPart (tOp rAddI (tVar 3) (tC (.int (4)))))) [3])))
/-- sides_of: 0 point, 1 found, 2 k -/
def t_sides_of (K : PySem.W.Frag) : TS :=
  (tSeq (tAsg (tC (.int 0)) (gName 1))
    (tSeq (tFor (iRng1 (tCons (tOp rSubI (tC (.int (4))) (tC (.int 1))) tNil)) (gName 2) (tSeq (tIfS (tB (tCall (sp_is_below K) [] E0 (tCons (tOp (rIxL K) (tVar 0) (tVar 2)) (tCons (tCall (sp_opposite K) [] E0 (tCons (tOp (rIxL K) (tVar 0) (tC (.int 3))) tNil)) tNil)))) (tAsg (tOp rAddI (tVar 1) (tOp rShlI (tC (.int 1)) (tOp rMulI (tC (.int 2)) (tVar 2)))) (gName 1)) tNext)
    (tIfS (tB (tCall (sp_is_below K) [] E0 (tCons (tOp (rIxL K) (tVar 0) (tC (.int 3))) (tCons (tOp (rIxL K) (tVar 0) (tVar 2)) tNil)))) (tAsg (tOp rAddI (tVar 1) (tOp rShlI (tC (.int 2)) (tOp rMulI (tC (.int 2)) (tVar 2)))) (gName 1)) tNext)))
    (tRet (tVar 1))))
/-- moved: 0 matrix, 1 point, 2 row -/
def t_moved (K : PySem.W.Frag) : TS :=
  (tRet (tLc (iList K (tVar 0)) (gName 2) tYes (tCall (sp_products K) [] E0 (tCons (tVar 2) (tCons (tVar 1) tNil))) [2]))
/-- fitting: 0 number -/
def t_fitting : TS :=
  (tSeq (tIfS (tTest (tChain rLeI rLeI (tC (.int (-2147483648))) (tVar 0) (tC (.int (2147483647))))) (tRet (tVar 0)) tNext)
    (tRet (tC (.int (-2147483648)))))
section
variable {P : Program} {w : World} {K : PySem.W.Frag} {mg : Str → Option Value} {base : Heap}
theorem len_points_of : ∀ vs H Q E, sp_points_of K vs H Q E → vs.length = 1 := spNN1_len
theorem len_sides_of : ∀ vs H Q E, sp_sides_of K vs H Q E → vs.length = 1 := sp1_len
theorem len_moved : ∀ vs H Q E, sp_moved K vs H Q E → vs.length = 2 := spN2_len
theorem len_fitting : ∀ vs H Q E, sp_fitting vs H Q E → vs.length = 1 := sp1_len
theorem pure_points_of (T : Tx K mg) (vs : List V) (H : Hp) (Q : VK) (E : XK) (h : sp_points_of K vs H Q E) : t_points_of K { nx := fun _ H' => Q .non H', rt := Q } (start ["row", "singles", "bits", "at"] vs) H := by
  obtain ⟨v, l, rfl, r, ⟨hl, hf⟩, k⟩ := h
  refine q_asgN (en_lcL (R := RF K) (R0 := RI) Int.toNat (er_var (R := RL RI) (by rfl) (ints_rl r)) (by omega) (fun _ => rfl) fun i x v H1 e hx rx => ?_) fun p H1 hp e1 r1 => ?_
  · cases rx
    exact er_call1 (er_varI rfl) (hf x (List.mem_of_getElem? hx))
  · refine s_retNN (EvNN.is (enn_pieces (K := K) (A := AnyA) (R := RF K) (c := 4) (j := 3) (i0 := 1) (v0 := .ref p) (by rfl) (fun _ => rfl) (fun _ => rfl) (fun _ => rfl) r1 (by rw [List.length_map]; omega) (by decide) (by decide)) rfl) fun q ws H2 hq e2 h2 r2 => ?_
    exact k q ws H2 (fresh_back e1 hq) (e1.trans e2) h2 (r2.mono fun v xs ⟨q', ws', f1, f0, f3, f4⟩ => ⟨q', ws', f1, fresh_back e1 f0, f3, f4⟩)
theorem ok_points_of (T : Tx K mg) (G_single_of : GF P w K mg base "single_of" 1 ["bits"] (sp_single_of K)) : GF P w K mg base "points_of" 2 ["row"] (sp_points_of K) := by
  refine ⟨fn_keep (k := 1) (tt := (t_points_of K)) T.d_points_of sc_points_of len_points_of (fun _ _ _ _ _ _ us hl => match us, hl with | [_], _ => rfl) (fun cdv A outer s H E hr => ?_) (pure_points_of T), T.d_points_of.kp, T.g_points_of⟩
  exact (pss_cons (ps_set (i := 1) sc_points_of.nd rfl (.inr rfl) (pe_lc (own := [("bits", 2)]) (g := (gName 2)) (tt := tYes) rfl sc_points_of.nd (pi_list (pv 0)) (blkOk_by (N := ["row", "singles", "bits", "at"]) (sc := defScope s_points_of) (by decide +kernel)) (fun _ _ _ _ _ => (pg_name (i := 2) sc_points_of.nd rfl (.inl rfl))) (fun _ _ _ _ _ => pts_nil) (fun _ _ _ _ _ => (pe_gf G_single_of (hr.mono (by decide)) rfl (pa_cons (pv 2) pa_nil)))))
    (pss_one (ps_ret (pe_lc (own := [("at", 3)]) (g := (gName 3)) (tt := tYes) rfl sc_points_of.nd (pi_range3 rfl T.f_range (pa_cons pe_int (pa_cons (pe_callB call_len_seq rfl T.f_len (by decide +kernel) (pa_cons (pv 1) pa_nil)) (pa_cons (pe_gi rfl T.i_FOUR) pa_nil)))) (blkOk_by (N := ["row", "singles", "bits", "at"]) (sc := defScope s_points_of) (by decide +kernel)) (fun _ _ _ _ _ => (pg_name (i := 3) sc_points_of.nd rfl (.inl rfl))) (fun _ _ _ _ _ => pts_nil) (fun _ _ _ _ _ => (pe_slice sl_list (pv 1) (po_some (pv 3)) (po_some (pe_op op_add (pv 3) (pe_gi rfl T.i_FOUR)))))))))
theorem pure_fitting (T : Tx K mg) (vs : List V) (H : Hp) (Q : VK) (E : XK) (h : sp_fitting vs H Q E) : t_fitting { nx := fun _ H' => Q .non H', rt := Q } (start ["number"] vs) H := by
  obtain ⟨_, n, rfl, rfl, -, k⟩ := h
  have k : ∀ v H', Ex H H' → RI H' v (if -2147483648 ≤ n ∧ n ≤ 2147483647 then n else -2147483648) → Q v H' := k
  refine q_when (by walk_at "ev") (fun c H1 e1 => ?_) fun c H1 e1 => ?_
  · have c' : -2147483648 ≤ n ∧ n ≤ 2147483647 := by simpa using c
    rw [if_pos c'] at k
    exact sr_ret (by walk_at "ev") fun v H2 e2 r => k v H2 (e1.trans e2) r
  · have c' : ¬ (-2147483648 ≤ n ∧ n ≤ 2147483647) := by simpa using c
    rw [if_neg c'] at k
    exact sr_ret (by walk_at "ev") fun v H2 e2 r => k v H2 (e1.trans e2) r
theorem ok_fitting (T : Tx K mg)  : GF P w K mg base "fitting" 1 ["number"] sp_fitting := by
  refine ⟨fn_keep (k := 0) (tt := t_fitting) T.d_fitting sc_fitting len_fitting (fun _ _ _ _ _ _ us hl => match us, hl with | [_], _ => rfl) (fun cdv A outer s H E hr => ?_) (pure_fitting T), T.d_fitting.kp, T.g_fitting⟩
  exact (pss_cons (ps_if (pt_chain op_le op_le (pe_gi rfl T.i_LOWEST_corners) (pv 0) (pe_gi rfl T.i_HIGHEST)) (pss_one (ps_ret (pv 0))) pss_nil)
    (pss_one (ps_ret (pe_gi rfl T.i_LOWEST_corners))))
theorem pure_moved (T : Tx K mg) (vs : List V) (H : Hp) (Q : VK) (E : XK) (h : sp_moved K vs H Q E) : t_moved K { nx := fun _ H' => Q .non H', rt := Q } (start ["matrix", "point", "row"] vs) H := by
  obtain ⟨v1, v2, m, p, rfl, rm, rp, ⟨hm, hl, hp⟩, k⟩ := h
  refine s_retN (en_lcL (R := RF K) (R0 := RL (RF K)) (fun r => Si20.dot r p) (er_var (by rfl) rm) (by omega) (fun _ => rfl) fun i x v H1 e hx rx => ?_) k
  exact er_call2 (er_var rfl rx) (er_var rfl (mo e rp)) ⟨hm x (List.mem_of_getElem? hx), hp⟩
theorem ok_moved (T : Tx K mg) (G_products : GF P w K mg base "products" 6 ["row", "point"] (sp_products K)) : GF P w K mg base "moved" 7 ["matrix", "point"] (sp_moved K) := by
  refine ⟨fn_keep (k := 6) (tt := (t_moved K)) T.d_moved sc_moved len_moved (fun _ _ _ _ _ _ us hl => match us, hl with | [_, _], _ => rfl) (fun cdv A outer s H E hr => ?_) (pure_moved T), T.d_moved.kp, T.g_moved⟩
  exact (pss_one (ps_ret (pe_lc (own := [("row", 2)]) (g := (gName 2)) (tt := tYes) rfl sc_moved.nd (pi_list (pv 0)) (blkOk_by (N := ["matrix", "point", "row"]) (sc := defScope s_moved) (by decide +kernel)) (fun _ _ _ _ _ => (pg_name (i := 2) sc_moved.nd rfl (.inl rfl))) (fun _ _ _ _ _ => pts_nil) (fun _ _ _ _ _ => (pe_gf G_products (hr.mono (by decide)) rfl (pa_cons (pv 2) (pa_cons (pv 1) pa_nil)))))))
def sidesTo (p : List Nat) (n : Nat) : Nat := ((List.range n).map fun (i : Nat) => (if Si20.above (Si20.minus (p.getD 3 0)) (p.getD i 0) = true then 2 ^ (2 * i) else 0) + (if Si20.above (p.getD i 0) (p.getD 3 0) = true then 2 ^ (2 * i + 1) else 0)).sum
theorem sides_eq (p : List Nat) : Si20.sides p = sidesTo p 3 := by
  unfold Si20.sides sidesTo
  rfl
theorem sidesTo_succ (p : List Nat) (n : Nat) : sidesTo p (n + 1) = sidesTo p n + ((if Si20.above (Si20.minus (p.getD 3 0)) (p.getD n 0) = true then 2 ^ (2 * n) else 0) + (if Si20.above (p.getD n 0) (p.getD 3 0) = true then 2 ^ (2 * n + 1) else 0)) := by
  unfold sidesTo
  rw [List.range_succ, List.map_append, List.sum_append]
  simp
theorem er_ixFI {ta tb : TE} {s : L2.St} {H : Hp} {A : Addr → Prop} {l : List Nat} {i : Nat} {n : Int} (ha : EvR (RLn A (RF K)) ta s H l) (hb : EvR RI tb s H n) (h : i < l.length) (hn : n = (i : Int)) : EvR (RF K) (tOp (rIxL K) ta tb) s H (l.getD i 0) := er_ixL (j := i) ha hb hn (RL.at_ (R := RF K) (H := H) (v := .non) h)
theorem pure_sides_of (T : Tx K mg) (vs : List V) (H : Hp) (Q : VK) (E : XK) (h : sp_sides_of K vs H Q E) : t_sides_of K { nx := fun _ H' => Q .non H', rt := Q } (start ["point", "found", "k"] vs) H := by
  obtain ⟨v, p, rfl, rp, ⟨hl, hb⟩, k⟩ := h
  have hfin : ∀ i, i < 4 → p.getD i 0 < 2 ^ 32 := by
    intro i hi
    obtain ⟨_, ws, _, _, _, r3⟩ := rp
    obtain ⟨_, _, x, _, px⟩ := r3.get (RL.at_ (R := RF K) (H := H) (v := .non) (l := p) (i := i) (by omega))
    exact px.fin.1
  have hmin : Bd 110 (Si20.minus (p.getD 3 0)) := (minus_bd (hfin 3 (by decide)) (hb 3)).up (by decide)
  refine qr_asgI (by walk_at "ev") fun H1 e1 => ?_
  refine q_forR1 (n := 3) (ea_1 (er_is (by walk_at "ev") (by rfl))) (by decide) (fun i σ H' => ∃ o, σ = [some v, some (.int (sidesTo p i : Nat)), o] ∧ Ex H H') (fun H2 e2 => ⟨none, rfl, e1.trans e2⟩) ?_ ?_
  · rintro i σ' H' hi ⟨o, rfl, e⟩
    have hi3 : i < 3 := by omega
    have rp' := mo e rp
    have ev3 : EvR (RF K) (tOp (rIxL K) (tVar 0) (tC (.int 3))) [some v, some (.int (sidesTo p i : Nat)), some (.int (i : Int))] H' (p.getD 3 0) := er_ixFI (er_var rfl rp') er_cI (by omega) rfl
    have evi : ∀ {z : Int} {H2 : Hp}, Ex H' H2 → EvR (RF K) (tOp (rIxL K) (tVar 0) (tVar 2)) [some v, some (.int z), some (.int (i : Int))] H2 (p.getD i 0) := fun e2 => er_ixFI (er_var rfl (mo e2 rp')) (er_varI rfl) (by omega) rfl
    have ev3' : ∀ {z : Int} {H2 : Hp}, Ex H' H2 → EvR (RF K) (tOp (rIxL K) (tVar 0) (tC (.int 3))) [some v, some (.int z), some (.int (i : Int))] H2 (p.getD 3 0) := fun e2 => er_ixFI (er_var rfl (mo e2 rp')) er_cI (by omega) rfl
    have i1 := ib1
    have i2 := ib2
    have sh1 : CShl 1 (2 * (i : Int)) := cshl_ok (by omega) (by rw [i1]; omega)
    have sh2 : CShl 2 (2 * (i : Int)) := cshl_ok (by omega) (by rw [i2]; omega)
    have pn : (1 : Int) * 2 ^ (2 * (i : Int)).toNat = ((2 ^ (2 * i) : Nat) : Int) := by rw [Int.one_mul, show (2 * (i : Int)).toNat = 2 * i by omega, Int.natCast_pow]; rfl
    have pn2 : (2 : Int) * 2 ^ (2 * (i : Int)).toNat = ((2 ^ (2 * i + 1) : Nat) : Int) := by rw [show (2 * (i : Int)).toNat = 2 * i by omega, Nat.pow_succ, Int.natCast_mul, Int.natCast_pow, Int.mul_comm]; rfl
    have fin : ∀ z : Int, ∀ H2, Ex H H2 → Ex H' H2 → z = ((sidesTo p i + (if Si20.above (Si20.minus (p.getD 3 0)) (p.getD i 0) = true then 2 ^ (2 * i) else 0) : Nat) : Int) →
        tIfS (tB (tCall (sp_is_below K) [] E0 (tCons (tOp (rIxL K) (tVar 0) (tC (.int 3))) (tCons (tOp (rIxL K) (tVar 0) (tVar 2)) tNil)))) (tAsg (tOp rAddI (tVar 1) (tOp rShlI (tC (.int 2)) (tOp rMulI (tC (.int 2)) (tVar 2)))) (gName 1)) tNext
          { nx := fun σ H' => ∃ o, σ = [some v, some (.int (sidesTo p (i + 1) : Nat)), o] ∧ Ex H H', rt := Q, ct := fun σ H' => ∃ o, σ = [some v, some (.int (sidesTo p (i + 1) : Nat)), o] ∧ Ex H H', bk := fun σ2 H2 => tRet (tVar 1) { nx := fun _ H' => Q .non H', rt := Q } σ2 H2 } [some v, some (.int z), some (.int (i : Int))] H2 := by
      intro z H2 e2 e2' hz
      refine s_when (et_b (er_call2 (ev3' e2') (evi e2') ⟨(hb 3).up (by decide), (hb i).up (by decide)⟩)) (fun c H3 e3 => ?_) fun c H3 e3 => ?_
      · refine sr_asgI (by walk_at "ev") fun H4 e4 => ⟨some (.int (i : Int)), ?_, (e2.trans e3).trans e4⟩
        rw [sidesTo_succ, show Si20.above (p.getD i 0) (p.getD 3 0) = true from c, if_pos (rfl : true = true), hz, pn2, ← Int.natCast_add, Nat.add_assoc]
        rfl
      · refine ⟨some (.int (i : Int)), ?_, e2.trans e3⟩
        rw [sidesTo_succ, show Si20.above (p.getD i 0) (p.getD 3 0) = false from c, if_neg (by decide : ¬ false = true), hz, Nat.add_zero]
    refine q_when (et_b (er_call2 (evi (Ex.refl H')) (er_call1 (R := RF K) ev3 trivial) ⟨(hb i).up (by decide), hmin⟩)) (fun c H2 e2 => ?_) fun c H2 e2 => ?_
    · refine sr_asgI (by walk_at "ev") fun H3 e3 => fin _ H3 ((e.trans e2).trans e3) (e2.trans e3) ?_
      rw [show Si20.above (Si20.minus (p.getD 3 0)) (p.getD i 0) = true from c, if_pos (rfl : true = true), pn, ← Int.natCast_add]
    · refine fin _ H2 (e.trans e2) e2 ?_
      rw [show Si20.above (Si20.minus (p.getD 3 0)) (p.getD i 0) = false from c, if_neg (by decide : ¬ false = true), Nat.add_zero]
  · rintro σ' H' ⟨o, rfl, e⟩
    refine sr_ret (er_varI (n := ((sidesTo p 3 : Nat) : Int)) rfl) fun v H2 e2 r => k v H2 (e.trans e2) ?_
    rw [← sides_eq] at r
    exact r
theorem ok_sides_of (T : Tx K mg) (G_is_below : GF P w K mg base "is_below" 2 ["one", "other"] (sp_is_below K)) (G_opposite : GF P w K mg base "opposite" 1 ["single"] (sp_opposite K)) : GF P w K mg base "sides_of" 3 ["point"] (sp_sides_of K) := by
  refine ⟨fn_keep (k := 2) (tt := (t_sides_of K)) T.d_sides_of sc_sides_of len_sides_of (fun _ _ _ _ _ _ us hl => match us, hl with | [_], _ => rfl) (fun cdv A outer s H E hr => ?_) (pure_sides_of T), T.d_sides_of.kp, T.g_sides_of⟩
  exact (pss_cons (ps_set (i := 1) sc_sides_of.nd rfl (.inl rfl) pe_int)
    (pss_cons (ps_for PassesOwn.never rfl (pi_range1 rfl T.f_range (pa_cons (pe_op op_sub (pe_gi rfl T.i_FOUR) pe_int) pa_nil)) (pg_name (i := 2) sc_sides_of.nd rfl (.inl rfl)) (pss_cons (ps_if (pt_val (pe_gf G_is_below (hr.mono (by decide)) rfl (pa_cons (pe_ix ix_list (pv 0) (pv 2) (fun _ _ => rfl)) (pa_cons (pe_gf G_opposite (hr.mono (by decide)) rfl (pa_cons (pe_ix ix_list (pv 0) pe_int (fun _ _ => rfl)) pa_nil)) pa_nil)))) (pss_one (ps_set (i := 1) sc_sides_of.nd rfl (.inl rfl) (pe_op op_add (pv 1) (pe_op op_shlW pe_int (pe_op op_mul pe_int (pv 2)))))) pss_nil)
    (pss_one (ps_if (pt_val (pe_gf G_is_below (hr.mono (by decide)) rfl (pa_cons (pe_ix ix_list (pv 0) pe_int (fun _ _ => rfl)) (pa_cons (pe_ix ix_list (pv 0) (pv 2) (fun _ _ => rfl)) pa_nil)))) (pss_one (ps_set (i := 1) sc_sides_of.nd rfl (.inl rfl) (pe_op op_add (pv 1) (pe_op op_shlW pe_int (pe_op op_mul pe_int (pv 2)))))) pss_nil))))
    (pss_one (ps_ret (pv 1)))))
/-! ### moved points, all -/
theorem bd_zero (k : Nat) : Bd k 0 := by
  have e : (Si20.value 0).natAbs = 0 := by decide
  unfold Bd
  rw [e]
  exact Nat.zero_le _
def ptsM (m : List (List Nat)) (ns : List Nat) : List (List Nat) := (pieces 4 ns).map fun p => m.map fun r => Si20.dot r p
def moveM (m : List (List Nat)) (ns : List Nat) : List Int := (((ptsM m ns).map fun q => ((Si20.sides q : Nat) : Int)).count 0 : Int) :: ((ptsM m ns).flatMap fun q => q.map fun n => ((n : Nat) : Int)) ++ (ptsM m ns).map fun q => ((Si20.sides q : Nat) : Int)
/-- a row of points -/
def CalmRow (l : List Int) : Prop := l.length ≤ 1024 ∧ l.length % 4 = 0 ∧ ∀ b ∈ l, ∃ n : Nat, b = (n : Int) ∧ Si20.calm n = true
theorem CalmRow.fin {l : List Int} (h : CalmRow l) : l.length ≤ 1024 ∧ ∀ b ∈ l, FinB b := ⟨h.1, fun b hb => by
  obtain ⟨n, e, hc⟩ := h.2.2 b hb
  obtain ⟨h1, h2, _⟩ := calm_bd hc
  exact ⟨n, e, h1, h2⟩⟩
theorem pieces_mem {b : Type} {c : Nat} {l : List b} {p : List b} (hc : 0 < c) (hm : l.length % c = 0) (h : p ∈ pieces c l) : p.length = c ∧ ∀ x ∈ p, x ∈ l := by
  unfold pieces at h
  obtain ⟨i, hi, rfl⟩ := List.mem_map.mp h
  rw [List.mem_range] at hi
  have hd : (l.length + (c - 1)) / c = l.length / c := by
    have e := Nat.div_add_mod l.length c
    rw [hm, Nat.add_zero] at e
    rw [← e, Nat.mul_add_div hc, Nat.div_eq_of_lt (by omega : c - 1 < c), Nat.add_zero, Nat.mul_div_cancel_left _ hc]
  rw [hd] at hi
  refine ⟨?_, fun x hx => List.mem_of_mem_drop (List.mem_of_mem_take hx)⟩
  rw [List.length_take, List.length_drop]
  have e := Nat.div_add_mod l.length c
  rw [hm, Nat.add_zero] at e
  have : (i + 1) * c ≤ l.length := by
    rw [← e, Nat.mul_comm c]
    exact Nat.mul_le_mul_right _ hi
  rw [Nat.succ_mul] at this
  omega
theorem CalmRow.pt {l : List Int} (h : CalmRow l) {p : List Nat} (hp : p ∈ pieces 4 (nats l)) : Calm4 p := by
  obtain ⟨h1, h2⟩ := pieces_mem (by decide) (by rw [List.length_map]; exact h.2.1) hp
  refine ⟨h1, fun i => ?_⟩
  by_cases hi : i < p.length
  · have hx : p.getD i 0 ∈ p := by
      rw [List.getD_eq_getElem?_getD, List.getElem?_eq_getElem hi]
      exact List.getElem_mem hi
    obtain ⟨b, hb, e⟩ := List.mem_map.mp (h2 _ hx)
    obtain ⟨n, rfl, hc⟩ := h.2.2 b hb
    rw [Int.toNat_natCast] at e
    rw [← e]
    exact (calm_bd hc).2.2
  · rw [List.getD_eq_getElem?_getD, List.getElem?_eq_none_iff.mpr (by omega)]
    exact bd_zero 30
def Mat (n : Nat) (m : List (List Nat)) : Prop := m.length = n ∧ ∀ r ∈ m, Calm4 r
abbrev sp_move_all (K : PySem.W.Frag) : Sp := spL2 (RL (RL (RF K))) RIL (fun m l => Mat 4 m ∧ CalmRow l) fun m l => vI (moveM m (nats l))
/-- move_all: 0 matrix, 1 row, 2 points, 3 sides, 4 bits, 5 point, 6 single -/
def t_move_all (K : PySem.W.Frag) : TS :=
  (tSeq (tAsg (tLc (iList K (tCall (sp_points_of K) [] E0 (tCons (tVar 1) tNil))) (gName 5) tYes (tCall (sp_moved K) [] E0 (tCons (tVar 0) (tCons (tVar 5) tNil))) [5]) (gName 2))
    (tSeq (tAsg (tLc (iList K (tVar 2)) (gName 5) tYes (tCall (sp_sides_of K) [] E0 (tCons (tVar 5) tNil)) [5]) (gName 3))
    (tSeq (tAsg (tLst tNil) (gName 4))
    (tSeq (tFor (iList K (tVar 2)) (gName 5) (tDrop (tBM K "list" rExtend (tVar 4) (tCons (tLc (iList K (tVar 5)) (gName 6) tYes (tCall (sp_bits_of K) [] E0 (tCons (tVar 6) tNil)) [6]) tNil))))
    (tRet (tOp rCat (tOp rCat (tLst (tCons (tBM K "list" (rCntI K) (tVar 3) (tCons (tC (.int 0)) tNil)) tNil)) (tVar 4)) (tVar 3)))))))
theorem len_move_all : ∀ vs H Q E, sp_move_all K vs H Q E → vs.length = 2 := spL2_len
theorem pieces_len {b : Type} {c : Nat} (l : List b) (hc : 0 < c) : (pieces c l).length ≤ l.length := by
  unfold pieces
  rw [List.length_map, List.length_range]
  by_cases hz : l.length = 0
  · rw [hz, Nat.zero_add, Nat.div_eq_of_lt (by omega)]
    exact Nat.zero_le _
  · refine Nat.div_le_of_le_mul ?_
    have h1 := Nat.mul_le_mul_left (c - 1) (show 1 ≤ l.length by omega)
    have e : c * l.length = (c - 1) * l.length + l.length := by
      rw [← Nat.succ_mul]
      congr 1
      omega
    omega
theorem pt_ok {m : List (List Nat)} (hm : Mat 4 m) {l : List Int} (hl : CalmRow l) {q : List Nat} (hq : q ∈ ptsM m (nats l)) : q.length = 4 ∧ ∀ i, Bd 62 (q.getD i 0) := by
  unfold ptsM at hq
  obtain ⟨p, hp, rfl⟩ := List.mem_map.mp hq
  have hc := hl.pt hp
  refine ⟨by rw [List.length_map]; exact hm.1, fun i => ?_⟩
  by_cases hi : i < m.length
  · have e : (m.map fun r => Si20.dot r p).getD i 0 = Si20.dot m[i] p := by
      rw [List.getD_eq_getElem?_getD, List.getElem?_map, List.getElem?_eq_getElem hi, Option.map_some, Option.getD_some]
    rw [e]
    exact dot_bd (hm.2 _ (List.getElem_mem hi)).2 hc.2
  · have e : (m.map fun r => Si20.dot r p).getD i 0 = 0 := by
      rw [List.getD_eq_getElem?_getD, List.getElem?_map, List.getElem?_eq_none_iff.mpr (by omega)]
      rfl
    rw [e]
    exact bd_zero 62
theorem flat_len {b c : Type} {k : Nat} (f : b → List c) : ∀ l : List b, (∀ x ∈ l, (f x).length ≤ k) → (l.flatMap f).length ≤ k * l.length
  | [], _ => by simp
  | x :: r, h => by
    have h1 := h x (by simp)
    have h2 := flat_len f r fun y hy => h y (by simp [hy])
    rw [List.flatMap_cons, List.length_append, List.length_cons, Nat.mul_succ]
    omega
theorem pure_move_all (T : Tx K mg) (vs : List V) (H : Hp) (Q : VK) (E : XK) (h : sp_move_all K vs H Q E) : t_move_all K { nx := fun _ H' => Q .non H', rt := Q } (start ["matrix", "row", "points", "sides", "bits", "point", "single"] vs) H := by
  obtain ⟨v1, v2, m, l, rfl, rm, rl, ⟨hm, hl⟩, k⟩ := h
  have hpl : (pieces 4 (nats l)).length ≤ 1024 := Nat.le_trans (pieces_len _ (by decide)) (by rw [List.length_map]; exact hl.1)
  have hptl : (ptsM m (nats l)).length ≤ 1024 := by unfold ptsM; rw [List.length_map]; exact hpl
  refine q_asgNN (enn_lcL (K := K) (R := RF K) (R0 := RLn (fun p => H p = none) (RF K)) (fun p => m.map fun r => Si20.dot r p) (EvNN.rln (enn_call1 (er_var rfl rl) hl.fin)) (by omega) (fun _ => rfl) fun i x v H1 e hx rx => ?_) fun p H1 hp e1 r1 => ?_
  · exact en_call2 (er_var rfl (mo e rm)) (er_var rfl rx.any) ⟨hm.2, hm.1, hl.pt (List.mem_of_getElem? hx)⟩
  have r1 : RL (RL (RF K)) H1 (.ref p) (ptsM m (nats l)) := r1
  have hq : ∀ q ∈ ptsM m (nats l), q.length = 4 ∧ ∀ i, Bd 62 (q.getD i 0) := fun q hq => pt_ok hm hl hq
  have hMv : moveM m (nats l) = (((ptsM m (nats l)).map fun q => ((Si20.sides q : Nat) : Int)).count 0 : Int) :: ((ptsM m (nats l)).flatMap fun q => q.map fun n => ((n : Nat) : Int)) ++ (ptsM m (nats l)).map fun q => ((Si20.sides q : Nat) : Int) := rfl
  generalize ptsM m (nats l) = pts at *
  refine q_asgN (en_lcL (K := K) (R := RI) (R0 := RL (RF K)) (fun q => ((Si20.sides q : Nat) : Int)) (er_var rfl r1) (by omega) (fun _ => rfl) fun i x v H2 e hx rx => er_call1 (er_var rfl rx) (hq x (List.mem_of_getElem? hx))) fun p2 H2 hp2 e2 r2 => ?_
  have r1 := mo e2 r1
  have hfl : (pts.flatMap fun q => q.map fun n => ((n : Nat) : Int)).length ≤ 4 * pts.length := flat_len _ _ fun x hx => by rw [List.length_map, (hq x hx).1]; exact Nat.le_refl _
  refine q_collect (K := K) (A := AnyA) (R0 := RL (RF K)) (xs := pts) (i := 4) (j := 5) (i0 := 2) (fun q => q.map fun n => ((n : Nat) : Int)) (fun _ => rfl) r1 (by omega) (fun _ => rfl) (fun _ _ _ => rfl) (fun _ _ => rfl) (fun k x v p' H3 e3 hx rx => ?_) fun p3 o H3 hp3 e3 h3 => ?_
  · have z := en_lcL (K := K) (R := RI) (R0 := RF K) (tl := tVar 5) (vs := [6]) (j := 6) (te := tCall (sp_bits_of K) [] E0 (tCons (tVar 6) tNil)) (fun n : Nat => ((n : Nat) : Int)) (er_var (s := (((((start ["matrix", "row", "points", "sides", "bits", "point", "single"] [v1, v2]).set 2 (some (.ref p))).set 3 (some (.ref p2))).set 4 (some (.ref p'))).set 5 (some v))) rfl rx) (by rw [(hq x (List.mem_of_getElem? hx)).1]; decide) (fun _ => rfl) fun i y u H4 e4 hy ry => er_call1 (er_var rfl ry) trivial
    exact el_ints z.ints
  have r2' : RIL H3 (.ref p2) (pts.map fun q => ((Si20.sides q : Nat) : Int)) := mo e3 (rl_ints r2)
  have ec : EvR RI (tBM K "list" (rCntI K) (tVar 3) (tCons (tC (.int 0)) tNil)) ((((((start ["matrix", "row", "points", "sides", "bits", "point", "single"] [v1, v2]).set 2 (some (.ref p))).set 3 (some (.ref p2))).set 4 (some (.ref p3))).set 5 o)) H3 (((pts.map fun q => ((Si20.sides q : Nat) : Int)).count 0 : Nat) : Int) := by
    intro H4 e4 Q' q'
    obtain ⟨_, r1', r2''⟩ := r2'
    cases r1'
    exact ⟨_, rfl, Or.inl ⟨rfl, _, sq_of (e4 _ _ r2'')⟩, p2, _, 0, rfl, rfl, SqL.of (e4 _ _ r2''), q' _ H4 (Ex.refl _) rfl⟩
  have hl1 : [V.int (((pts.map fun q => ((Si20.sides q : Nat) : Int)).count 0 : Nat) : Int)].length + ((pts.flatMap fun q => q.map fun n => ((n : Nat) : Int)).map V.int).length ≤ 16777216 := by rw [List.length_map, List.length_singleton]; omega
  have hl2 : ([V.int (((pts.map fun q => ((Si20.sides q : Nat) : Int)).count 0 : Nat) : Int)] ++ (pts.flatMap fun q => q.map fun n => ((n : Nat) : Int)).map V.int).length + ((pts.map fun q => ((Si20.sides q : Nat) : Int)).map V.int).length ≤ 16777216 := by rw [List.length_append, List.length_map, List.length_singleton, List.length_map, List.length_map]; omega
  have e1cat := el_catL (elv (el_catL (elv (el_lstI (xs := [V.int (((pts.map fun q => ((Si20.sides q : Nat) : Int)).count 0 : Nat) : Int)]) (ers_cons ec ers_nil) (by rintro H' vs ⟨v, r, rfl, r1, rfl⟩; rw [r1]) (by simp))) (er_var (R := RLv) (i := 4) (v := .ref p3) rfl ⟨p3, rfl, h3⟩) hl1)) (er_var (R := RLv) (i := 3) (v := .ref p2) rfl ⟨p2, rfl, by obtain ⟨_, r1', r2''⟩ := r2'; cases r1'; exact r2''⟩) hl2
  refine s_retL (el_is e1cat ?_) fun q H4 hq e4 h4 => k q H4 (fresh_back ((e1.trans e2).trans e3) hq) (((e1.trans e2).trans e3).trans e4) h4
  show _ = vI (moveM m (nats l))
  rw [hMv]
  unfold vI
  rw [List.map_append, List.map_cons]
  rfl
theorem ok_move_all (T : Tx K mg) (G_bits_of : GF P w K mg base "bits_of" 1 ["single"] (sp_bits_of K)) (G_moved : GF P w K mg base "moved" 7 ["matrix", "point"] (sp_moved K)) (G_points_of : GF P w K mg base "points_of" 2 ["row"] (sp_points_of K)) (G_sides_of : GF P w K mg base "sides_of" 3 ["point"] (sp_sides_of K)) : GF P w K mg base "move_all" 8 ["matrix", "row"] (sp_move_all K) := by
  refine ⟨fn_keep (k := 7) (tt := (t_move_all K)) T.d_move_all sc_move_all len_move_all (fun _ _ _ _ _ _ us hl => match us, hl with | [_, _], _ => rfl) (fun cdv A outer s H E hr => ?_) (pure_move_all T), T.d_move_all.kp, T.g_move_all⟩
  exact (pss_cons (ps_setLc (i := 2) (own := [("point", 5)]) (g := (gName 5)) (tt := tYes) rfl sc_move_all.nd rfl rfl (sw_true rfl rfl rfl (by decide +kernel)) (pi_list (pe_gf G_points_of (hr.mono (by decide)) rfl (pa_cons (pv 1) pa_nil))) (blkOk_by (N := ["matrix", "row", "points", "sides", "bits", "point", "single"]) (sc := defScope s_move_all) (by decide +kernel)) (fun _ _ _ _ _ => (pg_name (i := 5) sc_move_all.nd rfl (.inl rfl))) (fun _ _ _ _ _ => pts_nil) (fun _ _ _ _ _ => (pe_gf G_moved (hr.mono (by decide)) rfl (pa_cons (pv 0) (pa_cons (pv 5) pa_nil)))))
    (pss_cons (ps_setLc (i := 3) (own := [("point", 5)]) (g := (gName 5)) (tt := tYes) rfl sc_move_all.nd rfl rfl (sw_true rfl rfl rfl (by decide +kernel)) (pi_list (pv 2)) (blkOk_by (N := ["matrix", "row", "points", "sides", "bits", "point", "single"]) (sc := defScope s_move_all) (by decide +kernel)) (fun _ _ _ _ _ => (pg_name (i := 5) sc_move_all.nd rfl (.inl rfl))) (fun _ _ _ _ _ => pts_nil) (fun _ _ _ _ _ => (pe_gf G_sides_of (hr.mono (by decide)) rfl (pa_cons (pv 5) pa_nil))))
    (pss_cons (ps_set (i := 4) sc_move_all.nd rfl (.inl rfl) (pe_lst pa_nil))
    (pss_cons (ps_for PassesOwn.never rfl (pi_list (pv 2)) (pg_name (i := 5) sc_move_all.nd rfl (.inl rfl)) (pss_one (ps_expr (pe_bm PySem.F.plainAttrs_list PySem.F.slot_list_extend PySem.F.type_list_extend mt_extend (pv 4) (pa_cons (pe_lc (own := [("single", 6)]) (g := (gName 6)) (tt := tYes) rfl sc_move_all.nd (pi_list (pv 5)) (blkOk_by (N := ["matrix", "row", "points", "sides", "bits", "point", "single"]) (sc := defScope s_move_all) (by decide +kernel)) (fun _ _ _ _ _ => (pg_name (i := 6) sc_move_all.nd rfl (.inl rfl))) (fun _ _ _ _ _ => pts_nil) (fun _ _ _ _ _ => (pe_gf G_bits_of (hr.mono (by decide)) rfl (pa_cons (pv 6) pa_nil)))) pa_nil)))))
    (pss_one (ps_ret (pe_op op_cat (pe_op op_cat (pe_lst (pa_cons (pe_bm PySem.F.plainAttrs_list PySem.F.slot_list_count PySem.F.type_list_count mt_lcount (pv 3) (pa_cons pe_int pa_nil)) pa_nil)) (pv 4)) (pv 3))))))))
/-! ### points put on the picture -/
/-- the specification's, by the picture's sides -/
def placed4 (w h x y z w' : Nat) : List Int :=
  if Si20.value w' < 2 ^ 139 then List.replicate 4 (-(2 ^ 31)) else
  [Si20.whole (Si20.plus (Si20.product (Si20.product x (Si20.quotient Si20.one w')) (Si20.ofNat (8 * w))) (Si20.ofNat (8 * w))), Si20.whole (Si20.plus (Si20.ofNat (8 * h)) (Si20.minus (Si20.product (Si20.product y (Si20.quotient Si20.one w')) (Si20.ofNat (8 * h))))), Si20.whole (Si20.plus (Si20.product (Si20.product z (Si20.quotient Si20.one w')) (Si20.ofNat 32768)) (Si20.ofNat 32768)), Si20.whole (Si20.product (Si20.quotient Si20.one w') (Si20.ofNat 65536))]
def placedN (w h : Nat) (p : List Nat) : List Int := placed4 w h (p.getD 0 0) (p.getD 1 0) (p.getD 2 0) (p.getD 3 0)
abbrev sp_placed (K : PySem.W.Frag) : Sp := spL3 (RL (RF K)) RI RI (fun p w h => Calm4 p ∧ (1 ≤ w ∧ w ≤ 128) ∧ (1 ≤ h ∧ h ≤ 128)) fun p w h => vI (placedN w.toNat h.toNat p)
abbrev sp_place_all (K : PySem.W.Frag) : Sp := spL3 RIL RI RI (fun l w h => CalmRow l ∧ (1 ≤ w ∧ w ≤ 128) ∧ (1 ≤ h ∧ h ≤ 128)) fun l w h => vI ((pieces 4 (nats l)).flatMap (placedN w.toNat h.toNat))
/-- placed: 0 point, 1 wide, 2 high, 3 r, 4 a, 5 b, 6 across, 7 down, 8 depth, 9 x, 10 y, 11 z, 12 w, 13 one -/
def t_placed (K : PySem.W.Frag) : TS :=
  (tSeq (tAsg (tVar 0) (gUnl K 4 (gCons (gName 9) (gCons (gName 10) (gCons (gName 11) (gCons (gName 12) gNil))))))
    (tSeq (tIfS (tB (tCall (sp_is_below K) [] E0 (tCons (tVar 12) (tCons (tC (.ref (He.ga K "LEAST"))) tNil)))) (tRet (tOp rRep (tLst (tCons (tC (.int (-2147483648))) tNil)) (tC (.int (4))))) tNext)
    (tSeq (tAsg (tCall (sp_turned K) [] E0 (tCons (tVar 12) tNil)) (gName 3))
    (tSeq (tAsg (tTup (tCons (tC (.int 0)) (tCons (tOp rMulI (tC (.int 8)) (tVar 1)) (tCons (tC (.int 0)) tNil)))) (gName 4))
    (tSeq (tAsg (tTup (tCons (tC (.int 0)) (tCons (tOp rMulI (tC (.int 8)) (tVar 2)) (tCons (tC (.int 0)) tNil)))) (gName 5))
    (tSeq (tAsg (tCall (sp_added K) [] E0 (tCons (tCall (sp_times K) [] E0 (tCons (tCall (sp_times K) [] E0 (tCons (tVar 9) (tCons (tVar 3) tNil))) (tCons (tVar 4) tNil))) (tCons (tVar 4) tNil))) (gName 6))
    (tSeq (tAsg (tCall (sp_added K) [] E0 (tCons (tVar 5) (tCons (tCall (sp_opposite K) [] E0 (tCons (tCall (sp_times K) [] E0 (tCons (tCall (sp_times K) [] E0 (tCons (tVar 10) (tCons (tVar 3) tNil))) (tCons (tVar 5) tNil))) tNil)) tNil))) (gName 7))
    (tSeq (tAsg (tCall (sp_added K) [] E0 (tCons (tCall (sp_times K) [] E0 (tCons (tCall (sp_times K) [] E0 (tCons (tVar 11) (tCons (tVar 3) tNil))) (tCons (tC (.ref (He.ga K "HALF_DEPTH"))) tNil))) (tCons (tC (.ref (He.ga K "HALF_DEPTH"))) tNil))) (gName 8))
    (tRet (tLc (iTup K (tTup (tCons (tVar 6) (tCons (tVar 7) (tCons (tVar 8) (tCons (tCall (sp_times K) [] E0 (tCons (tVar 3) (tCons (tC (.ref (He.ga K "UNIT"))) tNil))) tNil)))))) (gName 13) tYes (tCall sp_fitting [] E0 (tCons (tCall (sp_nearest K) [] E0 (tCons (tVar 13) tNil)) tNil)) [13]))))))))))
/-- place_all: 0 row, 1 wide, 2 high, 3 found, 4 point -/
def t_place_all (K : PySem.W.Frag) : TS :=
  (tSeq (tAsg (tLst tNil) (gName 3))
    (tSeq (tFor (iList K (tCall (sp_points_of K) [] E0 (tCons (tVar 0) tNil))) (gName 4) (tDrop (tBM K "list" rExtend (tVar 3) (tCons (tCall (sp_placed K) [] E0 (tCons (tVar 4) (tCons (tVar 1) (tCons (tVar 2) tNil)))) tNil))))
    (tRet (tVar 3))))
theorem len_placed : ∀ vs H Q E, sp_placed K vs H Q E → vs.length = 3 := spL3_len
theorem len_place_all : ∀ vs H Q E, sp_place_all K vs H Q E → vs.length = 3 := spL3_len
theorem rf_const {H : Hp} {x : Str} {a b c : Int} {n : Nat} (h : ∀ H, SqT K H (He.ga K x) [.int a, .int b, .int c]) (r : Rep ⟨a, b, c⟩ n) : RF K H (.ref (He.ga K x)) n := ⟨⟨a, b, c⟩, ⟨_, rfl, h H⟩, r⟩
theorem four_of {b : Type} {xs : List b} (h : xs.length = 4) : ∃ a b c d, xs = [a, b, c, d] := by
  match xs, h with
  | [a, b, c, d], _ => exact ⟨a, b, c, d, rfl⟩
theorem pure_placed (T : Tx K mg) (vs : List V) (H : Hp) (Q : VK) (E : XK) (h : sp_placed K vs H Q E) : t_placed K { nx := fun _ H' => Q .non H', rt := Q } (start ["point", "wide", "high", "r", "a", "b", "across", "down", "depth", "x", "y", "z", "w", "one"] vs) H := by
  obtain ⟨v, _, _, p, w, h, rfl, rp, rfl, rfl, ⟨⟨hl, hb⟩, hw, hh⟩, k⟩ := h
  obtain ⟨n0, n1, n2, n3, rfl⟩ := four_of hl
  have b0 : Bd 30 n0 := hb 0
  have b1 : Bd 30 n1 := hb 1
  have b2 : Bd 30 n2 := hb 2
  have b3 : Bd 30 n3 := hb 3
  have k : ∀ p H', H p = none → Ex H H' → H' p = some (.lst (vI (placed4 w.toNat h.toNat n0 n1 n2 n3))) → Q (.ref p) H' := k
  unfold placed4 at k
  refine qr_unl (K := K) (er_var rfl rp) rfl fun ws H1 e1 rw => ?_
  obtain ⟨v0, v1, v2, v3, rfl⟩ := four_of rw.1
  have r0 : RF K H1 v0 n0 := rw.2 0 _ _ rfl rfl
  have r1 : RF K H1 v1 n1 := rw.2 1 _ _ rfl rfl
  have r2 : RF K H1 v2 n2 := rw.2 2 _ _ rfl rfl
  have r3 : RF K H1 v3 n3 := rw.2 3 _ _ rfl rfl
  refine ⟨v0, _, rfl, v1, _, rfl, v2, _, rfl, v3, _, rfl, rfl, ?_⟩
  have cl : RF K H1 (.ref (He.ga K "LEAST")) 981467136 := rf_const T.t_LEAST rep_least.1
  have bl_ : Bd 110 981467136 := by
    unfold Bd
    rw [rep_least.2]
    decide +kernel
  refine q_when (et_b (er_call2 (er_var rfl r3) (er_c cl) ⟨b3.up (by decide), bl_⟩)) (fun c H2 e2 => ?_) fun c H2 e2 => ?_
  · have c' := of_decide_eq_true c
    rw [rep_least.2] at c'
    rw [if_pos c'] at k
    refine s_retL (el_is (el_rep (v := .int (-2147483648)) (n := 4) (elv (el_lstI (xs := [.int (-2147483648)]) (ers_cons (R := RI) (by walk_at "ev") ers_nil) (by rintro H' vs ⟨v, r, rfl, r1, rfl⟩; rw [r1]) (by simp))) (by walk_at "ev") (by decide) (by decide)) (by rfl)) fun q H3 hq e3 h3 => k q H3 (fresh_back (e1.trans e2) hq) ((e1.trans e2).trans e3) h3
  · have c' := of_decide_eq_false c
    rw [rep_least.2] at c'
    rw [if_neg c'] at k
    have f2 := e1.trans e2
    have v179 : Si20.value n3 ≤ 2 ^ 179 := by
      have h1 : (Si20.value n3).natAbs ≤ 2 ^ 179 := b3
      have h2 : ((2 ^ 179 : Nat) : Int) = 2 ^ 179 := by decide +kernel
      omega
    have v139 : 2 ^ 139 ≤ Si20.value n3 := by omega
    obtain ⟨x3, rx3, px3⟩ := id r3
    obtain ⟨fin1, fin2⟩ := px3.fin
    have bq : Bd 11 (Si20.quotient Si20.one n3) := quot_bd fin1 fin2 v139 v179
    refine qr_asg (er_call1 (R := RF K) (er_var rfl (mo e2 r3)) ⟨v139, v179⟩) fun vr H3 e3 rr => ?_
    generalize Si20.quotient Si20.one n3 = q at *
    obtain ⟨W, hW⟩ := Int.eq_ofNat_of_zero_le (show 0 ≤ w by omega)
    obtain ⟨Hh, hH⟩ := Int.eq_ofNat_of_zero_le (show 0 ≤ h by omega)
    subst hW hH
    rw [Int.toNat_natCast, Int.toNat_natCast] at k
    obtain ⟨ra, ba⟩ := ofNat_rep (N := 8 * W) (k := 10) (by omega) (by omega) (by omega) (by decide)
    obtain ⟨rb, bb⟩ := ofNat_rep (N := 8 * Hh) (k := 10) (by omega) (by omega) (by omega) (by decide)
    obtain ⟨rc, bc⟩ := ofPow_rep (N := 15) (by decide)
    obtain ⟨ru, bu⟩ := ofPow_rep (N := 16) (by decide)
    have rc : Rep ⟨0, 1, 15⟩ (Si20.ofNat 32768) := rc
    have bc : Bd 15 (Si20.ofNat 32768) := bc
    have ru : Rep ⟨0, 1, 16⟩ (Si20.ofNat 65536) := ru
    have bu : Bd 16 (Si20.ofNat 65536) := bu
    generalize Si20.ofNat (8 * W) = A at *
    generalize Si20.ofNat (8 * Hh) = B at *
    generalize Si20.ofNat 32768 = C at *
    generalize Si20.ofNat 65536 = U at *
    refine qr_asg (er_rf (K := K) (n := A) (er_tupS (a := 0) (b := ((8 * W : Nat) : Int)) (c := 0) er_cI (er_is (by walk_at "ev") (by omega)) er_cI) ra) fun va H4 e4 rva => ?_
    refine qr_asg (er_rf (K := K) (n := B) (er_tupS (a := 0) (b := ((8 * Hh : Nat) : Int)) (c := 0) er_cI (er_is (by walk_at "ev") (by omega)) er_cI) rb) fun vb H5 e5 rvb => ?_
    have f5 : Ex H1 H5 := ((e2.trans e3).trans e4).trans e5
    have cc : ∀ H', RF K H' (.ref (He.ga K "HALF_DEPTH")) C := fun H' => rf_const T.t_HALF_DEPTH rc
    have cu : ∀ H', RF K H' (.ref (He.ga K "UNIT")) U := fun H' => rf_const T.t_UNIT ru
    have p0 := prod_bd (i := 30) (j := 11) b0 bq (by decide)
    have p1 := prod_bd (i := 30) (j := 11) b1 bq (by decide)
    have p2 := prod_bd (i := 30) (j := 11) b2 bq (by decide)
    have g0 := prod_bd (i := 41) (j := 10) p0 ba (by decide)
    have g1 := prod_bd (i := 41) (j := 10) p1 bb (by decide)
    have g2 := prod_bd (i := 41) (j := 15) p2 bc (by decide)
    have g3 := prod_bd (i := 11) (j := 16) bq bu (by decide)
    have m1 := minus_bd (prod_lt (i := 41) (j := 10) p1 bb (by decide)) g1
    have s0 := plus_bd (k := 56) (g0.up (by decide)) (ba.up (by decide)) (by decide)
    have s1 := plus_bd (k := 56) (bb.up (by decide)) (m1.up (by decide)) (by decide)
    have s2 := plus_bd (k := 56) (g2.up (by decide)) (bc.up (by decide)) (by decide)
    have t0 : ∀ {a b : Nat}, Bd 30 a → Bd 11 b → ∃ i j, Bd i a ∧ Bd j b ∧ i + j ≤ 110 := fun ha hb => ⟨30, 11, ha, hb, by decide⟩
    have t1 : ∀ {a b : Nat}, Bd 41 a → Bd 10 b → ∃ i j, Bd i a ∧ Bd j b ∧ i + j ≤ 110 := fun ha hb => ⟨41, 10, ha, hb, by decide⟩
    have t2 : ∀ {a b : Nat}, Bd 41 a → Bd 15 b → ∃ i j, Bd i a ∧ Bd j b ∧ i + j ≤ 110 := fun ha hb => ⟨41, 15, ha, hb, by decide⟩
    have t3 : ∀ {a b : Nat}, Bd 11 a → Bd 16 b → ∃ i j, Bd i a ∧ Bd j b ∧ i + j ≤ 110 := fun ha hb => ⟨11, 16, ha, hb, by decide⟩
    have R3 := mo (e4.trans e5) rr
    refine qr_asg (R := RF K) (er_call2 (er_call2 (R := RF K) (er_call2 (R := RF K) (er_var rfl (mo f5 r0)) (er_var rfl R3) (t0 b0 bq)) (er_var rfl (mo e5 rva)) (t1 p0 ba)) (er_var rfl (mo e5 rva)) ⟨g0.up (by decide), ba.up (by decide)⟩) fun u0 H6 e6 ru0 => ?_
    refine qr_asg (R := RF K) (er_call2 (er_var rfl (mo e6 rvb)) (er_call1 (R := RF K) (er_call2 (R := RF K) (er_call2 (R := RF K) (er_var rfl (mo (f5.trans e6) r1)) (er_var rfl (mo e6 R3)) (t0 b1 bq)) (er_var rfl (mo e6 rvb)) (t1 p1 bb)) trivial) ⟨bb.up (by decide), m1.up (by decide)⟩) fun u1 H7 e7 ru1 => ?_
    refine qr_asg (R := RF K) (er_call2 (er_call2 (R := RF K) (er_call2 (R := RF K) (er_var rfl (mo ((f5.trans e6).trans e7) r2)) (er_var rfl (mo (e6.trans e7) R3)) (t0 b2 bq)) (er_c (cc H7)) (t2 p2 bc)) (er_c (cc H7)) ⟨g2.up (by decide), bc.up (by decide)⟩) fun u2 H8 e8 ru2 => ?_
    have f8 : Ex H H8 := (((f2.trans e3).trans (e4.trans e5)).trans (e6.trans e7)).trans e8
    have ev4 := er_tupN (K := K) (R := RF K) (xs := [_, _, _, _]) (ers_cons (R := RF K) (er_var (s := ((((((((((((start ["point", "wide", "high", "r", "a", "b", "across", "down", "depth", "x", "y", "z", "w", "one"] [v, .int (W : Int), .int (Hh : Int)]).set 9 (some v0)).set 10 (some v1)).set 11 (some v2)).set 12 (some v3)).set 3 (some vr)).set 4 (some va)).set 5 (some vb)).set 6 (some u0)).set 7 (some u1)).set 8 (some u2)))) (i := 6) rfl (mo (e7.trans e8) ru0)) (ers_cons (R := RF K) (er_var (i := 7) rfl (mo e8 ru1)) (ers_cons (R := RF K) (er_var (i := 8) rfl ru2) (ers_cons (R := RF K) (er_call2 (R := RF K) (E := E0) (pre := fun a b => ∃ i j, Bd i a ∧ Bd j b ∧ i + j ≤ 110) (f := Si20.product) (er_var (R := RF K) (i := 3) rfl (mo ((e6.trans e7).trans e8) R3)) (er_c (cu H8)) (t3 bq bu)) ers_nil)))) (by
      rintro H' vs ⟨_, _, rfl, q1, _, _, rfl, q2, _, _, rfl, q3, _, _, rfl, q4, rfl⟩
      exact all2_cons q1 (all2_cons q2 (all2_cons q3 (all2_cons q4 All2.nil)))) (by simp)
    have en := en_lcT (K := K) (R := RI) (R0 := RF K) (vs := [13]) (j := 13) (te := tCall sp_fitting [] E0 (tCons (tCall (sp_nearest K) [] E0 (tCons (tVar 13) tNil)) tNil)) Si20.whole ev4 (by simp) (fun _ => rfl) fun i x u H9 e9 hx rx => ?_
    · refine s_retL (el_is en.ints ?_) fun q H9 hq e9 h9 => k q H9 (fresh_back f8 hq) (f8.trans e9) h9
      rfl
    · rw [whole_eq]
      refine er_call1 (er_call1 (R := RI) (er_var rfl rx) ?_) trivial
      have hm := List.mem_of_getElem? hx
      simp only [List.mem_cons, List.not_mem_nil, or_false] at hm
      rcases hm with h | h | h | h
      · rw [h]; exact s0.up (by decide)
      · rw [h]; exact s1.up (by decide)
      · rw [h]; exact s2.up (by decide)
      · rw [h]; exact g3.up (by decide)
theorem ok_placed (T : Tx K mg) (G_added : GF P w K mg base "added" 5 ["one", "other"] (sp_added K)) (G_fitting : GF P w K mg base "fitting" 1 ["number"] sp_fitting) (G_is_below : GF P w K mg base "is_below" 2 ["one", "other"] (sp_is_below K)) (G_nearest : GF P w K mg base "nearest" 4 ["single"] (sp_nearest K)) (G_opposite : GF P w K mg base "opposite" 1 ["single"] (sp_opposite K)) (G_times : GF P w K mg base "times" 5 ["one", "other"] (sp_times K)) (G_turned : GF P w K mg base "turned" 5 ["one"] (sp_turned K)) : GF P w K mg base "placed" 6 ["point", "wide", "high"] (sp_placed K) := by
  refine ⟨fn_keep (k := 5) (tt := (t_placed K)) T.d_placed sc_placed len_placed (fun _ _ _ _ _ _ us hl => match us, hl with | [_, _, _], _ => rfl) (fun cdv A outer s H E hr => ?_) (pure_placed T), T.d_placed.kp, T.g_placed⟩
  exact (pss_cons (ps_asg (pv 0) (pg_unl rfl (pgs_cons (pg_name (i := 9) sc_placed.nd rfl (.inl rfl)) (pgs_cons (pg_name (i := 10) sc_placed.nd rfl (.inl rfl)) (pgs_cons (pg_name (i := 11) sc_placed.nd rfl (.inl rfl)) (pgs_cons (pg_name (i := 12) sc_placed.nd rfl (.inl rfl)) pgs_nil))))))
    (pss_cons (ps_if (pt_val (pe_gf G_is_below (hr.mono (by decide)) rfl (pa_cons (pv 12) (pa_cons (pe_glob rfl T.g_LEAST rfl) pa_nil)))) (pss_one (ps_ret (pe_op op_rep (pe_lst (pa_cons (pe_gi rfl T.i_LOWEST_corners) pa_nil)) (pe_gi rfl T.i_FOUR)))) pss_nil)
    (pss_cons (ps_set (i := 3) sc_placed.nd rfl (.inl rfl) (pe_gf G_turned (hr.mono (by decide)) rfl (pa_cons (pv 12) pa_nil)))
    (pss_cons (ps_set (i := 4) sc_placed.nd rfl (.inl rfl) (pe_tup (pa_cons pe_int (pa_cons (pe_op op_mul pe_int (pv 1)) (pa_cons pe_int pa_nil)))))
    (pss_cons (ps_set (i := 5) sc_placed.nd rfl (.inl rfl) (pe_tup (pa_cons pe_int (pa_cons (pe_op op_mul pe_int (pv 2)) (pa_cons pe_int pa_nil)))))
    (pss_cons (ps_set (i := 6) sc_placed.nd rfl (.inl rfl) (pe_gf G_added (hr.mono (by decide)) rfl (pa_cons (pe_gf G_times (hr.mono (by decide)) rfl (pa_cons (pe_gf G_times (hr.mono (by decide)) rfl (pa_cons (pv 9) (pa_cons (pv 3) pa_nil))) (pa_cons (pv 4) pa_nil))) (pa_cons (pv 4) pa_nil))))
    (pss_cons (ps_set (i := 7) sc_placed.nd rfl (.inl rfl) (pe_gf G_added (hr.mono (by decide)) rfl (pa_cons (pv 5) (pa_cons (pe_gf G_opposite (hr.mono (by decide)) rfl (pa_cons (pe_gf G_times (hr.mono (by decide)) rfl (pa_cons (pe_gf G_times (hr.mono (by decide)) rfl (pa_cons (pv 10) (pa_cons (pv 3) pa_nil))) (pa_cons (pv 5) pa_nil))) pa_nil)) pa_nil))))
    (pss_cons (ps_set (i := 8) sc_placed.nd rfl (.inl rfl) (pe_gf G_added (hr.mono (by decide)) rfl (pa_cons (pe_gf G_times (hr.mono (by decide)) rfl (pa_cons (pe_gf G_times (hr.mono (by decide)) rfl (pa_cons (pv 11) (pa_cons (pv 3) pa_nil))) (pa_cons (pe_glob rfl T.g_HALF_DEPTH rfl) pa_nil))) (pa_cons (pe_glob rfl T.g_HALF_DEPTH rfl) pa_nil))))
    (pss_one (ps_ret (pe_lc (own := [("one", 13)]) (g := (gName 13)) (tt := tYes) rfl sc_placed.nd (pi_tup (pe_tup (pa_cons (pv 6) (pa_cons (pv 7) (pa_cons (pv 8) (pa_cons (pe_gf G_times (hr.mono (by decide)) rfl (pa_cons (pv 3) (pa_cons (pe_glob rfl T.g_UNIT rfl) pa_nil))) pa_nil)))))) (blkOk_by (N := ["point", "wide", "high", "r", "a", "b", "across", "down", "depth", "x", "y", "z", "w", "one"]) (sc := defScope s_placed) (by decide +kernel)) (fun _ _ _ _ _ => (pg_name (i := 13) sc_placed.nd rfl (.inl rfl))) (fun _ _ _ _ _ => pts_nil) (fun _ _ _ _ _ => (pe_gf G_fitting (hr.mono (by decide)) rfl (pa_cons (pe_gf G_nearest (hr.mono (by decide)) rfl (pa_cons (pv 13) pa_nil)) pa_nil))))))))))))))
theorem pure_place_all (T : Tx K mg) (vs : List V) (H : Hp) (Q : VK) (E : XK) (h : sp_place_all K vs H Q E) : t_place_all K { nx := fun _ H' => Q .non H', rt := Q } (start ["row", "wide", "high", "found", "point"] vs) H := by
  obtain ⟨v, _, _, l, w, h, rfl, rl, rfl, rfl, ⟨hl, hw, hh⟩, k⟩ := h
  have hpl : (pieces 4 (nats l)).length ≤ 1024 := Nat.le_trans (pieces_len _ (by decide)) (by rw [List.length_map]; exact hl.1)
  have hfl : ((pieces 4 (nats l)).flatMap (placedN w.toNat h.toNat)).length ≤ 4 * (pieces 4 (nats l)).length := flat_len _ _ fun x hx => by
    unfold placedN placed4
    split
    · rw [List.length_replicate]; exact Nat.le_refl _
    · exact Nat.le_refl _
  refine q_collectN (K := K) (R := RF K) (xs := pieces 4 (nats l)) (i := 3) (j := 4) (placedN w.toNat h.toNat) (fun p H1 hp e => enn_call1 (er_var rfl (mo e rl)) hl.fin) (by omega) (fun _ => rfl) (fun _ _ _ => rfl) (fun _ _ => rfl) (fun i x v p H1 e hx rx => ?_) fun p o H1 hp e h1 => ?_
  · exact el_ints (el_call3 (er_var rfl rx) (er_varI rfl) (er_varI rfl) ⟨hl.pt (List.mem_of_getElem? hx), hw, hh⟩)
  · exact sr_ret (R := RV) (er_var rfl rfl) fun v H2 e2 r => by
      cases r
      exact k p H2 hp (e.trans e2) (e2 _ _ h1)
theorem ok_place_all (T : Tx K mg) (G_placed : GF P w K mg base "placed" 6 ["point", "wide", "high"] (sp_placed K)) (G_points_of : GF P w K mg base "points_of" 2 ["row"] (sp_points_of K)) : GF P w K mg base "place_all" 7 ["row", "wide", "high"] (sp_place_all K) := by
  refine ⟨fn_keep (k := 6) (tt := (t_place_all K)) T.d_place_all sc_place_all len_place_all (fun _ _ _ _ _ _ us hl => match us, hl with | [_, _, _], _ => rfl) (fun cdv A outer s H E hr => ?_) (pure_place_all T), T.d_place_all.kp, T.g_place_all⟩
  exact (pss_cons (ps_set (i := 3) sc_place_all.nd rfl (.inl rfl) (pe_lst pa_nil))
    (pss_cons (ps_for PassesOwn.never rfl (pi_list (pe_gf G_points_of (hr.mono (by decide)) rfl (pa_cons (pv 0) pa_nil))) (pg_name (i := 4) sc_place_all.nd rfl (.inl rfl)) (pss_one (ps_expr (pe_bm PySem.F.plainAttrs_list PySem.F.slot_list_extend PySem.F.type_list_extend mt_extend (pv 3) (pa_cons (pe_gf G_placed (hr.mono (by decide)) rfl (pa_cons (pv 4) (pa_cons (pv 1) (pa_cons (pv 2) pa_nil)))) pa_nil)))))
    (pss_one (ps_ret (pv 3)))))
/-! ### lit points -/
def litByteN (n : Nat) : Int := max 0 (min 255 (Si20.whole n))
def litN (l : List (List Nat)) (p : List Nat) : List Int := (List.range 4).map fun i => litByteN (Si20.plus ((l.getD 2 []).getD i 0) (Si20.product (if Si20.above (Si20.dot (l.getD 0 []) p) 0 = true then Si20.dot (l.getD 0 []) p else 0) ((l.getD 1 []).getD i 0)))
abbrev sp_lit_byte (K : PySem.W.Frag) : Sp := sp1 (RF K) (Bd 110) RI litByteN
abbrev sp_lit (K : PySem.W.Frag) : Sp := spL2 (RL (RL (RF K))) (RL (RF K)) (fun l p => Mat 3 l ∧ Calm4 p) fun l p => vI (litN l p)
abbrev sp_light_all (K : PySem.W.Frag) : Sp := spL2 (RL (RL (RF K))) RIL (fun l r => Mat 3 l ∧ CalmRow r) fun l r => vI ((pieces 4 (nats r)).flatMap (litN l))
/-- lit_byte: 0 single, 1 number -/
def t_lit_byte (K : PySem.W.Frag) : TS :=
  (tSeq (tAsg (tCall (sp_nearest K) [] E0 (tCons (tVar 0) tNil)) (gName 1))
    (tSeq (tIfS (tOr (tTest (tOp rLtI (tVar 1) (tC (.int (-2147483648))))) (tTest (tOp rGtI (tVar 1) (tC (.int (2147483647)))))) (tRet (tC (.int 0))) tNext)
    (tRet (tCall sp_held [] E0 (tCons (tVar 1) tNil)))))
/-- lit: 0 light, 1 point, 2 much, 3 way, 4 colour, 5 without, 6 k -/
def t_lit (K : PySem.W.Frag) : TS :=
  (tSeq (tAsg (tVar 0) (gUnl K 3 (gCons (gName 3) (gCons (gName 4) (gCons (gName 5) gNil)))))
    (tSeq (tAsg (tCall (sp_products K) [] E0 (tCons (tVar 3) (tCons (tVar 1) tNil))) (gName 2))
    (tSeq (tIfS (tNot (tB (tCall (sp_is_below K) [] E0 (tCons (tC (.ref (He.ga K "NOUGHT"))) (tCons (tVar 2) tNil))))) (tAsg (tC (.ref (He.ga K "NOUGHT"))) (gName 2)) tNext)
    (tRet (tLc (iRng1 (tCons (tC (.int (4))) tNil)) (gName 6) tYes (tCall (sp_lit_byte K) [] E0 (tCons (tCall (sp_added K) [] E0 (tCons (tOp (rIxL K) (tVar 5) (tVar 6)) (tCons (tCall (sp_times K) [] E0 (tCons (tVar 2) (tCons (tOp (rIxL K) (tVar 4) (tVar 6)) tNil))) tNil))) tNil)) [6])))))
/-- light_all: 0 light, 1 row, 2 found, 3 point -/
def t_light_all (K : PySem.W.Frag) : TS :=
  (tSeq (tAsg (tLst tNil) (gName 2))
    (tSeq (tFor (iList K (tCall (sp_points_of K) [] E0 (tCons (tVar 1) tNil))) (gName 3) (tDrop (tBM K "list" rExtend (tVar 2) (tCons (tCall (sp_lit K) [] E0 (tCons (tVar 0) (tCons (tVar 3) tNil))) tNil))))
    (tRet (tVar 2))))
theorem len_lit_byte : ∀ vs H Q E, sp_lit_byte K vs H Q E → vs.length = 1 := sp1_len
theorem len_lit : ∀ vs H Q E, sp_lit K vs H Q E → vs.length = 2 := spL2_len
theorem len_light_all : ∀ vs H Q E, sp_light_all K vs H Q E → vs.length = 2 := spL2_len
theorem pure_lit_byte (T : Tx K mg) (vs : List V) (H : Hp) (Q : VK) (E : XK) (h : sp_lit_byte K vs H Q E) : t_lit_byte K { nx := fun _ H' => Q .non H', rt := Q } (start ["single", "number"] vs) H := by
  obtain ⟨v, n, rfl, rn, hn, k⟩ := h
  have k : ∀ v H', Ex H H' → RI H' v (litByteN n) → Q v H' := k
  unfold litByteN at k
  rw [whole_eq] at k
  refine qr_asgI (er_call1 (er_var rfl rn) hn) fun H1 e1 => ?_
  generalize wholeZ n = z at *
  refine q_when (by walk_at "ev") (fun c H2 e2 => ?_) fun c H2 e2 => ?_
  · have c' : z < -2147483648 ∨ 2147483647 < z := by simpa using c
    rw [if_neg (by omega)] at k
    exact sr_ret (er_is (by walk_at "ev") (by decide)) fun v H3 e3 r => k v H3 ((e1.trans e2).trans e3) r
  · have c' : ¬ (z < -2147483648 ∨ 2147483647 < z) := by simpa using c
    rw [if_pos (by omega)] at k
    refine sr_ret (er_is (by walk_at "ev") ?_) fun v H3 e3 r => k v H3 ((e1.trans e2).trans e3) r
    unfold heldM
    split <;> split <;> omega
theorem ok_lit_byte (T : Tx K mg) (G_held : GF P w K mg base "held" 1 ["number"] sp_held) (G_nearest : GF P w K mg base "nearest" 4 ["single"] (sp_nearest K)) : GF P w K mg base "lit_byte" 5 ["single"] (sp_lit_byte K) := by
  refine ⟨fn_keep (k := 4) (tt := (t_lit_byte K)) T.d_lit_byte sc_lit_byte len_lit_byte (fun _ _ _ _ _ _ us hl => match us, hl with | [_], _ => rfl) (fun cdv A outer s H E hr => ?_) (pure_lit_byte T), T.d_lit_byte.kp, T.g_lit_byte⟩
  exact (pss_cons (ps_set (i := 1) sc_lit_byte.nd rfl (.inl rfl) (pe_gf G_nearest (hr.mono (by decide)) rfl (pa_cons (pv 0) pa_nil)))
    (pss_cons (ps_if (PW.pt (pw_or (pt_cmpR op_lt (pv 1) (pe_gi rfl T.i_LOWEST_corners) (nomark _)) (pw_or1 (pt_cmpR op_gt (pv 1) (pe_gi rfl T.i_HIGHEST) (nomark _))))) (pss_one (ps_ret pe_int)) pss_nil)
    (pss_one (ps_ret (pe_gf G_held (hr.mono (by decide)) rfl (pa_cons (pv 1) pa_nil))))))
theorem pure_lit (T : Tx K mg) (vs : List V) (H : Hp) (Q : VK) (E : XK) (h : sp_lit K vs H Q E) : t_lit K { nx := fun _ H' => Q .non H', rt := Q } (start ["light", "point", "much", "way", "colour", "without", "k"] vs) H := by
  obtain ⟨v1, v2, l, p, rfl, rl, rp, ⟨⟨hl, hm⟩, hp⟩, k⟩ := h
  match l, hl with
  | [a, b, c], _ =>
  have ca : Calm4 a := hm a (by simp)
  have cb : Calm4 b := hm b (by simp)
  have cc : Calm4 c := hm c (by simp)
  have k : ∀ q H', H q = none → Ex H H' → H' q = some (.lst (vI ((List.range 4).map fun i => litByteN (Si20.plus (c.getD i 0) (Si20.product (if Si20.above (Si20.dot a p) 0 = true then Si20.dot a p else 0) (b.getD i 0)))))) → Q (.ref q) H' := k
  refine qr_unl (K := K) (er_var rfl rl) rfl fun ws H1 e1 rw => ?_
  match ws, rw.1 with
  | [u0, u1, u2], _ =>
  have r0 : RL (RF K) H1 u0 a := rw.2 0 _ _ rfl rfl
  have r1 : RL (RF K) H1 u1 b := rw.2 1 _ _ rfl rfl
  have r2 : RL (RF K) H1 u2 c := rw.2 2 _ _ rfl rfl
  refine ⟨u0, _, rfl, u1, _, rfl, u2, _, rfl, rfl, ?_⟩
  have bd := dot_bd ca.2 hp.2
  refine qr_asg (er_call2 (R := RF K) (er_var rfl r0) (er_var rfl (mo e1 rp)) ⟨ca, hp⟩) fun vd H2 e2 rd => ?_
  generalize Si20.dot a p = dd at *
  have cn : ∀ H', RF K H' (.ref (He.ga K "NOUGHT")) 0 := fun H' => rf_const T.t_NOUGHT rep_nought
  have fin : ∀ (vk : V) (n : Nat) H3, Ex H2 H3 → RF K H3 vk n → Bd 62 n → n = (if Si20.above dd 0 = true then dd else 0) → tRet (tLc (iRng1 (tCons (tC (.int (4))) tNil)) (gName 6) tYes (tCall (sp_lit_byte K) [] E0 (tCons (tCall (sp_added K) [] E0 (tCons (tOp (rIxL K) (tVar 5) (tVar 6)) (tCons (tCall (sp_times K) [] E0 (tCons (tVar 2) (tCons (tOp (rIxL K) (tVar 4) (tVar 6)) tNil))) tNil))) tNil)) [6])
      { nx := fun _ H' => Q .non H', rt := Q } [some v1, some v2, some vk, some u0, some u1, some u2, none] H3 := by
    intro vk n H3 e3 rk hk hn
    rw [← hn] at k
    refine s_retL (el_is (EvN.ints (en_lcR (R := RI) (n := 4) (fun i => litByteN (Si20.plus (c.getD i 0) (Si20.product n (b.getD i 0)))) (by walk_at "ev") (by decide) (by decide) (fun _ => rfl) fun i H4 e4 hi => ?_)) rfl) fun q H4 hq e4 h4 => k q H4 (fresh_back ((e1.trans e2).trans e3) hq) (((e1.trans e2).trans e3).trans e4) h4
    have i4 : i < 4 := by omega
    have lb := cb.1
    have lc := cc.1
    have pb := prod_bd (i := 62) (j := 30) hk (cb.2 i) (by decide)
    have sb := plus_bd (k := 92) ((cc.2 i).up (by decide)) pb (by decide)
    exact er_call1 (R := RI) (er_call2 (R := RF K) (er_ixFI (er_var rfl (mo ((e2.trans e3).trans e4) r2)) (er_varI rfl) (by omega) rfl) (er_call2 (R := RF K) (er_var rfl (mo e4 rk)) (er_ixFI (er_var rfl (mo ((e2.trans e3).trans e4) r1)) (er_varI rfl) (by omega) rfl) ⟨62, 30, hk, cb.2 i, by decide⟩) ⟨(cc.2 i).up (by decide), pb.up (by decide)⟩) (sb.up (by decide))
  have ht := er_call2 (R := RB) (E := E0) (pre := fun a b => Bd 110 a ∧ Bd 110 b) (f := fun a b => decide (Si20.value a < Si20.value b)) (er_c (s := [some v1, some v2, some vd, some u0, some u1, some u2, none]) (cn H2)) (er_var (R := RF K) (i := 2) rfl rd) ⟨bd_zero 110, bd.up (by decide)⟩
  refine q_when (et_not (et_b ht)) (fun cz H3 e3 => ?_) fun cz H3 e3 => ?_
  · refine sr_asg (er_c (cn H3)) fun vk H4 e4 rk => fin vk 0 H4 (e3.trans e4) rk (bd_zero 62) ?_
    have : Si20.above dd 0 = false := by
      have : (!Si20.above dd 0) = true := cz
      simpa using this
    rw [this, if_neg (by decide)]
  · refine fin vd dd H3 e3 (mo e3 rd) bd ?_
    have : Si20.above dd 0 = true := by
      have : (!Si20.above dd 0) = false := cz
      simpa using this
    rw [this, if_pos rfl]
theorem ok_lit (T : Tx K mg) (G_added : GF P w K mg base "added" 5 ["one", "other"] (sp_added K)) (G_is_below : GF P w K mg base "is_below" 2 ["one", "other"] (sp_is_below K)) (G_lit_byte : GF P w K mg base "lit_byte" 5 ["single"] (sp_lit_byte K)) (G_products : GF P w K mg base "products" 6 ["row", "point"] (sp_products K)) (G_times : GF P w K mg base "times" 5 ["one", "other"] (sp_times K)) : GF P w K mg base "lit" 7 ["light", "point"] (sp_lit K) := by
  refine ⟨fn_keep (k := 6) (tt := (t_lit K)) T.d_lit sc_lit len_lit (fun _ _ _ _ _ _ us hl => match us, hl with | [_, _], _ => rfl) (fun cdv A outer s H E hr => ?_) (pure_lit T), T.d_lit.kp, T.g_lit⟩
  exact (pss_cons (ps_asg (pv 0) (pg_unl rfl (pgs_cons (pg_name (i := 3) sc_lit.nd rfl (.inl rfl)) (pgs_cons (pg_name (i := 4) sc_lit.nd rfl (.inr rfl)) (pgs_cons (pg_name (i := 5) sc_lit.nd rfl (.inr rfl)) pgs_nil)))))
    (pss_cons (ps_set (i := 2) sc_lit.nd rfl (.inr rfl) (pe_gf G_products (hr.mono (by decide)) rfl (pa_cons (pv 3) (pa_cons (pv 1) pa_nil))))
    (pss_cons (ps_if (pt_not (pt_val (pe_gf G_is_below (hr.mono (by decide)) rfl (pa_cons (pe_glob rfl T.g_NOUGHT rfl) (pa_cons (pv 2) pa_nil))))) (pss_one (ps_set (i := 2) sc_lit.nd rfl (.inr rfl) (pe_glob rfl T.g_NOUGHT rfl))) pss_nil)
    (pss_one (ps_ret (pe_lc (own := [("k", 6)]) (g := (gName 6)) (tt := tYes) rfl sc_lit.nd (pi_range1 rfl T.f_range (pa_cons (pe_gi rfl T.i_FOUR) pa_nil)) (blkOk_by (N := ["light", "point", "much", "way", "colour", "without", "k"]) (sc := defScope s_lit) (by decide +kernel)) (fun _ _ _ _ _ => (pg_name (i := 6) sc_lit.nd rfl (.inl rfl))) (fun _ _ _ _ _ => pts_nil) (fun _ _ _ _ _ => (pe_gf G_lit_byte (hr.mono (by decide)) rfl (pa_cons (pe_gf G_added (hr.mono (by decide)) rfl (pa_cons (pe_ix ix_list (pv 5) (pv 6) (fun _ _ => rfl)) (pa_cons (pe_gf G_times (hr.mono (by decide)) rfl (pa_cons (pv 2) (pa_cons (pe_ix ix_list (pv 4) (pv 6) (fun _ _ => rfl)) pa_nil))) pa_nil))) pa_nil)))))))))
theorem pure_light_all (T : Tx K mg) (vs : List V) (H : Hp) (Q : VK) (E : XK) (h : sp_light_all K vs H Q E) : t_light_all K { nx := fun _ H' => Q .non H', rt := Q } (start ["light", "row", "found", "point"] vs) H := by
  obtain ⟨v, v2, m, l, rfl, rm, rl, ⟨hm, hl⟩, k⟩ := h
  have hpl : (pieces 4 (nats l)).length ≤ 1024 := Nat.le_trans (pieces_len _ (by decide)) (by rw [List.length_map]; exact hl.1)
  have hfl : ((pieces 4 (nats l)).flatMap (litN m)).length ≤ 4 * (pieces 4 (nats l)).length := flat_len _ _ fun x hx => by
    unfold litN
    rw [List.length_map, List.length_range]
    exact Nat.le_refl _
  refine q_collectN (K := K) (R := RF K) (xs := pieces 4 (nats l)) (i := 2) (j := 3) (litN m) (fun p H1 hp e => enn_call1 (er_var rfl (mo e rl)) hl.fin) (by omega) (fun _ => rfl) (fun _ _ _ => rfl) (fun _ _ => rfl) (fun i x v p H1 e hx rx => ?_) fun p o H1 hp e h1 => ?_
  · exact el_ints (el_call2 (er_var rfl (mo e rm)) (er_var rfl rx) ⟨hm, hl.pt (List.mem_of_getElem? hx)⟩)
  · exact sr_ret (R := RV) (er_var rfl rfl) fun v H2 e2 r => by
      cases r
      exact k p H2 hp (e.trans e2) (e2 _ _ h1)
theorem ok_light_all (T : Tx K mg) (G_lit : GF P w K mg base "lit" 7 ["light", "point"] (sp_lit K)) (G_points_of : GF P w K mg base "points_of" 2 ["row"] (sp_points_of K)) : GF P w K mg base "light_all" 8 ["light", "row"] (sp_light_all K) := by
  refine ⟨fn_keep (k := 7) (tt := (t_light_all K)) T.d_light_all sc_light_all len_light_all (fun _ _ _ _ _ _ us hl => match us, hl with | [_, _], _ => rfl) (fun cdv A outer s H E hr => ?_) (pure_light_all T), T.d_light_all.kp, T.g_light_all⟩
  exact (pss_cons (ps_set (i := 2) sc_light_all.nd rfl (.inl rfl) (pe_lst pa_nil))
    (pss_cons (ps_for PassesOwn.never rfl (pi_list (pe_gf G_points_of (hr.mono (by decide)) rfl (pa_cons (pv 1) pa_nil))) (pg_name (i := 3) sc_light_all.nd rfl (.inl rfl)) (pss_one (ps_expr (pe_bm PySem.F.plainAttrs_list PySem.F.slot_list_extend PySem.F.type_list_extend mt_extend (pv 2) (pa_cons (pe_gf G_lit (hr.mono (by decide)) rfl (pa_cons (pv 0) (pa_cons (pv 3) pa_nil))) pa_nil)))))
    (pss_one (ps_ret (pv 2)))))
end
end Sd
end

section
set_option Elab.async false
set_option linter.all false
set_option maxRecDepth 100000
set_option maxHeartbeats 4000000
/-! ## 8. How a drawer lies in the heap -/
namespace Sd
open PySem PySem.Spec PyProof.Rows L2 Evl
open Si20 (Px)

def pxI (p : Px) : List Int := [(p.b : Int), (p.g : Int), (p.r : Int), (p.a : Int)]
abbrev pxV (p : Px) : List V := vI (pxI p)
abbrev Tags := Addr → Option (Nat × Nat)
abbrev Un_ (tg : Tags) : Addr → Prop := fun b => tg b = none
def RPx (A : Addr → Prop) : Rel Px := fun H v q => ∃ p, v = .ref p ∧ A p ∧ H p = some (.lst (pxV q))
instance {A : Addr → Prop} : Mo (RPx A) := ⟨fun e ⟨p, h1, h2, h3⟩ => ⟨p, h1, h2, e _ _ h3⟩⟩
def RTex (A : Addr → Prop) : Rel (Option (Array Px)) := fun H v o => match o with
  | none => v = .non
  | some l => RLn A (RPx A) H v l.toList
instance {A : Addr → Prop} : Mo (RTex A) := ⟨fun {H H' v x} e h => by
  cases x with
  | none => exact h
  | some l => exact (mo (R := RLn A (RPx A)) e h : RLn A (RPx A) H' v l.toList)⟩
/-- no two alike -/
def Dis (l : List V) : Prop := ∀ (m n : Nat) x, l[m]? = some x → l[n]? = some x → m = n
/-- where the parts of a drawer stand -/
structure DA where
  dx : Addr
  ap : Addr
  ad : Addr
  at_ : Addr
  vs : List V
  ts : List V
  fog : V
  mat : V
  lig : V
def dF (w h : Nat) (D : DA) : List (Str × V) := [("wide", .int (w : Int)), ("high", .int (h : Int)), ("pixels", .ref D.ap), ("depths", .ref D.ad), ("textures", .ref D.at_), ("fog", D.fog), ("matrix", D.mat), ("light", D.lig)]
/-- what holds of a drawer's state -/
structure Wf (s : Si20.St) : Prop where
  w1 : 8 ≤ s.w
  w2 : s.w ≤ 128
  w3 : s.w % 8 = 0
  h1 : 8 ≤ s.h
  h2 : s.h ≤ 128
  h3 : s.h % 8 = 0
  px : s.pixels.size = s.w * s.h
  dp : s.depths.size = s.w * s.h
  tx : s.textures.length = 8
  ts : ∀ l, some l ∈ s.textures → l.size = 4096 ∧ ∀ q ∈ l.toList, q.Ok
  po : ∀ q ∈ s.pixels.toList, q.Ok
  fo : s.fog.Ok
  m1 : s.matrix.length = 16
  m2 : ∀ n ∈ s.matrix, Si20.calm n = true
  l1 : s.light.length = 12
  l2 : ∀ n ∈ s.light, Si20.calm n = true
/-- tags: whose and which part; what is tagged is a list or an instance -/
def TagOk (tg : Tags) (H : Hp) : Prop := ∀ b t, tg b = some t → (∃ xs, H b = some (.lst xs)) ∨ ∃ C dx fs, H b = some (.ins C dx fs)
structure Dr (K : PySem.W.Frag) (C : Addr) (tg : Tags) (d : Nat) (H : Hp) (a : Addr) (D : DA) (s : Si20.St) : Prop where
  ins : H a = some (.ins C D.dx (dF s.w s.h D))
  ta : tg a = some (d, 0)
  px : H D.ap = some (.lst D.vs)
  tp : tg D.ap = some (d, 1)
  pxs : All2 (RPx (fun b => tg b = some (d, 4)) H) D.vs s.pixels.toList
  nd : Dis D.vs
  dp : H D.ad = some (.lst (s.depths.toList.map fun (n : Nat) => V.int (n : Int)))
  td : tg D.ad = some (d, 2)
  tx : H D.at_ = some (.lst D.ts)
  tt : tg D.at_ = some (d, 3)
  txs : All2 (RTex (Un_ tg) H) D.ts s.textures
  fg : RPx (Un_ tg) H D.fog s.fog
  mt : RLn (Un_ tg) (RLn (Un_ tg) (RF K)) H D.mat (pieces 4 s.matrix)
  lt : RLn (Un_ tg) (RLn (Un_ tg) (RF K)) H D.lig (pieces 4 s.light)
  wf : Wf s
theorem Dr.mono {K : PySem.W.Frag} {C : Addr} {tg : Tags} {d : Nat} {H H' : Hp} {a : Addr} {D : DA} {s : Si20.St} (x : Dr K C tg d H a D s) (e : Ex H H') : Dr K C tg d H' a D s :=
  ⟨e _ _ x.ins, x.ta, e _ _ x.px, x.tp, x.pxs.mono fun _ _ => mo e, x.nd, e _ _ x.dp, x.td, e _ _ x.tx, x.tt, x.txs.mono fun _ _ => mo e, mo e x.fg, mo e x.mt, mo e x.lt, x.wf⟩
/-- a drawer to be read -/
def RD (K : PySem.W.Frag) (C : Addr) : Rel Si20.St := fun H v s => ∃ tg d a D, v = .ref a ∧ Dr K C tg d H a D s
instance {K : PySem.W.Frag} {C : Addr} : Mo (RD K C) := ⟨fun e ⟨tg, d, a, D, h1, h2⟩ => ⟨tg, d, a, D, h1, h2.mono e⟩⟩

/-! ### the attributes -/
theorem lk_here {k : Str} {v : V} {r : List (Str × V)} : List.lookup k ((k, v) :: r) = some v := by
  have e : (k == k) = true := beq_self_eq_true k
  simp only [List.lookup, e]
theorem lk_past {k g : Str} {v : V} {r : List (Str × V)} (h : (k == g) = false) : List.lookup k ((g, v) :: r) = List.lookup k r := by
  simp only [List.lookup, h]
theorem put_here {f : Str} {v x : V} {r : List (Str × V)} : putF f v ((f, x) :: r) = (f, v) :: r := if_pos rfl
theorem put_past {f g : Str} {v x : V} {r : List (Str × V)} (h : ¬ g = f) : putF f v ((g, x) :: r) = (g, x) :: putF f v r := if_neg h
section
variable {w h : Nat} {D : DA}
theorem lk_wide : (dF w h D).lookup ("wide" : Str) = some (.int (w : Int)) := lk_here
theorem lk_high : (dF w h D).lookup ("high" : Str) = some (.int (h : Int)) := (lk_past (by decide +kernel)).trans lk_here
theorem lk_pixels : (dF w h D).lookup ("pixels" : Str) = some (.ref D.ap) := (lk_past (by decide +kernel)).trans ((lk_past (by decide +kernel)).trans lk_here)
theorem lk_depths : (dF w h D).lookup ("depths" : Str) = some (.ref D.ad) := (lk_past (by decide +kernel)).trans ((lk_past (by decide +kernel)).trans ((lk_past (by decide +kernel)).trans lk_here))
theorem lk_textures : (dF w h D).lookup ("textures" : Str) = some (.ref D.at_) := (lk_past (by decide +kernel)).trans ((lk_past (by decide +kernel)).trans ((lk_past (by decide +kernel)).trans ((lk_past (by decide +kernel)).trans lk_here)))
theorem lk_fog : (dF w h D).lookup ("fog" : Str) = some D.fog := (lk_past (by decide +kernel)).trans ((lk_past (by decide +kernel)).trans ((lk_past (by decide +kernel)).trans ((lk_past (by decide +kernel)).trans ((lk_past (by decide +kernel)).trans lk_here))))
theorem lk_matrix : (dF w h D).lookup ("matrix" : Str) = some D.mat := (lk_past (by decide +kernel)).trans ((lk_past (by decide +kernel)).trans ((lk_past (by decide +kernel)).trans ((lk_past (by decide +kernel)).trans ((lk_past (by decide +kernel)).trans ((lk_past (by decide +kernel)).trans lk_here)))))
theorem lk_light : (dF w h D).lookup ("light" : Str) = some D.lig := (lk_past (by decide +kernel)).trans ((lk_past (by decide +kernel)).trans ((lk_past (by decide +kernel)).trans ((lk_past (by decide +kernel)).trans ((lk_past (by decide +kernel)).trans ((lk_past (by decide +kernel)).trans ((lk_past (by decide +kernel)).trans lk_here))))))
def fieldNames : List Str := ["wide", "high", "pixels", "depths", "textures", "fog", "matrix", "light"]
/-- a method's name is none of them -/
theorem lk_none {m : Str} (hm : fieldNames.all (fun f => !(m == f)) = true) : (dF w h D).lookup m = none := by
  have g : ∀ f ∈ fieldNames, (m == f) = false := fun f hf => by
    have := List.all_eq_true.mp hm f hf
    simpa using this
  unfold dF
  rw [lk_past (g _ (by simp [fieldNames])), lk_past (g _ (by simp [fieldNames])), lk_past (g _ (by simp [fieldNames])), lk_past (g _ (by simp [fieldNames])), lk_past (g _ (by simp [fieldNames])), lk_past (g _ (by simp [fieldNames])), lk_past (g _ (by simp [fieldNames])), lk_past (g _ (by simp [fieldNames]))]
  rfl
end
abbrev dC (K : PySem.W.Frag) : Addr := He.ga K "Drawer"
section
variable {K : PySem.W.Frag} {mg : Str → Option Value} {s : L2.St} {H : Hp} {ta tb tc td te : TE} {st : Si20.St}
theorem er_fld {a : Type} {R : Rel a} {x : a} {f : Str} (T : Tx K mg) (ha : EvR (RD K (dC K)) ta s H st) (hn : NoAttr K (dC K) f) (k : ∀ H' tg d a D, Dr K (dC K) tg d H' a D st → ∃ v, (dF st.w st.h D).lookup f = some v ∧ R H' v x) : EvR R (tFld K ta f) s H x := fun H1 e Q q =>
  ha H1 e _ fun v H2 e2 ⟨tg, d, a, D, r1, r2⟩ => by
    obtain ⟨u, h1, h2⟩ := k H2 tg d a D r2
    exact ⟨a, _, D.dx, _, u, r1, r2.ins, T.cl, hn, h1, q _ H2 e2 h2⟩
theorem er_wide (T : Tx K mg) (ha : EvR (RD K (dC K)) ta s H st) : EvR RI (tFld K ta "wide") s H (st.w : Int) := er_fld T ha T.n_wide fun _ _ _ _ _ _ => ⟨_, lk_wide, rfl⟩
theorem er_high (T : Tx K mg) (ha : EvR (RD K (dC K)) ta s H st) : EvR RI (tFld K ta "high") s H (st.h : Int) := er_fld T ha T.n_high fun _ _ _ _ _ _ => ⟨_, lk_high, rfl⟩
theorem rpx_il {A : Addr → Prop} {H : Hp} {v : V} {q : Px} (h : RPx A H v q) : RIL H v (pxI q) := by
  obtain ⟨p, h1, _, h3⟩ := h
  exact ⟨p, h1, h3⟩
theorem all2_map {a b c : Type} {Q : a → b → Prop} {P : a → c → Prop} {l : List a} {m : List b} {f : b → c} (h : All2 Q l m) (k : ∀ x y, Q x y → P x (f y)) : All2 P l (m.map f) := ⟨by rw [List.length_map]; exact h.1, fun i x y hx hy => by
  rw [List.getElem?_map] at hy
  cases e : m[i]? with
  | none => rw [e] at hy; cases hy
  | some z =>
    rw [e] at hy
    cases hy
    exact k x z (h.2 i x z hx e)⟩
def pxsI (s : Si20.St) : List (List Int) := s.pixels.toList.map pxI
theorem er_pixels (T : Tx K mg) (ha : EvR (RD K (dC K)) ta s H st) : EvR (RL RIL) (tFld K ta "pixels") s H (pxsI st) := er_fld T ha T.n_pixels fun _ _ _ _ D x => ⟨_, lk_pixels, D.ap, _, rfl, trivial, x.px, all2_map x.pxs fun _ _ => rpx_il⟩
theorem er_depths (T : Tx K mg) (ha : EvR (RD K (dC K)) ta s H st) : EvR RIL (tFld K ta "depths") s H (st.depths.toList.map fun (n : Nat) => (n : Int)) := er_fld T ha T.n_depths fun _ _ _ _ D x => ⟨_, lk_depths, D.ad, rfl, by rw [x.dp, List.map_map]; rfl⟩
/-- a texture as it is read -/
def RTx : Rel (Option (List (List Int))) := fun H v o => match o with
  | none => v = .non
  | some l => RL RIL H v l
instance : Mo RTx := ⟨fun {H H' v x} e h => by
  cases x with
  | none => exact h
  | some l => exact (mo (R := RL RIL) e h : RL RIL H' v l)⟩
def txsI (s : Si20.St) : List (Option (List (List Int))) := s.textures.map fun o => o.map fun l => l.toList.map pxI
theorem rtex_rtx {A : Addr → Prop} {H : Hp} {v : V} {o : Option (Array Px)} (h : RTex A H v o) : RTx H v (o.map fun l => l.toList.map pxI) := by
  cases o with
  | none => exact h
  | some l =>
    obtain ⟨p, vs, h1, _, h2, h3⟩ := (show RLn A (RPx A) H v l.toList from h)
    exact (⟨p, vs, h1, trivial, h2, all2_map h3 fun _ _ => rpx_il⟩ : RL RIL H v (l.toList.map pxI))
theorem er_textures (T : Tx K mg) (ha : EvR (RD K (dC K)) ta s H st) : EvR (RL RTx) (tFld K ta "textures") s H (txsI st) := er_fld T ha T.n_textures fun _ _ _ _ D x => ⟨_, lk_textures, D.at_, _, rfl, trivial, x.tx, all2_map x.txs fun _ _ => rtex_rtx⟩
theorem er_fog (T : Tx K mg) (ha : EvR (RD K (dC K)) ta s H st) : EvR RIL (tFld K ta "fog") s H (pxI st.fog) := er_fld T ha T.n_fog fun _ _ _ _ D x => ⟨_, lk_fog, rpx_il x.fg⟩
theorem er_matrix (T : Tx K mg) (ha : EvR (RD K (dC K)) ta s H st) : EvR (RL (RL (RF K))) (tFld K ta "matrix") s H (pieces 4 st.matrix) := er_fld T ha T.n_matrix fun _ _ _ _ D x => ⟨_, lk_matrix, x.mt.imp (fun _ _ => trivial) fun _ _ h => h.any⟩
theorem er_light (T : Tx K mg) (ha : EvR (RD K (dC K)) ta s H st) : EvR (RL (RL (RF K))) (tFld K ta "light") s H (pieces 4 st.light) := er_fld T ha T.n_light fun _ _ _ _ D x => ⟨_, lk_light, x.lt.imp (fun _ _ => trivial) fun _ _ h => h.any⟩
/-! ### methods that only read -/
theorem er_meth1 {b c : Type} {R1 : Rel b} {R : Rel c} {E : XK} {x : b} {m : Str} {pre : Si20.St → b → Prop} {f : Si20.St → b → c} (hm : fieldNames.all (fun f => !(m == f)) = true) (h0 : EvR (RD K (dC K)) ta s H st) (h1 : EvR R1 tb s H x) (hp : pre st x) :
    EvR R (tMeth (dC K) m (sp2 (RD K (dC K)) R1 pre R f) [] E ta (tCons tb tNil)) s H (f st x) := fun H1 e Q q =>
  h0 H1 e _ fun v H2 e2 r => by
    obtain ⟨tg, d, a, D, r1, r2⟩ := id r
    exact ⟨a, D.dx, _, r1, r2.ins, lk_none hm, h1 H2 (e.trans e2) _ fun v1 H3 e3 q1 => ⟨v, v1, st, x, rfl, mo e3 r, q1, hp, fun w H4 e4 r4 => q w H4 ((e2.trans e3).trans e4) r4⟩⟩
theorem er_meth2 {b b2 c : Type} {R1 : Rel b} {R2 : Rel b2} [Mo R1] {R : Rel c} {E : XK} {x : b} {y : b2} {m : Str} {pre : Si20.St → b → b2 → Prop} {f : Si20.St → b → b2 → c} (hm : fieldNames.all (fun f => !(m == f)) = true) (h0 : EvR (RD K (dC K)) ta s H st) (h1 : EvR R1 tb s H x) (h2 : EvR R2 tc s H y) (hp : pre st x y) :
    EvR R (tMeth (dC K) m (sp3 (RD K (dC K)) R1 R2 pre R f) [] E ta (tCons tb (tCons tc tNil))) s H (f st x y) := fun H1 e Q q =>
  h0 H1 e _ fun v H2 e2 r => by
    obtain ⟨tg, d, a, D, r1, r2⟩ := id r
    exact ⟨a, D.dx, _, r1, r2.ins, lk_none hm, h1 H2 (e.trans e2) _ fun v1 H3 e3 q1 => h2 H3 ((e.trans e2).trans e3) _ fun v2 H4 e4 q2 => ⟨v, v1, v2, st, x, y, rfl, mo (e3.trans e4) r, mo e4 q1, q2, hp, fun w H5 e5 r5 => q w H5 (((e2.trans e3).trans e4).trans e5) r5⟩⟩
theorem er_meth3 {b b2 b3 c : Type} {R1 : Rel b} {R2 : Rel b2} {R3 : Rel b3} [Mo R1] [Mo R2] {R : Rel c} {E : XK} {x : b} {y : b2} {z : b3} {m : Str} {pre : Si20.St → b → b2 → b3 → Prop} {f : Si20.St → b → b2 → b3 → c} (hm : fieldNames.all (fun f => !(m == f)) = true) (h0 : EvR (RD K (dC K)) ta s H st) (h1 : EvR R1 tb s H x) (h2 : EvR R2 tc s H y) (h3 : EvR R3 td s H z) (hp : pre st x y z) :
    EvR R (tMeth (dC K) m (sp4 (RD K (dC K)) R1 R2 R3 pre R f) [] E ta (tCons tb (tCons tc (tCons td tNil)))) s H (f st x y z) := fun H1 e Q q =>
  h0 H1 e _ fun v H2 e2 r => by
    obtain ⟨tg, d, a, D, r1, r2⟩ := id r
    exact ⟨a, D.dx, _, r1, r2.ins, lk_none hm, h1 H2 (e.trans e2) _ fun v1 H3 e3 q1 => h2 H3 ((e.trans e2).trans e3) _ fun v2 H4 e4 q2 => h3 H4 (((e.trans e2).trans e3).trans e4) _ fun v3 H5 e5 q3 => ⟨v, v1, v2, v3, st, x, y, z, rfl, mo ((e3.trans e4).trans e5) r, mo (e4.trans e5) q1, mo e5 q2, q3, hp, fun w H6 e6 r6 => q w H6 ((((e2.trans e3).trans e4).trans e5).trans e6) r6⟩⟩
/-- new lists -/
theorem el_meth0 {E : XK} {m : Str} {pre : Si20.St → Prop} {f : Si20.St → List V} (hm : fieldNames.all (fun f => !(m == f)) = true) (h0 : EvR (RD K (dC K)) ta s H st) (hp : pre st) :
    EvL (tMeth (dC K) m (spL1 (RD K (dC K)) pre f) [] E ta tNil) s H (f st) := fun H1 e Q q =>
  h0 H1 e _ fun v H2 e2 r => by
    obtain ⟨tg, d, a, D, r1, r2⟩ := id r
    exact ⟨a, D.dx, _, r1, r2.ins, lk_none hm, v, st, rfl, r, hp, fun p H3 hp e3 r3 => q p H3 (fresh_back e2 hp) (e2.trans e3) r3⟩
theorem el_meth1 {b : Type} {R1 : Rel b} {E : XK} {x : b} {m : Str} {pre : Si20.St → b → Prop} {f : Si20.St → b → List V} (hm : fieldNames.all (fun f => !(m == f)) = true) (h0 : EvR (RD K (dC K)) ta s H st) (h1 : EvR R1 tb s H x) (hp : pre st x) :
    EvL (tMeth (dC K) m (spL2 (RD K (dC K)) R1 pre f) [] E ta (tCons tb tNil)) s H (f st x) := fun H1 e Q q =>
  h0 H1 e _ fun v H2 e2 r => by
    obtain ⟨tg, d, a, D, r1, r2⟩ := id r
    exact ⟨a, D.dx, _, r1, r2.ins, lk_none hm, h1 H2 (e.trans e2) _ fun v1 H3 e3 q1 => ⟨v, v1, st, x, rfl, mo e3 r, q1, hp, fun p H4 hp e4 r4 => q p H4 (fresh_back (e2.trans e3) hp) ((e2.trans e3).trans e4) r4⟩⟩
theorem el_meth2 {b b2 : Type} {R1 : Rel b} {R2 : Rel b2} [Mo R1] {E : XK} {x : b} {y : b2} {m : Str} {pre : Si20.St → b → b2 → Prop} {f : Si20.St → b → b2 → List V} (hm : fieldNames.all (fun f => !(m == f)) = true) (h0 : EvR (RD K (dC K)) ta s H st) (h1 : EvR R1 tb s H x) (h2 : EvR R2 tc s H y) (hp : pre st x y) :
    EvL (tMeth (dC K) m (spL3 (RD K (dC K)) R1 R2 pre f) [] E ta (tCons tb (tCons tc tNil))) s H (f st x y) := fun H1 e Q q =>
  h0 H1 e _ fun v H2 e2 r => by
    obtain ⟨tg, d, a, D, r1, r2⟩ := id r
    exact ⟨a, D.dx, _, r1, r2.ins, lk_none hm, h1 H2 (e.trans e2) _ fun v1 H3 e3 q1 => h2 H3 ((e.trans e2).trans e3) _ fun v2 H4 e4 q2 => ⟨v, v1, v2, st, x, y, rfl, mo (e3.trans e4) r, mo e4 q1, q2, hp, fun p H5 hp e5 r5 => q p H5 (fresh_back ((e2.trans e3).trans e4) hp) (((e2.trans e3).trans e4).trans e5) r5⟩⟩
end
end Sd
end

section
set_option Elab.async false
set_option linter.all false
set_option maxRecDepth 100000
set_option maxHeartbeats 400000
/-! ## 9. drawers.py: what only reads -/
namespace Sd
open PySem PySem.Spec PyProof.Rows L2 Evl
open Si20 (Px)
local macro_rules | `(tactic| walk_at "ev") => `(tactic| first
  | with_reducible exact er_cI
  | focus ((with_reducible apply er_varI); with_unfolding_all rfl)
  | focus ((with_reducible apply er_var); all_goals first | with_unfolding_all rfl | assumption)
  | focus ((with_reducible apply er_op0); all_goals walk_at "ev")
  | focus ((with_reducible apply er_op); all_goals walk_at "ev")
  | focus ((with_reducible apply er_neg); all_goals walk_at "ev")
  | focus ((with_reducible apply er_max); all_goals walk_at "ev")
  | focus ((with_reducible apply er_min); all_goals walk_at "ev")
  | focus ((with_reducible apply er_abs); all_goals walk_at "ev")
  | focus ((with_reducible apply er_intB); all_goals walk_at "ev")
  | focus ((with_reducible apply er_bits); all_goals walk_at "ev")
  | focus ((with_reducible apply er_ixD); all_goals walk_at "ev")
  | focus ((with_reducible apply er_call1); all_goals walk_at "ev")
  | focus ((with_reducible apply er_call2); all_goals walk_at "ev")
  | focus ((with_reducible apply er_call3); all_goals walk_at "ev")
  | focus ((with_reducible apply er_call4); all_goals walk_at "ev")
  | focus ((with_reducible apply er_eq); all_goals walk_at "ev")
  | focus ((with_reducible apply er_ne); all_goals walk_at "ev")
  | focus ((with_reducible apply er_cmp); all_goals walk_at "ev")
  | focus ((with_reducible apply er_chain); all_goals walk_at "ev")
  | focus ((with_reducible apply er_andU); all_goals walk_at "ev")
  | focus ((with_reducible apply er_orU); all_goals walk_at "ev")
  | focus ((with_reducible apply et_t); all_goals walk_at "ev")
  | focus ((with_reducible apply et_b); all_goals walk_at "ev")
  | focus ((with_reducible apply et_andU); all_goals walk_at "ev")
  | focus ((with_reducible apply et_orU); all_goals walk_at "ev")
  | focus ((with_reducible apply Evl.et_not); all_goals walk_at "ev")
  | walk_at "side")
local macro_rules | `(tactic| walk_at "evr") => `(tactic| (refine er_is (by walk_at "ev") (by with_unfolding_all rfl)))
local macro_rules | `(tactic| walk_at "side") => `(tactic| first
  | assumption
  | exact True.intro
  | exact cdiv_ok (by decide) (by decide)
  | exact cmul_l (by omega) (by omega)
  | exact cmul_r (by omega) (by omega)
  | omega
  | decide
  | (dsimp only; done)
  | (dsimp only; first | assumption | omega | decide)
  | (constructor <;> assumption))
local macro_rules | `(tactic| walk_at "ev") => `(tactic| first
  | focus ((with_reducible apply er_s0); all_goals walk_at "ev")
  | focus ((with_reducible apply er_s1); all_goals walk_at "ev")
  | focus ((with_reducible apply er_s2); all_goals walk_at "ev")
  | focus ((with_reducible apply er_tupS); all_goals walk_at "ev")
  | focus ((with_reducible apply er_tupI2); all_goals walk_at "ev")
  | focus ((with_reducible apply er_divmod); all_goals walk_at "ev"))
local macro_rules | `(tactic| walk_at "side") => `(tactic| exact cshl_ok (by omega) (by omega))
local macro_rules | `(tactic| walk_at "ev") => `(tactic| first
  | focus ((with_reducible apply er_wide); all_goals walk_at "ev")
  | focus ((with_reducible apply er_high); all_goals walk_at "ev")
  | focus ((with_reducible apply er_meth1); all_goals walk_at "ev")
  | focus ((with_reducible apply er_meth2); all_goals walk_at "ev")
  | focus ((with_reducible apply er_meth3); all_goals walk_at "ev"))
local macro_rules | `(tactic| walk_at "side") => `(tactic| (focus (decide +kernel)))
theorem RD.wf {K : PySem.W.Frag} {C : Addr} {H : Hp} {v : V} {s : Si20.St} (h : RD K C H v s) : Wf s := by
  obtain ⟨_, _, _, _, _, d⟩ := h
  exact d.wf
def onB (s : Si20.St) (x y : Int) : Bool := (decide (0 ≤ x) && decide (x < (s.w : Int))) && (decide (0 ≤ y) && decide (y < (s.h : Int)))
def pixAt (s : Si20.St) (x y : Int) : Px := match s.at_ x y with
  | some i => s.pixels.getD i Si20.black
  | none => Si20.black
def OnP (s : Si20.St) (x y : Int) : Prop := 0 ≤ x ∧ x < (s.w : Int) ∧ 0 ≤ y ∧ y < (s.h : Int)
def ixP (s : Si20.St) (x y : Int) : Nat := y.toNat * s.w + x.toNat
theorem ixP_int {s : Si20.St} {x y : Int} (h : OnP s x y) : y * (s.w : Int) + x = (ixP s x y : Int) := by
  obtain ⟨h1, h2, h3, h4⟩ := h
  unfold ixP
  rw [Int.natCast_add, Int.natCast_mul, Int.toNat_of_nonneg h1, Int.toNat_of_nonneg h3]
theorem ixP_lt {s : Si20.St} {x y : Int} (h : OnP s x y) : ixP s x y < s.w * s.h := by
  obtain ⟨h1, h2, h3, h4⟩ := h
  unfold ixP
  have hy : y.toNat + 1 ≤ s.h := by omega
  have hx : x.toNat < s.w := by omega
  have := Nat.mul_le_mul_right s.w hy
  rw [Nat.succ_mul, Nat.mul_comm s.h] at this
  omega
theorem pxs_at {s : Si20.St} {i : Nat} (h : i < s.pixels.size) : (pxsI s)[i]? = some (pxI (s.pixels.getD i Si20.black)) := by
  unfold pxsI
  rw [List.getElem?_map, Array.getElem?_toList, Array.getElem?_eq_getElem h, Array.getD_eq_getD_getElem?, Array.getElem?_eq_getElem h]
  rfl
theorem at_on {s : Si20.St} {x y : Int} (h : OnP s x y) : s.at_ x y = some (ixP s x y) := if_pos h
theorem at_off {s : Si20.St} {x y : Int} (h : ¬ OnP s x y) : s.at_ x y = none := if_neg h
theorem pixAt_on {s : Si20.St} {x y : Int} (h : OnP s x y) : pixAt s x y = s.pixels.getD (ixP s x y) Si20.black := by
  unfold pixAt
  rw [at_on h]
theorem pixAt_off {s : Si20.St} {x y : Int} (h : ¬ OnP s x y) : pixAt s x y = Si20.black := by
  unfold pixAt
  rw [at_off h]
theorem onB_iff {s : Si20.St} {x y : Int} : onB s x y = true ↔ OnP s x y := by
  unfold onB OnP
  simp only [Bool.and_eq_true, decide_eq_true_eq]
  constructor
  · rintro ⟨⟨a, b⟩, c, d⟩
    exact ⟨a, b, c, d⟩
  · rintro ⟨a, b, c, d⟩
    exact ⟨⟨a, b⟩, c, d⟩
def texI (s : Si20.St) (k u v : Int) : Px := Si20.texel ((s.texture k).getD #[]) (u % 64).toNat (v % 64).toNat
def rgI (lo hi : Int) : List Int := (List.range (hi - lo).toNat).map fun i => lo + (i : Nat)
theorem rgV_rgI (lo hi : Int) : rgV lo hi = vI (rgI lo hi) := by
  unfold rgV rgI vI
  rw [List.map_map]
  rfl
def colsI (w : Nat) (x many : Int) : List Int := rgI (if 0 - x > 0 then 0 - x else 0) (if (w : Int) - x < many then (w : Int) - x else many)
section
variable (K : PySem.W.Frag)
abbrev sp_D_is_on : Sp := sp3 (RD K (dC K)) RI RI (fun _ _ _ => True) RB onB
abbrev sp_D_place : Sp := sp3 (RD K (dC K)) RI RI (fun _ _ _ => True) RI fun s x y => y * (s.w : Int) + x
abbrev sp_D_pixel_at : Sp := spL3 (RD K (dC K)) RI RI (fun _ _ _ => True) fun s x y => vI (pxI (pixAt s x y))
abbrev sp_D_texel : Sp := sp4 (RD K (dC K)) RI RI RI (fun s k _ _ => 0 ≤ k ∧ k < 8 ∧ (s.texture k).isSome = true) RIL fun s k u v => pxI (texI s k u v)
abbrev sp_D_has_texture : Sp := sp2 (RD K (dC K)) RI (fun _ k => 0 ≤ k ∧ k < 8) RB fun s k => (s.texture k).isSome
abbrev sp_D_depth_at : Sp := sp3 (RD K (dC K)) RI RI OnP RI fun s x y => (s.depths.getD (ixP s x y) 0 : Int)
abbrev sp_D_columns : Sp := spL3 (RD K (dC K)) RI RI (fun _ x m => -(2 ^ 40) ≤ x ∧ x ≤ 2 ^ 40 ∧ 0 ≤ m ∧ m ≤ 2000) fun s x m => vI (colsI s.w x m)
abbrev sp_D_rows : Sp := spL3 (RD K (dC K)) RI RI (fun _ x m => -(2 ^ 40) ≤ x ∧ x ≤ 2 ^ 40 ∧ 0 ≤ m ∧ m ≤ 2000) fun s x m => vI (colsI s.h x m)
end
/-- Drawer.is_on: 0 self, 1 x, 2 y -/
def t_D_is_on (K : PySem.W.Frag) : TS :=
  (tRet (tAndV (tChain rLeI rLtI (tC (.int 0)) (tVar 1) (tFld K (tVar 0) "wide")) (tChain rLeI rLtI (tC (.int 0)) (tVar 2) (tFld K (tVar 0) "high"))))
/-- Drawer.place: 0 self, 1 x, 2 y -/
def t_D_place (K : PySem.W.Frag) : TS :=
  (tRet (tOp rAddI (tOp rMulI (tVar 2) (tFld K (tVar 0) "wide")) (tVar 1)))
/-- Drawer.pixel_at: 0 self, 1 x, 2 y -/
def t_D_pixel_at (K : PySem.W.Frag) : TS :=
  (tSeq (tIfS (tNot (tB (tMeth (He.ga K "Drawer") "is_on" (sp_D_is_on K) [] E0 (tVar 0) (tCons (tVar 1) (tCons (tVar 2) tNil))))) (tRet (tLst (tCons (tC (.int 0)) (tCons (tC (.int 0)) (tCons (tC (.int 0)) (tCons (tC (.int 0)) tNil)))))) tNext)
    (tRet (tCB (rListS K) (tCons (tOp (rIxL K) (tFld K (tVar 0) "pixels") (tMeth (He.ga K "Drawer") "place" (sp_D_place K) [] E0 (tVar 0) (tCons (tVar 1) (tCons (tVar 2) tNil)))) tNil))))
/-- Drawer.texel: 0 self, 1 k, 2 u, 3 v -/
def t_D_texel (K : PySem.W.Frag) : TS :=
  (tRet (tOp (rIxL K) (tOp (rIxL K) (tFld K (tVar 0) "textures") (tVar 1)) (tOp rAddI (tOp rMulI (tOp rModI (tVar 3) (tC (.int (64)))) (tC (.int (64)))) (tOp rModI (tVar 2) (tC (.int (64)))))))
/-- Drawer.has_texture: 0 self, 1 k -/
def t_D_has_texture (K : PySem.W.Frag) : TS :=
  (tRet (tOp rNotN (tOp (rIxL K) (tFld K (tVar 0) "textures") (tVar 1)) (tC .non)))
/-- Drawer.depth_at: 0 self, 1 x, 2 y -/
def t_D_depth_at (K : PySem.W.Frag) : TS :=
  (tRet (tOp (rIxL K) (tFld K (tVar 0) "depths") (tMeth (He.ga K "Drawer") "place" (sp_D_place K) [] E0 (tVar 0) (tCons (tVar 1) (tCons (tVar 2) tNil)))))
/-- Drawer.columns: 0 self, 1 x, 2 many -/
def t_D_columns (K : PySem.W.Frag) : TS :=
  (tRet (tLstRg (tRg2 (tCB rMax2 (tCons (tC (.int 0)) (tCons (tOp rSubI (tC (.int 0)) (tVar 1)) tNil))) (tCB rMin2 (tCons (tVar 2) (tCons (tOp rSubI (tFld K (tVar 0) "wide") (tVar 1)) tNil))))))
/-- Drawer.rows: 0 self, 1 y, 2 many -/
def t_D_rows (K : PySem.W.Frag) : TS :=
  (tRet (tLstRg (tRg2 (tCB rMax2 (tCons (tC (.int 0)) (tCons (tOp rSubI (tC (.int 0)) (tVar 1)) tNil))) (tCB rMin2 (tCons (tVar 2) (tCons (tOp rSubI (tFld K (tVar 0) "high") (tVar 1)) tNil))))))
section
variable {P : Program} {w : World} {K : PySem.W.Frag} {mg : Str → Option Value} {base : Heap}
theorem len_D_is_on : ∀ vs H Q E, sp_D_is_on K vs H Q E → vs.length = 3 := sp3_len
theorem len_D_place : ∀ vs H Q E, sp_D_place K vs H Q E → vs.length = 3 := sp3_len
theorem len_D_pixel_at : ∀ vs H Q E, sp_D_pixel_at K vs H Q E → vs.length = 3 := spL3_len
theorem len_D_texel : ∀ vs H Q E, sp_D_texel K vs H Q E → vs.length = 4 := sp4_len
theorem len_D_has_texture : ∀ vs H Q E, sp_D_has_texture K vs H Q E → vs.length = 2 := sp2_len
theorem len_D_depth_at : ∀ vs H Q E, sp_D_depth_at K vs H Q E → vs.length = 3 := sp3_len
theorem len_D_columns : ∀ vs H Q E, sp_D_columns K vs H Q E → vs.length = 3 := spL3_len
theorem len_D_rows : ∀ vs H Q E, sp_D_rows K vs H Q E → vs.length = 3 := spL3_len
theorem pure_D_is_on (T : Tx K mg) (vs : List V) (H : Hp) (Q : VK) (E : XK) (h : sp_D_is_on K vs H Q E) : t_D_is_on K { nx := fun _ H' => Q .non H', rt := Q } (start ["self", "x", "y"] vs) H := by
  obtain ⟨v0, _, _, st, x, y, rfl, r, rfl, rfl, -, k⟩ := h
  exact sr_ret (by walk_at "evr") k
theorem ok_D_is_on (T : Tx K mg)  : GM P w K mg base (He.ga K "Drawer") "is_on" 1 ["self", "x", "y"] (sp_D_is_on K) := by
  refine ⟨fn_keep (k := 0) (tt := (t_D_is_on K)) T.d_D_is_on sc_D_is_on len_D_is_on (fun _ _ _ _ _ _ us hl => match us, hl with | [_, _, _], _ => rfl) (fun cdv A outer s H E hr => ?_) (pure_D_is_on T), T.m_D_is_on⟩
  exact (pss_one (ps_ret (pe_and (pe_chain op_le op_lt pe_int (pv 1) (pe_fld (pv 0) rfl)) (pe_one (pe_chain op_le op_lt pe_int (pv 2) (pe_fld (pv 0) rfl))))))
theorem pure_D_place (T : Tx K mg) (vs : List V) (H : Hp) (Q : VK) (E : XK) (h : sp_D_place K vs H Q E) : t_D_place K { nx := fun _ H' => Q .non H', rt := Q } (start ["self", "x", "y"] vs) H := by
  obtain ⟨v0, _, _, st, x, y, rfl, r, rfl, rfl, -, k⟩ := h
  have wf := r.wf
  have hm : CMul y (st.w : Int) := cmul_r (by have := wf.w2; omega) (by have := wf.w2; omega)
  exact sr_ret (by walk_at "evr") k
theorem ok_D_place (T : Tx K mg)  : GM P w K mg base (He.ga K "Drawer") "place" 1 ["self", "x", "y"] (sp_D_place K) := by
  refine ⟨fn_keep (k := 0) (tt := (t_D_place K)) T.d_D_place sc_D_place len_D_place (fun _ _ _ _ _ _ us hl => match us, hl with | [_, _, _], _ => rfl) (fun cdv A outer s H E hr => ?_) (pure_D_place T), T.m_D_place⟩
  exact (pss_one (ps_ret (pe_op op_add (pe_op op_mul (pv 2) (pe_fld (pv 0) rfl)) (pv 1))))
theorem pure_D_pixel_at (T : Tx K mg) (vs : List V) (H : Hp) (Q : VK) (E : XK) (h : sp_D_pixel_at K vs H Q E) : t_D_pixel_at K { nx := fun _ H' => Q .non H', rt := Q } (start ["self", "x", "y"] vs) H := by
  obtain ⟨v0, _, _, st, x, y, rfl, r, rfl, rfl, -, k⟩ := h
  have wf := r.wf
  refine q_when (b := !onB st x y) (Evl.et_not (et_b (by walk_at "ev"))) (fun b H1 e1 => ?_) fun b H1 e1 => ?_
  · have off : ¬ OnP st x y := fun z => by rw [onB_iff.mpr z] at b; cases b
    refine s_retL (el_lstI (xs := vI [0, 0, 0, 0]) (ers_cons er_cI (ers_cons er_cI (ers_cons er_cI (ers_cons er_cI ers_nil)))) ?_ (by simp)) fun p H2 hp e2 h2 => k p H2 (fresh_back e1 hp) (e1.trans e2) (by rw [h2]; show _ = some (HO.lst (vI (pxI (pixAt st x y)))); rw [pixAt_off off]; rfl)
    rintro H' vs ⟨_, _, rfl, rfl, _, _, rfl, rfl, _, _, rfl, rfl, _, _, rfl, rfl, rfl⟩
    rfl
  · have on : OnP st x y := onB_iff.mp (by cases h : onB st x y with | true => rfl | false => rw [h] at b; cases b)
    have r := mo e1 r
    have hi : ixP st x y < st.pixels.size := by rw [wf.px]; exact ixP_lt on
    have ev : EvR RIL (tOp (rIxL K) (tFld K (tVar 0) "pixels") (tMeth (dC K) "place" (sp_D_place K) [] E0 (tVar 0) (tCons (tVar 1) (tCons (tVar 2) tNil)))) (start ["self", "x", "y"] [v0, .int x, .int y]) H1 (pxI (st.pixels.getD (ixP st x y) Si20.black)) :=
      er_ixL (n := y * (st.w : Int) + x) (er_pixels T (er_var (by with_unfolding_all rfl) r)) (by walk_at "ev") (ixP_int on) (pxs_at hi)
    refine ev H1 (Ex.refl _) _ fun v H2 e2 ⟨p, r1, r2⟩ => ⟨p, _, by rw [r1], .inl (SqL.of r2), fun l hl => k l _ (fresh_back (e1.trans e2) hl) ((e1.trans e2).trans (Ex.new hl)) ?_⟩
    rw [upd_same]
    show _ = some (HO.lst (vI (pxI (pixAt st x y))))
    rw [pixAt_on on]
theorem ok_D_pixel_at (T : Tx K mg) (G_D_is_on : GM P w K mg base (He.ga K "Drawer") "is_on" 1 ["self", "x", "y"] (sp_D_is_on K)) (G_D_place : GM P w K mg base (He.ga K "Drawer") "place" 1 ["self", "x", "y"] (sp_D_place K)) : GM P w K mg base (He.ga K "Drawer") "pixel_at" 2 ["self", "x", "y"] (sp_D_pixel_at K) := by
  refine ⟨fn_keep (k := 1) (tt := (t_D_pixel_at K)) T.d_D_pixel_at sc_D_pixel_at len_D_pixel_at (fun _ _ _ _ _ _ us hl => match us, hl with | [_, _, _], _ => rfl) (fun cdv A outer s H E hr => ?_) (pure_D_pixel_at T), T.m_D_pixel_at⟩
  exact (pss_cons (ps_if (pt_not (pt_val (pe_gm (pv 0) T.cl G_D_is_on (hr.mono (by decide)) (pa_cons (pv 1) (pa_cons (pv 2) pa_nil))))) (pss_one (ps_ret (pe_lst (pa_cons pe_int (pa_cons pe_int (pa_cons pe_int (pa_cons pe_int pa_nil))))))) pss_nil)
    (pss_one (ps_ret (pe_callTy call_list_of rfl T.f_list (by decide +kernel) (pa_cons (pe_ix ix_list (pe_fld (pv 0) rfl) (pe_gm (pv 0) T.cl G_D_place (hr.mono (by decide)) (pa_cons (pv 1) (pa_cons (pv 2) pa_nil))) (fun _ _ => rfl)) pa_nil)))))
theorem tx_at {s : Si20.St} {k : Int} (wf : Wf s) (h0 : 0 ≤ k) (h1 : k < 8) : (txsI s)[k.toNat]? = some ((s.texture k).map fun l => l.toList.map pxI) := by
  unfold txsI Si20.St.texture
  have hl : k.toNat < s.textures.length := by rw [wf.tx]; omega
  rw [List.getElem?_map, List.getElem?_eq_getElem hl]
  rfl
theorem tx_mem {s : Si20.St} {k : Int} {l : Array Px} (h : s.texture k = some l) : some l ∈ s.textures := by
  unfold Si20.St.texture at h
  cases e : s.textures[k.toNat]? with
  | none => rw [e] at h; cases h
  | some o =>
    rw [e] at h
    have : o = some l := h
    rw [this] at e
    exact List.mem_of_getElem? e
theorem pure_D_texel (T : Tx K mg) (vs : List V) (H : Hp) (Q : VK) (E : XK) (h : sp_D_texel K vs H Q E) : t_D_texel K { nx := fun _ H' => Q .non H', rt := Q } (start ["self", "k", "u", "v"] vs) H := by
  obtain ⟨_, _, _, _, st, k, u, v, rfl, r, rfl, rfl, rfl, ⟨h0, h1, h2⟩, kk⟩ := h
  have wf := r.wf
  cases e : st.texture k with
  | none => rw [e] at h2; cases h2
  | some l =>
    have hl := (wf.ts l (tx_mem e)).1
    have a1 : EvR RTx (tOp (rIxL K) (tFld K (tVar 0) "textures") (tVar 1)) (start ["self", "k", "u", "v"] [_, .int k, .int u, .int v]) H ((st.texture k).map fun l => l.toList.map pxI) :=
      er_ixL (n := k) (j := k.toNat) (er_textures T (er_var (by with_unfolding_all rfl) r)) (er_varI (by with_unfolding_all rfl)) (by omega) (tx_at wf h0 h1)
    rw [e] at a1
    have a2 : EvR (RL RIL) (tOp (rIxL K) (tFld K (tVar 0) "textures") (tVar 1)) (start ["self", "k", "u", "v"] [_, .int k, .int u, .int v]) H (l.toList.map pxI) := a1
    have hu : u % 64 = ((u % 64).toNat : Int) := by omega
    have hv : v % 64 = ((v % 64).toNat : Int) := by omega
    have hlt : (v % 64).toNat * 64 + (u % 64).toNat < l.size := by rw [hl]; omega
    refine sr_ret (R := RIL) (x := pxI (texI st k u v)) (er_ixL (n := v % 64 * 64 + u % 64) (j := (v % 64).toNat * 64 + (u % 64).toNat) a2 (by walk_at "ev") (by omega) ?_) kk
    unfold texI Si20.texel
    rw [e, List.getElem?_map, Array.getElem?_toList, Array.getElem?_eq_getElem hlt]
    rw [Nat.mod_eq_of_lt (show (u % 64).toNat < 64 by omega), Nat.mod_eq_of_lt (show (v % 64).toNat < 64 by omega)]
    rw [Option.getD_some, Array.getD_eq_getD_getElem?, Array.getElem?_eq_getElem hlt]
    rfl
theorem ok_D_texel (T : Tx K mg)  : GM P w K mg base (He.ga K "Drawer") "texel" 1 ["self", "k", "u", "v"] (sp_D_texel K) := by
  refine ⟨fn_keep (k := 0) (tt := (t_D_texel K)) T.d_D_texel sc_D_texel len_D_texel (fun _ _ _ _ _ _ us hl => match us, hl with | [_, _, _, _], _ => rfl) (fun cdv A outer s H E hr => ?_) (pure_D_texel T), T.m_D_texel⟩
  exact (pss_one (ps_ret (pe_ix ix_list (pe_ix ix_list (pe_fld (pv 0) rfl) (pv 1) (fun _ _ => rfl)) (pe_op op_add (pe_op op_mul (pe_op op_mod (pv 3) (pe_gi rfl T.i_SIDE_drawers)) (pe_gi rfl T.i_SIDE_drawers)) (pe_op op_mod (pv 2) (pe_gi rfl T.i_SIDE_drawers))) (fun _ _ => rfl))))
theorem pure_D_has_texture (T : Tx K mg) (vs : List V) (H : Hp) (Q : VK) (E : XK) (h : sp_D_has_texture K vs H Q E) : t_D_has_texture K { nx := fun _ H' => Q .non H', rt := Q } (start ["self", "k"] vs) H := by
  obtain ⟨_, _, st, k, rfl, r, rfl, ⟨h0, h1⟩, kk⟩ := h
  have wf := r.wf
  have a1 : EvR RTx (tOp (rIxL K) (tFld K (tVar 0) "textures") (tVar 1)) (start ["self", "k"] [_, .int k]) H ((st.texture k).map fun l => l.toList.map pxI) :=
    er_ixL (n := k) (j := k.toNat) (er_textures T (er_var (by with_unfolding_all rfl) r)) (er_varI (by with_unfolding_all rfl)) (by omega) (tx_at wf h0 h1)
  refine a1 H (Ex.refl _) _ fun v H2 e2 r2 => ⟨rfl, kk _ H2 e2 ?_⟩
  cases e : st.texture k with
  | none =>
    rw [e] at r2
    have : v = .non := r2
    rw [this]
    show V.bl _ = V.bl (st.texture k).isSome
    rw [e]
    rfl
  | some l =>
    rw [e] at r2
    obtain ⟨p, _, r1, _⟩ := (show RL RIL H2 v (l.toList.map pxI) from r2)
    rw [r1]
    show V.bl _ = V.bl (st.texture k).isSome
    rw [e]
    rfl
theorem ok_D_has_texture (T : Tx K mg)  : GM P w K mg base (He.ga K "Drawer") "has_texture" 1 ["self", "k"] (sp_D_has_texture K) := by
  refine ⟨fn_keep (k := 0) (tt := (t_D_has_texture K)) T.d_D_has_texture sc_D_has_texture len_D_has_texture (fun _ _ _ _ _ _ us hl => match us, hl with | [_, _], _ => rfl) (fun cdv A outer s H E hr => ?_) (pure_D_has_texture T), T.m_D_has_texture⟩
  exact (pss_one (ps_ret (pe_cmpR op_notN (pe_ix ix_list (pe_fld (pv 0) rfl) (pv 1) (fun _ _ => rfl)) pe_non (nomark _))))
theorem pure_D_depth_at (T : Tx K mg) (vs : List V) (H : Hp) (Q : VK) (E : XK) (h : sp_D_depth_at K vs H Q E) : t_D_depth_at K { nx := fun _ H' => Q .non H', rt := Q } (start ["self", "x", "y"] vs) H := by
  obtain ⟨v0, _, _, st, x, y, rfl, r, rfl, rfl, on, k⟩ := h
  have wf := r.wf
  have hi : ixP st x y < st.depths.size := by rw [wf.dp]; exact ixP_lt on
  refine sr_ret (er_ixI (n := y * (st.w : Int) + x) (er_depths T (er_var (by with_unfolding_all rfl) r)) (by walk_at "ev") (ixP_int on) ?_) k
  show _ = some ((st.depths.getD (ixP st x y) 0 : Nat) : Int)
  rw [List.getElem?_map, Array.getElem?_toList, Array.getElem?_eq_getElem hi, Array.getD_eq_getD_getElem?, Array.getElem?_eq_getElem hi]
  rfl
theorem ok_D_depth_at (T : Tx K mg) (G_D_place : GM P w K mg base (He.ga K "Drawer") "place" 1 ["self", "x", "y"] (sp_D_place K)) : GM P w K mg base (He.ga K "Drawer") "depth_at" 2 ["self", "x", "y"] (sp_D_depth_at K) := by
  refine ⟨fn_keep (k := 1) (tt := (t_D_depth_at K)) T.d_D_depth_at sc_D_depth_at len_D_depth_at (fun _ _ _ _ _ _ us hl => match us, hl with | [_, _, _], _ => rfl) (fun cdv A outer s H E hr => ?_) (pure_D_depth_at T), T.m_D_depth_at⟩
  exact (pss_one (ps_ret (pe_ix ix_list (pe_fld (pv 0) rfl) (pe_gm (pv 0) T.cl G_D_place (hr.mono (by decide)) (pa_cons (pv 1) (pa_cons (pv 2) pa_nil))) (fun _ _ => rfl))))
theorem pure_D_columns (T : Tx K mg) (vs : List V) (H : Hp) (Q : VK) (E : XK) (h : sp_D_columns K vs H Q E) : t_D_columns K { nx := fun _ H' => Q .non H', rt := Q } (start ["self", "x", "many"] vs) H := by
  obtain ⟨v0, _, _, st, x, m, rfl, r, rfl, rfl, ⟨x1, x2, m1, m2⟩, k⟩ := h
  have wf := r.wf
  have a1 : EvR RI (tCB rMax2 (tCons (tC (.int 0)) (tCons (tOp rSubI (tC (.int 0)) (tVar 1)) tNil))) (start ["self", "x", "many"] [v0, .int x, .int m]) H (if 0 - x > 0 then 0 - x else 0) := by walk_at "ev"
  have a2 : EvR RI (tCB rMin2 (tCons (tVar 2) (tCons (tOp rSubI (tFld K (tVar 0) "wide") (tVar 1)) tNil))) (start ["self", "x", "many"] [v0, .int x, .int m]) H (if (st.w : Int) - x < m then (st.w : Int) - x else m) := by walk_at "ev"
  have w2 := wf.w2
  refine a1 H (Ex.refl _) _ fun v1 H1 e1 r1 => a2 H1 e1 _ fun v2 H2 e2 r2 => ⟨_, _, r1, r2, ⟨by split <;> omega, by split <;> omega, by split <;> omega, by split <;> omega, by split <;> split <;> omega⟩, fun q hq => k q _ (fresh_back (e1.trans e2) hq) ((e1.trans e2).trans (Ex.new hq)) ?_⟩
  rw [upd_same, rgV_rgI]
  rfl
theorem ok_D_columns (T : Tx K mg)  : GM P w K mg base (He.ga K "Drawer") "columns" 1 ["self", "x", "many"] (sp_D_columns K) := by
  refine ⟨fn_keep (k := 0) (tt := (t_D_columns K)) T.d_D_columns sc_D_columns len_D_columns (fun _ _ _ _ _ _ us hl => match us, hl with | [_, _, _], _ => rfl) (fun cdv A outer s H E hr => ?_) (pure_D_columns T), T.m_D_columns⟩
  exact (pss_one (ps_ret (pe_listRg rfl rfl T.f_list (prg_2 rfl T.f_range (pe_callB (call_max2 rfl) rfl T.f_max (by decide +kernel) (pa_cons pe_int (pa_cons (pe_op op_sub pe_int (pv 1)) pa_nil))) (pe_callB (call_min2 rfl) rfl T.f_min (by decide +kernel) (pa_cons (pv 2) (pa_cons (pe_op op_sub (pe_fld (pv 0) rfl) (pv 1)) pa_nil)))))))
theorem pure_D_rows (T : Tx K mg) (vs : List V) (H : Hp) (Q : VK) (E : XK) (h : sp_D_rows K vs H Q E) : t_D_rows K { nx := fun _ H' => Q .non H', rt := Q } (start ["self", "y", "many"] vs) H := by
  obtain ⟨v0, _, _, st, x, m, rfl, r, rfl, rfl, ⟨x1, x2, m1, m2⟩, k⟩ := h
  have wf := r.wf
  have a1 : EvR RI (tCB rMax2 (tCons (tC (.int 0)) (tCons (tOp rSubI (tC (.int 0)) (tVar 1)) tNil))) (start ["self", "x", "many"] [v0, .int x, .int m]) H (if 0 - x > 0 then 0 - x else 0) := by walk_at "ev"
  have a2 : EvR RI (tCB rMin2 (tCons (tVar 2) (tCons (tOp rSubI (tFld K (tVar 0) "high") (tVar 1)) tNil))) (start ["self", "x", "many"] [v0, .int x, .int m]) H (if (st.h : Int) - x < m then (st.h : Int) - x else m) := by walk_at "ev"
  have w2 := wf.h2
  refine a1 H (Ex.refl _) _ fun v1 H1 e1 r1 => a2 H1 e1 _ fun v2 H2 e2 r2 => ⟨_, _, r1, r2, ⟨by split <;> omega, by split <;> omega, by split <;> omega, by split <;> omega, by split <;> split <;> omega⟩, fun q hq => k q _ (fresh_back (e1.trans e2) hq) ((e1.trans e2).trans (Ex.new hq)) ?_⟩
  rw [upd_same, rgV_rgI]
  rfl
theorem ok_D_rows (T : Tx K mg)  : GM P w K mg base (He.ga K "Drawer") "rows" 1 ["self", "y", "many"] (sp_D_rows K) := by
  refine ⟨fn_keep (k := 0) (tt := (t_D_rows K)) T.d_D_rows sc_D_rows len_D_rows (fun _ _ _ _ _ _ us hl => match us, hl with | [_, _, _], _ => rfl) (fun cdv A outer s H E hr => ?_) (pure_D_rows T), T.m_D_rows⟩
  exact (pss_one (ps_ret (pe_listRg rfl rfl T.f_list (prg_2 rfl T.f_range (pe_callB (call_max2 rfl) rfl T.f_max (by decide +kernel) (pa_cons pe_int (pa_cons (pe_op op_sub pe_int (pv 1)) pa_nil))) (pe_callB (call_min2 rfl) rfl T.f_min (by decide +kernel) (pa_cons (pv 2) (pa_cons (pe_op op_sub (pe_fld (pv 0) rfl) (pv 1)) pa_nil)))))))
end
end Sd
end

section
set_option Elab.async false
set_option linter.all false
set_option maxRecDepth 100000
set_option maxHeartbeats 400000
/-! ## 10. drawers.py: what reads in loops -/
namespace Sd
open PySem PySem.Spec PyProof.Rows L2 Evl
open Si20 (Px)
local macro_rules | `(tactic| walk_at "ev") => `(tactic| first
  | with_reducible exact er_cI
  | focus ((with_reducible apply er_varI); with_unfolding_all rfl)
  | focus ((with_reducible apply er_var); all_goals first | with_unfolding_all rfl | assumption)
  | focus ((with_reducible apply er_op0); all_goals walk_at "ev")
  | focus ((with_reducible apply er_op); all_goals walk_at "ev")
  | focus ((with_reducible apply er_neg); all_goals walk_at "ev")
  | focus ((with_reducible apply er_max); all_goals walk_at "ev")
  | focus ((with_reducible apply er_min); all_goals walk_at "ev")
  | focus ((with_reducible apply er_abs); all_goals walk_at "ev")
  | focus ((with_reducible apply er_intB); all_goals walk_at "ev")
  | focus ((with_reducible apply er_bits); all_goals walk_at "ev")
  | focus ((with_reducible apply er_ixD); all_goals walk_at "ev")
  | focus ((with_reducible apply er_call1); all_goals walk_at "ev")
  | focus ((with_reducible apply er_call2); all_goals walk_at "ev")
  | focus ((with_reducible apply er_call3); all_goals walk_at "ev")
  | focus ((with_reducible apply er_call4); all_goals walk_at "ev")
  | focus ((with_reducible apply er_eq); all_goals walk_at "ev")
  | focus ((with_reducible apply er_ne); all_goals walk_at "ev")
  | focus ((with_reducible apply er_cmp); all_goals walk_at "ev")
  | focus ((with_reducible apply er_chain); all_goals walk_at "ev")
  | focus ((with_reducible apply er_andU); all_goals walk_at "ev")
  | focus ((with_reducible apply er_orU); all_goals walk_at "ev")
  | focus ((with_reducible apply et_t); all_goals walk_at "ev")
  | focus ((with_reducible apply et_b); all_goals walk_at "ev")
  | focus ((with_reducible apply et_andU); all_goals walk_at "ev")
  | focus ((with_reducible apply et_orU); all_goals walk_at "ev")
  | focus ((with_reducible apply Evl.et_not); all_goals walk_at "ev")
  | walk_at "side")
local macro_rules | `(tactic| walk_at "evr") => `(tactic| (refine er_is (by walk_at "ev") (by with_unfolding_all rfl)))
local macro_rules | `(tactic| walk_at "side") => `(tactic| first
  | assumption
  | exact True.intro
  | exact cdiv_ok (by decide) (by decide)
  | exact cmul_l (by omega) (by omega)
  | exact cmul_r (by omega) (by omega)
  | omega
  | decide
  | (dsimp only; done)
  | (dsimp only; first | assumption | omega | decide)
  | (constructor <;> assumption))
local macro_rules | `(tactic| walk_at "ev") => `(tactic| first
  | focus ((with_reducible apply er_s0); all_goals walk_at "ev")
  | focus ((with_reducible apply er_s1); all_goals walk_at "ev")
  | focus ((with_reducible apply er_s2); all_goals walk_at "ev")
  | focus ((with_reducible apply er_tupS); all_goals walk_at "ev")
  | focus ((with_reducible apply er_tupI2); all_goals walk_at "ev")
  | focus ((with_reducible apply er_divmod); all_goals walk_at "ev"))
local macro_rules | `(tactic| walk_at "side") => `(tactic| exact cshl_ok (by omega) (by omega))
local macro_rules | `(tactic| walk_at "ev") => `(tactic| first
  | focus ((with_reducible apply er_wide); all_goals walk_at "ev")
  | focus ((with_reducible apply er_high); all_goals walk_at "ev")
  | focus ((with_reducible apply er_meth1); all_goals walk_at "ev")
  | focus ((with_reducible apply er_meth2); all_goals walk_at "ev")
  | focus ((with_reducible apply er_meth3); all_goals walk_at "ev"))
local macro_rules | `(tactic| walk_at "side") => `(tactic| (focus (decide +kernel)))
theorem LcI.mono {a : Type} {R : Rel a} [Mo R] {H1 H H' : Hp} {D : Addr} {ys : List a} (e : Ex H H') (p : LcI R H1 D ys H) : LcI R H1 D ys H' := by
  obtain ⟨p1, p2, acc, p3, p4⟩ := p
  exact ⟨p1, p2.trans e, acc, e _ _ p3, p4.mono fun _ _ => mo e⟩
theorem zip_get {xs ys : List Int} {f : Int → Int → Int} {i : Nat} {x y : Int} (hx : xs[i]? = some x) (hy : ys[i]? = some y) : (List.zipWith f xs ys)[i]? = some (f x y) := by
  rw [List.getElem?_zipWith, hx, hy]
/-- [e for a, b in zip(xs, ys)] -/
theorem en_lcZ {K : PySem.W.Frag} {s : L2.St} {H : Hp} {ta tb te : TE} {j1 j2 : Nat} {vs : List Nat} {xs ys : List Int} (f : Int → Int → Int) (h1 : EvR RIL ta s H xs) (h2 : EvR RIL tb s H ys) (hl : xs.length = ys.length) (hn : xs.length ≤ 16777216) (hw : ∀ x y, wipe (((wipe s vs).set j1 (some x)).set j2 (some y)) vs = wipe s vs)
    (he : ∀ (i : Nat) x y H1, Ex H H1 → xs[i]? = some x → ys[i]? = some y → EvR RI te (((wipe s vs).set j1 (some (.int x))).set j2 (some (.int y))) H1 (f x y)) :
    EvN RI (tLc (iZip K (tCons ta (tCons tb tNil))) (gTup K 2 (gCons (gName j1) (gCons (gName j2) gNil))) tYes te vs) s H (List.zipWith f xs ys) := fun H0 e Q q => h1 H0 e _ fun v1 Ha ea ⟨p1, r1, r2⟩ => h2 Ha (e.trans ea) _ fun v2 H1 eb ⟨p2, q1, q2⟩ =>
  ⟨p1, p2, vI xs, vI ys, by rw [r1, q1], SqL.of (eb _ _ r2), SqL.of q2, fun D hD => by
    have e1 := ea.trans eb
    have hz : (List.zipWith f xs ys).length = xs.length := by rw [List.length_zipWith, ← hl, Nat.min_self]
    refine ⟨fun i m H' => m = xs.length - i ∧ i ≤ xs.length ∧ LcI RI H1 D ((List.zipWith f xs ys).take i) H', ⟨xs.length, by simp, Nat.zero_le _, by simpa using lci_0 hD⟩, ?_⟩
    rintro i m H' ⟨rfl, hi, p⟩
    have s1 : SqL K H' p1 (vI xs) := SqL.of (p.2.1 _ _ (eb _ _ r2))
    have s2 : SqL K H' p2 (vI ys) := SqL.of (p.2.1 _ _ q2)
    by_cases hlt : i < xs.length
    · have hx : xs[i]? = some xs[i] := List.getElem?_eq_getElem hlt
      have hy : ys[i]? = some (ys[i]'(hl ▸ hlt)) := List.getElem?_eq_getElem (hl ▸ hlt)
      have vx : (vI xs)[i]? = some (.int xs[i]) := by rw [List.getElem?_map, hx]; rfl
      have vy : (vI ys)[i]? = some (.int (ys[i]'(hl ▸ hlt))) := by rw [List.getElem?_map, hy]; rfl
      refine .inr ⟨⟨_, _, _, _, s1, s2, vx, vy⟩, LcI RI H1 D ((List.zipWith f xs ys).take (i + 1)), fun H2 p2 => ⟨xs.length - (i + 1), by omega, rfl, hlt, p2⟩, fun v H2 y => ?_⟩
      obtain ⟨T, x', y', rfl, hT, rfl, f1, f2⟩ := y
      have g1 := f1 _ s1
      have g2 := f2 _ s2
      rw [vx] at g1
      rw [vy] at g2
      cases g1
      cases g2
      have eT : Ex H' (upd H' T (.tup [.int xs[i], .int (ys[i]'(hl ▸ hlt))])) := Ex.new hT
      refine ⟨T, _, rfl, st_of upd_same, rfl, _, _, rfl, _, _, rfl, rfl, hw _ _, ?_⟩
      exact lci_turn (p.mono eT) (take_succ_of (zip_get hx hy)) (by rw [List.length_take, hz]; omega) (he i _ _ _ ((e.trans e1).trans (p.2.1.trans eT)) hx hy)
    · have ei : i = xs.length := by omega
      subst ei
      rw [← hz, List.take_length] at p
      obtain ⟨p1', p2', acc, p3, p4⟩ := p
      exact .inl ⟨⟨_, _, s1, s2, Or.inl (by rw [List.length_map]; exact Nat.le_refl _)⟩, q D acc H' (fresh_back e1 p1') (e1.trans p2') p3 p4⟩⟩
/-! ### loops that collect -/
def Col (p : Addr) (acc : List Int) (H0 H : Hp) : Prop := H0 p = none ∧ Ex H0 H ∧ H p = some (.lst (vI acc))
section
variable {K : PySem.W.Frag} {s : L2.St} {H H0 : Hp} {ta tb te : TE} {n : Int} {j i : Nat} {D : Ends} {tu : TS} {p : Addr} {acc : List Int}
theorem s_ext {zs : List Int} (c : Col p acc H0 H) (hf : s[i]? = some (some (.ref p))) (he : EvR RIL te s H zs) (hl : acc.length + zs.length ≤ 16777216) (k : ∀ H2, Col p (acc ++ zs) H0 H2 → D.nx s H2) : tDrop (tBM K "list" rExtend (tVar i) (tCons te tNil)) D s H :=
  ext_turn (er_var (R := RV) hf rfl) c.1 c.2.1 c.2.2 hl he fun H2 e h => k H2 ⟨c.1, e, h⟩
theorem s_app {z : Int} (c : Col p acc H0 H) (hf : s[i]? = some (some (.ref p))) (he : EvR RI te s H z) (hl : acc.length < 16777216) (k : ∀ H2, Col p (acc ++ [z]) H0 H2 → D.nx s H2) : tDrop (tBM K "list" rAppend (tVar i) (tCons te tNil)) D s H :=
  ⟨.ref p, hf, Or.inl ⟨rfl, _, sq_of c.2.2⟩, he H (Ex.refl _) _ fun w H2 e2 r => ⟨p, _, w, rfl, rfl, e2 _ _ c.2.2, by rw [List.length_map, sizeLine_eq]; exact hl, k _ ⟨c.1, Ex.mut (c.2.1.trans e2) c.1, by rw [r, upd_same]; show _ = some (HO.lst ((acc ++ [z]).map V.int)); rw [List.map_append]; rfl⟩⟩⟩
theorem rsucc_flat {c : Type} (g : Nat → List c) (m : Nat) : (List.range (m + 1)).flatMap g = (List.range m).flatMap g ++ g m := by
  rw [List.range_succ, List.flatMap_append]
  simp
theorem flat_le {c : Type} (g : Nat → List c) {i n : Nat} (h : i < n) : ((List.range i).flatMap g).length + (g i).length ≤ ((List.range n).flatMap g).length := by
  induction n with
  | zero => omega
  | succ m ih =>
    rw [rsucc_flat, List.length_append]
    by_cases e : i = m
    · subst e
      exact Nat.le_refl _
    · have := ih (by omega)
      omega
theorem s_col1 (S : L2.St → Prop) (g : Nat → List Int) (hn : EvR RI ta s H n) (h0 : 0 ≤ n) (h1 : n ≤ 16777216) (hS : S s) (c : Col p acc H0 H) (hlen : acc.length + ((List.range n.toNat).flatMap g).length ≤ 16777216)
    (hs : ∀ (i : Nat) σ H' acc' (N : L2.St → Hp → Prop), (i : Int) < n → S σ → Col p acc' H0 H' → acc'.length + (g i).length ≤ 16777216 → (∀ σ2 H2, S σ2 → Col p (acc' ++ g i) H0 H2 → N σ2 H2) → tu { D with nx := N, ct := N, bk := D.nx } (σ.set j (some (.int (i : Int)))) H')
    (k : ∀ σ H', S σ → Col p (acc ++ (List.range n.toNat).flatMap g) H0 H' → D.nx σ H') : tFor (iRng1 (tCons ta tNil)) (gName j) tu D s H :=
  hn H (Ex.refl H) _ fun v H1 e1 r => ⟨n, by rw [r], by omega, by omega, for_range (lo := 0) (n := n.toNat) (fun i σ H' => S σ ∧ Col p (acc ++ (List.range i).flatMap g) H0 H') ⟨hS, c.1, c.2.1.trans e1, by rw [List.range_zero, List.flatMap_nil, List.append_nil]; exact e1 _ _ c.2.2⟩
    (fun i σ H' hi ⟨hσ, c'⟩ => by
      show tu _ (σ.set j (some (.int ((0 : Int) + (i : Int))))) H'
      rw [Int.zero_add]
      have := flat_le g hi
      exact hs i σ H' _ _ (by omega) hσ c' (by rw [List.length_append]; omega) fun σ2 H2 hσ2 c2 => ⟨hσ2, by rw [rsucc_flat, ← List.append_assoc]; exact c2⟩)
    fun σ H' ⟨hσ, c'⟩ => k σ H' hσ c'⟩
theorem div_up {m c : Nat} (hc : 0 < c) (hd : m % c = 0) : (m + (c - 1)) / c = m / c := by
  have e : m = c * (m / c) := by
    have := Nat.div_add_mod m c
    omega
  generalize hq : m / c = q at e
  rw [e]
  rw [Nat.mul_add_div hc, Nat.div_eq_of_lt (by omega), Nat.add_zero]
theorem s_col3 {c3 : Nat} (S : L2.St → Prop) (g : Nat → List Int) (m : Nat) (hn : EvR RI ta s H (m : Int)) (h1 : m ≤ 16777216) (hc : 0 < c3) (hc2 : c3 < 1000) (hd : m % c3 = 0) (hS : S s) (c : Col p acc H0 H) (hlen : acc.length + ((List.range (m / c3)).flatMap g).length ≤ 16777216)
    (hs : ∀ (i : Nat) σ H' acc' (N : L2.St → Hp → Prop), i < m / c3 → S σ → Col p acc' H0 H' → acc'.length + (g i).length ≤ 16777216 → (∀ σ2 H2, S σ2 → Col p (acc' ++ g i) H0 H2 → N σ2 H2) → tu { D with nx := N, ct := N, bk := D.nx } (σ.set j (some (.int ((i * c3 : Nat) : Int)))) H')
    (k : ∀ σ H', S σ → Col p (acc ++ (List.range (m / c3)).flatMap g) H0 H' → D.nx σ H') : tFor (iRng3 (tCons (tC (.int 0)) (tCons ta (tCons (tC (.int (c3 : Int))) tNil)))) (gName j) tu D s H :=
  hn H (Ex.refl H) _ fun v H1 e1 r => ⟨0, m, c3, m / c3, by rw [r], by have := rgc_ok (n := (m : Int)) (c := c3) (by omega) (by omega) hc hc2; rw [Int.toNat_natCast, div_up hc hd] at this; exact this, for_rangeC (lo := 0) (n := m / c3) (fun i σ H' => S σ ∧ Col p (acc ++ (List.range i).flatMap g) H0 H') ⟨hS, c.1, c.2.1.trans e1, by rw [List.range_zero, List.flatMap_nil, List.append_nil]; exact e1 _ _ c.2.2⟩
    (fun i σ H' hi ⟨hσ, c'⟩ => by
      show tu _ (σ.set j (some (.int ((0 : Int) + (i : Nat) * (c3 : Int))))) H'
      rw [Int.zero_add, ← Int.natCast_mul]
      have := flat_le g hi
      exact hs i σ H' _ _ hi hσ c' (by rw [List.length_append]; omega) fun σ2 H2 hσ2 c2 => ⟨hσ2, by rw [rsucc_flat, ← List.append_assoc]; exact c2⟩)
    fun σ H' ⟨hσ, c'⟩ => k σ H' hσ c'⟩
theorem q_new {tz : TS} (k : ∀ p H1, Ex H H1 → Col p [] H H1 → tz D (s.set i (some (.ref p))) H1) : tSeq (tAsg (tLst tNil) (gName i)) tz D s H := ⟨by rw [sizeLine_eq]; simp, fun p hp => k p _ (Ex.new hp) ⟨hp, Ex.new hp, upd_same⟩⟩
end
/-! ### promises -/
def spL5 {a b d g h : Type} (R1 : Rel a) (R2 : Rel b) (R3 : Rel d) (R4 : Rel g) (R5 : Rel h) (pre : a → b → d → g → h → Prop) (f : a → b → d → g → h → List V) : Sp := fun vs H Q _ => ∃ v1 v2 v3 v4 v5 x y z u t, vs = [v1, v2, v3, v4, v5] ∧ R1 H v1 x ∧ R2 H v2 y ∧ R3 H v3 z ∧ R4 H v4 u ∧ R5 H v5 t ∧ pre x y z u t ∧ ∀ p H', H p = none → Ex H H' → H' p = some (.lst (f x y z u t)) → Q (.ref p) H'
theorem spL5_len {a b d g h : Type} {R1 : Rel a} {R2 : Rel b} {R3 : Rel d} {R4 : Rel g} {R5 : Rel h} {pre : a → b → d → g → h → Prop} {f : a → b → d → g → h → List V} : ∀ vs H Q E, spL5 R1 R2 R3 R4 R5 pre f vs H Q E → vs.length = 5 := fun vs H Q E ⟨_, _, _, _, _, _, _, _, _, _, e, _⟩ => by rw [e]; rfl
theorem el_meth4 {K : PySem.W.Frag} {s : L2.St} {H : Hp} {ta t1 t2 t3 t4 : TE} {st : Si20.St} {E : XK} {x y z u : Int} {m : Str} {pre : Si20.St → Int → Int → Int → Int → Prop} {f : Si20.St → Int → Int → Int → Int → List V} (hm : fieldNames.all (fun f => !(m == f)) = true) (h0 : EvR (RD K (dC K)) ta s H st) (h1 : EvR RI t1 s H x) (h2 : EvR RI t2 s H y) (h3 : EvR RI t3 s H z) (h4 : EvR RI t4 s H u) (hp : pre st x y z u) :
    EvL (tMeth (dC K) m (spL5 (RD K (dC K)) RI RI RI RI pre f) [] E ta (tCons t1 (tCons t2 (tCons t3 (tCons t4 tNil))))) s H (f st x y z u) := fun H1 e Q q =>
  h0 H1 e _ fun v H2 e2 r => by
    obtain ⟨tg, d, a, D, r1, r2⟩ := id r
    exact ⟨a, D.dx, _, r1, r2.ins, lk_none hm, h1 H2 (e.trans e2) _ fun v1 H3 e3 q1 => h2 H3 ((e.trans e2).trans e3) _ fun v2 H4 e4 q2 => h3 H4 (((e.trans e2).trans e3).trans e4) _ fun v3 H5 e5 q3 => h4 H5 ((((e.trans e2).trans e3).trans e4).trans e5) _ fun v4 H6 e6 q4 =>
      ⟨v, v1, v2, v3, v4, st, x, y, z, u, rfl, mo (((e3.trans e4).trans e5).trans e6) r, q1, q2, q3, q4, hp, fun p H7 hp e7 r7 => q p H7 (fresh_back ((((e2.trans e3).trans e4).trans e5).trans e6) hp) (((((e2.trans e3).trans e4).trans e5).trans e6).trans e7) r7⟩⟩
def rectM (s : Si20.St) (x y wide high : Int) : List Int := (List.range high.toNat).flatMap fun (j : Nat) => (List.range wide.toNat).flatMap fun (i : Nat) => pxI (s.pixels.getD (ixP s (x + (i : Int)) (y + (j : Int))) Si20.black)
def meanPx (s : Si20.St) (x y : Int) : Px := ((pixAt s x y).zip Si20.mean (pixAt s (x + 1) y)).zip Si20.mean ((pixAt s x (y + 1)).zip Si20.mean (pixAt s (x + 1) (y + 1)))
def smallM (s : Si20.St) : List Int := (List.range (s.h / 2)).flatMap fun (y : Nat) => (List.range (s.w / 2)).flatMap fun (x : Nat) => pxI (meanPx s ((x * 2 : Nat) : Int) ((y * 2 : Nat) : Int))
def giveM (s : Si20.St) : List Int := (List.range s.h).flatMap fun (y : Nat) => (List.range s.w).map fun (x : Nat) => ((Si20.cut s (y * s.w + x) : Nat) : Int)
def absM (a b : Int) : Int := if a - b < 0 then -(a - b) else a - b
def tileM (s : Si20.St) (x y : Int) : List Int := rectM s x y 8 8
def apartM (s t : Si20.St) : List Int := (List.range (s.h / 8)).flatMap fun (y : Nat) => (List.range (s.w / 8)).flatMap fun (x : Nat) => [(List.zipWith absM (tileM s ((x * 8 : Nat) : Int) ((y * 8 : Nat) : Int)) (tileM t ((x * 8 : Nat) : Int) ((y * 8 : Nat) : Int))).sum]
section
variable (K : PySem.W.Frag)
abbrev sp_D_rectangle : Sp := spL5 (RD K (dC K)) RI RI RI RI (fun s x y wide high => 0 ≤ x ∧ 0 ≤ y ∧ 0 ≤ wide ∧ 0 ≤ high ∧ x + wide ≤ (s.w : Int) ∧ y + high ≤ (s.h : Int)) fun s x y wide high => vI (rectM s x y wide high)
abbrev sp_D_tile : Sp := spL3 (RD K (dC K)) RI RI (fun s x y => 0 ≤ x ∧ 0 ≤ y ∧ x + 8 ≤ (s.w : Int) ∧ y + 8 ≤ (s.h : Int)) fun s x y => vI (tileM s x y)
abbrev sp_D_mean_at : Sp := spL3 (RD K (dC K)) RI RI (fun _ _ _ => True) fun s x y => vI (pxI (meanPx s x y))
abbrev sp_D_small : Sp := spL1 (RD K (dC K)) (fun _ => True) fun s => vI (smallM s)
abbrev sp_D_given : Sp := sp3 (RD K (dC K)) RI RI OnP RI fun s x y => ((Si20.cut s (ixP s x y) : Nat) : Int)
abbrev sp_D_give : Sp := spL1 (RD K (dC K)) (fun _ => True) fun s => vI (giveM s)
abbrev sp_D_apart : Sp := spL2 (RD K (dC K)) (RD K (dC K)) (fun s t => s.w = t.w ∧ s.h = t.h) fun s t => vI (apartM s t)
end
/-- Drawer.rectangle: 0 self, 1 x, 2 y, 3 wide, 4 high, 5 found, 6 j, 7 i -/
def t_D_rectangle (K : PySem.W.Frag) : TS :=
  (tSeq (tAsg (tLst tNil) (gName 5))
    (tSeq (tFor (iRng1 (tCons (tVar 4) tNil)) (gName 6) (tFor (iRng1 (tCons (tVar 3) tNil)) (gName 7) (tDrop (tBM K "list" rExtend (tVar 5) (tCons (tOp (rIxL K) (tFld K (tVar 0) "pixels") (tMeth (He.ga K "Drawer") "place" (sp_D_place K) [] E0 (tVar 0) (tCons (tOp rAddI (tVar 1) (tVar 7)) (tCons (tOp rAddI (tVar 2) (tVar 6)) tNil)))) tNil)))))
    (tRet (tVar 5))))
/-- Drawer.tile: 0 self, 1 x, 2 y -/
def t_D_tile (K : PySem.W.Frag) : TS :=
  (tRet (tMeth (He.ga K "Drawer") "rectangle" (sp_D_rectangle K) [] E0 (tVar 0) (tCons (tVar 1) (tCons (tVar 2) (tCons (tC (.int (8))) (tCons (tC (.int (8))) tNil))))))
/-- Drawer.mean_at: 0 self, 1 x, 2 y, 3 upper, 4 lower, 5 a, 6 b -/
def t_D_mean_at (K : PySem.W.Frag) : TS :=
  (tSeq (tAsg (tLc (iZip K (tCons (tMeth (He.ga K "Drawer") "pixel_at" (sp_D_pixel_at K) [] E0 (tVar 0) (tCons (tVar 1) (tCons (tVar 2) tNil))) (tCons (tMeth (He.ga K "Drawer") "pixel_at" (sp_D_pixel_at K) [] E0 (tVar 0) (tCons (tOp rAddI (tVar 1) (tC (.int 1))) (tCons (tVar 2) tNil))) tNil))) (gTup K 2 (gCons (gName 5) (gCons (gName 6) gNil))) tYes (tCall sp_mean_of [] E0 (tCons (tVar 5) (tCons (tVar 6) tNil))) [5, 6]) (gName 3))
    (tSeq (tAsg (tLc (iZip K (tCons (tMeth (He.ga K "Drawer") "pixel_at" (sp_D_pixel_at K) [] E0 (tVar 0) (tCons (tVar 1) (tCons (tOp rAddI (tVar 2) (tC (.int 1))) tNil))) (tCons (tMeth (He.ga K "Drawer") "pixel_at" (sp_D_pixel_at K) [] E0 (tVar 0) (tCons (tOp rAddI (tVar 1) (tC (.int 1))) (tCons (tOp rAddI (tVar 2) (tC (.int 1))) tNil))) tNil))) (gTup K 2 (gCons (gName 5) (gCons (gName 6) gNil))) tYes (tCall sp_mean_of [] E0 (tCons (tVar 5) (tCons (tVar 6) tNil))) [5, 6]) (gName 4))
    (tRet (tLc (iZip K (tCons (tVar 3) (tCons (tVar 4) tNil))) (gTup K 2 (gCons (gName 5) (gCons (gName 6) gNil))) tYes (tCall sp_mean_of [] E0 (tCons (tVar 5) (tCons (tVar 6) tNil))) [5, 6]))))
/-- Drawer.small: 0 self, 1 found, 2 y, 3 x -/
def t_D_small (K : PySem.W.Frag) : TS :=
  (tSeq (tAsg (tLst tNil) (gName 1))
    (tSeq (tFor (iRng3 (tCons (tC (.int 0)) (tCons (tFld K (tVar 0) "high") (tCons (tC (.int 2)) tNil)))) (gName 2) (tFor (iRng3 (tCons (tC (.int 0)) (tCons (tFld K (tVar 0) "wide") (tCons (tC (.int 2)) tNil)))) (gName 3) (tDrop (tBM K "list" rExtend (tVar 1) (tCons (tMeth (He.ga K "Drawer") "mean_at" (sp_D_mean_at K) [] E0 (tVar 0) (tCons (tVar 3) (tCons (tVar 2) tNil))) tNil)))))
    (tRet (tVar 1))))
/-- Drawer.given: 0 self, 1 x, 2 y, 3 more, 4 high, 5 blue, 6 green, 7 red, 8 cover -/
def t_D_given (K : PySem.W.Frag) : TS :=
  (tSeq (tAsg (tOp (rIxL K) (tFld K (tVar 0) "pixels") (tMeth (He.ga K "Drawer") "place" (sp_D_place K) [] E0 (tVar 0) (tCons (tVar 1) (tCons (tVar 2) tNil)))) (gUnl K 4 (gCons (gName 5) (gCons (gName 6) (gCons (gName 7) (gCons (gName 8) gNil))))))
    (tSeq (tAsg (tOp (rIxT K) (tOp (rIxT K) (tC (.ref (He.ga K "DITHER"))) (tOp rModI (tVar 2) (tC (.int 4)))) (tOp rModI (tVar 1) (tC (.int 4)))) (gName 3))
    (tSeq (tAsg (tOp rMulI (tOp rDivI (tCall sp_held [] E0 (tCons (tOp rAddI (tVar 7) (tVar 3)) tNil)) (tC (.int 8))) (tC (.int 2048))) (gName 4))
    (tRet (tOp rAddI (tOp rAddI (tVar 4) (tOp rMulI (tOp rDivI (tCall sp_held [] E0 (tCons (tOp rAddI (tVar 6) (tOp rDivI (tVar 3) (tC (.int 2)))) tNil)) (tC (.int 4))) (tC (.int 32)))) (tOp rDivI (tCall sp_held [] E0 (tCons (tOp rAddI (tVar 5) (tVar 3)) tNil)) (tC (.int 8))))))))
/-- Drawer.give: 0 self, 1 found, 2 y, 3 x -/
def t_D_give (K : PySem.W.Frag) : TS :=
  (tSeq (tAsg (tLst tNil) (gName 1))
    (tSeq (tFor (iRng1 (tCons (tFld K (tVar 0) "high") tNil)) (gName 2) (tDrop (tBM K "list" rExtend (tVar 1) (tCons (tLc (iRng1 (tCons (tFld K (tVar 0) "wide") tNil)) (gName 3) tYes (tMeth (He.ga K "Drawer") "given" (sp_D_given K) [] E0 (tVar 0) (tCons (tVar 3) (tCons (tVar 2) tNil))) [3]) tNil))))
    (tRet (tVar 1))))
/-- Drawer.apart: 0 self, 1 other, 2 found, 3 y, 4 x, 5 a, 6 b -/
def t_D_apart (K : PySem.W.Frag) : TS :=
  (tSeq (tAsg (tLst tNil) (gName 2))
    (tSeq (tFor (iRng3 (tCons (tC (.int 0)) (tCons (tFld K (tVar 0) "high") (tCons (tC (.int (8))) tNil)))) (gName 3) (tFor (iRng3 (tCons (tC (.int 0)) (tCons (tFld K (tVar 0) "wide") (tCons (tC (.int (8))) tNil)))) (gName 4) (tDrop (tBM K "list" rAppend (tVar 2) (tCons (tCB (rSum K) (tCons (tLc (iZip K (tCons (tMeth (He.ga K "Drawer") "tile" (sp_D_tile K) [] E0 (tVar 0) (tCons (tVar 4) (tCons (tVar 3) tNil))) (tCons (tMeth (He.ga K "Drawer") "tile" (sp_D_tile K) [] E0 (tVar 1) (tCons (tVar 4) (tCons (tVar 3) tNil))) tNil))) (gTup K 2 (gCons (gName 5) (gCons (gName 6) gNil))) tYes (tCB rAbs (tCons (tOp rSubI (tVar 5) (tVar 6)) tNil)) [5, 6]) tNil)) tNil)))))
    (tRet (tVar 2))))
section
variable {P : Program} {w : World} {K : PySem.W.Frag} {mg : Str → Option Value} {base : Heap}
theorem len_D_rectangle : ∀ vs H Q E, sp_D_rectangle K vs H Q E → vs.length = 5 := spL5_len
theorem len_D_tile : ∀ vs H Q E, sp_D_tile K vs H Q E → vs.length = 3 := spL3_len
theorem len_D_mean_at : ∀ vs H Q E, sp_D_mean_at K vs H Q E → vs.length = 3 := spL3_len
theorem len_D_small : ∀ vs H Q E, sp_D_small K vs H Q E → vs.length = 1 := spL1_len
theorem len_D_given : ∀ vs H Q E, sp_D_given K vs H Q E → vs.length = 3 := sp3_len
theorem len_D_give : ∀ vs H Q E, sp_D_give K vs H Q E → vs.length = 1 := spL1_len
theorem len_D_apart : ∀ vs H Q E, sp_D_apart K vs H Q E → vs.length = 2 := spL2_len
theorem pxI_len (q : Px) : (pxI q).length = 4 := rfl
theorem flat_c {b c : Type} {k : Nat} (f : b → List c) : ∀ l : List b, (∀ x, (f x).length = k) → (l.flatMap f).length = l.length * k
  | [], _ => by simp
  | x :: r, h => by
    rw [List.flatMap_cons, List.length_append, h x, flat_c f r h, List.length_cons, Nat.succ_mul, Nat.add_comm]
theorem rectM_len (s : Si20.St) (x y wide high : Int) : (rectM s x y wide high).length = high.toNat * (wide.toNat * 4) := by
  unfold rectM
  rw [flat_c (k := wide.toNat * 4) _ _ (fun j => by rw [flat_c (k := 4) _ _ fun i => pxI_len _, List.length_range]), List.length_range]
theorem pure_D_rectangle (T : Tx K mg) (vs : List V) (H : Hp) (Q : VK) (E : XK) (h : sp_D_rectangle K vs H Q E) : t_D_rectangle K { nx := fun _ H' => Q .non H', rt := Q } (start ["self", "x", "y", "wide", "high", "found", "j", "i"] vs) H := by
  obtain ⟨v0, _, _, _, _, st, x, y, wd, hg, rfl, r, rfl, rfl, rfl, rfl, ⟨x0, y0, w0, h0, xw, yh⟩, k⟩ := h
  have wf := r.wf
  have w2 := wf.w2
  have h2 := wf.h2
  refine q_new fun p H1 e1 c1 => ?_
  have hlen := rectM_len st x y wd hg
  have b1 : hg.toNat * (wd.toNat * 4) ≤ 128 * (128 * 4) := Nat.mul_le_mul (by omega) (by omega)
  refine s_col1 (D := _) (n := hg) (fun σ => ∃ o1 o2, σ = [some v0, some (.int x), some (.int y), some (.int wd), some (.int hg), some (.ref p), o1, o2]) (fun (j : Nat) => (List.range wd.toNat).flatMap fun (i : Nat) => pxI (st.pixels.getD (ixP st (x + (i : Int)) (y + (j : Int))) Si20.black)) (by walk_at "ev") h0 (by omega) ⟨none, none, rfl⟩ c1 ?_ ?_ ?_
  · show ([] : List Int).length + (rectM st x y wd hg).length ≤ _
    rw [hlen]
    simp
    omega
  · rintro j σ H' acc N hj ⟨o1, o2, rfl⟩ c' hl hN
    refine s_col1 (D := _) (n := wd) (fun σ => ∃ o2, σ = [some v0, some (.int x), some (.int y), some (.int wd), some (.int hg), some (.ref p), some (.int (j : Int)), o2]) (fun (i : Nat) => pxI (st.pixels.getD (ixP st (x + (i : Int)) (y + (j : Int))) Si20.black)) (by walk_at "ev") w0 (by omega) ⟨o2, rfl⟩ c' hl ?_ ?_
    · rintro i σ H2 acc2 N2 hi ⟨o2, rfl⟩ c2 hl2 hN2
      have r2 := mo c2.2.1 r
      have on : OnP st (x + (i : Int)) (y + (j : Int)) := ⟨by omega, by omega, by omega, by omega⟩
      have hi : ixP st (x + (i : Int)) (y + (j : Int)) < st.pixels.size := by rw [wf.px]; exact ixP_lt on
      refine s_ext c2 rfl (er_ixL (n := (y + (j : Int)) * (st.w : Int) + (x + (i : Int))) (er_pixels T (er_var (by with_unfolding_all rfl) r2)) (by walk_at "ev") (ixP_int on) (pxs_at hi)) hl2 fun H3 c3 => hN2 _ _ ⟨_, rfl⟩ c3
    · rintro σ H2 ⟨o2, rfl⟩ c2
      exact hN _ _ ⟨_, _, rfl⟩ c2
  · rintro σ H2 ⟨o1, o2, rfl⟩ c2
    exact ⟨.ref p, rfl, k p H2 c2.1 c2.2.1 c2.2.2⟩
theorem ok_D_rectangle (T : Tx K mg) (G_D_place : GM P w K mg base (He.ga K "Drawer") "place" 1 ["self", "x", "y"] (sp_D_place K)) : GM P w K mg base (He.ga K "Drawer") "rectangle" 2 ["self", "x", "y", "wide", "high"] (sp_D_rectangle K) := by
  refine ⟨fn_keep (k := 1) (tt := (t_D_rectangle K)) T.d_D_rectangle sc_D_rectangle len_D_rectangle (fun _ _ _ _ _ _ us hl => match us, hl with | [_, _, _, _, _], _ => rfl) (fun cdv A outer s H E hr => ?_) (pure_D_rectangle T), T.m_D_rectangle⟩
  exact (pss_cons (ps_set (i := 5) sc_D_rectangle.nd rfl (.inl rfl) (pe_lst pa_nil))
    (pss_cons (ps_for PassesOwn.never rfl (pi_range1 rfl T.f_range (pa_cons (pv 4) pa_nil)) (pg_name (i := 6) sc_D_rectangle.nd rfl (.inl rfl)) (pss_one (ps_for PassesOwn.never rfl (pi_range1 rfl T.f_range (pa_cons (pv 3) pa_nil)) (pg_name (i := 7) sc_D_rectangle.nd rfl (.inl rfl)) (pss_one (ps_expr (pe_bm PySem.F.plainAttrs_list PySem.F.slot_list_extend PySem.F.type_list_extend mt_extend (pv 5) (pa_cons (pe_ix ix_list (pe_fld (pv 0) rfl) (pe_gm (pv 0) T.cl G_D_place (hr.mono (by decide)) (pa_cons (pe_op op_add (pv 1) (pv 7)) (pa_cons (pe_op op_add (pv 2) (pv 6)) pa_nil))) (fun _ _ => rfl)) pa_nil)))))))
    (pss_one (ps_ret (pv 5)))))
theorem pure_D_tile (T : Tx K mg) (vs : List V) (H : Hp) (Q : VK) (E : XK) (h : sp_D_tile K vs H Q E) : t_D_tile K { nx := fun _ H' => Q .non H', rt := Q } (start ["self", "x", "y"] vs) H := by
  obtain ⟨v0, _, _, st, x, y, rfl, r, rfl, rfl, ⟨x0, y0, xw, yh⟩, k⟩ := h
  exact s_retL (el_meth4 (by decide +kernel) (er_var (by with_unfolding_all rfl) r) (by walk_at "ev") (by walk_at "ev") (by walk_at "ev") (by walk_at "ev") ⟨x0, y0, by omega, by omega, xw, yh⟩) k
theorem ok_D_tile (T : Tx K mg) (G_D_rectangle : GM P w K mg base (He.ga K "Drawer") "rectangle" 2 ["self", "x", "y", "wide", "high"] (sp_D_rectangle K)) : GM P w K mg base (He.ga K "Drawer") "tile" 3 ["self", "x", "y"] (sp_D_tile K) := by
  refine ⟨fn_keep (k := 2) (tt := (t_D_tile K)) T.d_D_tile sc_D_tile len_D_tile (fun _ _ _ _ _ _ us hl => match us, hl with | [_, _, _], _ => rfl) (fun cdv A outer s H E hr => ?_) (pure_D_tile T), T.m_D_tile⟩
  exact (pss_one (ps_ret (pe_gm (pv 0) T.cl G_D_rectangle (hr.mono (by decide)) (pa_cons (pv 1) (pa_cons (pv 2) (pa_cons (pe_gi rfl T.i_TILE) (pa_cons (pe_gi rfl T.i_TILE) pa_nil)))))))
theorem zipI (a b : Px) : List.zipWith meanM (pxI a) (pxI b) = pxI (a.zip Si20.mean b) := by
  show [_, _, _, _] = [_, _, _, _]
  unfold meanM Si20.mean
  simp only [List.cons.injEq, and_true]
  refine ⟨?_, ?_, ?_, ?_⟩ <;> (simp only [Si20.Px.zip]; omega)
theorem pure_D_mean_at (T : Tx K mg) (vs : List V) (H : Hp) (Q : VK) (E : XK) (h : sp_D_mean_at K vs H Q E) : t_D_mean_at K { nx := fun _ H' => Q .non H', rt := Q } (start ["self", "x", "y", "upper", "lower", "a", "b"] vs) H := by
  obtain ⟨v0, _, _, st, x, y, rfl, r, rfl, rfl, -, k⟩ := h
  refine q_asgN (en_lcZ (xs := pxI (pixAt st x y)) (ys := pxI (pixAt st (x + 1) y)) meanM (el_ints (el_meth2 (by decide +kernel) (er_var (by with_unfolding_all rfl) r) (by walk_at "ev") (by walk_at "ev") trivial)) (el_ints (el_meth2 (by decide +kernel) (er_var (by with_unfolding_all rfl) r) (by walk_at "ev") (by walk_at "ev") trivial)) rfl (by rw [pxI_len]; decide) (fun _ _ => rfl) fun i a b H1 e _ _ => by walk_at "ev") fun p1 H1 hp1 e1 r1 => ?_
  have r' := mo e1 r
  refine q_asgN (en_lcZ (xs := pxI (pixAt st x (y + 1))) (ys := pxI (pixAt st (x + 1) (y + 1))) meanM (el_ints (el_meth2 (by decide +kernel) (er_var (by with_unfolding_all rfl) r') (by walk_at "ev") (by walk_at "ev") trivial)) (el_ints (el_meth2 (by decide +kernel) (er_var (by with_unfolding_all rfl) r') (by walk_at "ev") (by walk_at "ev") trivial)) rfl (by rw [pxI_len]; decide) (fun _ _ => rfl) fun i a b H1 e _ _ => by walk_at "ev") fun p2 H2 hp2 e2 r2 => ?_
  rw [zipI] at r1 r2
  have r1 := rl_ints (mo e2 r1)
  have r2 := rl_ints r2
  refine s_retN (en_lcZ meanM (er_var (by with_unfolding_all rfl) r1) (er_var (by with_unfolding_all rfl) r2) rfl (by rw [pxI_len]; decide) (fun _ _ => rfl) fun i a b H1 e _ _ => by walk_at "ev") fun q ws H3 hq e3 h3 r3 => k q H3 (fresh_back (e1.trans e2) hq) ((e1.trans e2).trans e3) ?_
  rw [zipI] at r3
  rw [h3, ints_of r3]
  rfl
theorem ok_D_mean_at (T : Tx K mg) (G_D_pixel_at : GM P w K mg base (He.ga K "Drawer") "pixel_at" 2 ["self", "x", "y"] (sp_D_pixel_at K)) (G_mean_of : GF P w K mg base "mean_of" 1 ["one", "other"] sp_mean_of) : GM P w K mg base (He.ga K "Drawer") "mean_at" 3 ["self", "x", "y"] (sp_D_mean_at K) := by
  refine ⟨fn_keep (k := 2) (tt := (t_D_mean_at K)) T.d_D_mean_at sc_D_mean_at len_D_mean_at (fun _ _ _ _ _ _ us hl => match us, hl with | [_, _, _], _ => rfl) (fun cdv A outer s H E hr => ?_) (pure_D_mean_at T), T.m_D_mean_at⟩
  exact (pss_cons (ps_setLc (i := 3) (own := [("a", 5), ("b", 6)]) (g := (gTup K 2 (gCons (gName 5) (gCons (gName 6) gNil)))) (tt := tYes) rfl sc_D_mean_at.nd rfl rfl (sw_true rfl rfl rfl (by decide +kernel)) (pi_zip rfl T.f_zip (pa_cons (pe_gm (pv 0) T.cl G_D_pixel_at (hr.mono (by decide)) (pa_cons (pv 1) (pa_cons (pv 2) pa_nil))) (pa_cons (pe_gm (pv 0) T.cl G_D_pixel_at (hr.mono (by decide)) (pa_cons (pe_op op_add (pv 1) pe_int) (pa_cons (pv 2) pa_nil))) pa_nil))) (blkOk_by (N := ["self", "x", "y", "upper", "lower", "a", "b"]) (sc := defScope s_D_mean_at) (by decide +kernel)) (fun _ _ _ _ _ => (pg_tup rfl (pgs_cons (pg_name (i := 5) sc_D_mean_at.nd rfl (.inl rfl)) (pgs_cons (pg_name (i := 6) sc_D_mean_at.nd rfl (.inl rfl)) pgs_nil)))) (fun _ _ _ _ _ => pts_nil) (fun _ _ _ _ _ => (pe_gf G_mean_of (hr.mono (by decide)) rfl (pa_cons (pv 5) (pa_cons (pv 6) pa_nil)))))
    (pss_cons (ps_setLc (i := 4) (own := [("a", 5), ("b", 6)]) (g := (gTup K 2 (gCons (gName 5) (gCons (gName 6) gNil)))) (tt := tYes) rfl sc_D_mean_at.nd rfl rfl (sw_true rfl rfl rfl (by decide +kernel)) (pi_zip rfl T.f_zip (pa_cons (pe_gm (pv 0) T.cl G_D_pixel_at (hr.mono (by decide)) (pa_cons (pv 1) (pa_cons (pe_op op_add (pv 2) pe_int) pa_nil))) (pa_cons (pe_gm (pv 0) T.cl G_D_pixel_at (hr.mono (by decide)) (pa_cons (pe_op op_add (pv 1) pe_int) (pa_cons (pe_op op_add (pv 2) pe_int) pa_nil))) pa_nil))) (blkOk_by (N := ["self", "x", "y", "upper", "lower", "a", "b"]) (sc := defScope s_D_mean_at) (by decide +kernel)) (fun _ _ _ _ _ => (pg_tup rfl (pgs_cons (pg_name (i := 5) sc_D_mean_at.nd rfl (.inl rfl)) (pgs_cons (pg_name (i := 6) sc_D_mean_at.nd rfl (.inl rfl)) pgs_nil)))) (fun _ _ _ _ _ => pts_nil) (fun _ _ _ _ _ => (pe_gf G_mean_of (hr.mono (by decide)) rfl (pa_cons (pv 5) (pa_cons (pv 6) pa_nil)))))
    (pss_one (ps_ret (pe_lc (own := [("a", 5), ("b", 6)]) (g := (gTup K 2 (gCons (gName 5) (gCons (gName 6) gNil)))) (tt := tYes) rfl sc_D_mean_at.nd (pi_zip rfl T.f_zip (pa_cons (pv 3) (pa_cons (pv 4) pa_nil))) (blkOk_by (N := ["self", "x", "y", "upper", "lower", "a", "b"]) (sc := defScope s_D_mean_at) (by decide +kernel)) (fun _ _ _ _ _ => (pg_tup rfl (pgs_cons (pg_name (i := 5) sc_D_mean_at.nd rfl (.inl rfl)) (pgs_cons (pg_name (i := 6) sc_D_mean_at.nd rfl (.inl rfl)) pgs_nil)))) (fun _ _ _ _ _ => pts_nil) (fun _ _ _ _ _ => (pe_gf G_mean_of (hr.mono (by decide)) rfl (pa_cons (pv 5) (pa_cons (pv 6) pa_nil)))))))))
end
end Sd
end

section
set_option Elab.async false
set_option linter.all false
set_option maxRecDepth 100000
set_option maxHeartbeats 400000
/-! ## 11. drawers.py: more of what reads -/
namespace Sd
open PySem PySem.Spec PyProof.Rows L2 Evl
open Si20 (Px)
local macro_rules | `(tactic| walk_at "ev") => `(tactic| first
  | with_reducible exact er_cI
  | focus ((with_reducible apply er_varI); with_unfolding_all rfl)
  | focus ((with_reducible apply er_var); all_goals first | with_unfolding_all rfl | assumption)
  | focus ((with_reducible apply er_op0); all_goals walk_at "ev")
  | focus ((with_reducible apply er_op); all_goals walk_at "ev")
  | focus ((with_reducible apply er_neg); all_goals walk_at "ev")
  | focus ((with_reducible apply er_max); all_goals walk_at "ev")
  | focus ((with_reducible apply er_min); all_goals walk_at "ev")
  | focus ((with_reducible apply er_abs); all_goals walk_at "ev")
  | focus ((with_reducible apply er_intB); all_goals walk_at "ev")
  | focus ((with_reducible apply er_bits); all_goals walk_at "ev")
  | focus ((with_reducible apply er_ixD); all_goals walk_at "ev")
  | focus ((with_reducible apply er_call1); all_goals walk_at "ev")
  | focus ((with_reducible apply er_call2); all_goals walk_at "ev")
  | focus ((with_reducible apply er_call3); all_goals walk_at "ev")
  | focus ((with_reducible apply er_call4); all_goals walk_at "ev")
  | focus ((with_reducible apply er_eq); all_goals walk_at "ev")
  | focus ((with_reducible apply er_ne); all_goals walk_at "ev")
  | focus ((with_reducible apply er_cmp); all_goals walk_at "ev")
  | focus ((with_reducible apply er_chain); all_goals walk_at "ev")
  | focus ((with_reducible apply er_andU); all_goals walk_at "ev")
  | focus ((with_reducible apply er_orU); all_goals walk_at "ev")
  | focus ((with_reducible apply et_t); all_goals walk_at "ev")
  | focus ((with_reducible apply et_b); all_goals walk_at "ev")
  | focus ((with_reducible apply et_andU); all_goals walk_at "ev")
  | focus ((with_reducible apply et_orU); all_goals walk_at "ev")
  | focus ((with_reducible apply Evl.et_not); all_goals walk_at "ev")
  | walk_at "side")
local macro_rules | `(tactic| walk_at "evr") => `(tactic| (refine er_is (by walk_at "ev") (by with_unfolding_all rfl)))
local macro_rules | `(tactic| walk_at "side") => `(tactic| first
  | assumption
  | exact True.intro
  | exact cdiv_ok (by decide) (by decide)
  | exact cmul_l (by omega) (by omega)
  | exact cmul_r (by omega) (by omega)
  | omega
  | decide
  | (dsimp only; done)
  | (dsimp only; first | assumption | omega | decide)
  | (constructor <;> assumption))
local macro_rules | `(tactic| walk_at "ev") => `(tactic| first
  | focus ((with_reducible apply er_s0); all_goals walk_at "ev")
  | focus ((with_reducible apply er_s1); all_goals walk_at "ev")
  | focus ((with_reducible apply er_s2); all_goals walk_at "ev")
  | focus ((with_reducible apply er_tupS); all_goals walk_at "ev")
  | focus ((with_reducible apply er_tupI2); all_goals walk_at "ev")
  | focus ((with_reducible apply er_divmod); all_goals walk_at "ev"))
local macro_rules | `(tactic| walk_at "side") => `(tactic| exact cshl_ok (by omega) (by omega))
local macro_rules | `(tactic| walk_at "ev") => `(tactic| first
  | focus ((with_reducible apply er_wide); all_goals walk_at "ev")
  | focus ((with_reducible apply er_high); all_goals walk_at "ev")
  | focus ((with_reducible apply er_meth1); all_goals walk_at "ev")
  | focus ((with_reducible apply er_meth2); all_goals walk_at "ev")
  | focus ((with_reducible apply er_meth3); all_goals walk_at "ev"))
local macro_rules | `(tactic| walk_at "side") => `(tactic| (focus (decide +kernel)))
section
variable {P : Program} {w : World} {K : PySem.W.Frag} {mg : Str → Option Value} {base : Heap}
theorem pure_D_small (T : Tx K mg) (vs : List V) (H : Hp) (Q : VK) (E : XK) (h : sp_D_small K vs H Q E) : t_D_small K { nx := fun _ H' => Q .non H', rt := Q } (start ["self", "found", "y", "x"] vs) H := by
  obtain ⟨v0, st, rfl, r, -, k⟩ := h
  have wf := r.wf
  have w2 := wf.w2
  have h2 := wf.h2
  have w3 := wf.w3
  have h3 := wf.h3
  refine q_new fun p H1 e1 c1 => ?_
  have r1 := mo e1 r
  refine s_col3 (c3 := 2) (D := _) (fun σ => ∃ o1 o2, σ = [some v0, some (.ref p), o1, o2]) (fun (y : Nat) => (List.range (st.w / 2)).flatMap fun (x : Nat) => pxI (meanPx st ((x * 2 : Nat) : Int) ((y * 2 : Nat) : Int))) st.h (by walk_at "ev") (by omega) (by omega) (by omega) (by omega) ⟨none, none, rfl⟩ c1 ?_ ?_ ?_
  · have hl : ((List.range (st.h / 2)).flatMap fun (y : Nat) => (List.range (st.w / 2)).flatMap fun (x : Nat) => pxI (meanPx st ((x * 2 : Nat) : Int) ((y * 2 : Nat) : Int))).length = st.h / 2 * (st.w / 2 * 4) := by
      rw [flat_c (k := st.w / 2 * 4) _ _ (fun j => by rw [flat_c (k := 4) _ _ fun i => pxI_len _, List.length_range]), List.length_range]
    rw [hl]
    have b1 : st.h / 2 * (st.w / 2 * 4) ≤ 128 * (128 * 4) := Nat.mul_le_mul (by omega) (by omega)
    simp
    omega
  · rintro j σ H' acc N hj ⟨o1, o2, rfl⟩ c' hl hN
    have r2 := mo c'.2.1 r
    refine s_col3 (c3 := 2) (D := _) (fun σ => ∃ o2, σ = [some v0, some (.ref p), some (.int ((j * 2 : Nat) : Int)), o2]) (fun (x : Nat) => pxI (meanPx st ((x * 2 : Nat) : Int) ((j * 2 : Nat) : Int))) st.w (by walk_at "ev") (by omega) (by omega) (by omega) (by omega) ⟨o2, rfl⟩ c' hl ?_ ?_
    · rintro i σ H2 acc2 N2 hi ⟨o2, rfl⟩ c2 hl2 hN2
      have r2 := mo c2.2.1 r
      exact s_ext c2 rfl (el_ints (el_meth2 (x := ((i * 2 : Nat) : Int)) (y := ((j * 2 : Nat) : Int)) (by decide +kernel) (er_var (by with_unfolding_all rfl) r2) (by walk_at "ev") (by walk_at "ev") trivial)) hl2 fun H3 c3 => hN2 _ _ ⟨_, rfl⟩ c3
    · rintro σ H2 ⟨o2, rfl⟩ c2
      exact hN _ _ ⟨_, _, rfl⟩ c2
  · rintro σ H2 ⟨o1, o2, rfl⟩ c2
    exact ⟨.ref p, rfl, k p H2 c2.1 c2.2.1 c2.2.2⟩
theorem ok_D_small (T : Tx K mg) (G_D_mean_at : GM P w K mg base (He.ga K "Drawer") "mean_at" 3 ["self", "x", "y"] (sp_D_mean_at K)) : GM P w K mg base (He.ga K "Drawer") "small" 4 ["self"] (sp_D_small K) := by
  refine ⟨fn_keep (k := 3) (tt := (t_D_small K)) T.d_D_small sc_D_small len_D_small (fun _ _ _ _ _ _ us hl => match us, hl with | [_], _ => rfl) (fun cdv A outer s H E hr => ?_) (pure_D_small T), T.m_D_small⟩
  exact (pss_cons (ps_set (i := 1) sc_D_small.nd rfl (.inl rfl) (pe_lst pa_nil))
    (pss_cons (ps_for PassesOwn.never rfl (pi_range3 rfl T.f_range (pa_cons pe_int (pa_cons (pe_fld (pv 0) rfl) (pa_cons pe_int pa_nil)))) (pg_name (i := 2) sc_D_small.nd rfl (.inl rfl)) (pss_one (ps_for PassesOwn.never rfl (pi_range3 rfl T.f_range (pa_cons pe_int (pa_cons (pe_fld (pv 0) rfl) (pa_cons pe_int pa_nil)))) (pg_name (i := 3) sc_D_small.nd rfl (.inl rfl)) (pss_one (ps_expr (pe_bm PySem.F.plainAttrs_list PySem.F.slot_list_extend PySem.F.type_list_extend mt_extend (pv 1) (pa_cons (pe_gm (pv 0) T.cl G_D_mean_at (hr.mono (by decide)) (pa_cons (pv 3) (pa_cons (pv 2) pa_nil))) pa_nil)))))))
    (pss_one (ps_ret (pv 1)))))
/-! ### 16 bits -/
def ditI (x y : Int) : Int := (((Si20.bias.getD ((y % 4).toNat * 4 + (x % 4).toNat) 0 : Nat)) : Int)
theorem er_dither (T : Tx K mg) {s : L2.St} {H : Hp} {ta tb : TE} {x y : Int} (hy : EvR RI ta s H (y % 4)) (hx : EvR RI tb s H (x % 4)) : EvR RI (tOp (rIxT K) (tOp (rIxT K) (tC (.ref (He.ga K "DITHER"))) ta) tb) s H (ditI x y) := by
  obtain ⟨a0, a1, a2, a3, hd⟩ := T.t_DITHER
  have hy4 : y % 4 = 0 ∨ y % 4 = 1 ∨ y % 4 = 2 ∨ y % 4 = 3 := by omega
  have hx4 : x % 4 = 0 ∨ x % 4 = 1 ∨ x % 4 = 2 ∨ x % 4 = 3 := by omega
  have key : ∀ {a : Addr} {l : List V} {z : Int}, atI [V.ref a0, V.ref a1, V.ref a2, V.ref a3] (y % 4) = some (V.ref a) → (∀ H, SqT K H a l) → atI l (x % 4) = some (V.int z) → EvR RI (tOp (rIxT K) (tOp (rIxT K) (tC (.ref (He.ga K "DITHER"))) ta) tb) s H z := fun {a l z} g1 g2 g3 H1 e Q q =>
    hy H1 e _ fun v H2 e2 r2 => ⟨_, _, _, .ref a, rfl, r2, (hd H2).1, g1, hx H2 (e.trans e2) _ fun v3 H3 e3 r3 => ⟨a, l, _, _, rfl, r3, g2 H3, g3, q _ H3 (e2.trans e3) rfl⟩⟩
  have d0 := fun H => (hd H).2.1
  have d1 := fun H => (hd H).2.2.1
  have d2 := fun H => (hd H).2.2.2.1
  have d3 := fun H => (hd H).2.2.2.2
  clear hd
  unfold ditI
  rcases hy4 with h | h | h | h
  · rw [h] at key ⊢
    rcases hx4 with g | g | g | g <;> rw [g] at key ⊢ <;> exact key rfl d0 rfl
  · rw [h] at key ⊢
    rcases hx4 with g | g | g | g <;> rw [g] at key ⊢ <;> exact key rfl d1 rfl
  · rw [h] at key ⊢
    rcases hx4 with g | g | g | g <;> rw [g] at key ⊢ <;> exact key rfl d2 rfl
  · rw [h] at key ⊢
    rcases hx4 with g | g | g | g <;> rw [g] at key ⊢ <;> exact key rfl d3 rfl
theorem held_more (a b : Nat) : heldM ((a : Int) + (b : Int)) = ((Si20.more a b : Nat) : Int) := by
  unfold heldM Si20.more
  split <;> split <;> omega
theorem cut_eq (s : Si20.St) (x y : Int) (on : OnP s x y) : ((Si20.cut s (ixP s x y) : Nat) : Int) = heldM (((s.pixels.getD (ixP s x y) Si20.black).r : Int) + ditI x y) / 8 * 2048 + heldM (((s.pixels.getD (ixP s x y) Si20.black).g : Int) + ditI x y / 2) / 4 * 32 + heldM (((s.pixels.getD (ixP s x y) Si20.black).b : Int) + ditI x y) / 8 := by
  unfold Si20.cut
  have hd : ixP s x y / s.w = y.toNat := by
    obtain ⟨h1, h2, h3, h4⟩ := on
    unfold ixP
    rw [Nat.mul_comm, Nat.mul_add_div (by omega), Nat.div_eq_of_lt (by omega), Nat.add_zero]
  have hm : ixP s x y % s.w = x.toNat := by
    obtain ⟨h1, h2, h3, h4⟩ := on
    unfold ixP
    rw [Nat.mul_comm, Nat.mul_add_mod, Nat.mod_eq_of_lt (by omega)]
  rw [hd, hm]
  have e1 : y.toNat % 4 = (y % 4).toNat := by have := on.2.2.1; omega
  have e2 : x.toNat % 4 = (x % 4).toNat := by have := on.1; omega
  rw [e1, e2]
  unfold ditI
  generalize Si20.bias.getD ((y % 4).toNat * 4 + (x % 4).toNat) 0 = k
  generalize s.pixels.getD (ixP s x y) Si20.black = q
  rw [show ((k : Int) / 2) = ((k / 2 : Nat) : Int) by omega, held_more, held_more, held_more]
  show ((Si20.more q.r k / 8 * 2 ^ 11 + Si20.more q.g (k / 2) / 4 * 2 ^ 5 + Si20.more q.b k / 8 : Nat) : Int) = _
  omega
theorem pure_D_given (T : Tx K mg) (vs : List V) (H : Hp) (Q : VK) (E : XK) (h : sp_D_given K vs H Q E) : t_D_given K { nx := fun _ H' => Q .non H', rt := Q } (start ["self", "x", "y", "more", "high", "blue", "green", "red", "cover"] vs) H := by
  obtain ⟨v0, _, _, st, x, y, rfl, r, rfl, rfl, on, k⟩ := h
  have wf := r.wf
  have hi : ixP st x y < st.pixels.size := by rw [wf.px]; exact ixP_lt on
  have k' : ∀ v H', Ex H H' → RI H' v ((Si20.cut st (ixP st x y) : Nat) : Int) → Q v H' := k
  rw [cut_eq st x y on] at k'
  generalize hq : st.pixels.getD (ixP st x y) Si20.black = q at k'
  have px := pxs_at hi
  rw [hq] at px
  refine qr_unl (A := AnyA) (R0 := RI) (xs := pxI q) (er_to (er_ixL (R := RIL) (n := y * (st.w : Int) + x) (er_pixels T (er_var (by with_unfolding_all rfl) r)) (by walk_at "ev") (ixP_int on) px) fun H1 v => ints_rl) rfl fun ws H1 e1 hw => ?_
  rw [ints_of hw]
  refine ⟨_, _, rfl, _, _, rfl, _, _, rfl, _, _, rfl, rfl, ?_⟩
  have r1 := mo e1 r
  refine qr_asgI (er_dither (x := x) (y := y) T (by walk_at "ev") (by walk_at "ev")) fun H2 e2 => ?_
  refine qr_asgI (by walk_at "ev") fun H3 e3 => ?_
  exact sr_ret (by walk_at "ev") fun v H4 e4 r4 => k' v H4 (((e1.trans e2).trans e3).trans e4) r4
theorem ok_D_given (T : Tx K mg) (G_D_place : GM P w K mg base (He.ga K "Drawer") "place" 1 ["self", "x", "y"] (sp_D_place K)) (G_held : GF P w K mg base "held" 1 ["number"] sp_held) : GM P w K mg base (He.ga K "Drawer") "given" 2 ["self", "x", "y"] (sp_D_given K) := by
  refine ⟨fn_keep (k := 1) (tt := (t_D_given K)) T.d_D_given sc_D_given len_D_given (fun _ _ _ _ _ _ us hl => match us, hl with | [_, _, _], _ => rfl) (fun cdv A outer s H E hr => ?_) (pure_D_given T), T.m_D_given⟩
  exact (pss_cons (ps_asg (pe_ix ix_list (pe_fld (pv 0) rfl) (pe_gm (pv 0) T.cl G_D_place (hr.mono (by decide)) (pa_cons (pv 1) (pa_cons (pv 2) pa_nil))) (fun _ _ => rfl)) (pg_unl rfl (pgs_cons (pg_name (i := 5) sc_D_given.nd rfl (.inl rfl)) (pgs_cons (pg_name (i := 6) sc_D_given.nd rfl (.inl rfl)) (pgs_cons (pg_name (i := 7) sc_D_given.nd rfl (.inl rfl)) (pgs_cons (pg_name (i := 8) sc_D_given.nd rfl (.inl rfl)) pgs_nil))))))
    (pss_cons (ps_set (i := 3) sc_D_given.nd rfl (.inl rfl) (pe_ix ix_tup (pe_ix ix_tup (pe_glob rfl T.g_DITHER rfl) (pe_op op_mod (pv 2) pe_int) (fun _ _ => rfl)) (pe_op op_mod (pv 1) pe_int) (fun _ _ => rfl)))
    (pss_cons (ps_set (i := 4) sc_D_given.nd rfl (.inl rfl) (pe_op op_mul (pe_op op_fdiv (pe_gf G_held (hr.mono (by decide)) rfl (pa_cons (pe_op op_add (pv 7) (pv 3)) pa_nil)) pe_int) pe_int))
    (pss_one (ps_ret (pe_op op_add (pe_op op_add (pv 4) (pe_op op_mul (pe_op op_fdiv (pe_gf G_held (hr.mono (by decide)) rfl (pa_cons (pe_op op_add (pv 6) (pe_op op_fdiv (pv 3) pe_int)) pa_nil)) pe_int) pe_int)) (pe_op op_fdiv (pe_gf G_held (hr.mono (by decide)) rfl (pa_cons (pe_op op_add (pv 5) (pv 3)) pa_nil)) pe_int)))))))
theorem pure_D_give (T : Tx K mg) (vs : List V) (H : Hp) (Q : VK) (E : XK) (h : sp_D_give K vs H Q E) : t_D_give K { nx := fun _ H' => Q .non H', rt := Q } (start ["self", "found", "y", "x"] vs) H := by
  obtain ⟨v0, st, rfl, r, -, k⟩ := h
  have wf := r.wf
  have w2 := wf.w2
  have h2 := wf.h2
  refine q_new fun p H1 e1 c1 => ?_
  have r1 := mo e1 r
  have k' : ∀ p H', H p = none → Ex H H' → H' p = some (.lst (vI ((List.range (st.h : Int).toNat).flatMap fun (y : Nat) => (List.range st.w).map fun (x : Nat) => ((Si20.cut st (y * st.w + x) : Nat) : Int)))) → Q (.ref p) H' := by
    rw [Int.toNat_natCast]
    exact k
  refine s_col1 (D := _) (n := (st.h : Int)) (fun σ => ∃ o1 o2, σ = [some v0, some (.ref p), o1, o2]) (fun (y : Nat) => (List.range st.w).map fun (x : Nat) => ((Si20.cut st (y * st.w + x) : Nat) : Int)) (by walk_at "ev") (by omega) (by omega) ⟨none, none, rfl⟩ c1 ?_ ?_ ?_
  · rw [flat_c (k := st.w) _ _ (fun j => by rw [List.length_map, List.length_range]), List.length_range]
    have b1 : (st.h : Int).toNat * st.w ≤ 128 * 128 := Nat.mul_le_mul (by omega) (by omega)
    simp at b1 ⊢
    omega
  · rintro j σ H' acc N hj ⟨o1, o2, rfl⟩ c' hl hN
    have r2 := mo c'.2.1 r
    refine s_ext c' rfl (el_ints (EvN.ints (EvN.is (en_lcR (n := (st.w : Int)) (fun (x : Nat) => ((Si20.cut st (j * st.w + x) : Nat) : Int)) (by walk_at "ev") (by omega) (by omega) (fun _ => rfl) fun i H2 e2 hi => ?_) (by rw [Int.toNat_natCast])))) hl fun H3 c3 => hN _ _ ⟨_, _, rfl⟩ c3
    have r3 := mo e2 r2
    have on : OnP st (i : Int) (j : Int) := ⟨by omega, by omega, by omega, by omega⟩
    refine er_is (er_meth2 (x := (i : Int)) (y := (j : Int)) (by decide +kernel) (er_var (by with_unfolding_all rfl) r3) (by walk_at "ev") (by walk_at "ev") on) ?_
    show ((Si20.cut st (ixP st (i : Int) (j : Int)) : Nat) : Int) = _
    unfold ixP
    rw [Int.toNat_natCast, Int.toNat_natCast]
  · rintro σ H2 ⟨o1, o2, rfl⟩ c2
    exact ⟨.ref p, rfl, k' p H2 c2.1 c2.2.1 c2.2.2⟩
theorem ok_D_give (T : Tx K mg) (G_D_given : GM P w K mg base (He.ga K "Drawer") "given" 2 ["self", "x", "y"] (sp_D_given K)) : GM P w K mg base (He.ga K "Drawer") "give" 3 ["self"] (sp_D_give K) := by
  refine ⟨fn_keep (k := 2) (tt := (t_D_give K)) T.d_D_give sc_D_give len_D_give (fun _ _ _ _ _ _ us hl => match us, hl with | [_], _ => rfl) (fun cdv A outer s H E hr => ?_) (pure_D_give T), T.m_D_give⟩
  exact (pss_cons (ps_set (i := 1) sc_D_give.nd rfl (.inl rfl) (pe_lst pa_nil))
    (pss_cons (ps_for PassesOwn.never rfl (pi_range1 rfl T.f_range (pa_cons (pe_fld (pv 0) rfl) pa_nil)) (pg_name (i := 2) sc_D_give.nd rfl (.inr rfl)) (pss_one (ps_expr (pe_bm PySem.F.plainAttrs_list PySem.F.slot_list_extend PySem.F.type_list_extend mt_extend (pv 1) (pa_cons (pe_lc (own := [("x", 3)]) (g := (gName 3)) (tt := tYes) rfl sc_D_give.nd (pi_range1 rfl T.f_range (pa_cons (pe_fld (pv 0) rfl) pa_nil)) (blkOk_by (N := ["self", "found", "y", "x"]) (sc := defScope s_D_give) (by decide +kernel)) (fun _ _ _ _ _ => (pg_name (i := 3) sc_D_give.nd rfl (.inl rfl))) (fun _ _ _ _ _ => pts_nil) (fun _ _ _ _ _ => (pe_gm (pv 0) T.cl G_D_given (hr.mono (by decide)) (pa_cons (pv 3) (pa_cons (pv 2) pa_nil))))) pa_nil)))))
    (pss_one (ps_ret (pv 1)))))
theorem er_sum {s : L2.St} {H : Hp} {te : TE} {ns : List Int} (h : EvR RIL te s H ns) : EvR RI (tCB (rSum K) (tCons te tNil)) s H ns.sum := fun H1 e Q q => h H1 e _ fun v H2 e2 ⟨p, r1, r2⟩ => ⟨p, ns, by rw [r1], SqL.of r2, q _ H2 e2 rfl⟩
theorem pure_D_apart (T : Tx K mg) (vs : List V) (H : Hp) (Q : VK) (E : XK) (h : sp_D_apart K vs H Q E) : t_D_apart K { nx := fun _ H' => Q .non H', rt := Q } (start ["self", "other", "found", "y", "x", "a", "b"] vs) H := by
  obtain ⟨v0, u0, st, tt, rfl, r, t, ⟨hw, hh⟩, k⟩ := h
  have wf := r.wf
  have w2 := wf.w2
  have h2 := wf.h2
  have w3 := wf.w3
  have h3 := wf.h3
  refine q_new fun p H1 e1 c1 => ?_
  have r1 := mo e1 r
  refine s_col3 (c3 := 8) (D := _) (fun σ => ∃ o1 o2, σ = [some v0, some u0, some (.ref p), o1, o2, none, none]) (fun (y : Nat) => (List.range (st.w / 8)).flatMap fun (x : Nat) => [(List.zipWith absM (tileM st ((x * 8 : Nat) : Int) ((y * 8 : Nat) : Int)) (tileM tt ((x * 8 : Nat) : Int) ((y * 8 : Nat) : Int))).sum]) st.h (by walk_at "ev") (by omega) (by omega) (by omega) (by omega) ⟨none, none, rfl⟩ c1 ?_ ?_ ?_
  · rw [flat_c (k := st.w / 8) _ _ (fun j => by rw [flat_c (k := 1) _ _ fun i => rfl, List.length_range, Nat.mul_one]), List.length_range]
    have b1 : st.h / 8 * (st.w / 8) ≤ 128 * 128 := Nat.mul_le_mul (by omega) (by omega)
    simp
    omega
  · rintro j σ H' acc N hj ⟨o1, o2, rfl⟩ c' hl hN
    have r2 := mo c'.2.1 r
    refine s_col3 (c3 := 8) (D := _) (fun σ => ∃ o2, σ = [some v0, some u0, some (.ref p), some (.int ((j * 8 : Nat) : Int)), o2, none, none]) (fun (x : Nat) => [(List.zipWith absM (tileM st ((x * 8 : Nat) : Int) ((j * 8 : Nat) : Int)) (tileM tt ((x * 8 : Nat) : Int) ((j * 8 : Nat) : Int))).sum]) st.w (by walk_at "ev") (by omega) (by omega) (by omega) (by omega) ⟨o2, rfl⟩ c' hl ?_ ?_
    · rintro i σ H2 acc2 N2 hi ⟨o2, rfl⟩ c2 hl2 hN2
      have r2 := mo c2.2.1 r
      have t2 := mo c2.2.1 t
      have l1 : (tileM st ((i * 8 : Nat) : Int) ((j * 8 : Nat) : Int)).length = 256 := rectM_len _ _ _ 8 8
      have l2 : (tileM tt ((i * 8 : Nat) : Int) ((j * 8 : Nat) : Int)).length = 256 := rectM_len _ _ _ 8 8
      refine s_app c2 rfl (er_sum (el_ints (EvN.ints (en_lcZ (xs := tileM st ((i * 8 : Nat) : Int) ((j * 8 : Nat) : Int)) (ys := tileM tt ((i * 8 : Nat) : Int) ((j * 8 : Nat) : Int)) absM (el_ints (el_meth2 (x := ((i * 8 : Nat) : Int)) (y := ((j * 8 : Nat) : Int)) (by decide +kernel) (er_var (by with_unfolding_all rfl) r2) (by walk_at "ev") (by walk_at "ev") ⟨by omega, by omega, by omega, by omega⟩))
        (el_ints (el_meth2 (x := ((i * 8 : Nat) : Int)) (y := ((j * 8 : Nat) : Int)) (by decide +kernel) (er_var (by with_unfolding_all rfl) t2) (by walk_at "ev") (by walk_at "ev") ⟨by omega, by omega, by omega, by omega⟩)) (by rw [l1, l2]) (by rw [l1]; omega) (fun _ _ => rfl) fun i a b H1 e _ _ => by walk_at "evr")))) (by have : acc2.length + 1 ≤ 16777216 := hl2; omega) fun H3 c3 => hN2 _ _ ⟨_, rfl⟩ c3
    · rintro σ H2 ⟨o2, rfl⟩ c2
      exact hN _ _ ⟨_, _, rfl⟩ c2
  · rintro σ H2 ⟨o1, o2, rfl⟩ c2
    exact ⟨.ref p, rfl, k p H2 c2.1 c2.2.1 c2.2.2⟩
theorem ok_D_apart (T : Tx K mg) (G_D_tile : GM P w K mg base (He.ga K "Drawer") "tile" 3 ["self", "x", "y"] (sp_D_tile K)) : GM P w K mg base (He.ga K "Drawer") "apart" 4 ["self", "other"] (sp_D_apart K) := by
  refine ⟨fn_keep (k := 3) (tt := (t_D_apart K)) T.d_D_apart sc_D_apart len_D_apart (fun _ _ _ _ _ _ us hl => match us, hl with | [_, _], _ => rfl) (fun cdv A outer s H E hr => ?_) (pure_D_apart T), T.m_D_apart⟩
  exact (pss_cons (ps_set (i := 2) sc_D_apart.nd rfl (.inl rfl) (pe_lst pa_nil))
    (pss_cons (ps_for PassesOwn.never rfl (pi_range3 rfl T.f_range (pa_cons pe_int (pa_cons (pe_fld (pv 0) rfl) (pa_cons (pe_gi rfl T.i_TILE) pa_nil)))) (pg_name (i := 3) sc_D_apart.nd rfl (.inl rfl)) (pss_one (ps_for PassesOwn.never rfl (pi_range3 rfl T.f_range (pa_cons pe_int (pa_cons (pe_fld (pv 0) rfl) (pa_cons (pe_gi rfl T.i_TILE) pa_nil)))) (pg_name (i := 4) sc_D_apart.nd rfl (.inl rfl)) (pss_one (ps_expr (pe_bm PySem.F.plainAttrs_list PySem.F.slot_list_append PySem.F.type_list_append mt_append (pv 2) (pa_cons (pe_callB (cr_sum rfl) rfl T.f_sum (by decide +kernel) (pa_cons (pe_lc (own := [("a", 5), ("b", 6)]) (g := (gTup K 2 (gCons (gName 5) (gCons (gName 6) gNil)))) (tt := tYes) rfl sc_D_apart.nd (pi_zip rfl T.f_zip (pa_cons (pe_gm (pv 0) T.cl G_D_tile (hr.mono (by decide)) (pa_cons (pv 4) (pa_cons (pv 3) pa_nil))) (pa_cons (pe_gm (pv 1) T.cl G_D_tile (hr.mono (by decide)) (pa_cons (pv 4) (pa_cons (pv 3) pa_nil))) pa_nil))) (blkOk_by (N := ["self", "other", "found", "y", "x", "a", "b"]) (sc := defScope s_D_apart) (by decide +kernel)) (fun _ _ _ _ _ => (pg_tup rfl (pgs_cons (pg_name (i := 5) sc_D_apart.nd rfl (.inl rfl)) (pgs_cons (pg_name (i := 6) sc_D_apart.nd rfl (.inl rfl)) pgs_nil)))) (fun _ _ _ _ _ => pts_nil) (fun _ _ _ _ _ => (pe_callB call_abs rfl T.f_abs (by decide +kernel) (pa_cons (pe_op op_sub (pv 5) (pv 6)) pa_nil)))) pa_nil)) pa_nil)))))))
    (pss_one (ps_ret (pv 2)))))
end
end Sd
end

section
set_option Elab.async false
set_option linter.all false
set_option maxRecDepth 100000
set_option maxHeartbeats 400000
/-! ## 12. Drawers that change -/
namespace Sd
open PySem PySem.Spec PyProof.Rows L2 Evl
open Si20 (Px)
/-- from one heap to another only parts of the drawer d change -/
structure Stp (d : Nat) (tg : Tags) (H : Hp) (tg' : Tags) (H' : Hp) : Prop where
  fr : ∀ b o, H b = some o → (∀ j, tg b ≠ some (d, j)) → H' b = some o
  tk : ∀ b o, H b = some o → tg' b = tg b
  al : ∀ b o, H b = some o → ∃ o', H' b = some o'
section
variable {K : PySem.W.Frag} {C : Addr} {tg tg' tg'' : Tags} {d : Nat} {H H1 H' H'' : Hp} {a b : Addr} {D D' : DA} {s s' : Si20.St} {o o' : HO}
theorem Stp.refl : Stp d tg H tg H := ⟨fun _ _ h _ => h, fun _ _ _ => rfl, fun _ o h => ⟨o, h⟩⟩
theorem Stp.ofEx (e : Ex H H') : Stp d tg H tg H' := ⟨fun _ _ h _ => e _ _ h, fun _ _ _ => rfl, fun _ o h => ⟨o, e _ _ h⟩⟩
theorem Stp.trans (x : Stp d tg H tg' H') (y : Stp d tg' H' tg'' H'') : Stp d tg H tg'' H'' :=
  ⟨fun b o h n => y.fr b o (x.fr b o h n) fun j => by rw [x.tk b o h]; exact n j, fun b o h => by
    obtain ⟨o', h'⟩ := x.al b o h
    rw [y.tk b o' h', x.tk b o h], fun b o h => by
    obtain ⟨o', h'⟩ := x.al b o h
    exact y.al b o' h'⟩
theorem Stp.back (x : Stp d tg H tg' H') {p : Addr} (h : H' p = none) : H p = none := by
  cases e : H p with
  | none => rfl
  | some o =>
    obtain ⟨o', h'⟩ := x.al p o e
    rw [h'] at h
    cases h
theorem TagOk.mono (t : TagOk tg H) (e : Ex H H') : TagOk tg H' := fun b x h => by
  rcases t b x h with ⟨xs, z⟩ | ⟨C, dx, fs, z⟩
  · exact .inl ⟨xs, e _ _ z⟩
  · exact .inr ⟨C, dx, fs, e _ _ z⟩
theorem TagOk.al (t : TagOk tg H) {b : Addr} {x : Nat × Nat} (h : tg b = some x) : ∃ o, H b = some o := by
  rcases t b x h with ⟨xs, z⟩ | ⟨C, dx, fs, z⟩
  · exact ⟨_, z⟩
  · exact ⟨_, z⟩
theorem TagOk.fresh (t : TagOk tg H) {p : Addr} (h : H p = none) : tg p = none := by
  cases e : tg p with
  | none => rfl
  | some x =>
    obtain ⟨o, z⟩ := t.al e
    rw [z] at h
    cases h
/-- a change of one part, tags given to new addresses only -/
theorem stp_upd {j : Nat} (e : Ex H H1) (tb : tg b = some (d, j)) (hb : H b = some o) (ht : ∀ c o, H c = some o → tg' c = tg c) : Stp d tg H tg' (upd H1 b o') where
  fr := fun c x h n => by
    have : c ≠ b := fun z => n j (by rw [z]; exact tb)
    rw [upd_ne this]
    exact e _ _ h
  tk := ht
  al := fun c x h => by
    by_cases z : c = b
    · exact ⟨o', by rw [z]; exact upd_same⟩
    · exact ⟨x, by rw [upd_ne z]; exact e _ _ h⟩
/-! what is not tagged stays -/
theorem Stp.un (x : Stp d tg H tg' H') {p : Addr} (u : Un_ tg p) (h : H p = some o) : Un_ tg' p ∧ H' p = some o :=
  ⟨(x.tk p o h).trans u, x.fr p o h fun j => by rw [show tg p = none from u]; intro z; cases z⟩
theorem Stp.rpx (x : Stp d tg H tg' H') {v : V} {q : Px} (r : RPx (Un_ tg) H v q) : RPx (Un_ tg') H' v q := by
  obtain ⟨p, h1, h2, h3⟩ := r
  obtain ⟨u, h⟩ := x.un h2 h3
  exact ⟨p, h1, u, h⟩
theorem Stp.rln {c : Type} {R R' : Rel c} (x : Stp d tg H tg' H') (k : ∀ v y, R H v y → R' H' v y) {v : V} {ys : List c} (r : RLn (Un_ tg) R H v ys) : RLn (Un_ tg') R' H' v ys := by
  obtain ⟨p, vs, h1, h2, h3, h4⟩ := r
  obtain ⟨u, h⟩ := x.un h2 h3
  exact ⟨p, vs, h1, u, h, h4.mono k⟩
theorem Stp.rtex (x : Stp d tg H tg' H') {v : V} {q : Option (Array Px)} (r : RTex (Un_ tg) H v q) : RTex (Un_ tg') H' v q := by
  cases q with
  | none => exact r
  | some l => exact x.rln (R := RPx (Un_ tg)) (R' := RPx (Un_ tg')) (fun _ _ => x.rpx) r
theorem Stp.sqt (x : Stp d tg H tg' H') (t : TagOk tg H) {p : Addr} {xs : List V} (r : SqT K H p xs) : SqT K H' p xs := by
  have un : ∀ o, H p = some o → (∀ ys, o ≠ .lst ys) → (∀ C dx fs, o ≠ .ins C dx fs) → H' p = some o := fun o h n1 n2 => x.fr p o h fun j z => by
    rcases t p _ z with ⟨ys, w⟩ | ⟨C, dx, fs, w⟩
    · rw [h] at w
      exact n1 ys (Option.some.inj w)
    · rw [h] at w
      exact n2 C dx fs (Option.some.inj w)
  rcases r with (r | ⟨o, r⟩) | r
  · exact .inl (.inl (un _ r (fun _ z => by cases z) fun _ _ _ z => by cases z))
  · exact .inl (.inr ⟨o, un _ r (fun _ z => by cases z) fun _ _ _ z => by cases z⟩)
  · exact .inr r
theorem Stp.rf (x : Stp d tg H tg' H') (t : TagOk tg H) {v : V} {n : Nat} (r : RF K H v n) : RF K H' v n := by
  obtain ⟨y, ⟨p, r1, r2⟩, r3⟩ := r
  exact ⟨y, ⟨p, r1, x.sqt t r2⟩, r3⟩
theorem Stp.rmat (x : Stp d tg H tg' H') (t : TagOk tg H) {v : V} {n : List (List Nat)} (r : RLn (Un_ tg) (RLn (Un_ tg) (RF K)) H v n) : RLn (Un_ tg') (RLn (Un_ tg') (RF K)) H' v n :=
  x.rln (R := RLn (Un_ tg) (RF K)) (R' := RLn (Un_ tg') (RF K)) (fun _ _ r => x.rln (R := RF K) (R' := RF K) (fun _ _ => x.rf t) r) r
/-- another drawer stays -/
theorem Dr.other {e : Nat} (x : Dr K C tg e H a D s) (y : Stp d tg H tg' H') (t : TagOk tg H) (ne : e ≠ d) : Dr K C tg' e H' a D s := by
  have own : ∀ b o j, tg b = some (e, j) → H b = some o → H' b = some o ∧ tg' b = some (e, j) := fun b o j h z => ⟨y.fr b o z fun j' => by rw [h]; intro w; cases w; exact ne rfl, by rw [y.tk b o z]; exact h⟩
  have i := own _ _ _ x.ta x.ins
  have p := own _ _ _ x.tp x.px
  have q := own _ _ _ x.td x.dp
  have r := own _ _ _ x.tt x.tx
  exact ⟨i.1, i.2, p.1, p.2, x.pxs.mono fun v z ⟨b, h1, h2, h3⟩ => ⟨b, h1, (own _ _ _ h2 h3).2, (own _ _ _ h2 h3).1⟩, x.nd, q.1, q.2, r.1, r.2, x.txs.mono fun _ _ => y.rtex, y.rpx x.fg, y.rmat t x.mt, y.rmat t x.lt, x.wf⟩
/-- where a drawer stands after changes -/
def At (K : PySem.W.Frag) (a : Addr) (d : Nat) (tg : Tags) (H H' : Hp) (s : Si20.St) : Prop := ∃ tg' D', Stp d tg H tg' H' ∧ TagOk tg' H' ∧ Dr K (dC K) tg' d H' a D' s
theorem At.ex (x : At K a d tg H H' s) (e : Ex H' H'') : At K a d tg H H'' s := by
  obtain ⟨tg', D', h1, h2, h3⟩ := x
  exact ⟨tg', D', h1.trans (Stp.ofEx e), h2.mono e, h3.mono e⟩
theorem At.rd (x : At K a d tg H H' s) : RD K (dC K) H' (.ref a) s := by
  obtain ⟨tg', D', h1, h2, h3⟩ := x
  exact ⟨tg', d, a, D', rfl, h3⟩
theorem At.trans (x : Stp d tg H tg' H') (y : At K a d tg' H' H'' s) : At K a d tg H H'' s := by
  obtain ⟨t, D', h1, h2, h3⟩ := y
  exact ⟨t, D', x.trans h1, h2, h3⟩
/-! ### the parts changed -/
theorem tag_ne {p : Addr} {x y : Nat × Nat} (h : tg p = some x) (k : tg b = some y) (n : x ≠ y) : p ≠ b := fun z => by
  rw [z, k] at h
  cases h
  exact n rfl
theorem un_ne {p : Addr} {y : Nat × Nat} (h : Un_ tg p) (k : tg b = some y) : p ≠ b := fun z => by
  rw [← z, show tg p = none from h] at k
  cases k
theorem arr_set {i : Nat} {c : Type} (l : Array c) (x : c) : (l.setIfInBounds i x).toList = l.toList.set i x := by simp
/-- a pixel replaced by a new one -/
theorem Dr.putPx (x : Dr K C tg d H a D s) (t : TagOk tg H) {q : Addr} {p : Px} {i : Nat} (hq : H q = none) (e : Ex H H1) (h1 : H1 q = some (.lst (pxV p))) (ok : p.Ok) :
    ∃ tg', Stp d tg H tg' (upd H1 D.ap (.lst (D.vs.set i (.ref q)))) ∧ TagOk tg' (upd H1 D.ap (.lst (D.vs.set i (.ref q)))) ∧ Dr K C tg' d (upd H1 D.ap (.lst (D.vs.set i (.ref q)))) a { D with vs := D.vs.set i (.ref q) } { s with pixels := s.pixels.setIfInBounds i p } := by
  have tq : tg q = none := t.fresh hq
  have neq : ∀ {b o}, H b = some o → b ≠ q := fun h z => by rw [z, hq] at h; cases h
  let tg' : Tags := fun b => if b = q then some (d, 4) else tg b
  have tg_ne : ∀ {b}, b ≠ q → tg' b = tg b := fun h => if_neg h
  have tk : ∀ c o, H c = some o → tg' c = tg c := fun c o h => tg_ne (neq h)
  have st : Stp d tg H tg' (upd H1 D.ap (.lst (D.vs.set i (.ref q)))) := stp_upd e x.tp x.px tk
  have hqa : q ≠ D.ap := fun z => neq x.px z.symm
  have own : ∀ b o j, tg b = some (d, j) → j ≠ 1 → H b = some o → (upd H1 D.ap (.lst (D.vs.set i (.ref q)))) b = some o ∧ tg' b = some (d, j) := fun b o j h n z => ⟨by rw [upd_ne (tag_ne h x.tp (by intro w; cases w; exact n rfl))]; exact e _ _ z, by rw [tk b o z]; exact h⟩
  refine ⟨tg', st, ?_, ?_⟩
  · intro b y h
    by_cases hb : b = q
    · rw [hb]
      exact .inl ⟨_, by rw [upd_ne hqa]; exact h1⟩
    · rw [tg_ne hb] at h
      by_cases hb2 : b = D.ap
      · rw [hb2]
        exact .inl ⟨_, upd_same⟩
      · rw [upd_ne hb2]
        exact (t.mono e) b y h
  · have hi := own _ _ _ x.ta (by decide) x.ins
    have hd := own _ _ _ x.td (by decide) x.dp
    have ht := own _ _ _ x.tt (by decide) x.tx
    refine ⟨hi.1, hi.2, upd_same, by rw [tk _ _ x.px]; exact x.tp, ?_, ?_, hd.1, hd.2, ht.1, ht.2, x.txs.mono fun _ _ => st.rtex, st.rpx x.fg, st.rmat t x.mt, st.rmat t x.lt, ?_⟩
    · rw [arr_set]
      exact (x.pxs.mono fun v z ⟨b, h1, h2, h3⟩ => ⟨b, h1, (own _ _ _ h2 (by decide) h3).2, (own _ _ _ h2 (by decide) h3).1⟩ : All2 _ D.vs s.pixels.toList).put i ⟨q, rfl, if_pos rfl, by rw [upd_ne hqa]; exact h1⟩
    · have hvn : ∀ k : Nat, D.vs[k]? ≠ some (V.ref q) := fun k z => by
        obtain ⟨y, _, b, r1, _, r3⟩ := x.pxs.get' z
        cases r1
        exact neq r3 rfl
      intro m n u hm hn
      have hm : (D.vs.set i (.ref q))[m]? = some u := hm
      have hn : (D.vs.set i (.ref q))[n]? = some u := hn
      by_cases e1 : i = m
      · by_cases e2 : i = n
        · rw [← e1, ← e2]
        · rw [List.getElem?_set_ne e2] at hn
          rw [← e1, List.getElem?_set_self'] at hm
          cases e3 : D.vs[i]? with
          | none => rw [e3] at hm; cases hm
          | some z =>
            rw [e3] at hm
            cases hm
            exact absurd hn (hvn n)
      · rw [List.getElem?_set_ne e1] at hm
        by_cases e2 : i = n
        · rw [← e2, List.getElem?_set_self'] at hn
          cases e3 : D.vs[i]? with
          | none => rw [e3] at hn; cases hn
          | some z =>
            rw [e3] at hn
            cases hn
            exact absurd hm (hvn m)
        · rw [List.getElem?_set_ne e2] at hn
          exact x.nd m n u hm hn
    · have wf := x.wf
      exact ⟨wf.w1, wf.w2, wf.w3, wf.h1, wf.h2, wf.h3, by show (s.pixels.setIfInBounds i p).size = _; rw [Array.size_setIfInBounds]; exact wf.px, wf.dp, wf.tx, wf.ts, fun z hz => by
        have hz : z ∈ (s.pixels.setIfInBounds i p).toList := hz
        rw [arr_set] at hz
        rcases List.mem_or_eq_of_mem_set hz with h | h
        · exact wf.po z h
        · rw [h]
          exact ok, wf.fo, wf.m1, wf.m2, wf.l1, wf.l2⟩
/-- a pixel changed where it stands -/
theorem Dr.fadePx (x : Dr K C tg d H a D s) (t : TagOk tg H) {q : Addr} {p : Px} {i : Nat} (hq : D.vs[i]? = some (.ref q)) (ok : p.Ok) :
    Stp d tg H tg (upd H q (.lst (pxV p))) ∧ TagOk tg (upd H q (.lst (pxV p))) ∧ Dr K C tg d (upd H q (.lst (pxV p))) a D { s with pixels := s.pixels.setIfInBounds i p } := by
  obtain ⟨y, hy, b, hb, tb, hbl⟩ := x.pxs.get' hq
  cases hb
  have st : Stp d tg H tg (upd H q (.lst (pxV p))) := stp_upd (Ex.refl H) tb hbl fun _ _ _ => rfl
  have own : ∀ b o j, tg b = some (d, j) → j ≠ 4 → H b = some o → (upd H q (.lst (pxV p))) b = some o := fun b o j h n z => by rw [upd_ne (tag_ne h tb (by intro w; cases w; exact n rfl))]; exact z
  refine ⟨st, fun b y h => ?_, own _ _ _ x.ta (by decide) x.ins, x.ta, own _ _ _ x.tp (by decide) x.px, x.tp, ?_, x.nd, own _ _ _ x.td (by decide) x.dp, x.td, own _ _ _ x.tt (by decide) x.tx, x.tt, x.txs.mono fun _ _ => st.rtex, st.rpx x.fg, st.rmat t x.mt, st.rmat t x.lt, ?_⟩
  · by_cases hb : b = q
    · rw [hb]
      exact .inl ⟨_, upd_same⟩
    · rw [upd_ne hb]
      exact t b y h
  · rw [arr_set]
    refine ⟨by rw [List.length_set]; exact x.pxs.1, fun k u z hu hz => ?_⟩
    have hk : k < D.vs.length := (List.getElem?_eq_some_iff.mp hu).1
    by_cases e : i = k
    · rw [← e] at hu hz
      rw [hq] at hu
      cases hu
      rw [List.getElem?_set_self (by rw [← x.pxs.1, e]; exact hk)] at hz
      cases hz
      exact ⟨q, rfl, tb, upd_same⟩
    · rw [List.getElem?_set_ne e] at hz
      obtain ⟨b, r1, r2, r3⟩ := x.pxs.2 k u z hu hz
      have ne : b ≠ q := fun w => by
        rw [r1, w] at hu
        exact e (x.nd i k _ hq hu)
      exact ⟨b, r1, r2, by rw [upd_ne ne]; exact r3⟩
  · have wf := x.wf
    exact ⟨wf.w1, wf.w2, wf.w3, wf.h1, wf.h2, wf.h3, by show (s.pixels.setIfInBounds i p).size = _; rw [Array.size_setIfInBounds]; exact wf.px, wf.dp, wf.tx, wf.ts, fun z hz => by
        have hz : z ∈ (s.pixels.setIfInBounds i p).toList := hz
        rw [arr_set] at hz
        rcases List.mem_or_eq_of_mem_set hz with h | h
        · exact wf.po z h
        · rw [h]
          exact ok, wf.fo, wf.m1, wf.m2, wf.l1, wf.l2⟩
/-- a depth kept -/
theorem Dr.putDp (x : Dr K C tg d H a D s) (t : TagOk tg H) {i n : Nat} :
    Stp d tg H tg (upd H D.ad (.lst ((s.depths.toList.map fun (n : Nat) => V.int (n : Int)).set i (.int (n : Int))))) ∧ TagOk tg (upd H D.ad (.lst ((s.depths.toList.map fun (n : Nat) => V.int (n : Int)).set i (.int (n : Int))))) ∧ Dr K C tg d (upd H D.ad (.lst ((s.depths.toList.map fun (n : Nat) => V.int (n : Int)).set i (.int (n : Int))))) a D { s with depths := s.depths.setIfInBounds i n } := by
  generalize ho : HO.lst ((s.depths.toList.map fun (n : Nat) => V.int (n : Int)).set i (.int (n : Int))) = o'
  have st : Stp d tg H tg (upd H D.ad o') := stp_upd (Ex.refl H) x.td x.dp fun _ _ _ => rfl
  have own : ∀ b o j, tg b = some (d, j) → j ≠ 2 → H b = some o → (upd H D.ad o') b = some o := fun b o j h n z => by rw [upd_ne (tag_ne h x.td (by intro w; cases w; exact n rfl))]; exact z
  refine ⟨st, fun b y h => ?_, own _ _ _ x.ta (by decide) x.ins, x.ta, own _ _ _ x.tp (by decide) x.px, x.tp, x.pxs.mono fun v z ⟨b, h1, h2, h3⟩ => ⟨b, h1, h2, own _ _ _ h2 (by decide) h3⟩, x.nd, ?_, x.td, own _ _ _ x.tt (by decide) x.tx, x.tt, x.txs.mono fun _ _ => st.rtex, st.rpx x.fg, st.rmat t x.mt, st.rmat t x.lt, ?_⟩
  · by_cases hb : b = D.ad
    · rw [hb, ← ho]
      exact .inl ⟨_, upd_same⟩
    · rw [upd_ne hb]
      exact t b y h
  · rw [upd_same, ← ho, arr_set, List.map_set]
  · have wf := x.wf
    exact ⟨wf.w1, wf.w2, wf.w3, wf.h1, wf.h2, wf.h3, wf.px, by show (s.depths.setIfInBounds i n).size = _; rw [Array.size_setIfInBounds]; exact wf.dp, wf.tx, wf.ts, wf.po, wf.fo, wf.m1, wf.m2, wf.l1, wf.l2⟩
/-- a texture told -/
theorem Dr.putTx (x : Dr K C tg d H a D s) (t : TagOk tg H) {v : V} {l : Array Px} {i : Nat} (r : RTex (Un_ tg) H v (some l)) (hl : l.size = 4096 ∧ ∀ q ∈ l.toList, q.Ok) :
    Stp d tg H tg (upd H D.at_ (.lst (D.ts.set i v))) ∧ TagOk tg (upd H D.at_ (.lst (D.ts.set i v))) ∧ Dr K C tg d (upd H D.at_ (.lst (D.ts.set i v))) a { D with ts := D.ts.set i v } { s with textures := s.textures.set i (some l) } := by
  have st : Stp d tg H tg (upd H D.at_ (.lst (D.ts.set i v))) := stp_upd (Ex.refl H) x.tt x.tx fun _ _ _ => rfl
  have own : ∀ b o j, tg b = some (d, j) → j ≠ 3 → H b = some o → (upd H D.at_ (.lst (D.ts.set i v))) b = some o := fun b o j h n z => by rw [upd_ne (tag_ne h x.tt (by intro w; cases w; exact n rfl))]; exact z
  refine ⟨st, fun b y h => ?_, own _ _ _ x.ta (by decide) x.ins, x.ta, own _ _ _ x.tp (by decide) x.px, x.tp, x.pxs.mono fun v z ⟨b, h1, h2, h3⟩ => ⟨b, h1, h2, own _ _ _ h2 (by decide) h3⟩, x.nd, own _ _ _ x.td (by decide) x.dp, x.td, upd_same, x.tt, (x.txs.mono fun _ _ => st.rtex).put i (st.rtex r), st.rpx x.fg, st.rmat t x.mt, st.rmat t x.lt, ?_⟩
  · by_cases hb : b = D.at_
    · rw [hb]
      exact .inl ⟨_, upd_same⟩
    · rw [upd_ne hb]
      exact t b y h
  · have wf := x.wf
    exact ⟨wf.w1, wf.w2, wf.w3, wf.h1, wf.h2, wf.h3, wf.px, wf.dp, by show (s.textures.set i (some l)).length = 8; rw [List.length_set]; exact wf.tx, fun m hm => by
      rcases List.mem_or_eq_of_mem_set hm with h | h
      · exact wf.ts m h
      · cases h
        exact hl, wf.po, wf.fo, wf.m1, wf.m2, wf.l1, wf.l2⟩
end
end Sd
end

section
set_option Elab.async false
set_option linter.all false
set_option maxRecDepth 100000
set_option maxHeartbeats 400000
/-! ## 13. Attributes set anew -/
namespace Sd
open PySem PySem.Spec PyProof.Rows L2 Evl
open Si20 (Px)
section
variable {w h : Nat} {D : DA} {v : V} {p : Addr}
theorem st_ne {f g : Str} (h : (f == g) = false) : ¬ f = g := fun z => by
  rw [z, beq_self_eq_true] at h
  cases h
theorem put_fog : putF "fog" v (dF w h D) = dF w h { D with fog := v } := by
  unfold dF
  rw [put_past (st_ne (by decide +kernel)), put_past (st_ne (by decide +kernel)), put_past (st_ne (by decide +kernel)), put_past (st_ne (by decide +kernel)), put_past (st_ne (by decide +kernel)), put_here]
theorem put_matrix : putF "matrix" v (dF w h D) = dF w h { D with mat := v } := by
  unfold dF
  rw [put_past (st_ne (by decide +kernel)), put_past (st_ne (by decide +kernel)), put_past (st_ne (by decide +kernel)), put_past (st_ne (by decide +kernel)), put_past (st_ne (by decide +kernel)), put_past (st_ne (by decide +kernel)), put_here]
theorem put_light : putF "light" v (dF w h D) = dF w h { D with lig := v } := by
  unfold dF
  rw [put_past (st_ne (by decide +kernel)), put_past (st_ne (by decide +kernel)), put_past (st_ne (by decide +kernel)), put_past (st_ne (by decide +kernel)), put_past (st_ne (by decide +kernel)), put_past (st_ne (by decide +kernel)), put_past (st_ne (by decide +kernel)), put_here]
theorem put_pixels {vs : List V} : putF "pixels" (.ref p) (dF w h D) = dF w h { D with ap := p, vs := vs } := by
  unfold dF
  rw [put_past (st_ne (by decide +kernel)), put_past (st_ne (by decide +kernel)), put_here]
theorem put_depths : putF "depths" (.ref p) (dF w h D) = dF w h { D with ad := p } := by
  unfold dF
  rw [put_past (st_ne (by decide +kernel)), put_past (st_ne (by decide +kernel)), put_past (st_ne (by decide +kernel)), put_here]
end
section
variable {K : PySem.W.Frag} {C : Addr} {tg tg' tg'' : Tags} {d : Nat} {H H1 H' H'' : Hp} {a b : Addr} {D D' : DA} {s s' : Si20.St} {o o' : HO}
/-- the instance itself changed, nothing else -/
theorem Dr.insStp (x : Dr K C tg d H a D s) {dx : Addr} {fs : List (Str × V)} (t : TagOk tg H) : Stp d tg H tg (upd H a (.ins C dx fs)) ∧ TagOk tg (upd H a (.ins C dx fs)) ∧ ∀ b o j, tg b = some (d, j) → j ≠ 0 → H b = some o → (upd H a (.ins C dx fs)) b = some o := by
  refine ⟨stp_upd (Ex.refl H) x.ta x.ins fun _ _ _ => rfl, fun b y h => ?_, fun b o j h n z => by rw [upd_ne (tag_ne h x.ta (by intro w; cases w; exact n rfl))]; exact z⟩
  by_cases hb : b = a
  · rw [hb]
    exact .inr ⟨_, _, _, upd_same⟩
  · rw [upd_ne hb]
    exact t b y h
theorem Dr.putFog (x : Dr K (dC K) tg d H a D s) (t : TagOk tg H) {v : V} {p : Px} (r : RPx (Un_ tg) H v p) (ok : p.Ok) : At K a d tg H (upd H a (.ins (dC K) D.dx (dF s.w s.h { D with fog := v }))) { s with fog := p } := by
  obtain ⟨st, tk, own⟩ := x.insStp (dx := D.dx) (fs := dF s.w s.h { D with fog := v }) t
  have wf := x.wf
  exact ⟨tg, { D with fog := v }, st, tk, upd_same, x.ta, own _ _ _ x.tp (by decide) x.px, x.tp, x.pxs.mono fun v z ⟨b, h1, h2, h3⟩ => ⟨b, h1, h2, own _ _ _ h2 (by decide) h3⟩, x.nd, own _ _ _ x.td (by decide) x.dp, x.td, own _ _ _ x.tt (by decide) x.tx, x.tt, x.txs.mono fun _ _ => st.rtex, st.rpx r, st.rmat t x.mt, st.rmat t x.lt,
    wf.w1, wf.w2, wf.w3, wf.h1, wf.h2, wf.h3, wf.px, wf.dp, wf.tx, wf.ts, wf.po, ok, wf.m1, wf.m2, wf.l1, wf.l2⟩
theorem Dr.putMat (x : Dr K (dC K) tg d H a D s) (t : TagOk tg H) {v : V} {m : List Nat} (r : RLn (Un_ tg) (RLn (Un_ tg) (RF K)) H v (pieces 4 m)) (m1 : m.length = 16) (m2 : ∀ n ∈ m, Si20.calm n = true) : At K a d tg H (upd H a (.ins (dC K) D.dx (dF s.w s.h { D with mat := v }))) { s with matrix := m } := by
  obtain ⟨st, tk, own⟩ := x.insStp (dx := D.dx) (fs := dF s.w s.h { D with mat := v }) t
  have wf := x.wf
  exact ⟨tg, { D with mat := v }, st, tk, upd_same, x.ta, own _ _ _ x.tp (by decide) x.px, x.tp, x.pxs.mono fun v z ⟨b, h1, h2, h3⟩ => ⟨b, h1, h2, own _ _ _ h2 (by decide) h3⟩, x.nd, own _ _ _ x.td (by decide) x.dp, x.td, own _ _ _ x.tt (by decide) x.tx, x.tt, x.txs.mono fun _ _ => st.rtex, st.rpx x.fg, st.rmat t r, st.rmat t x.lt,
    wf.w1, wf.w2, wf.w3, wf.h1, wf.h2, wf.h3, wf.px, wf.dp, wf.tx, wf.ts, wf.po, wf.fo, m1, m2, wf.l1, wf.l2⟩
theorem Dr.putLig (x : Dr K (dC K) tg d H a D s) (t : TagOk tg H) {v : V} {m : List Nat} (r : RLn (Un_ tg) (RLn (Un_ tg) (RF K)) H v (pieces 4 m)) (m1 : m.length = 12) (m2 : ∀ n ∈ m, Si20.calm n = true) : At K a d tg H (upd H a (.ins (dC K) D.dx (dF s.w s.h { D with lig := v }))) { s with light := m } := by
  obtain ⟨st, tk, own⟩ := x.insStp (dx := D.dx) (fs := dF s.w s.h { D with lig := v }) t
  have wf := x.wf
  exact ⟨tg, { D with lig := v }, st, tk, upd_same, x.ta, own _ _ _ x.tp (by decide) x.px, x.tp, x.pxs.mono fun v z ⟨b, h1, h2, h3⟩ => ⟨b, h1, h2, own _ _ _ h2 (by decide) h3⟩, x.nd, own _ _ _ x.td (by decide) x.dp, x.td, own _ _ _ x.tt (by decide) x.tx, x.tt, x.txs.mono fun _ _ => st.rtex, st.rpx x.fg, st.rmat t x.mt, st.rmat t r,
    wf.w1, wf.w2, wf.w3, wf.h1, wf.h2, wf.h3, wf.px, wf.dp, wf.tx, wf.ts, wf.po, wf.fo, wf.m1, wf.m2, m1, m2⟩
/-- a new list of new pixels -/
def NewPx (H : Hp) (p : Addr) : Rel Px := fun H1 v q => ∃ b, v = .ref b ∧ H b = none ∧ b ≠ p ∧ H1 b = some (.lst (pxV q))
theorem Dr.newPx (x : Dr K (dC K) tg d H a D s) (t : TagOk tg H) {p : Addr} {vs : List V} {l : Array Px} (hp : H p = none) (e : Ex H H1) (h1 : H1 p = some (.lst vs)) (r : All2 (NewPx H p H1) vs l.toList) (nd : Dis vs) (hl : l.size = s.w * s.h) (ok : ∀ q ∈ l.toList, q.Ok) :
    At K a d tg H (upd H1 a (.ins (dC K) D.dx (dF s.w s.h { D with ap := p, vs := vs }))) { s with pixels := l } := by
  have neq : ∀ {b o}, H b = some o → b ≠ p := fun h z => by rw [z, hp] at h; cases h
  have nmem : ∀ {b o}, H b = some o → V.ref b ∉ vs := fun {b o} h z => by
    obtain ⟨i, hi⟩ := List.getElem?_of_mem z
    obtain ⟨y, _, c, r1, r2, _⟩ := r.get' hi
    cases r1
    rw [h] at r2
    cases r2
  let tg' : Tags := fun b => if b = p then some (d, 1) else if V.ref b ∈ vs then some (d, 4) else tg b
  have tk : ∀ c o, H c = some o → tg' c = tg c := fun c o h => by
    show (if c = p then _ else _) = _
    rw [if_neg (neq h), if_neg (nmem h)]
  have st : Stp d tg H tg' (upd H1 a (.ins (dC K) D.dx (dF s.w s.h { D with ap := p, vs := vs }))) := stp_upd e x.ta x.ins tk
  have hpa : p ≠ a := fun z => neq x.ins z.symm
  have item : ∀ {v q}, NewPx H p H1 v q → v ∈ vs → RPx (fun b => tg' b = some (d, 4)) (upd H1 a (.ins (dC K) D.dx (dF s.w s.h { D with ap := p, vs := vs }))) v q := fun {v q} ⟨b, r1, r2, r3, r4⟩ hv => ⟨b, r1, by
      show (if b = p then _ else _) = _
      rw [if_neg r3, if_pos (by rw [← r1]; exact hv)], by
      rw [upd_ne (fun z => by rw [z, x.ins] at r2; cases r2)]
      exact r4⟩
  have own : ∀ b o j, tg b = some (d, j) → j ≠ 0 → H b = some o → (upd H1 a (.ins (dC K) D.dx (dF s.w s.h { D with ap := p, vs := vs }))) b = some o ∧ tg' b = some (d, j) := fun b o j h n z => ⟨by rw [upd_ne (tag_ne h x.ta (by intro w; cases w; exact n rfl))]; exact e _ _ z, by rw [tk b o z]; exact h⟩
  have hd := own _ _ _ x.td (by decide) x.dp
  have ht := own _ _ _ x.tt (by decide) x.tx
  have wf := x.wf
  refine ⟨tg', { D with ap := p, vs := vs }, st, fun b y h => ?_, upd_same, by rw [tk _ _ x.ins]; exact x.ta, by rw [upd_ne hpa]; exact h1, if_pos rfl, ⟨r.1, fun i v q hv hq => item (r.2 i v q hv hq) (List.mem_of_getElem? hv)⟩, nd, hd.1, hd.2, ht.1, ht.2, x.txs.mono fun _ _ => st.rtex, st.rpx x.fg, st.rmat t x.mt, st.rmat t x.lt,
    wf.w1, wf.w2, wf.w3, wf.h1, wf.h2, wf.h3, hl, wf.dp, wf.tx, wf.ts, ok, wf.fo, wf.m1, wf.m2, wf.l1, wf.l2⟩
  have h : (if b = p then some (d, 1) else if V.ref b ∈ vs then some (d, 4) else tg b) = some y := h
  by_cases e1 : b = a
  · rw [e1]
    exact .inr ⟨_, _, _, upd_same⟩
  · rw [upd_ne e1]
    by_cases e2 : b = p
    · rw [e2]
      exact .inl ⟨_, h1⟩
    · rw [if_neg e2] at h
      by_cases e3 : V.ref b ∈ vs
      · obtain ⟨i, hi⟩ := List.getElem?_of_mem e3
        obtain ⟨q, _, c, r1, _, _, r4⟩ := r.get' hi
        cases r1
        exact .inl ⟨_, r4⟩
      · rw [if_neg e3] at h
        exact (t.mono e) b y h
theorem Dr.newDp (x : Dr K (dC K) tg d H a D s) (t : TagOk tg H) {p : Addr} {l : Array Nat} (hp : H p = none) (e : Ex H H1) (h1 : H1 p = some (.lst (l.toList.map fun (n : Nat) => V.int (n : Int)))) (hl : l.size = s.w * s.h) :
    At K a d tg H (upd H1 a (.ins (dC K) D.dx (dF s.w s.h { D with ad := p }))) { s with depths := l } := by
  have neq : ∀ {b o}, H b = some o → b ≠ p := fun h z => by rw [z, hp] at h; cases h
  let tg' : Tags := fun b => if b = p then some (d, 2) else tg b
  have tk : ∀ c o, H c = some o → tg' c = tg c := fun c o h => if_neg (neq h)
  have st : Stp d tg H tg' (upd H1 a (.ins (dC K) D.dx (dF s.w s.h { D with ad := p }))) := stp_upd e x.ta x.ins tk
  have hpa : p ≠ a := fun z => neq x.ins z.symm
  have own : ∀ b o j, tg b = some (d, j) → j ≠ 0 → H b = some o → (upd H1 a (.ins (dC K) D.dx (dF s.w s.h { D with ad := p }))) b = some o ∧ tg' b = some (d, j) := fun b o j h n z => ⟨by rw [upd_ne (tag_ne h x.ta (by intro w; cases w; exact n rfl))]; exact e _ _ z, by rw [tk b o z]; exact h⟩
  have hd := own _ _ _ x.tp (by decide) x.px
  have ht := own _ _ _ x.tt (by decide) x.tx
  have wf := x.wf
  refine ⟨tg', { D with ad := p }, st, fun b y h => ?_, upd_same, by rw [tk _ _ x.ins]; exact x.ta, hd.1, hd.2, x.pxs.mono fun v z ⟨b, h1, h2, h3⟩ => ⟨b, h1, (own _ _ _ h2 (by decide) h3).2, (own _ _ _ h2 (by decide) h3).1⟩, x.nd, by rw [upd_ne hpa]; exact h1, if_pos rfl, ht.1, ht.2, x.txs.mono fun _ _ => st.rtex, st.rpx x.fg, st.rmat t x.mt, st.rmat t x.lt,
    wf.w1, wf.w2, wf.w3, wf.h1, wf.h2, wf.h3, wf.px, hl, wf.tx, wf.ts, wf.po, wf.fo, wf.m1, wf.m2, wf.l1, wf.l2⟩
  have h : (if b = p then some (d, 2) else tg b) = some y := h
  by_cases e1 : b = a
  · rw [e1]
    exact .inr ⟨_, _, _, upd_same⟩
  · rw [upd_ne e1]
    by_cases e2 : b = p
    · rw [e2]
      exact .inl ⟨_, h1⟩
    · rw [if_neg e2] at h
      exact (t.mono e) b y h
end
/-! ### a new list of new, different lists -/
/-- an item that is a new list -/
def EvND (te : TE) (s : L2.St) (H : Hp) (xss : List (List V)) : Prop := ∀ H1, Ex H H1 → ∀ Q : VK, (∀ p vs H2, H1 p = none → Ex H1 H2 → H2 p = some (.lst vs) → Dis vs → All2 (fun v xs => ∃ q, v = .ref q ∧ H1 q = none ∧ q ≠ p ∧ H2 q = some (.lst xs)) vs xss → Q (.ref p) H2) → te s H1 Q
theorem Dis.snoc {l : List V} {v : V} (h : Dis l) (n : v ∉ l) : Dis (l ++ [v]) := by
  intro m k x hm hk
  have len : ∀ {i : Nat}, (l ++ [v])[i]? = some x → i < l.length + 1 := fun {i} h => by
    have := (List.getElem?_eq_some_iff.mp h).1
    simpa using this
  have lm := len hm
  have lk := len hk
  have last : ∀ {i : Nat}, (l ++ [v])[i]? = some x → i = l.length → x = v := fun {i} h e => by
    rw [e, List.getElem?_append_right (Nat.le_refl _), Nat.sub_self] at h
    simpa using h.symm
  by_cases em : m = l.length
  · by_cases ek : k = l.length
    · rw [em, ek]
    · rw [List.getElem?_append_left (by omega)] at hk
      rw [last hm em] at hk
      exact absurd (List.mem_of_getElem? hk) n
  · by_cases ek : k = l.length
    · rw [List.getElem?_append_left (by omega)] at hm
      rw [last hk ek] at hm
      exact absurd (List.mem_of_getElem? hm) n
    · rw [List.getElem?_append_left (by omega)] at hm hk
      exact h m k x hm hk
section
variable {K : PySem.W.Frag} {s : L2.St} {H : Hp} {ta te : TE} {n : Int} {j : Nat} {vs : List Nat}
def NdI (H1 : Hp) (D : Addr) (ys : List (List V)) (H' : Hp) : Prop := H1 D = none ∧ Ex H1 H' ∧ ∃ acc, H' D = some (.lst acc) ∧ Dis acc ∧ All2 (fun v xs => ∃ q, v = .ref q ∧ H1 q = none ∧ q ≠ D ∧ H' q = some (.lst xs)) acc ys
theorem end_lcR (f : Nat → List V) (hn : EvR RI ta s H n) (h0 : 0 ≤ n) (h1 : n ≤ 16777216) (hw : ∀ x, wipe ((wipe s vs).set j (some x)) vs = wipe s vs)
    (he : ∀ (i : Nat) H1, Ex H H1 → (i : Int) < n → EvL te ((wipe s vs).set j (some (.int (i : Int)))) H1 (f i)) : EvND (tLc (iRng1 (tCons ta tNil)) (gName j) tYes te vs) s H ((List.range n.toNat).map f) := fun H0 e Q q => hn H0 e _ fun w H1 e1 r => ⟨n, by rw [r], by omega, by omega, fun D hD =>
  lc_range (lo := 0) (n := n.toNat) (fun i H' => NdI H1 D ((List.range i).map f) H') ⟨hD, Ex.new hD, [], upd_same, fun m k x h => by simp at h, All2.nil⟩ (fun i H' hi pv => by
    show wipe ((wipe s vs).set j (some (.int ((0 : Int) + (i : Int))))) vs = wipe s vs ∧ te ((wipe s vs).set j (some (.int ((0 : Int) + (i : Int))))) H' _
    rw [Int.zero_add]
    refine ⟨hw _, ?_⟩
    obtain ⟨p1, p2, acc, p3, p4, p5⟩ := pv
    refine he i H' ((e.trans e1).trans p2) (by omega) H' (Ex.refl H') _ fun q H4 hq e4 h4 => ⟨acc, e4 _ _ p3, by rw [p5.1, sizeLine_eq, List.length_map, List.length_range]; omega, p1, Ex.mut (p2.trans e4) p1, acc ++ [.ref q], upd_same, p4.snoc fun z => ?_, ?_⟩
    · obtain ⟨k, hk⟩ := List.getElem?_of_mem z
      obtain ⟨y, _, c, r1, _, _, r4⟩ := p5.get' hk
      cases r1
      rw [hq] at r4
      cases r4
    · have hqD : q ≠ D := fun z => by rw [z, p3] at hq; cases hq
      rw [List.range_succ, List.map_append]
      refine All2.snoc (p5.mono ?_) ⟨q, rfl, fresh_back p2 hq, hqD, by rw [upd_ne hqD]; exact h4⟩
      rintro v xs ⟨q', r1, r2, r3, r4⟩
      exact ⟨q', r1, r2, r3, by rw [upd_ne r3]; exact e4 _ _ r4⟩)
    (fun H' ⟨p1, p2, acc, p3, p4, p5⟩ => q D acc H' (fresh_back e1 p1) (e1.trans p2) p3 p4 (p5.mono fun v xs ⟨q', r1, r2, r3, r4⟩ => ⟨q', r1, fresh_back e1 r2, r3, r4⟩))⟩
end
end Sd
end

section
set_option Elab.async false
set_option linter.all false
set_option maxRecDepth 100000
set_option maxHeartbeats 400000
/-! ## 14. Pixels' mathematics -/
namespace Sd
open Si20 (Px)
theorem isP (p : Px) (h : p.Ok) : IsP (pxI p) := by
  obtain ⟨h1, h2, h3, h4⟩ := h
  refine ⟨rfl, fun i => ?_⟩
  match i with
  | 0 => exact ⟨by show 0 ≤ (p.b : Int); omega, by show (p.b : Int) ≤ 255; omega⟩
  | 1 => exact ⟨by show 0 ≤ (p.g : Int); omega, by show (p.g : Int) ≤ 255; omega⟩
  | 2 => exact ⟨by show 0 ≤ (p.r : Int); omega, by show (p.r : Int) ≤ 255; omega⟩
  | 3 => exact ⟨by show 0 ≤ (p.a : Int); omega, by show (p.a : Int) ≤ 255; omega⟩
  | n + 4 => exact ⟨Int.le_refl 0, by show (0 : Int) ≤ 255; omega⟩
theorem bt_times (a b : Nat) : btM (a : Int) (b : Int) = ((Si20.times a b : Nat) : Int) := by
  unfold btM Si20.times
  rw [← Int.natCast_mul]
  generalize a * b = z
  show _ = ((((z + 128) + (z + 128) / 256) / 256 : Nat) : Int)
  omega
theorem times_le {a b : Nat} (ha : a ≤ 255) (hb : b ≤ 255) : Si20.times a b ≤ 255 := by
  unfold Si20.times
  have : a * b ≤ 255 * 255 := Nat.mul_le_mul ha hb
  show ((a * b + 128) + (a * b + 128) / 256) / 256 ≤ 255
  omega
theorem bt_cover (a b : Nat) (h : a ≤ 255) : btM (255 - (a : Int)) (b : Int) = ((Si20.times (255 - a) b : Nat) : Int) := by
  rw [show (255 : Int) - (a : Int) = ((255 - a : Nat) : Int) by omega, bt_times]
theorem held_sub (a b : Nat) (h : a ≤ 255) : heldM ((a : Int) - (b : Int)) = ((Si20.less a b : Nat) : Int) := by
  unfold heldM Si20.less
  split <;> split <;> omega
theorem laidM_4 (how : Int) (s d : Px) : laidM how (pxI s) (pxI d) = [laidByteM how s.a s.b d.b, laidByteM how s.a s.g d.g, laidByteM how s.a s.r d.r, laidByteM how s.a s.a d.a] := rfl
theorem laid_byte (k : Nat) (hk : k ≤ 7) (c s d : Nat) (hc : c ≤ 255) (hs : s ≤ 255) (hd : d ≤ 255) : laidByteM (k : Int) (c : Int) (s : Int) (d : Int) = (((match k with
  | 0 => s
  | 1 => Si20.more s d
  | 2 => Si20.less d s
  | 3 => Si20.mean s d
  | 4 => Si20.more (Si20.times c s) (Si20.times (255 - c) d)
  | 5 => Si20.times s d
  | 6 => max s d
  | _ => min s d) : Nat) : Int) := by
  have hk8 : k = 0 ∨ k = 1 ∨ k = 2 ∨ k = 3 ∨ k = 4 ∨ k = 5 ∨ k = 6 ∨ k = 7 := by omega
  rcases hk8 with h | h | h | h | h | h | h | h <;> subst h
  · rfl
  · exact held_more s d
  · exact held_sub d s hd
  · show meanM s d = _
    unfold meanM
    show _ = ((Si20.mean s d : Nat) : Int)
    unfold Si20.mean
    omega
  · show heldM (btM c s + btM (255 - (c : Int)) d) = _
    rw [bt_times, bt_cover _ _ hc]
    exact held_more _ _
  · exact bt_times s d
  · show (if (d : Int) > s then (d : Int) else s) = ((max s d : Nat) : Int)
    rw [Nat.max_def]
    split <;> split <;> omega
  · show (if (d : Int) < s then (d : Int) else s) = ((min s d : Nat) : Int)
    rw [Nat.min_def]
    split <;> split <;> omega
theorem laid_eq (k : Nat) (hk : k ≤ 7) (s d : Px) (hs : s.Ok) (hd : d.Ok) : laidM (k : Int) (pxI s) (pxI d) = pxI (Si20.laid k s d) := by
  obtain ⟨s1, s2, s3, s4⟩ := hs
  obtain ⟨d1, d2, d3, d4⟩ := hd
  rw [laidM_4, laid_byte k hk _ _ _ (by omega) (by omega) (by omega), laid_byte k hk _ _ _ (by omega) (by omega) (by omega), laid_byte k hk _ _ _ (by omega) (by omega) (by omega), laid_byte k hk _ _ _ (by omega) (by omega) (by omega)]
  have hk8 : k = 0 ∨ k = 1 ∨ k = 2 ∨ k = 3 ∨ k = 4 ∨ k = 5 ∨ k = 6 ∨ k = 7 := by omega
  rcases hk8 with h | h | h | h | h | h | h | h <;> subst h <;> rfl
theorem zip_ok {f : Nat → Nat → Nat} {s d : Px} (hf : ∀ a b, a < 256 → b < 256 → f a b < 256) (hs : s.Ok) (hd : d.Ok) : (s.zip f d).Ok := ⟨hf _ _ hs.1 hd.1, hf _ _ hs.2.1 hd.2.1, hf _ _ hs.2.2.1 hd.2.2.1, hf _ _ hs.2.2.2 hd.2.2.2⟩
theorem map_ok {f : Nat → Nat} {s : Px} (hf : ∀ a, a < 256 → f a < 256) (hs : s.Ok) : (s.map f).Ok := ⟨hf _ hs.1, hf _ hs.2.1, hf _ hs.2.2.1, hf _ hs.2.2.2⟩
theorem more_lt (a b : Nat) : Si20.more a b < 256 := by
  unfold Si20.more
  omega
theorem times_lt {a b : Nat} (ha : a < 256) (hb : b < 256) : Si20.times a b < 256 := Nat.lt_succ_of_le (times_le (by omega) (by omega))
theorem laid_ok (k : Nat) (s d : Px) (hs : s.Ok) (hd : d.Ok) : (Si20.laid k s d).Ok := by
  unfold Si20.laid
  split
  · exact hs
  · exact zip_ok (fun a b _ _ => more_lt a b) hs hd
  · exact zip_ok (fun a b h1 _ => by unfold Si20.less; omega) hd hs
  · exact zip_ok (fun a b h1 h2 => by unfold Si20.mean; omega) hs hd
  · exact zip_ok (fun a b _ _ => more_lt a b) (map_ok (fun a h => times_lt hs.2.2.2 h) hs) (map_ok (fun a h => times_lt (by omega) h) hd)
  · exact zip_ok (fun a b h1 h2 => times_lt h1 h2) hs hd
  · exact zip_ok (fun a b h1 h2 => by omega) hs hd
  · exact zip_ok (fun a b h1 h2 => by omega) hs hd
theorem both_eq (s d : Px) : bothM (pxI s) (pxI d) = pxI (s.zip Si20.times d) := by
  show [btM s.b d.b, btM s.g d.g, btM s.r d.r, btM s.a d.a] = _
  rw [bt_times, bt_times, bt_times, bt_times]
  rfl
theorem fogged_eq (p c : Px) (much : Nat) (h : much ≤ 255) : foggedM (pxI p) (much : Int) (pxI c) = pxI (Si20.fogged much c p) := by
  show [heldM (btM (255 - (much : Int)) p.b + btM much c.b), heldM (btM (255 - (much : Int)) p.g + btM much c.g), heldM (btM (255 - (much : Int)) p.r + btM much c.r), (p.a : Int)] = _
  rw [bt_cover _ _ h, bt_cover _ _ h, bt_cover _ _ h, bt_times, bt_times, bt_times, held_more, held_more, held_more]
  rfl
theorem fogged_ok (p c : Px) (much : Nat) (hp : p.Ok) : (Si20.fogged much c p).Ok := ⟨more_lt _ _, more_lt _ _, more_lt _ _, hp.2.2.2⟩
theorem pixelOf_eq (n : Nat) : pixelOfM (n : Int) = pxI (Si20.px n) := by
  show [(n : Int) / 2 ^ (8 * 0) % 256, (n : Int) / 2 ^ (8 * 1) % 256, (n : Int) / 2 ^ (8 * 2) % 256, (n : Int) / 2 ^ (8 * 3) % 256] = [((n % 256 : Nat) : Int), ((n / 2 ^ 8 % 256 : Nat) : Int), ((n / 2 ^ 16 % 256 : Nat) : Int), ((n / 2 ^ 24 % 256 : Nat) : Int)]
  simp only [List.cons.injEq, and_true]
  refine ⟨?_, ?_, ?_, ?_⟩ <;> omega
theorem px_ok (n : Nat) : (Si20.px n).Ok := ⟨Nat.mod_lt _ (by omega), Nat.mod_lt _ (by omega), Nat.mod_lt _ (by omega), Nat.mod_lt _ (by omega)⟩
theorem number_eq (p : Px) (key : Nat) (h : p.Ok) (hk : key < 2 ^ 32) : numberOfM (pxI p) = (key : Int) ↔ p = Si20.px key := by
  obtain ⟨h1, h2, h3, h4⟩ := h
  show (p.b : Int) + 256 * ((p.g : Int) + 256 * ((p.r : Int) + 256 * (p.a : Int))) = _ ↔ _
  constructor
  · intro e
    have : p.b + 256 * (p.g + 256 * (p.r + 256 * p.a)) = key := by omega
    subst this
    cases p
    show Px.mk _ _ _ _ = Px.mk _ _ _ _
    simp only [Px.mk.injEq]
    simp only at h1 h2 h3 h4
    refine ⟨?_, ?_, ?_, ?_⟩ <;> omega
  · intro e
    subst e
    show ((key % 256 : Nat) : Int) + 256 * (((key / 2 ^ 8 % 256 : Nat) : Int) + 256 * (((key / 2 ^ 16 % 256 : Nat) : Int) + 256 * ((key / 2 ^ 24 % 256 : Nat) : Int))) = _
    omega
theorem black_ok : Si20.black.Ok := ⟨by decide, by decide, by decide, by decide⟩
theorem getD_ok {l : Array Px} (h : ∀ q ∈ l.toList, q.Ok) (i : Nat) : (l.getD i Si20.black).Ok := by
  rw [Array.getD_eq_getD_getElem?]
  cases e : l[i]? with
  | none => exact black_ok
  | some q =>
    refine h q ?_
    rw [← Array.getElem?_toList] at e
    exact List.mem_of_getElem? e
end Sd
end

section
set_option Elab.async false
set_option linter.all false
set_option maxRecDepth 100000
set_option maxHeartbeats 400000
/-! ## 15. drawers.py: what changes a drawer -/
namespace Sd
open PySem PySem.Spec PyProof.Rows L2 Evl
open Si20 (Px)
local macro_rules | `(tactic| walk_at "ev") => `(tactic| first
  | with_reducible exact er_cI
  | focus ((with_reducible apply er_varI); with_unfolding_all rfl)
  | focus ((with_reducible apply er_var); all_goals first | with_unfolding_all rfl | assumption)
  | focus ((with_reducible apply er_op0); all_goals walk_at "ev")
  | focus ((with_reducible apply er_op); all_goals walk_at "ev")
  | focus ((with_reducible apply er_neg); all_goals walk_at "ev")
  | focus ((with_reducible apply er_max); all_goals walk_at "ev")
  | focus ((with_reducible apply er_min); all_goals walk_at "ev")
  | focus ((with_reducible apply er_abs); all_goals walk_at "ev")
  | focus ((with_reducible apply er_intB); all_goals walk_at "ev")
  | focus ((with_reducible apply er_bits); all_goals walk_at "ev")
  | focus ((with_reducible apply er_ixD); all_goals walk_at "ev")
  | focus ((with_reducible apply er_call1); all_goals walk_at "ev")
  | focus ((with_reducible apply er_call2); all_goals walk_at "ev")
  | focus ((with_reducible apply er_call3); all_goals walk_at "ev")
  | focus ((with_reducible apply er_call4); all_goals walk_at "ev")
  | focus ((with_reducible apply er_eq); all_goals walk_at "ev")
  | focus ((with_reducible apply er_ne); all_goals walk_at "ev")
  | focus ((with_reducible apply er_cmp); all_goals walk_at "ev")
  | focus ((with_reducible apply er_chain); all_goals walk_at "ev")
  | focus ((with_reducible apply er_andU); all_goals walk_at "ev")
  | focus ((with_reducible apply er_orU); all_goals walk_at "ev")
  | focus ((with_reducible apply et_t); all_goals walk_at "ev")
  | focus ((with_reducible apply et_b); all_goals walk_at "ev")
  | focus ((with_reducible apply et_andU); all_goals walk_at "ev")
  | focus ((with_reducible apply et_orU); all_goals walk_at "ev")
  | focus ((with_reducible apply Evl.et_not); all_goals walk_at "ev")
  | walk_at "side")
local macro_rules | `(tactic| walk_at "evr") => `(tactic| (refine er_is (by walk_at "ev") (by with_unfolding_all rfl)))
local macro_rules | `(tactic| walk_at "side") => `(tactic| first
  | assumption
  | exact True.intro
  | exact cdiv_ok (by decide) (by decide)
  | exact cmul_l (by omega) (by omega)
  | exact cmul_r (by omega) (by omega)
  | omega
  | decide
  | (dsimp only; done)
  | (dsimp only; first | assumption | omega | decide)
  | (constructor <;> assumption))
local macro_rules | `(tactic| walk_at "ev") => `(tactic| first
  | focus ((with_reducible apply er_s0); all_goals walk_at "ev")
  | focus ((with_reducible apply er_s1); all_goals walk_at "ev")
  | focus ((with_reducible apply er_s2); all_goals walk_at "ev")
  | focus ((with_reducible apply er_tupS); all_goals walk_at "ev")
  | focus ((with_reducible apply er_tupI2); all_goals walk_at "ev")
  | focus ((with_reducible apply er_divmod); all_goals walk_at "ev"))
local macro_rules | `(tactic| walk_at "side") => `(tactic| exact cshl_ok (by omega) (by omega))
local macro_rules | `(tactic| walk_at "ev") => `(tactic| first
  | focus ((with_reducible apply er_wide); all_goals walk_at "ev")
  | focus ((with_reducible apply er_high); all_goals walk_at "ev")
  | focus ((with_reducible apply er_meth1); all_goals walk_at "ev")
  | focus ((with_reducible apply er_meth2); all_goals walk_at "ev")
  | focus ((with_reducible apply er_meth3); all_goals walk_at "ev"))
local macro_rules | `(tactic| walk_at "side") => `(tactic| (focus (decide +kernel)))
theorem s_asgT {te : TE} {g : TG} {D : Ends} {s : L2.St} {H : Hp} (h : te s H fun v H1 => g v s H1 D.nx) : tAsg te g D s H := h
theorem s_fldT {K : PySem.W.Frag} {ta tv : TE} {f : Str} {D : Ends} {s : L2.St} {H : Hp} (h : tv s H fun y H1 => ta s H1 fun x H2 => ∃ a C dx fs, x = .ref a ∧ H2 a = some (.ins C dx fs) ∧ Cls K C ∧ NoAttr K C f ∧ fs.length < 1000 ∧ D.nx s (upd H2 a (.ins C dx (putF f y fs)))) : sFld K ta tv f D s H := h
theorem q_fldT {K : PySem.W.Frag} {ta tv : TE} {f : Str} {D : Ends} {s : L2.St} {H : Hp} {tz : TS} (h : tv s H fun y H1 => ta s H1 fun x H2 => ∃ a C dx fs, x = .ref a ∧ H2 a = some (.ins C dx fs) ∧ Cls K C ∧ NoAttr K C f ∧ fs.length < 1000 ∧ tz D s (upd H2 a (.ins C dx (putF f y fs)))) : tSeq (sFld K ta tv f) tz D s H := h
/-- a promise of a change -/
def spM {b : Type} (K : PySem.W.Frag) (A : Tags → Hp → List V → b → Prop) (pre : Si20.St → b → Prop) (f : Si20.St → b → Si20.St) : Sp := fun vs H Q _ => ∃ a us tg d D st x, vs = .ref a :: us ∧ TagOk tg H ∧ Dr K (dC K) tg d H a D st ∧ A tg H us x ∧ pre st x ∧ ∀ H', At K a d tg H H' (f st x) → Q .non H'
/-- whole numbers in a list, its address of a kind -/
def RIu (A : Addr → Prop) : Rel (List Int) := fun H v l => ∃ p, v = .ref p ∧ A p ∧ H p = some (.lst (vI l))
instance {A : Addr → Prop} : Mo (RIu A) := ⟨fun e ⟨p, h1, h2, h3⟩ => ⟨p, h1, h2, e _ _ h3⟩⟩
theorem RIu.ril {A : Addr → Prop} {H : Hp} {v : V} {l : List Int} (h : RIu A H v l) : RIL H v l := by
  obtain ⟨p, h1, _, h3⟩ := h
  exact ⟨p, h1, h3⟩
theorem RPx.riu {A : Addr → Prop} {H : Hp} {v : V} {q : Px} (h : RPx A H v q) : RIu A H v (pxI q) := h
section
variable {K : PySem.W.Frag} {tg tg' tg1 : Tags} {d : Nat} {H H' H0 H1 : Hp} {a : Addr} {s : L2.St} {st st' : Si20.St} {b : Type} {A : Tags → Hp → List V → b → Prop} {pre : Si20.St → b → Prop} {f : Si20.St → b → Si20.St} {x : b} {i j : Nat} {m : Str} {E : XK} {D : Ends} {tr : TA} {tl : TE} {tu : TS}
theorem Stp.riu (y : Stp d tg H tg' H') {v : V} {l : List Int} (r : RIu (Un_ tg) H v l) : RIu (Un_ tg') H' v l := by
  obtain ⟨p, h1, h2, h3⟩ := r
  obtain ⟨u, h⟩ := y.un h2 h3
  exact ⟨p, h1, u, h⟩
theorem Stp.rt (y : Stp d tg H tg' H') (t : TagOk tg H) {v : V} {l : List V} (r : RT K H v l) : RT K H' v l := by
  obtain ⟨p, h1, h2⟩ := r
  exact ⟨p, h1, y.sqt t h2⟩
theorem At.riu (y : At K a d tg H H' st) {v : V} {l : List Int} (r : RIu (Un_ tg) H v l) : RIL H' v l := by
  obtain ⟨_, _, y, _⟩ := y
  exact (y.riu r).ril
theorem At.rt (y : At K a d tg H H' st) (t : TagOk tg H) {v : V} {l : List V} (r : RT K H v l) : RT K H' v l := by
  obtain ⟨_, _, y, _⟩ := y
  exact y.rt t r
theorem At.start {D : DA} (t : TagOk tg H) (x : Dr K (dC K) tg d H a D st) : At K a d tg H H st := ⟨tg, D, Stp.refl, t, x⟩
theorem s_mut (y : At K a d tg H0 H st) (hv : s[i]? = some (some (.ref a))) (hm : fieldNames.all (fun f => !(m == f)) = true) (ha : ∀ tg1, Stp d tg H0 tg1 H → TagOk tg1 H → EvRs tr s H fun H' us => A tg1 H' us x) (hp : pre st x) (k : ∀ H2, At K a d tg H0 H2 (f st x) → D.nx s H2) :
    tDrop (tMeth (dC K) m (spM K A pre f) [] E (tVar i) tr) D s H := by
  obtain ⟨tg1, D1, y1, y2, y3⟩ := y
  refine ⟨.ref a, hv, a, D1.dx, _, rfl, y3.ins, lk_none hm, ha tg1 y1 y2 H (Ex.refl H) _ fun us H1 e1 p => ⟨a, us, tg1, d, D1, st, x, by rw [List.append_nil], y2.mono e1, y3.mono e1, p, hp, fun H2 y4 => k H2 (At.trans (y1.trans (Stp.ofEx e1)) y4)⟩⟩
/-- for x in a new list of whole numbers: the drawer is changed -/
theorem s_forM {xs : List Int} (F : Si20.St → Int → Si20.St) (y : At K a d tg H0 H st) (hl : EvL tl s H (vI xs)) (S : L2.St → Prop) (hS : S s)
    (hs : ∀ tg1 H1, Stp d tg H0 tg1 H1 → TagOk tg1 H1 → ∀ (k : Nat) x σ H' st' (N : L2.St → Hp → Prop), xs[k]? = some x → st' = (xs.take k).foldl F st → S σ → At K a d tg1 H1 H' st' → (∀ σ2 H2, S σ2 → At K a d tg1 H1 H2 (F st' x) → N σ2 H2) → tu { D with nx := N, ct := N, bk := D.nx } (σ.set j (some (.int x))) H')
    (k : ∀ σ H', S σ → At K a d tg H0 H' (xs.foldl F st) → D.nx σ H') : tFor (iList K tl) (gName j) tu D s H := by
  obtain ⟨tg1, D1, y1, y2, y3⟩ := y
  refine hl H (Ex.refl H) _ fun p H1 hp e1 h1 => ⟨p, rfl, ⟨_, SqL.of h1⟩, ?_⟩
  have un : Un_ tg1 p := y2.fresh hp
  have y4 := y1.trans (Stp.ofEx (tg := tg1) (d := d) e1)
  have y5 := y2.mono e1
  refine for_list (xs := vI xs) (fun k σ H' => S σ ∧ At K a d tg1 H1 H' ((xs.take k).foldl F st)) ⟨hS, by rw [List.take_zero]; exact At.start y5 (y3.mono e1)⟩ ?_ ?_ ?_
  · rintro k σ H' hk ⟨_, tg2, D2, z1, _⟩
    exact SqL.of (z1.un un h1).2
  · rintro k v σ H' hv ⟨hσ, z⟩
    rw [List.getElem?_map] at hv
    cases e : xs[k]? with
    | none => rw [e] at hv; cases hv
    | some x =>
      rw [e] at hv
      cases hv
      refine hs tg1 H1 y4 y5 k x σ H' _ _ e rfl hσ z fun σ2 H2 hσ2 z2 => ⟨hσ2, ?_⟩
      rw [take_succ_of e, List.foldl_append]
      exact z2
  · rintro σ H' ⟨hσ, z⟩
    rw [List.length_map, List.take_length] at z
    exact k σ H' hσ (At.trans y4 z)
end
section
variable (K : PySem.W.Frag)
abbrev sp_D_lay : Sp := spM K (fun tg H us (x : Int × Int × Int × Px) => ∃ v, us = [.int x.1, .int x.2.1, .int x.2.2.1, v] ∧ RIL H v (pxI x.2.2.2)) (fun st x => OnP st x.2.1 x.2.2.1 ∧ 0 ≤ x.1 ∧ x.1 ≤ 7 ∧ x.2.2.2.Ok) fun st x => st.lay (ixP st x.2.1 x.2.2.1) x.1.toNat x.2.2.2
abbrev sp_D_keep_depth : Sp := spM K (fun _ _ us (x : Int × Int × Nat) => us = [.int x.1, .int x.2.1, .int (x.2.2 : Int)]) (fun st x => OnP st x.1 x.2.1) fun st x => { st with depths := st.depths.setIfInBounds (ixP st x.1 x.2.1) x.2.2 }
abbrev sp_D_set_texture : Sp := spM K (fun _ H us (x : Int × List Int) => ∃ v, us = [.int x.1, v] ∧ RIL H v x.2) (fun st x => 0 ≤ x.1 ∧ x.1 < 8 ∧ x.2.length = 16384 ∧ ∀ z ∈ x.2, 0 ≤ z ∧ z < 256) fun st x => { st with textures := st.textures.set x.1.toNat (some ((Si20.chunks 4 (Si20Neutral.natsOf x.2)).map Si20.pxOf).toArray) }
abbrev sp_D_set_fog : Sp := spM K (fun _ _ us (x : Nat) => us = [.int (x : Int)]) (fun _ _ => True) fun st x => { st with fog := Si20.px x }
abbrev sp_D_clear : Sp := spM K (fun _ _ us (x : Nat × Nat) => us = [.int (x.1 : Int), .int (x.2 : Int)]) (fun _ _ => True) fun st x => { st with pixels := (List.replicate (st.w * st.h) (Si20.px x.1)).toArray, depths := (List.replicate (st.w * st.h) x.2).toArray }
end
/-- Drawer.lay: 0 self, 1 how, 2 x, 3 y, 4 pixel, 5 at -/
def t_D_lay (K : PySem.W.Frag) : TS :=
  (tSeq (tAsg (tMeth (He.ga K "Drawer") "place" (sp_D_place K) [] E0 (tVar 0) (tCons (tVar 2) (tCons (tVar 3) tNil))) (gName 5))
    (tAsg (tCall sp_laid [] E0 (tCons (tVar 1) (tCons (tVar 4) (tCons (tOp (rIxL K) (tFld K (tVar 0) "pixels") (tVar 5)) tNil)))) (gSub (tFld K (tVar 0) "pixels") (tVar 5) rSetL)))
/-- Drawer.keep_depth: 0 self, 1 x, 2 y, 3 depth -/
def t_D_keep_depth (K : PySem.W.Frag) : TS :=
  (tAsg (tVar 3) (gSub (tFld K (tVar 0) "depths") (tMeth (He.ga K "Drawer") "place" (sp_D_place K) [] E0 (tVar 0) (tCons (tVar 1) (tCons (tVar 2) tNil))) rSetL))
/-- Drawer.set_texture: 0 self, 1 k, 2 row, 3 at -/
def t_D_set_texture (K : PySem.W.Frag) : TS :=
  (tAsg (tLc (iRng3 (tCons (tC (.int 0)) (tCons (tCB (rLenS K) (tCons (tVar 2) tNil)) (tCons (tC (.int (4))) tNil)))) (gName 3) tYes (tSl (rSlL K) (tVar 2) (tPart (tVar 3)) (tPart (tOp rAddI (tVar 3) (tC (.int (4)))))) [3]) (gSub (tFld K (tVar 0) "textures") (tVar 1) rSetL))
/-- Drawer.set_fog: 0 self, 1 colour -/
def t_D_set_fog (K : PySem.W.Frag) : TS :=
  (sFld K (tVar 0) (tCall sp_pixel_of [] E0 (tCons (tVar 1) tNil)) "fog")
/-- Drawer.clear: 0 self, 1 colour, 2 depth, 3 place -/
def t_D_clear (K : PySem.W.Frag) : TS :=
  (tSeq (sFld K (tVar 0) (tLc (iRng1 (tCons (tOp rMulI (tFld K (tVar 0) "wide") (tFld K (tVar 0) "high")) tNil)) (gName 3) tYes (tCall sp_pixel_of [] E0 (tCons (tVar 1) tNil)) [3]) "pixels")
    (sFld K (tVar 0) (tOp rRep (tLst (tCons (tVar 2) tNil)) (tOp rMulI (tFld K (tVar 0) "wide") (tFld K (tVar 0) "high"))) "depths"))
section
variable {P : Program} {w : World} {K : PySem.W.Frag} {mg : Str → Option Value} {base : Heap}
theorem len_D_lay : ∀ vs H Q E, sp_D_lay K vs H Q E → vs.length = 5 := by
  rintro vs H Q E ⟨_, _, _, _, _, _, _, rfl, _, _, ⟨_, rfl, _⟩, _⟩
  rfl
theorem len_D_keep_depth : ∀ vs H Q E, sp_D_keep_depth K vs H Q E → vs.length = 4 := by
  rintro vs H Q E ⟨_, _, _, _, _, _, _, rfl, _, _, rfl, _⟩
  rfl
theorem len_D_set_texture : ∀ vs H Q E, sp_D_set_texture K vs H Q E → vs.length = 3 := by
  rintro vs H Q E ⟨_, _, _, _, _, _, _, rfl, _, _, ⟨_, rfl, _⟩, _⟩
  rfl
theorem len_D_set_fog : ∀ vs H Q E, sp_D_set_fog K vs H Q E → vs.length = 2 := by
  rintro vs H Q E ⟨_, _, _, _, _, _, _, rfl, _, _, rfl, _⟩
  rfl
theorem len_D_clear : ∀ vs H Q E, sp_D_clear K vs H Q E → vs.length = 3 := by
  rintro vs H Q E ⟨_, _, _, _, _, _, _, rfl, _, _, rfl, _⟩
  rfl
theorem pure_D_lay (T : Tx K mg) (vs : List V) (H : Hp) (Q : VK) (E : XK) (h : sp_D_lay K vs H Q E) : t_D_lay K { nx := fun _ H' => Q .non H', rt := Q } (start ["self", "how", "x", "y", "pixel", "at"] vs) H := by
  obtain ⟨a, us, tg, d, D, st, ⟨how, x, y, q⟩, rfl, tk, dr, ⟨vp, rfl, rp⟩, ⟨on, h0, h7, qok⟩, k⟩ := h
  have r : RD K (dC K) H (.ref a) st := ⟨tg, d, a, D, rfl, dr⟩
  have on : OnP st x y := on
  have rp : RIL H vp (pxI q) := rp
  have qok : q.Ok := qok
  have h0 : 0 ≤ how := h0
  have h7 : how ≤ 7 := h7
  have wf := r.wf
  have hi : ixP st x y < st.pixels.size := by rw [wf.px]; exact ixP_lt on
  obtain ⟨n, rfl⟩ := Int.eq_ofNat_of_zero_le h0
  refine qr_asgI (n := (ixP st x y : Int)) (er_is (by walk_at "ev") (ixP_int on)) fun H1 e1 => ?_
  have r1 := mo e1 r
  have rp1 := mo e1 rp
  have old := getD_ok wf.po (ixP st x y)
  have ev : EvL (tCall sp_laid [] E0 (tCons (tVar 1) (tCons (tVar 4) (tCons (tOp (rIxL K) (tFld K (tVar 0) "pixels") (tVar 5)) tNil)))) [some (.ref a), some (.int (n : Int)), some (.int x), some (.int y), some vp, some (.int (ixP st x y : Int))] H1 (vI (laidM (n : Int) (pxI q) (pxI (st.pixels.getD (ixP st x y) Si20.black)))) :=
    el_call3 (er_varI rfl) (er_var rfl rp1) (er_ixL (n := (ixP st x y : Int)) (er_pixels T (er_var rfl r1)) (er_varI rfl) rfl (pxs_at hi)) ⟨isP q qok, rfl⟩
  rw [laid_eq n (by omega) q _ qok old] at ev
  refine ev H1 (Ex.refl _) _ fun p H2 hp e2 h2 => ?_
  have dr1 := dr.mono e1
  have lk : ixP st x y < D.vs.length := by rw [dr.pxs.1, Array.length_toList]; exact hi
  obtain ⟨tg', z1, z2, z3⟩ := dr1.putPx (i := ixP st x y) (tk.mono e1) hp e2 h2 (laid_ok n q _ qok old)
  refine ⟨.ref a, rfl, a, _, D.dx, _, .ref D.ap, rfl, e2 _ _ dr1.ins, T.cl, T.n_pixels, lk_pixels, .int (ixP st x y : Int), rfl, D.ap, D.vs, _, ixP st x y, rfl, rfl, e2 _ _ dr1.px, ixN_nat lk, k _ ?_⟩
  have fin : At K a d tg H (upd H2 D.ap (.lst (D.vs.set (ixP st x y) (.ref p)))) (st.lay (ixP st x y) n q) := ⟨tg', _, (Stp.ofEx e1).trans z1, z2, z3⟩
  exact fin
theorem ok_D_lay (T : Tx K mg) (G_D_place : GM P w K mg base (He.ga K "Drawer") "place" 1 ["self", "x", "y"] (sp_D_place K)) (G_laid : GF P w K mg base "laid" 3 ["how", "s", "d"] sp_laid) : GM P w K mg base (He.ga K "Drawer") "lay" 4 ["self", "how", "x", "y", "pixel"] (sp_D_lay K) := by
  refine ⟨fn_keep (k := 3) (tt := (t_D_lay K)) T.d_D_lay sc_D_lay len_D_lay (fun _ _ _ _ _ _ us hl => match us, hl with | [_, _, _, _, _], _ => rfl) (fun cdv A outer s H E hr => ?_) (pure_D_lay T), T.m_D_lay⟩
  exact (pss_cons (ps_set (i := 5) sc_D_lay.nd rfl (.inl rfl) (pe_gm (pv 0) T.cl G_D_place (hr.mono (by decide)) (pa_cons (pv 2) (pa_cons (pv 3) pa_nil))))
    (pss_one (ps_asg (pe_gf G_laid (hr.mono (by decide)) rfl (pa_cons (pv 1) (pa_cons (pv 4) (pa_cons (pe_ix ix_list (pe_fld (pv 0) rfl) (pv 5) (fun _ _ => rfl)) pa_nil)))) (pg_sub (pe_fld (pv 0) rfl) (pv 5) set_list))))
theorem pure_D_keep_depth (T : Tx K mg) (vs : List V) (H : Hp) (Q : VK) (E : XK) (h : sp_D_keep_depth K vs H Q E) : t_D_keep_depth K { nx := fun _ H' => Q .non H', rt := Q } (start ["self", "x", "y", "depth"] vs) H := by
  obtain ⟨a, us, tg, d, D, st, ⟨x, y, n⟩, rfl, tk, dr, rfl, on, k⟩ := h
  have r : RD K (dC K) H (.ref a) st := ⟨tg, d, a, D, rfl, dr⟩
  have on : OnP st x y := on
  have wf := r.wf
  have hi : ixP st x y < st.depths.size := by rw [wf.dp]; exact ixP_lt on
  have ev : EvR RI (tMeth (dC K) "place" (sp_D_place K) [] E0 (tVar 0) (tCons (tVar 1) (tCons (tVar 2) tNil))) [some (.ref a), some (.int x), some (.int y), some (.int (n : Int))] H (ixP st x y : Int) := er_is (by walk_at "ev") (ixP_int on)
  refine ⟨.int (n : Int), rfl, .ref a, rfl, a, _, D.dx, _, .ref D.ad, rfl, dr.ins, T.cl, T.n_depths, lk_depths, ev H (Ex.refl _) _ fun v H2 e2 r2 => ?_⟩
  have dr2 := dr.mono e2
  obtain ⟨z1, z2, z3⟩ := dr2.putDp (i := ixP st x y) (n := n) (tk.mono e2)
  exact ⟨D.ad, _, _, ixP st x y, rfl, r2, dr2.dp, ixN_nat (by rw [List.length_map, Array.length_toList]; exact hi), k _ ⟨tg, _, (Stp.ofEx e2).trans z1, z2, z3⟩⟩
theorem ok_D_keep_depth (T : Tx K mg) (G_D_place : GM P w K mg base (He.ga K "Drawer") "place" 1 ["self", "x", "y"] (sp_D_place K)) : GM P w K mg base (He.ga K "Drawer") "keep_depth" 2 ["self", "x", "y", "depth"] (sp_D_keep_depth K) := by
  refine ⟨fn_keep (k := 1) (tt := (t_D_keep_depth K)) T.d_D_keep_depth sc_D_keep_depth len_D_keep_depth (fun _ _ _ _ _ _ us hl => match us, hl with | [_, _, _, _], _ => rfl) (fun cdv A outer s H E hr => ?_) (pure_D_keep_depth T), T.m_D_keep_depth⟩
  exact (pss_one (ps_asg (pv 3) (pg_sub (pe_fld (pv 0) rfl) (pe_gm (pv 0) T.cl G_D_place (hr.mono (by decide)) (pa_cons (pv 1) (pa_cons (pv 2) pa_nil))) set_list)))
theorem chunk_eq {b : Type} (c : Nat) (l : List b) (hc : 0 < c) (h : l.length % c = 0) : pieces c l = (List.range (l.length / c)).map fun i => (l.drop (c * i)).take c := by
  unfold pieces
  rw [div_up hc h]
  refine List.map_congr_left fun i _ => ?_
  rw [Nat.mul_comm]
theorem rpx_of {A : Addr → Prop} {H1 H2 : Hp} {v : V} {l : List Int} (hl : l.length = 4) (hb : ∀ z ∈ l, 0 ≤ z) (hA : ∀ b, H1 b = none → A b) (r : NewIt RI H1 H2 v l) : RPx A H2 v (Si20.pxOf (Si20Neutral.natsOf l)) := by
  obtain ⟨q, ws, r1, r2, r3, r4⟩ := r
  refine ⟨q, r1, hA q r2, ?_⟩
  rw [r3, ints_of r4]
  obtain ⟨z0, z1, z2, z3, rfl⟩ := four_of hl
  have b0 := hb z0 (by simp)
  have b1 := hb z1 (by simp)
  have b2 := hb z2 (by simp)
  have b3 := hb z3 (by simp)
  show some (HO.lst [.int z0, .int z1, .int z2, .int z3]) = some (HO.lst [.int (z0.toNat : Int), .int (z1.toNat : Int), .int (z2.toNat : Int), .int (z3.toNat : Int)])
  rw [Int.toNat_of_nonneg b0, Int.toNat_of_nonneg b1, Int.toNat_of_nonneg b2, Int.toNat_of_nonneg b3]
theorem pure_D_set_texture (T : Tx K mg) (vs : List V) (H : Hp) (Q : VK) (E : XK) (h : sp_D_set_texture K vs H Q E) : t_D_set_texture K { nx := fun _ H' => Q .non H', rt := Q } (start ["self", "k", "row", "at"] vs) H := by
  obtain ⟨a, us, tg, d, D, st, ⟨x, l⟩, rfl, tk, dr, ⟨v, rfl, rl⟩, ⟨h0, h1, hl, hb⟩, k⟩ := h
  have h0 : 0 ≤ x := h0
  have h1 : x < 8 := h1
  have hl : l.length = 16384 := hl
  have hb : ∀ z ∈ l, 0 ≤ z ∧ z < 256 := hb
  obtain ⟨n, rfl⟩ := Int.eq_ofNat_of_zero_le h0
  have ev : EvNN RI _ [some (.ref a), some (.int (n : Int)), some v, none] H (pieces 4 l) := enn_pieces (K := K) (A := AnyA) (i0 := 2) (j := 3) (c := 4) rfl (fun _ => rfl) (fun _ => rfl) (fun _ => rfl) (ints_rl rl) (by omega) (by omega) (by omega)
  refine s_asgT (ev H (Ex.refl _) _ fun p ws H2 hp e2 h2 r2 => ?_)
  have hq : pieces 4 l = (List.range (l.length / 4)).map fun i => (l.drop (4 * i)).take 4 := chunk_eq 4 l (by omega) (by omega)
  have item : ∀ i, i < l.length / 4 → ((l.drop (4 * i)).take 4).length = 4 := fun i hi => by
    rw [List.length_take, List.length_drop]
    omega
  have dr2 := dr.mono e2
  have un : ∀ b, H b = none → Un_ tg b := fun b hb => tk.fresh hb
  have ht : RTex (Un_ tg) H2 (.ref p) (some ((Si20.chunks 4 (Si20Neutral.natsOf l)).map Si20.pxOf).toArray) := by
    show RLn (Un_ tg) (RPx (Un_ tg)) H2 (.ref p) (((Si20.chunks 4 (Si20Neutral.natsOf l)).map Si20.pxOf).toArray).toList
    refine ⟨p, ws, rfl, un p hp, h2, ?_⟩
    have e : (((Si20.chunks 4 (Si20Neutral.natsOf l)).map Si20.pxOf).toArray).toList = (pieces 4 l).map fun q => Si20.pxOf (Si20Neutral.natsOf q) := by
      rw [hq]
      show (Si20.chunks 4 (Si20Neutral.natsOf l)).map Si20.pxOf = _
      unfold Si20.chunks Si20Neutral.natsOf
      rw [List.map_map, List.map_map, List.length_map]
      refine List.map_congr_left fun i _ => ?_
      show Si20.pxOf _ = Si20.pxOf _
      rw [List.map_take, List.map_drop]
    rw [e]
    refine ⟨by rw [List.length_map]; exact r2.1, fun i u z hu hz => ?_⟩
    rw [List.getElem?_map] at hz
    cases e3 : (pieces 4 l)[i]? with
    | none => rw [e3] at hz; cases hz
    | some q =>
      rw [e3] at hz
      cases hz
      have mem := List.mem_of_getElem? e3
      rw [hq] at mem
      obtain ⟨i', hi', rfl⟩ := List.mem_map.mp mem
      exact rpx_of (item i' (List.mem_range.mp hi')) (fun z hz => (hb z (List.mem_of_mem_drop (List.mem_of_mem_take hz))).1) un (r2.2 i u _ hu e3)
  have sz : (((Si20.chunks 4 (Si20Neutral.natsOf l)).map Si20.pxOf).toArray).size = 4096 ∧ ∀ q ∈ (((Si20.chunks 4 (Si20Neutral.natsOf l)).map Si20.pxOf).toArray).toList, q.Ok := by
    constructor
    · show ((Si20.chunks 4 (Si20Neutral.natsOf l)).map Si20.pxOf).length = 4096
      unfold Si20.chunks Si20Neutral.natsOf
      rw [List.length_map, List.length_map, List.length_range, List.length_map, hl]
    · intro q hq
      have hq : q ∈ (Si20.chunks 4 (Si20Neutral.natsOf l)).map Si20.pxOf := hq
      obtain ⟨c, hc, rfl⟩ := List.mem_map.mp hq
      obtain ⟨i, hi, rfl⟩ := List.mem_map.mp hc
      have g : ∀ j : Nat, (((Si20Neutral.natsOf l).drop (4 * i)).take 4).getD j 0 < 256 := fun j => by
        rw [List.getD_eq_getElem?_getD]
        cases e4 : (((Si20Neutral.natsOf l).drop (4 * i)).take 4)[j]? with
        | none => show (0 : Nat) < 256; omega
        | some z =>
          have := List.mem_of_mem_drop (List.mem_of_mem_take (List.mem_of_getElem? e4))
          obtain ⟨y, hy, rfl⟩ := List.mem_map.mp this
          have := hb y hy
          show y.toNat < 256
          omega
      exact ⟨g 0, g 1, g 2, g 3⟩
  obtain ⟨z1, z2, z3⟩ := dr2.putTx (i := n) (tk.mono e2) ht sz
  have wf := dr.wf
  exact ⟨.ref a, rfl, a, _, D.dx, _, .ref D.at_, rfl, dr2.ins, T.cl, T.n_textures, lk_textures, .int (n : Int), rfl, D.at_, D.ts, _, n, rfl, rfl, dr2.tx, ixN_nat (by rw [dr.txs.1, wf.tx]; omega), k _ ⟨tg, _, (Stp.ofEx e2).trans z1, z2, z3⟩⟩
theorem ok_D_set_texture (T : Tx K mg)  : GM P w K mg base (He.ga K "Drawer") "set_texture" 1 ["self", "k", "row"] (sp_D_set_texture K) := by
  refine ⟨fn_keep (k := 0) (tt := (t_D_set_texture K)) T.d_D_set_texture sc_D_set_texture len_D_set_texture (fun _ _ _ _ _ _ us hl => match us, hl with | [_, _, _], _ => rfl) (fun cdv A outer s H E hr => ?_) (pure_D_set_texture T), T.m_D_set_texture⟩
  exact (pss_one (ps_asg (pe_lc (own := [("at", 3)]) (g := (gName 3)) (tt := tYes) rfl sc_D_set_texture.nd (pi_range3 rfl T.f_range (pa_cons pe_int (pa_cons (pe_callB call_len_seq rfl T.f_len (by decide +kernel) (pa_cons (pv 2) pa_nil)) (pa_cons (pe_gi rfl T.i_FOUR) pa_nil)))) (blkOk_by (N := ["self", "k", "row", "at"]) (sc := defScope s_D_set_texture) (by decide +kernel)) (fun _ _ _ _ _ => (pg_name (i := 3) sc_D_set_texture.nd rfl (.inl rfl))) (fun _ _ _ _ _ => pts_nil) (fun _ _ _ _ _ => (pe_slice sl_list (pv 2) (po_some (pv 3)) (po_some (pe_op op_add (pv 3) (pe_gi rfl T.i_FOUR)))))) (pg_sub (pe_fld (pv 0) rfl) (pv 1) set_list)))
theorem pure_D_set_fog (T : Tx K mg) (vs : List V) (H : Hp) (Q : VK) (E : XK) (h : sp_D_set_fog K vs H Q E) : t_D_set_fog K { nx := fun _ H' => Q .non H', rt := Q } (start ["self", "colour"] vs) H := by
  obtain ⟨a, us, tg, d, D, st, n, rfl, tk, dr, rfl, -, k⟩ := h
  have ev : EvL (tCall sp_pixel_of [] E0 (tCons (tVar 1) tNil)) [some (.ref a), some (.int (n : Int))] H (vI (pixelOfM (n : Int))) := el_call1 (er_varI rfl) trivial
  rw [pixelOf_eq] at ev
  refine ev H (Ex.refl _) _ fun p H2 hp e2 h2 => ?_
  have dr2 := dr.mono e2
  have z := dr2.putFog (tk.mono e2) (v := .ref p) (p := Si20.px n) ⟨p, rfl, tk.fresh hp, h2⟩ (px_ok n)
  refine ⟨.ref a, rfl, a, _, D.dx, _, rfl, dr2.ins, T.cl, T.n_fog, by show 8 < 1000; omega, ?_⟩
  rw [put_fog]
  exact k _ (At.trans (Stp.ofEx e2) z)
theorem ok_D_set_fog (T : Tx K mg) (G_pixel_of : GF P w K mg base "pixel_of" 1 ["colour"] sp_pixel_of) : GM P w K mg base (He.ga K "Drawer") "set_fog" 2 ["self", "colour"] (sp_D_set_fog K) := by
  refine ⟨fn_keep (k := 1) (tt := (t_D_set_fog K)) T.d_D_set_fog sc_D_set_fog len_D_set_fog (fun _ _ _ _ _ _ us hl => match us, hl with | [_, _], _ => rfl) (fun cdv A outer s H E hr => ?_) (pure_D_set_fog T), T.m_D_set_fog⟩
  exact (pss_one (ps_fld (pv 0) (pe_gf G_pixel_of (hr.mono (by decide)) rfl (pa_cons (pv 1) pa_nil)) rfl))
theorem pure_D_clear (T : Tx K mg) (vs : List V) (H : Hp) (Q : VK) (E : XK) (h : sp_D_clear K vs H Q E) : t_D_clear K { nx := fun _ H' => Q .non H', rt := Q } (start ["self", "colour", "depth", "place"] vs) H := by
  obtain ⟨a, us, tg, d, D, st, ⟨c, n⟩, rfl, tk, dr, rfl, -, k⟩ := h
  have r : RD K (dC K) H (.ref a) st := ⟨tg, d, a, D, rfl, dr⟩
  have wf := r.wf
  have w2 := wf.w2
  have h2 := wf.h2
  have b1 : st.w * st.h ≤ 128 * 128 := Nat.mul_le_mul w2 h2
  have hm : CMul (st.w : Int) (st.h : Int) := cmul_r (by omega) (by omega)
  have ew : (st.w : Int) * (st.h : Int) = ((st.w * st.h : Nat) : Int) := by rw [Int.natCast_mul]
  have ev : EvND (tLc (iRng1 (tCons (tOp rMulI (tFld K (tVar 0) "wide") (tFld K (tVar 0) "high")) tNil)) (gName 3) tYes (tCall sp_pixel_of [] E0 (tCons (tVar 1) tNil)) [3]) [some (.ref a), some (.int (c : Int)), some (.int (n : Int)), none] H ((List.range ((st.w * st.h : Nat) : Int).toNat).map fun _ => vI (pixelOfM (c : Int))) :=
    end_lcR (fun _ => vI (pixelOfM (c : Int))) (er_is (by walk_at "ev") ew) (by omega) (by omega) (fun _ => rfl) fun i H1 e hi => el_call1 (er_varI rfl) trivial
  rw [pixelOf_eq, Int.toNat_natCast] at ev
  refine q_fldT (ev H (Ex.refl _) _ fun p ws H2 hp e2 h2' nd r2 => ?_)
  have dr2 := dr.mono e2
  have z := dr.newPx tk (l := (List.replicate (st.w * st.h) (Si20.px c)).toArray) hp e2 h2' (by
    show All2 _ ws (List.replicate (st.w * st.h) (Si20.px c))
    have e : List.replicate (st.w * st.h) (Si20.px c) = (List.range (st.w * st.h)).map fun _ => Si20.px c := by
      rw [List.map_const', List.length_range]
    rw [e]
    refine ⟨by rw [r2.1, List.length_map, List.length_map], fun i u q hu hq => ?_⟩
    rw [List.getElem?_map] at hq
    cases e3 : (List.range (st.w * st.h))[i]? with
    | none => rw [e3] at hq; cases hq
    | some j =>
      rw [e3] at hq
      cases hq
      exact r2.2 i u (pxV (Si20.px c)) hu (by rw [List.getElem?_map, e3]; rfl)) nd (by show (List.replicate (st.w * st.h) (Si20.px c)).length = _; rw [List.length_replicate]) (fun q hq => by
      have hq : q ∈ List.replicate (st.w * st.h) (Si20.px c) := hq
      rw [(List.mem_replicate.mp hq).2]
      exact px_ok c)
  refine ⟨.ref a, rfl, a, _, D.dx, _, rfl, dr2.ins, T.cl, T.n_pixels, by show 8 < 1000; omega, ?_⟩
  rw [put_pixels (vs := ws)]
  obtain ⟨tg3, D3, z1, z2, z3⟩ := z
  generalize upd H2 a (.ins (dC K) D.dx (dF st.w st.h { D with ap := p, vs := ws })) = H3 at z1 z2 z3 ⊢
  have r3 : RD K (dC K) H3 (.ref a) { st with pixels := (List.replicate (st.w * st.h) (Si20.px c)).toArray } := ⟨tg3, d, a, D3, rfl, z3⟩
  have ev2 : EvL (tOp rRep (tLst (tCons (tVar 2) tNil)) (tOp rMulI (tFld K (tVar 0) "wide") (tFld K (tVar 0) "high"))) [some (.ref a), some (.int (c : Int)), some (.int (n : Int)), none] H3 (List.replicate ((st.w * st.h : Nat) : Int).toNat (.int (n : Int))) :=
    el_rep (elv (el_lstI (xs := [.int (n : Int)]) (ers_cons (er_varI rfl) ers_nil) (by rintro H' vs ⟨v, r, rfl, r1, rfl⟩; rw [r1]) (by simp))) (er_is (er_op (er_wide T (er_var rfl r3)) (er_high T (er_var rfl r3)) hm) ew) (by omega) (by omega)
  rw [Int.toNat_natCast] at ev2
  refine s_fldT (ev2 H3 (Ex.refl _) _ fun p4 H4 hp4 e4 h4 => ?_)
  have dr4 := z3.mono e4
  have y := z3.newDp z2 (l := (List.replicate (st.w * st.h) n).toArray) hp4 e4 (by rw [h4]; show _ = some (HO.lst ((List.replicate (st.w * st.h) n).map fun (n : Nat) => V.int (n : Int))); rw [List.map_replicate]) (by show (List.replicate (st.w * st.h) n).length = _; rw [List.length_replicate])
  refine ⟨.ref a, rfl, a, _, D3.dx, _, rfl, dr4.ins, T.cl, T.n_depths, by show 8 < 1000; omega, ?_⟩
  rw [put_depths]
  exact k _ (At.trans z1 y)
theorem ok_D_clear (T : Tx K mg) (G_pixel_of : GF P w K mg base "pixel_of" 1 ["colour"] sp_pixel_of) : GM P w K mg base (He.ga K "Drawer") "clear" 2 ["self", "colour", "depth"] (sp_D_clear K) := by
  refine ⟨fn_keep (k := 1) (tt := (t_D_clear K)) T.d_D_clear sc_D_clear len_D_clear (fun _ _ _ _ _ _ us hl => match us, hl with | [_, _, _], _ => rfl) (fun cdv A outer s H E hr => ?_) (pure_D_clear T), T.m_D_clear⟩
  exact (pss_cons (ps_fld (pv 0) (pe_lc (own := [("place", 3)]) (g := (gName 3)) (tt := tYes) rfl sc_D_clear.nd (pi_range1 rfl T.f_range (pa_cons (pe_op op_mul (pe_fld (pv 0) rfl) (pe_fld (pv 0) rfl)) pa_nil)) (blkOk_by (N := ["self", "colour", "depth", "place"]) (sc := defScope s_D_clear) (by decide +kernel)) (fun _ _ _ _ _ => (pg_name (i := 3) sc_D_clear.nd rfl (.inl rfl))) (fun _ _ _ _ _ => pts_nil) (fun _ _ _ _ _ => (pe_gf G_pixel_of (hr.mono (by decide)) rfl (pa_cons (pv 1) pa_nil)))) rfl)
    (pss_one (ps_fld (pv 0) (pe_op op_rep (pe_lst (pa_cons (pv 2) pa_nil)) (pe_op op_mul (pe_fld (pv 0) rfl) (pe_fld (pv 0) rfl))) rfl)))
end
end Sd
end

section
set_option Elab.async false
set_option linter.all false
set_option maxRecDepth 100000
set_option maxHeartbeats 400000
/-! ## 16. Rows and columns: plain laws -/
namespace Sd
open Si20 (Px)
theorem fold_skip {a b : Type} (f : a → b → a) : ∀ (l : List b) (s : a), (∀ s x, x ∈ l → f s x = s) → l.foldl f s = s
  | [], _, _ => rfl
  | x :: r, s, h => by
    rw [List.foldl_cons, h s x (by simp)]
    exact fold_skip f r s fun s y hy => h s y (by simp [hy])
theorem fold_inv {a b : Type} (P : a → Prop) (f g : a → b → a) : ∀ (l : List b) (s : a), P s → (∀ s x, P s → x ∈ l → f s x = g s x ∧ P (g s x)) → l.foldl f s = l.foldl g s ∧ P (l.foldl g s)
  | [], _, p, _ => ⟨rfl, p⟩
  | x :: r, s, p, h => by
    obtain ⟨h1, h2⟩ := h s x p (by simp)
    rw [List.foldl_cons, List.foldl_cons, h1]
    exact fold_inv P f g r _ h2 fun s y q hy => h s y q (by simp [hy])
theorem range_add (m n : Nat) : List.range (m + n) = List.range m ++ (List.range n).map (m + ·) := List.range_add
/-- only those from lo to hi count -/
theorem skip_range {a : Type} (F : a → Int → a) (n : Nat) (lo hi : Int) (h0 : 0 ≤ lo) (h1 : hi ≤ (n : Int)) (s : a) : (List.range n).foldl (fun s (i : Nat) => if lo ≤ (i : Int) ∧ (i : Int) < hi then F s (i : Int) else s) s = (rgI lo hi).foldl F s := by
  by_cases hlt : lo < hi
  · obtain ⟨l, rfl⟩ := Int.eq_ofNat_of_zero_le h0
    obtain ⟨m, rfl⟩ : ∃ m : Nat, hi = ((l + m : Nat) : Int) := ⟨(hi - (l : Int)).toNat, by omega⟩
    obtain ⟨r, rfl⟩ : ∃ r : Nat, n = l + m + r := ⟨n - (l + m), by omega⟩
    rw [range_add (l + m) r, range_add l m, List.foldl_append, List.foldl_append]
    rw [fold_skip _ (List.range l) s fun s x hx => by
      have := List.mem_range.mp hx
      rw [if_neg (by omega)]]
    rw [fold_skip _ ((List.range r).map (l + m + ·)) _ fun s x hx => by
      obtain ⟨y, _, rfl⟩ := List.mem_map.mp hx
      rw [if_neg (by omega)]]
    unfold rgI
    rw [show (((l + m : Nat) : Int) - (l : Int)).toNat = m by omega, List.foldl_map, List.foldl_map]
    refine (fold_inv (fun _ => True) _ _ _ s trivial fun s x _ hx => ⟨?_, trivial⟩).1
    have := List.mem_range.mp hx
    rw [if_pos ⟨by omega, by omega⟩, Int.natCast_add]
  · unfold rgI
    rw [show (hi - lo).toNat = 0 by omega]
    exact fold_skip _ _ s fun s x _ => if_neg (by omega)
theorem fold_grid {a : Type} (G : a → Nat → Nat → a) (w : Nat) : ∀ (h : Nat) (s : a), (List.range (w * h)).foldl (fun s j => G s (j % w) (j / w)) s = (List.range h).foldl (fun s j => (List.range w).foldl (fun s i => G s i j) s) s
  | 0, s => by rw [Nat.mul_zero]; rfl
  | h + 1, s => by
    rw [Nat.mul_succ, range_add, List.foldl_append, fold_grid G w h s, List.range_succ, List.foldl_append, List.foldl_map]
    show _ = (List.range w).foldl (fun s i => G s i h) _
    refine (fold_inv (fun _ => True) _ _ _ _ trivial fun s x _ hx => ⟨?_, trivial⟩).1
    have hx := List.mem_range.mp hx
    rw [Nat.mul_add_mod, Nat.mod_eq_of_lt hx, Nat.mul_add_div (by omega), Nat.div_eq_of_lt hx, Nat.add_zero]
theorem map_grid {b : Type} (g : Nat → Nat → b) (w : Nat) : ∀ h : Nat, (List.range (w * h)).map (fun j => g (j % w) (j / w)) = (List.range h).flatMap fun j => (List.range w).map fun i => g i j
  | 0 => by rw [Nat.mul_zero]; rfl
  | h + 1 => by
    rw [Nat.mul_succ, range_add, List.map_append, map_grid g w h, List.range_succ, List.flatMap_append, List.map_map]
    congr 1
    rw [List.flatMap_cons, List.flatMap_nil, List.append_nil]
    refine List.map_congr_left fun x hx => ?_
    have hx := List.mem_range.mp hx
    show g ((w * h + x) % w) ((w * h + x) / w) = _
    rw [Nat.mul_add_mod, Nat.mod_eq_of_lt hx, Nat.mul_add_div (by omega), Nat.div_eq_of_lt hx, Nat.add_zero]
theorem colsI_def (w : Nat) (x many : Int) : colsI w x many = rgI (if 0 - x > 0 then 0 - x else 0) (if (w : Int) - x < many then (w : Int) - x else many) := rfl
theorem rgI_mem {lo hi i : Int} (h : i ∈ rgI lo hi) : lo ≤ i ∧ i < hi := by
  obtain ⟨k, hk, rfl⟩ := List.mem_map.mp h
  have := List.mem_range.mp hk
  omega
theorem colsI_mem {w : Nat} {x many i : Int} (h : i ∈ colsI w x many) : 0 ≤ i ∧ i < many ∧ 0 ≤ x + i ∧ x + i < (w : Int) := by
  have := rgI_mem h
  split at this <;> split at this <;> omega
theorem skip_cols {a : Type} (F : a → Int → a) (w n : Nat) (x : Int) (s : a) : (List.range n).foldl (fun s (i : Nat) => if 0 ≤ x + (i : Int) ∧ x + (i : Int) < (w : Int) then F s (i : Int) else s) s = (colsI w x (n : Int)).foldl F s := by
  rw [colsI_def, ← skip_range F n _ _ (by split <;> omega) (by split <;> omega)]
  refine (fold_inv (fun _ => True) _ _ _ _ trivial fun s i _ hi => ⟨?_, trivial⟩).1
  have hi := List.mem_range.mp hi
  by_cases h : 0 ≤ x + (i : Int) ∧ x + (i : Int) < (w : Int)
  · rw [if_pos h, if_pos (by split <;> split <;> omega)]
  · rw [if_neg h, if_neg (by split <;> split <;> omega)]
/-- rows of rectangles: what is off the picture is left out -/
theorem grid (L : Si20.St → Nat → Nat → Nat → Si20.St) (hL : ∀ s i j k, (L s i j k).w = s.w ∧ (L s i j k).h = s.h) (w h : Nat) (x y : Int) (s : Si20.St) :
    (List.range (w * h)).foldl (fun (s : Si20.St) (j : Nat) => match s.at_ (x + (j % w : Nat)) (y + (j / w : Nat)) with
      | none => s
      | some i => L s (j % w) (j / w) i) s = (colsI s.h y (h : Int)).foldl (fun t j => (colsI s.w x (w : Int)).foldl (fun t i => L t i.toNat j.toNat ((y + j).toNat * s.w + (x + i).toNat)) t) s := by
  rw [fold_grid (fun (s : Si20.St) i j => match s.at_ (x + (i : Nat)) (y + (j : Nat)) with
      | none => s
      | some k => L s i j k) w h s]
  have inner : ∀ (t : Si20.St) (j : Nat), t.w = s.w → t.h = s.h → (List.range w).foldl (fun (s : Si20.St) (i : Nat) => match s.at_ (x + (i : Nat)) (y + (j : Nat)) with
      | none => s
      | some k => L s i j k) t = (if 0 ≤ y + (j : Int) ∧ y + (j : Int) < (s.h : Int) then (colsI s.w x (w : Int)).foldl (fun t i => L t i.toNat j ((y + (j : Int)).toNat * s.w + (x + i).toNat)) t else t) ∧ ((if 0 ≤ y + (j : Int) ∧ y + (j : Int) < (s.h : Int) then (colsI s.w x (w : Int)).foldl (fun t i => L t i.toNat j ((y + (j : Int)).toNat * s.w + (x + i).toNat)) t else t).w = s.w ∧ (if 0 ≤ y + (j : Int) ∧ y + (j : Int) < (s.h : Int) then (colsI s.w x (w : Int)).foldl (fun t i => L t i.toNat j ((y + (j : Int)).toNat * s.w + (x + i).toNat)) t else t).h = s.h) := by
    intro t j tw th
    by_cases hy : 0 ≤ y + (j : Int) ∧ y + (j : Int) < (s.h : Int)
    · rw [if_pos hy, ← skip_cols (fun t i => L t i.toNat j ((y + (j : Int)).toNat * s.w + (x + i).toNat)) s.w w x t]
      refine fold_inv (fun (t : Si20.St) => t.w = s.w ∧ t.h = s.h) _ _ _ _ ⟨tw, th⟩ fun u i ⟨uw, uh⟩ _ => ?_
      by_cases hx : 0 ≤ x + (i : Int) ∧ x + (i : Int) < (s.w : Int)
      · have : u.at_ (x + (i : Nat)) (y + (j : Nat)) = some ((y + (j : Int)).toNat * s.w + (x + (i : Int)).toNat) := by
          unfold Si20.St.at_
          rw [uw, uh, if_pos ⟨hx.1, hx.2, hy.1, hy.2⟩]
        rw [this]
        rw [if_pos hx]
        exact ⟨by rw [Int.toNat_natCast], by rw [(hL _ _ _ _).1]; exact uw, by rw [(hL _ _ _ _).2]; exact uh⟩
      · have : u.at_ (x + (i : Nat)) (y + (j : Nat)) = none := by
          unfold Si20.St.at_
          rw [uw, uh, if_neg (fun z => hx ⟨z.1, z.2.1⟩)]
        rw [this]
        rw [if_neg hx]
        exact ⟨rfl, uw, uh⟩
    · rw [if_neg hy]
      refine ⟨?_, tw, th⟩
      have := (fold_inv (fun t : Si20.St => t.w = s.w ∧ t.h = s.h) (fun (s : Si20.St) (i : Nat) => match s.at_ (x + (i : Nat)) (y + (j : Nat)) with
        | none => s
        | some k => L s i j k) (fun t _ => t) (List.range w) t ⟨tw, th⟩ fun u i ⟨uw, uh⟩ _ => by
          have : u.at_ (x + (i : Nat)) (y + (j : Nat)) = none := by
            unfold Si20.St.at_
            rw [uw, uh, if_neg (fun z => hy z.2.2)]
          rw [this]
          exact ⟨rfl, uw, uh⟩).1
      rw [this]
      exact fold_skip _ _ _ fun _ _ _ => rfl
  rw [← skip_cols (fun t j => (colsI s.w x (w : Int)).foldl (fun t i => L t i.toNat j.toNat ((y + j).toNat * s.w + (x + i).toNat)) t) s.h h y s]
  refine (fold_inv (fun (t : Si20.St) => t.w = s.w ∧ t.h = s.h) _ _ _ _ ⟨rfl, rfl⟩ fun t j ⟨tw, th⟩ _ => ?_).1
  obtain ⟨i1, i2⟩ := inner t j tw th
  rw [i1]
  rw [Int.toNat_natCast]
  exact ⟨rfl, i2⟩
theorem lay_wh (s : Si20.St) (i how : Nat) (p : Px) : (s.lay i how p).w = s.w ∧ (s.lay i how p).h = s.h := ⟨rfl, rfl⟩
theorem fill_eq (how : Nat) (c : Px) (w h : Nat) (x y : Int) (s : Si20.St) : Si20.fill how c w h x y s = (colsI s.h y (h : Int)).foldl (fun t j => (colsI s.w x (w : Int)).foldl (fun t i => t.lay ((y + j).toNat * s.w + (x + i).toNat) how c) t) s :=
  grid (fun s _ _ k => s.lay k how c) (fun _ _ _ _ => ⟨rfl, rfl⟩) w h x y s
theorem sprite_eq (how key : Nat) (l : Array Px) (u v w h : Nat) (x y : Int) (s : Si20.St) : Si20.drawSprite how key l u v w h x y s = (colsI s.h y (h : Int)).foldl (fun t j => (colsI s.w x (w : Int)).foldl (fun t i => if Si20.texel l (u + i.toNat) (v + j.toNat) = Si20.px key then t else t.lay ((y + j).toNat * s.w + (x + i).toNat) how (Si20.texel l (u + i.toNat) (v + j.toNat))) t) s :=
  grid (fun s i j k => if Si20.texel l (u + i) (v + j) = Si20.px key then s else s.lay k how (Si20.texel l (u + i) (v + j))) (fun s i j k => by
    split
    · exact ⟨rfl, rfl⟩
    · exact ⟨rfl, rfl⟩) w h x y s
theorem fold_wh {b : Type} (F : Si20.St → b → Si20.St) (hF : ∀ s x, (F s x).w = s.w ∧ (F s x).h = s.h) (l : List b) (s : Si20.St) : (l.foldl F s).w = s.w ∧ (l.foldl F s).h = s.h :=
  (fold_inv (fun (t : Si20.St) => t.w = s.w ∧ t.h = s.h) F F l s ⟨rfl, rfl⟩ fun t x ⟨h1, h2⟩ _ => ⟨rfl, by rw [(hF t x).1]; exact h1, by rw [(hF t x).2]; exact h2⟩).2
/-! ### all pixels, one by one -/
def fd (b : Nat) (p : Px) : Px := { (p.map fun (x : Nat) => Si20.less x b) with a := p.a }
theorem fade_eq (g : Px → Px) (n : Nat) : ∀ (k : Nat) (l : List Px), k ≤ l.length → (List.range k).foldl (fun (m : List Px) i => m.set i (g (m.getD i Si20.black))) l = (l.take k).map g ++ l.drop k
  | 0, l, _ => by simp
  | k + 1, l, h => by
    rw [List.range_succ, List.foldl_append, fade_eq g n k l (by omega)]
    show ((l.take k).map g ++ l.drop k).set k (g (((l.take k).map g ++ l.drop k).getD k Si20.black)) = _
    have hk : ((l.take k).map g).length = k := by rw [List.length_map, List.length_take]; omega
    have hd : l.drop k = l[k] :: l.drop (k + 1) := List.drop_eq_getElem_cons (by omega)
    have ht : l.take (k + 1) = l.take k ++ [l[k]] := by rw [List.take_add_one, List.getElem?_eq_getElem (by omega)]; rfl
    rw [hd, ht, List.map_append, List.append_assoc]
    rw [List.set_append_right k _ (by omega), hk, Nat.sub_self, List.getD_eq_getElem?_getD, List.getElem?_append_right (by omega), hk, Nat.sub_self]
    rfl
end Sd
end

section
set_option Elab.async false
set_option linter.all false
set_option maxRecDepth 100000
set_option maxHeartbeats 400000
/-! ## 17. drawers.py: fill, sprites, fade, grab -/
namespace Sd
open PySem PySem.Spec PyProof.Rows L2 Evl
open Si20 (Px)
local macro_rules | `(tactic| walk_at "ev") => `(tactic| first
  | with_reducible exact er_cI
  | focus ((with_reducible apply er_varI); with_unfolding_all rfl)
  | focus ((with_reducible apply er_var); all_goals first | with_unfolding_all rfl | assumption)
  | focus ((with_reducible apply er_op0); all_goals walk_at "ev")
  | focus ((with_reducible apply er_op); all_goals walk_at "ev")
  | focus ((with_reducible apply er_neg); all_goals walk_at "ev")
  | focus ((with_reducible apply er_max); all_goals walk_at "ev")
  | focus ((with_reducible apply er_min); all_goals walk_at "ev")
  | focus ((with_reducible apply er_abs); all_goals walk_at "ev")
  | focus ((with_reducible apply er_intB); all_goals walk_at "ev")
  | focus ((with_reducible apply er_bits); all_goals walk_at "ev")
  | focus ((with_reducible apply er_ixD); all_goals walk_at "ev")
  | focus ((with_reducible apply er_call1); all_goals walk_at "ev")
  | focus ((with_reducible apply er_call2); all_goals walk_at "ev")
  | focus ((with_reducible apply er_call3); all_goals walk_at "ev")
  | focus ((with_reducible apply er_call4); all_goals walk_at "ev")
  | focus ((with_reducible apply er_eq); all_goals walk_at "ev")
  | focus ((with_reducible apply er_ne); all_goals walk_at "ev")
  | focus ((with_reducible apply er_cmp); all_goals walk_at "ev")
  | focus ((with_reducible apply er_chain); all_goals walk_at "ev")
  | focus ((with_reducible apply er_andU); all_goals walk_at "ev")
  | focus ((with_reducible apply er_orU); all_goals walk_at "ev")
  | focus ((with_reducible apply et_t); all_goals walk_at "ev")
  | focus ((with_reducible apply et_b); all_goals walk_at "ev")
  | focus ((with_reducible apply et_andU); all_goals walk_at "ev")
  | focus ((with_reducible apply et_orU); all_goals walk_at "ev")
  | focus ((with_reducible apply Evl.et_not); all_goals walk_at "ev")
  | walk_at "side")
local macro_rules | `(tactic| walk_at "evr") => `(tactic| (refine er_is (by walk_at "ev") (by with_unfolding_all rfl)))
local macro_rules | `(tactic| walk_at "side") => `(tactic| first
  | assumption
  | exact True.intro
  | exact cdiv_ok (by decide) (by decide)
  | exact cmul_l (by omega) (by omega)
  | exact cmul_r (by omega) (by omega)
  | omega
  | decide
  | (dsimp only; done)
  | (dsimp only; first | assumption | omega | decide)
  | (constructor <;> assumption))
local macro_rules | `(tactic| walk_at "ev") => `(tactic| first
  | focus ((with_reducible apply er_s0); all_goals walk_at "ev")
  | focus ((with_reducible apply er_s1); all_goals walk_at "ev")
  | focus ((with_reducible apply er_s2); all_goals walk_at "ev")
  | focus ((with_reducible apply er_tupS); all_goals walk_at "ev")
  | focus ((with_reducible apply er_tupI2); all_goals walk_at "ev")
  | focus ((with_reducible apply er_divmod); all_goals walk_at "ev"))
local macro_rules | `(tactic| walk_at "side") => `(tactic| exact cshl_ok (by omega) (by omega))
local macro_rules | `(tactic| walk_at "ev") => `(tactic| first
  | focus ((with_reducible apply er_wide); all_goals walk_at "ev")
  | focus ((with_reducible apply er_high); all_goals walk_at "ev")
  | focus ((with_reducible apply er_meth1); all_goals walk_at "ev")
  | focus ((with_reducible apply er_meth2); all_goals walk_at "ev")
  | focus ((with_reducible apply er_meth3); all_goals walk_at "ev"))
local macro_rules | `(tactic| walk_at "side") => `(tactic| (focus (decide +kernel)))
section
variable (K : PySem.W.Frag)
abbrev sp_D_fill : Sp := spM K (fun tg H us (x : Nat × Int × Int × Nat × Nat × Px) => ∃ v1 v2, us = [.int (x.1 : Int), .int x.2.1, .int x.2.2.1, v1, v2] ∧ RT K H v1 [.int (x.2.2.2.1 : Int), .int (x.2.2.2.2.1 : Int)] ∧ RIu (Un_ tg) H v2 (pxI x.2.2.2.2.2))
  (fun st x => x.1 ≤ 7 ∧ (-(2 ^ 31) ≤ x.2.1 ∧ x.2.1 < 2 ^ 31) ∧ (-(2 ^ 31) ≤ x.2.2.1 ∧ x.2.2.1 < 2 ^ 31) ∧ x.2.2.2.1 ≤ 128 ∧ x.2.2.2.2.1 ≤ 128 ∧ x.2.2.2.2.2.Ok) fun st x => Si20.fill x.1 x.2.2.2.2.2 x.2.2.2.1 x.2.2.2.2.1 x.2.1 x.2.2.1 st
structure SprA where
  how : Nat
  k : Nat
  u : Nat
  v : Nat
  w : Nat
  h : Nat
  x : Int
  y : Int
  key : Nat
abbrev sp_D_draw_sprite : Sp := spM K (fun tg H us (x : SprA) => ∃ v1 v2 v3, us = [.int (x.how : Int), .int (x.k : Int), v1, v2, v3, .int (x.key : Int)] ∧ RT K H v1 [.int (x.u : Int), .int (x.v : Int)] ∧ RT K H v2 [.int (x.w : Int), .int (x.h : Int)] ∧ RT K H v3 [.int x.x, .int x.y])
  (fun st x => x.how ≤ 7 ∧ x.k < 8 ∧ (st.texture (x.k : Int)).isSome = true ∧ x.u < 64 ∧ x.v < 64 ∧ x.w ≤ 64 ∧ x.h ≤ 64 ∧ (-(2 ^ 31) ≤ x.x ∧ x.x < 2 ^ 31) ∧ (-(2 ^ 31) ≤ x.y ∧ x.y < 2 ^ 31) ∧ x.key < 2 ^ 32) fun st x => Si20.drawSprite x.how x.key ((st.texture (x.k : Int)).getD #[]) x.u x.v x.w x.h x.x x.y st
abbrev sp_D_fade : Sp := spM K (fun _ _ us (x : Nat) => us = [.int (x : Int)]) (fun _ _ => True) fun st x => { st with pixels := st.pixels.map fun (p : Px) => { (p.map fun (y : Nat) => Si20.less y x) with a := p.a } }
abbrev sp_D_grab : Sp := spM K (fun _ _ us (x : Nat × Int × Int) => us = [.int (x.1 : Int), .int x.2.1, .int x.2.2]) (fun _ x => x.1 < 8) fun st x => { st with textures := st.textures.set x.1 (some ((List.range 4096).map fun (j : Nat) => pixAt st (x.2.1 + (j % 64 : Nat)) (x.2.2 + (j / 64 : Nat))).toArray) }
end
/-- Drawer.fill: 0 self, 1 how, 2 x, 3 y, 4 size, 5 pixel, 6 j, 7 i -/
def t_D_fill (K : PySem.W.Frag) : TS :=
  (tFor (iList K (tMeth (He.ga K "Drawer") "rows" (sp_D_rows K) [] E0 (tVar 0) (tCons (tVar 3) (tCons (tOp (rIxT K) (tVar 4) (tC (.int 1))) tNil)))) (gName 6) (tFor (iList K (tMeth (He.ga K "Drawer") "columns" (sp_D_columns K) [] E0 (tVar 0) (tCons (tVar 2) (tCons (tOp (rIxT K) (tVar 4) (tC (.int 0))) tNil)))) (gName 7) (tDrop (tMeth (He.ga K "Drawer") "lay" (sp_D_lay K) [] E0 (tVar 0) (tCons (tVar 1) (tCons (tOp rAddI (tVar 2) (tVar 7)) (tCons (tOp rAddI (tVar 3) (tVar 6)) (tCons (tVar 5) tNil))))))))
/-- Drawer.draw_sprite: 0 self, 1 how, 2 k, 3 corner, 4 size, 5 spot, 6 key, 7 j, 8 i, 9 pixel -/
def t_D_draw_sprite (K : PySem.W.Frag) : TS :=
  (tFor (iList K (tMeth (He.ga K "Drawer") "rows" (sp_D_rows K) [] E0 (tVar 0) (tCons (tOp (rIxT K) (tVar 5) (tC (.int 1))) (tCons (tOp (rIxT K) (tVar 4) (tC (.int 1))) tNil)))) (gName 7) (tFor (iList K (tMeth (He.ga K "Drawer") "columns" (sp_D_columns K) [] E0 (tVar 0) (tCons (tOp (rIxT K) (tVar 5) (tC (.int 0))) (tCons (tOp (rIxT K) (tVar 4) (tC (.int 0))) tNil)))) (gName 8) (tSeq (tAsg (tMeth (He.ga K "Drawer") "texel" (sp_D_texel K) [] E0 (tVar 0) (tCons (tVar 2) (tCons (tOp rAddI (tOp (rIxT K) (tVar 3) (tC (.int 0))) (tVar 8)) (tCons (tOp rAddI (tOp (rIxT K) (tVar 3) (tC (.int 1))) (tVar 7)) tNil)))) (gName 9))
    (tIfS (tTest (tOp rNe (tCall sp_number_of [] E0 (tCons (tVar 9) tNil)) (tVar 6))) (tDrop (tMeth (He.ga K "Drawer") "lay" (sp_D_lay K) [] E0 (tVar 0) (tCons (tVar 1) (tCons (tOp rAddI (tOp (rIxT K) (tVar 5) (tC (.int 0))) (tVar 8)) (tCons (tOp rAddI (tOp (rIxT K) (tVar 5) (tC (.int 1))) (tVar 7)) (tCons (tVar 9) tNil)))))) tNext))))
/-- Drawer.fade: 0 self, 1 much, 2 pixel, 3 k -/
def t_D_fade (K : PySem.W.Frag) : TS :=
  (tFor (iList K (tFld K (tVar 0) "pixels")) (gName 2) (tFor (iRng1 (tCons (tC (.int (3))) tNil)) (gName 3) (tAsg (tCall sp_held [] E0 (tCons (tOp rSubI (tOp (rIxL K) (tVar 2) (tVar 3)) (tVar 1)) tNil)) (gSub (tVar 2) (tVar 3) rSetL))))
/-- Drawer.grab: 0 self, 1 k, 2 x, 3 y, 4 found, 5 j, 6 i -/
def t_D_grab (K : PySem.W.Frag) : TS :=
  (tSeq (tAsg (tLst tNil) (gName 4))
    (tSeq (tFor (iRng1 (tCons (tC (.int (64))) tNil)) (gName 5) (tDrop (tBM K "list" rExtend (tVar 4) (tCons (tLc (iRng1 (tCons (tC (.int (64))) tNil)) (gName 6) tYes (tMeth (He.ga K "Drawer") "pixel_at" (sp_D_pixel_at K) [] E0 (tVar 0) (tCons (tOp rAddI (tVar 2) (tVar 6)) (tCons (tOp rAddI (tVar 3) (tVar 5)) tNil))) [6]) tNil))))
    (tAsg (tVar 4) (gSub (tFld K (tVar 0) "textures") (tVar 1) rSetL))))
section
variable {P : Program} {w : World} {K : PySem.W.Frag} {mg : Str → Option Value} {base : Heap}
theorem len_D_fill : ∀ vs H Q E, sp_D_fill K vs H Q E → vs.length = 6 := by
  rintro vs H Q E ⟨_, _, _, _, _, _, _, rfl, _, _, ⟨_, _, rfl, _⟩, _⟩
  rfl
theorem len_D_draw_sprite : ∀ vs H Q E, sp_D_draw_sprite K vs H Q E → vs.length = 7 := by
  rintro vs H Q E ⟨_, _, _, _, _, _, _, rfl, _, _, ⟨_, _, _, rfl, _⟩, _⟩
  rfl
theorem len_D_fade : ∀ vs H Q E, sp_D_fade K vs H Q E → vs.length = 2 := by
  rintro vs H Q E ⟨_, _, _, _, _, _, _, rfl, _, _, rfl, _⟩
  rfl
theorem len_D_grab : ∀ vs H Q E, sp_D_grab K vs H Q E → vs.length = 4 := by
  rintro vs H Q E ⟨_, _, _, _, _, _, _, rfl, _, _, rfl, _⟩
  rfl
theorem er_t0 {s : L2.St} {H : Hp} {ta : TE} {m n : Int} (h : EvR (RT K) ta s H [.int m, .int n]) : EvR RI (tOp (rIxT K) ta (tC (.int 0))) s H m := fun H1 e Q q => h H1 e _ fun v H2 e2 ⟨p, r1, r2⟩ => ⟨p, _, 0, _, r1, rfl, r2, rfl, q _ H2 e2 rfl⟩
theorem er_t1 {s : L2.St} {H : Hp} {ta : TE} {m n : Int} (h : EvR (RT K) ta s H [.int m, .int n]) : EvR RI (tOp (rIxT K) ta (tC (.int 1))) s H n := fun H1 e Q q => h H1 e _ fun v H2 e2 ⟨p, r1, r2⟩ => ⟨p, _, 1, _, r1, rfl, r2, rfl, q _ H2 e2 rfl⟩
theorem ers_lay {s : L2.St} {H : Hp} {t1 t2 t3 t4 : TE} {how x y : Int} {q : Px} {tg : Tags} (h1 : EvR RI t1 s H how) (h2 : EvR RI t2 s H x) (h3 : EvR RI t3 s H y) (h4 : EvR RIL t4 s H (pxI q)) :
    EvRs (tCons t1 (tCons t2 (tCons t3 (tCons t4 tNil)))) s H fun H' us => ∃ v, us = [.int (how, x, y, q).1, .int (how, x, y, q).2.1, .int (how, x, y, q).2.2.1, v] ∧ RIL H' v (pxI (how, x, y, q).2.2.2) := fun H1 e Q k =>
  h1 H1 e _ fun v1 H2 e2 r1 => h2 H2 (e.trans e2) _ fun v2 H3 e3 r2 => h3 H3 ((e.trans e2).trans e3) _ fun v3 H4 e4 r3 => h4 H4 (((e.trans e2).trans e3).trans e4) _ fun v4 H5 e5 r4 => k _ H5 (((e2.trans e3).trans e4).trans e5) ⟨v4, by rw [r1, r2, r3], r4⟩
theorem pure_D_fill (T : Tx K mg) (vs : List V) (H : Hp) (Q : VK) (E : XK) (h : sp_D_fill K vs H Q E) : t_D_fill K { nx := fun _ H' => Q .non H', rt := Q } (start ["self", "how", "x", "y", "size", "pixel", "j", "i"] vs) H := by
  obtain ⟨a, us, tg, d, D, st, ⟨how, x, y, wd, hg, q⟩, rfl, tk, dr, ⟨v1, v2, rfl, rs, rq⟩, ⟨h7, hx, hy, hw, hh, qok⟩, k⟩ := h
  have h7 : how ≤ 7 := h7
  have hx : -(2 ^ 31) ≤ x ∧ x < 2 ^ 31 := hx
  have hy : -(2 ^ 31) ≤ y ∧ y < 2 ^ 31 := hy
  have hw : wd ≤ 128 := hw
  have hh : hg ≤ 128 := hh
  have qok : q.Ok := qok
  have rs : RT K H v1 [.int (wd : Int), .int (hg : Int)] := rs
  have rq : RIu (Un_ tg) H v2 (pxI q) := rq
  have k : ∀ H', At K a d tg H H' (Si20.fill how q wd hg x y st) → Q .non H' := k
  have r : RD K (dC K) H (.ref a) st := ⟨tg, d, a, D, rfl, dr⟩
  rw [fill_eq] at k
  refine s_forM (j := 6) (fun t j => (colsI st.w x (wd : Int)).foldl (fun t i => t.lay ((y + j).toNat * st.w + (x + i).toNat) how q) t) (At.start tk dr) (el_meth2 (x := y) (y := (hg : Int)) (by decide +kernel) (er_var rfl r) (er_varI rfl) (er_t1 (er_var rfl rs)) ⟨by omega, by omega, by omega, by omega⟩) (fun σ => ∃ o1 o2, σ = [some (.ref a), some (.int (how : Int)), some (.int x), some (.int y), some v1, some v2, o1, o2]) ⟨none, none, rfl⟩ ?_ ?_
  · rintro tg1 H1 s1 tk1 n j σ H' st' N hj hst ⟨o1, o2, rfl⟩ at' hN
    have rs1 := at'.rt tk1 (s1.rt tk rs)
    have rd := at'.rd
    have wh : st'.w = st.w ∧ st'.h = st.h := by
      rw [hst]
      refine fold_wh _ (fun s z => ?_) _ _
      exact fold_wh _ (fun s z => lay_wh _ _ _ _) _ _
    have jm := colsI_mem (List.mem_of_getElem? hj)
    have hcols : colsI st'.w x (wd : Int) = colsI st.w x (wd : Int) := by rw [wh.1]
    have ev : EvL (tMeth (dC K) "columns" (sp_D_columns K) [] E0 (tVar 0) (tCons (tVar 2) (tCons (tOp (rIxT K) (tVar 4) (tC (.int 0))) tNil))) [some (.ref a), some (.int (how : Int)), some (.int x), some (.int y), some v1, some v2, some (.int j), o2] H' (vI (colsI st.w x (wd : Int))) := by
      rw [← hcols]
      exact el_meth2 (x := x) (y := (wd : Int)) (by decide +kernel) (er_var rfl rd) (er_varI rfl) (er_t0 (er_var rfl rs1)) ⟨by omega, by omega, by omega, by omega⟩
    refine s_forM (j := 7) (fun t i => t.lay ((y + j).toNat * st.w + (x + i).toNat) how q) at' ev (fun σ => ∃ o2, σ = [some (.ref a), some (.int (how : Int)), some (.int x), some (.int y), some v1, some v2, some (.int j), o2]) ⟨_, rfl⟩ ?_ ?_
    · rintro tg2 H2 s2 tk2 m i σ H3 st3 N2 hi hst3 ⟨o2, rfl⟩ at3 hN2
      have im := colsI_mem (List.mem_of_getElem? hi)
      have wh3 : st3.w = st.w ∧ st3.h = st.h := by
        rw [hst3]
        have := fold_wh (fun (t : Si20.St) (i : Int) => t.lay ((y + j).toNat * st.w + (x + i).toNat) how q) (fun s x => ⟨rfl, rfl⟩) ((colsI st.w x (wd : Int)).take m) st'
        exact ⟨this.1.trans wh.1, this.2.trans wh.2⟩
      have rq3 := at3.riu ((s1.trans s2).riu rq)
      have on : OnP st3 (x + i) (y + j) := ⟨by omega, by rw [wh3.1]; omega, by omega, by rw [wh3.2]; omega⟩
      refine s_mut (x := ((how : Int), x + i, y + j, q)) at3 rfl (by decide +kernel) (fun tg4 _ _ => ers_lay (tg := tg4) (er_varI rfl) (er_op0 (er_varI rfl) (er_varI rfl)) (er_op0 (er_varI rfl) (er_varI rfl)) (er_var rfl rq3)) ⟨on, by show (0 : Int) ≤ (how : Int); omega, by show (how : Int) ≤ 7; omega, qok⟩ fun H5 at5 => hN2 _ _ ⟨_, rfl⟩ ?_
      have e : ixP st3 (x + i) (y + j) = (y + j).toNat * st.w + (x + i).toNat := by unfold ixP; rw [wh3.1]
      have at5 : At K a d tg2 H2 H5 (st3.lay (ixP st3 (x + i) (y + j)) how q) := at5
      rw [e] at at5
      exact at5
    · rintro σ H3 ⟨o2, rfl⟩ at3
      exact hN _ _ ⟨_, _, rfl⟩ at3
  · rintro σ H3 _ at3
    exact k H3 at3
theorem ok_D_fill (T : Tx K mg) (G_D_columns : GM P w K mg base (He.ga K "Drawer") "columns" 1 ["self", "x", "many"] (sp_D_columns K)) (G_D_lay : GM P w K mg base (He.ga K "Drawer") "lay" 4 ["self", "how", "x", "y", "pixel"] (sp_D_lay K)) (G_D_rows : GM P w K mg base (He.ga K "Drawer") "rows" 1 ["self", "y", "many"] (sp_D_rows K)) : GM P w K mg base (He.ga K "Drawer") "fill" 5 ["self", "how", "x", "y", "size", "pixel"] (sp_D_fill K) := by
  refine ⟨fn_keep (k := 4) (tt := (t_D_fill K)) T.d_D_fill sc_D_fill len_D_fill (fun _ _ _ _ _ _ us hl => match us, hl with | [_, _, _, _, _, _], _ => rfl) (fun cdv A outer s H E hr => ?_) (pure_D_fill T), T.m_D_fill⟩
  exact (pss_one (ps_for PassesOwn.never rfl (pi_list (pe_gm (pv 0) T.cl G_D_rows (hr.mono (by decide)) (pa_cons (pv 3) (pa_cons (pe_ix ix_tup (pv 4) pe_int (fun _ _ => rfl)) pa_nil)))) (pg_name (i := 6) sc_D_fill.nd rfl (.inl rfl)) (pss_one (ps_for PassesOwn.never rfl (pi_list (pe_gm (pv 0) T.cl G_D_columns (hr.mono (by decide)) (pa_cons (pv 2) (pa_cons (pe_ix ix_tup (pv 4) pe_int (fun _ _ => rfl)) pa_nil)))) (pg_name (i := 7) sc_D_fill.nd rfl (.inl rfl)) (pss_one (ps_expr (pe_gm (pv 0) T.cl G_D_lay (hr.mono (by decide)) (pa_cons (pv 1) (pa_cons (pe_op op_add (pv 2) (pv 7)) (pa_cons (pe_op op_add (pv 3) (pv 6)) (pa_cons (pv 5) pa_nil)))))))))))
theorem tex_keep {s t : Si20.St} (h : t.textures = s.textures) (k : Int) : t.texture k = s.texture k := by
  unfold Si20.St.texture
  rw [h]
theorem fold_tx {b : Type} (F : Si20.St → b → Si20.St) (hF : ∀ s x, (F s x).textures = s.textures) (l : List b) (s : Si20.St) : (l.foldl F s).textures = s.textures :=
  (fold_inv (fun t : Si20.St => t.textures = s.textures) F F l s rfl fun t x h1 _ => ⟨rfl, by rw [hF t x]; exact h1⟩).2
theorem texel_eq (l : Array Px) (u v : Nat) (i j : Int) (hi : 0 ≤ i) (hj : 0 ≤ j) : Si20.texel l (((u : Int) + i) % 64).toNat (((v : Int) + j) % 64).toNat = Si20.texel l (u + i.toNat) (v + j.toNat) := by
  unfold Si20.texel
  rw [show (((v : Int) + j) % 64).toNat % 64 = (v + j.toNat) % 64 by omega, show (((u : Int) + i) % 64).toNat % 64 = (u + i.toNat) % 64 by omega]
theorem pure_D_draw_sprite (T : Tx K mg) (vs : List V) (H : Hp) (Q : VK) (E : XK) (h : sp_D_draw_sprite K vs H Q E) : t_D_draw_sprite K { nx := fun _ H' => Q .non H', rt := Q } (start ["self", "how", "k", "corner", "size", "spot", "key", "j", "i", "pixel"] vs) H := by
  obtain ⟨a, us, tg, d, D, st, ⟨how, tn, u, v, wd, hg, x, y, key⟩, rfl, tk, dr, ⟨v1, v2, v3, rfl, rc, rs, ro⟩, ⟨h7, h8, htx, hu, hv, hw, hh, hx, hy, hkey⟩, k⟩ := h
  simp only at h7 h8 htx hu hv hw hh hx hy hkey rc rs ro k
  have r : RD K (dC K) H (.ref a) st := ⟨tg, d, a, D, rfl, dr⟩
  generalize hl : (st.texture (tn : Int)).getD #[] = l at k
  have htl : st.texture (tn : Int) = some l := by
    cases e : st.texture (tn : Int) with
    | none => rw [e] at htx; cases htx
    | some z => rw [e] at hl; rw [← hl]; rfl
  have lok := (r.wf.ts l (tx_mem htl)).2
  rw [sprite_eq] at k
  refine s_forM (j := 7) (fun t j => (colsI st.w x (wd : Int)).foldl (fun t i => if Si20.texel l (u + i.toNat) (v + j.toNat) = Si20.px key then t else t.lay ((y + j).toNat * st.w + (x + i).toNat) how (Si20.texel l (u + i.toNat) (v + j.toNat))) t) (At.start tk dr) (el_meth2 (x := y) (y := (hg : Int)) (by decide +kernel) (er_var rfl r) (er_t1 (er_var rfl ro)) (er_t1 (er_var rfl rs)) ⟨by omega, by omega, by omega, by omega⟩) (fun σ => ∃ o1 o2 o3, σ = [some (.ref a), some (.int (how : Int)), some (.int (tn : Int)), some v1, some v2, some v3, some (.int (key : Int)), o1, o2, o3]) ⟨none, none, none, rfl⟩ ?_ ?_
  · rintro tg1 H1 s1 tk1 n j σ H' st' N hj hst ⟨o1, o2, o3, rfl⟩ at' hN
    have rs1 := at'.rt tk1 (s1.rt tk rs)
    have ro1 := at'.rt tk1 (s1.rt tk ro)
    have rd := at'.rd
    have wh : st'.w = st.w ∧ st'.h = st.h := by
      rw [hst]
      exact fold_wh _ (fun s x => fold_wh _ (fun s x => by split <;> exact ⟨rfl, rfl⟩) _ _) _ _
    have tx : st'.textures = st.textures := by
      rw [hst]
      exact fold_tx _ (fun s x => fold_tx _ (fun s x => by split <;> rfl) _ _) _ _
    have jm := colsI_mem (List.mem_of_getElem? hj)
    have hcols : colsI st'.w x (wd : Int) = colsI st.w x (wd : Int) := by rw [wh.1]
    have ev : EvL (tMeth (dC K) "columns" (sp_D_columns K) [] E0 (tVar 0) (tCons (tOp (rIxT K) (tVar 5) (tC (.int 0))) (tCons (tOp (rIxT K) (tVar 4) (tC (.int 0))) tNil))) [some (.ref a), some (.int (how : Int)), some (.int (tn : Int)), some v1, some v2, some v3, some (.int (key : Int)), some (.int j), o2, o3] H' (vI (colsI st.w x (wd : Int))) := by
      rw [← hcols]
      exact el_meth2 (x := x) (y := (wd : Int)) (by decide +kernel) (er_var rfl rd) (er_t0 (er_var rfl ro1)) (er_t0 (er_var rfl rs1)) ⟨by omega, by omega, by omega, by omega⟩
    refine s_forM (j := 8) (fun t i => if Si20.texel l (u + i.toNat) (v + j.toNat) = Si20.px key then t else t.lay ((y + j).toNat * st.w + (x + i).toNat) how (Si20.texel l (u + i.toNat) (v + j.toNat))) at' ev (fun σ => ∃ o2 o3, σ = [some (.ref a), some (.int (how : Int)), some (.int (tn : Int)), some v1, some v2, some v3, some (.int (key : Int)), some (.int j), o2, o3]) ⟨_, _, rfl⟩ ?_ ?_
    · rintro tg2 H2 s2 tk2 m i σ H3 st3 N2 hi hst3 ⟨o2, o3, rfl⟩ at3 hN2
      have im := colsI_mem (List.mem_of_getElem? hi)
      have wh3 : st3.w = st.w ∧ st3.h = st.h := by
        rw [hst3]
        have := fold_wh (fun (t : Si20.St) (i : Int) => if Si20.texel l (u + i.toNat) (v + j.toNat) = Si20.px key then t else t.lay ((y + j).toNat * st.w + (x + i).toNat) how (Si20.texel l (u + i.toNat) (v + j.toNat))) (fun s x => by split <;> exact ⟨rfl, rfl⟩) ((colsI st.w x (wd : Int)).take m) st'
        exact ⟨this.1.trans wh.1, this.2.trans wh.2⟩
      have tx3 : st3.textures = st.textures := by
        rw [hst3]
        exact (fold_tx _ (fun s x => by split <;> rfl) _ _).trans tx
      have rc3 := at3.rt tk2 ((s1.trans s2).rt tk rc)
      have ro3 := at3.rt tk2 ((s1.trans s2).rt tk ro)
      have rd3 := at3.rd
      have ht3 : st3.texture (tn : Int) = some l := (tex_keep tx3 _).trans htl
      have on : OnP st3 (x + i) (y + j) := ⟨by omega, by rw [wh3.1]; omega, by omega, by rw [wh3.2]; omega⟩
      have evt : EvR RIL (tMeth (dC K) "texel" (sp_D_texel K) [] E0 (tVar 0) (tCons (tVar 2) (tCons (tOp rAddI (tOp (rIxT K) (tVar 3) (tC (.int 0))) (tVar 8)) (tCons (tOp rAddI (tOp (rIxT K) (tVar 3) (tC (.int 1))) (tVar 7)) tNil)))) [some (.ref a), some (.int (how : Int)), some (.int (tn : Int)), some v1, some v2, some v3, some (.int (key : Int)), some (.int j), some (.int i), o3] H3 (pxI (Si20.texel l (u + i.toNat) (v + j.toNat))) := by
        refine er_is (er_meth3 (x := (tn : Int)) (y := (u : Int) + i) (z := (v : Int) + j) (by decide +kernel) (er_var rfl rd3) (er_varI rfl) (er_op0 (er_t0 (er_var rfl rc3)) (er_varI rfl)) (er_op0 (er_t1 (er_var rfl rc3)) (er_varI rfl)) ⟨by omega, by omega, by rw [ht3]; rfl⟩) ?_
        show pxI (texI st3 _ _ _) = _
        unfold texI
        rw [ht3, Option.getD_some, texel_eq l u v i j (by omega) (by omega)]
      generalize ht : Si20.texel l (u + i.toNat) (v + j.toNat) = t at evt
      have tok : t.Ok := by rw [← ht]; exact getD_ok lok _
      refine qr_asg evt fun vt H4 e4 r4 => ?_
      have at4 := at3.ex e4
      have ev2 : EvT (tTest (tOp rNe (tCall sp_number_of [] E0 (tCons (tVar 9) tNil)) (tVar 6))) [some (.ref a), some (.int (how : Int)), some (.int (tn : Int)), some v1, some v2, some v3, some (.int (key : Int)), some (.int j), some (.int i), some vt] H4 (!decide (numberOfM (pxI t) = (key : Int))) := et_t (er_ne (er_call1 (er_var rfl r4) rfl) (er_varI rfl))
      refine s_if ev2 (fun b H5 e5 => ?_) fun b H5 e5 => ?_
      · have nk : ¬ t = Si20.px key := fun z => by
          rw [decide_eq_true ((number_eq t key tok hkey).mpr z)] at b
          cases b
        have ro5 := mo e5 (mo e4 ro3)
        have r5 := mo e5 r4
        refine s_mut (x := ((how : Int), x + i, y + j, t)) (at4.ex e5) rfl (by decide +kernel) (fun tg4 _ _ => ers_lay (tg := tg4) (er_varI rfl) (er_op0 (er_t0 (er_var rfl ro5)) (er_varI rfl)) (er_op0 (er_t1 (er_var rfl ro5)) (er_varI rfl)) (er_var rfl r5)) ⟨on, by show (0 : Int) ≤ (how : Int); omega, by show (how : Int) ≤ 7; omega, tok⟩ fun H6 at6 => hN2 _ _ ⟨_, _, rfl⟩ ?_
        have e : ixP st3 (x + i) (y + j) = (y + j).toNat * st.w + (x + i).toNat := by unfold ixP; rw [wh3.1]
        have at6 : At K a d tg2 H2 H6 (st3.lay (ixP st3 (x + i) (y + j)) how t) := at6
        rw [e] at at6
        rw [ht, if_neg nk]
        exact at6
      · have yk : t = Si20.px key := by
          refine (number_eq t key tok hkey).mp ?_
          cases hd : decide (numberOfM (pxI t) = (key : Int)) with
          | true => exact of_decide_eq_true hd
          | false => rw [hd] at b; cases b
        refine hN2 _ _ ⟨_, _, rfl⟩ ?_
        rw [ht, if_pos yk]
        exact at4.ex e5
    · rintro σ H3 ⟨o2, o3, rfl⟩ at3
      exact hN _ _ ⟨_, _, _, rfl⟩ at3
  · rintro σ H3 _ at3
    exact k H3 at3
theorem ok_D_draw_sprite (T : Tx K mg) (G_D_columns : GM P w K mg base (He.ga K "Drawer") "columns" 1 ["self", "x", "many"] (sp_D_columns K)) (G_D_lay : GM P w K mg base (He.ga K "Drawer") "lay" 4 ["self", "how", "x", "y", "pixel"] (sp_D_lay K)) (G_D_rows : GM P w K mg base (He.ga K "Drawer") "rows" 1 ["self", "y", "many"] (sp_D_rows K)) (G_D_texel : GM P w K mg base (He.ga K "Drawer") "texel" 1 ["self", "k", "u", "v"] (sp_D_texel K)) (G_number_of : GF P w K mg base "number_of" 1 ["pixel"] sp_number_of) : GM P w K mg base (He.ga K "Drawer") "draw_sprite" 5 ["self", "how", "k", "corner", "size", "spot", "key"] (sp_D_draw_sprite K) := by
  refine ⟨fn_keep (k := 4) (tt := (t_D_draw_sprite K)) T.d_D_draw_sprite sc_D_draw_sprite len_D_draw_sprite (fun _ _ _ _ _ _ us hl => match us, hl with | [_, _, _, _, _, _, _], _ => rfl) (fun cdv A outer s H E hr => ?_) (pure_D_draw_sprite T), T.m_D_draw_sprite⟩
  exact (pss_one (ps_for PassesOwn.never rfl (pi_list (pe_gm (pv 0) T.cl G_D_rows (hr.mono (by decide)) (pa_cons (pe_ix ix_tup (pv 5) pe_int (fun _ _ => rfl)) (pa_cons (pe_ix ix_tup (pv 4) pe_int (fun _ _ => rfl)) pa_nil)))) (pg_name (i := 7) sc_D_draw_sprite.nd rfl (.inl rfl)) (pss_one (ps_for PassesOwn.never rfl (pi_list (pe_gm (pv 0) T.cl G_D_columns (hr.mono (by decide)) (pa_cons (pe_ix ix_tup (pv 5) pe_int (fun _ _ => rfl)) (pa_cons (pe_ix ix_tup (pv 4) pe_int (fun _ _ => rfl)) pa_nil)))) (pg_name (i := 8) sc_D_draw_sprite.nd rfl (.inl rfl)) (pss_cons (ps_set (i := 9) sc_D_draw_sprite.nd rfl (.inl rfl) (pe_gm (pv 0) T.cl G_D_texel (hr.mono (by decide)) (pa_cons (pv 2) (pa_cons (pe_op op_add (pe_ix ix_tup (pv 3) pe_int (fun _ _ => rfl)) (pv 8)) (pa_cons (pe_op op_add (pe_ix ix_tup (pv 3) pe_int (fun _ _ => rfl)) (pv 7)) pa_nil)))))
    (pss_one (ps_if (pt_cmpR op_ne (pe_gf G_number_of (hr.mono (by decide)) rfl (pa_cons (pv 9) pa_nil)) (pv 6) (nomark _)) (pss_one (ps_expr (pe_gm (pv 0) T.cl G_D_lay (hr.mono (by decide)) (pa_cons (pv 1) (pa_cons (pe_op op_add (pe_ix ix_tup (pv 5) pe_int (fun _ _ => rfl)) (pv 8)) (pa_cons (pe_op op_add (pe_ix ix_tup (pv 5) pe_int (fun _ _ => rfl)) (pv 7)) (pa_cons (pv 9) pa_nil))))))) pss_nil)))))))
end
end Sd
end

section
set_option Elab.async false
set_option linter.all false
set_option maxRecDepth 100000
set_option maxHeartbeats 400000
/-! ## 18. drawers.py: fade, grab -/
namespace Sd
open PySem PySem.Spec PyProof.Rows L2 Evl
open Si20 (Px)
local macro_rules | `(tactic| walk_at "ev") => `(tactic| first
  | with_reducible exact er_cI
  | focus ((with_reducible apply er_varI); with_unfolding_all rfl)
  | focus ((with_reducible apply er_var); all_goals first | with_unfolding_all rfl | assumption)
  | focus ((with_reducible apply er_op0); all_goals walk_at "ev")
  | focus ((with_reducible apply er_op); all_goals walk_at "ev")
  | focus ((with_reducible apply er_neg); all_goals walk_at "ev")
  | focus ((with_reducible apply er_max); all_goals walk_at "ev")
  | focus ((with_reducible apply er_min); all_goals walk_at "ev")
  | focus ((with_reducible apply er_abs); all_goals walk_at "ev")
  | focus ((with_reducible apply er_intB); all_goals walk_at "ev")
  | focus ((with_reducible apply er_bits); all_goals walk_at "ev")
  | focus ((with_reducible apply er_ixD); all_goals walk_at "ev")
  | focus ((with_reducible apply er_call1); all_goals walk_at "ev")
  | focus ((with_reducible apply er_call2); all_goals walk_at "ev")
  | focus ((with_reducible apply er_call3); all_goals walk_at "ev")
  | focus ((with_reducible apply er_call4); all_goals walk_at "ev")
  | focus ((with_reducible apply er_eq); all_goals walk_at "ev")
  | focus ((with_reducible apply er_ne); all_goals walk_at "ev")
  | focus ((with_reducible apply er_cmp); all_goals walk_at "ev")
  | focus ((with_reducible apply er_chain); all_goals walk_at "ev")
  | focus ((with_reducible apply er_andU); all_goals walk_at "ev")
  | focus ((with_reducible apply er_orU); all_goals walk_at "ev")
  | focus ((with_reducible apply et_t); all_goals walk_at "ev")
  | focus ((with_reducible apply et_b); all_goals walk_at "ev")
  | focus ((with_reducible apply et_andU); all_goals walk_at "ev")
  | focus ((with_reducible apply et_orU); all_goals walk_at "ev")
  | focus ((with_reducible apply Evl.et_not); all_goals walk_at "ev")
  | walk_at "side")
local macro_rules | `(tactic| walk_at "evr") => `(tactic| (refine er_is (by walk_at "ev") (by with_unfolding_all rfl)))
local macro_rules | `(tactic| walk_at "side") => `(tactic| first
  | assumption
  | exact True.intro
  | exact cdiv_ok (by decide) (by decide)
  | exact cmul_l (by omega) (by omega)
  | exact cmul_r (by omega) (by omega)
  | omega
  | decide
  | (dsimp only; done)
  | (dsimp only; first | assumption | omega | decide)
  | (constructor <;> assumption))
local macro_rules | `(tactic| walk_at "ev") => `(tactic| first
  | focus ((with_reducible apply er_s0); all_goals walk_at "ev")
  | focus ((with_reducible apply er_s1); all_goals walk_at "ev")
  | focus ((with_reducible apply er_s2); all_goals walk_at "ev")
  | focus ((with_reducible apply er_tupS); all_goals walk_at "ev")
  | focus ((with_reducible apply er_tupI2); all_goals walk_at "ev")
  | focus ((with_reducible apply er_divmod); all_goals walk_at "ev"))
local macro_rules | `(tactic| walk_at "side") => `(tactic| exact cshl_ok (by omega) (by omega))
local macro_rules | `(tactic| walk_at "ev") => `(tactic| first
  | focus ((with_reducible apply er_wide); all_goals walk_at "ev")
  | focus ((with_reducible apply er_high); all_goals walk_at "ev")
  | focus ((with_reducible apply er_meth1); all_goals walk_at "ev")
  | focus ((with_reducible apply er_meth2); all_goals walk_at "ev")
  | focus ((with_reducible apply er_meth3); all_goals walk_at "ev"))
local macro_rules | `(tactic| walk_at "side") => `(tactic| (focus (decide +kernel)))
section
variable {P : Program} {w : World} {K : PySem.W.Frag} {mg : Str → Option Value} {base : Heap}
/-- the first c of three colours lessened -/
def fdc (b : Nat) (p : Px) : Nat → Px
  | 0 => p
  | 1 => { p with b := Si20.less p.b b }
  | 2 => { p with b := Si20.less p.b b, g := Si20.less p.g b }
  | _ => { p with b := Si20.less p.b b, g := Si20.less p.g b, r := Si20.less p.r b }
theorem fdc_ok (b : Nat) (p : Px) (h : p.Ok) : ∀ c, (fdc b p c).Ok := by
  obtain ⟨h1, h2, h3, h4⟩ := h
  have l : ∀ x, x < 256 → Si20.less x b < 256 := fun x hx => by unfold Si20.less; omega
  intro c
  match c with
  | 0 => exact ⟨h1, h2, h3, h4⟩
  | 1 => exact ⟨l _ h1, h2, h3, h4⟩
  | 2 => exact ⟨l _ h1, l _ h2, h3, h4⟩
  | n + 3 => exact ⟨l _ h1, l _ h2, l _ h3, h4⟩
theorem fdc_step (b : Nat) (p : Px) (h : p.Ok) : ∀ c, c < 3 → heldM ((pxI (fdc b p c)).getD c 0 - (b : Int)) = (pxI (fdc b p (c + 1))).getD c 0 ∧ (pxV (fdc b p c)).set c (.int ((pxI (fdc b p (c + 1))).getD c 0)) = pxV (fdc b p (c + 1)) := by
  obtain ⟨h1, h2, h3, h4⟩ := h
  intro c hc
  match c, hc with
  | 0, _ => exact ⟨held_sub p.b b (by omega), rfl⟩
  | 1, _ => exact ⟨held_sub p.g b (by omega), rfl⟩
  | 2, _ => exact ⟨held_sub p.r b (by omega), rfl⟩
def fadeSt (b : Nat) (s : Si20.St) (i : Nat) : Si20.St := { s with pixels := s.pixels.setIfInBounds i (fdc b (s.pixels.getD i Si20.black) 3) }
theorem fadeSt_all (b : Nat) (s : Si20.St) : (List.range s.pixels.size).foldl (fadeSt b) s = { s with pixels := s.pixels.map fun (p : Px) => { (p.map fun (y : Nat) => Si20.less y b) with a := p.a } } := by
  have h1 : ∀ (l : List Nat) (t : Si20.St), l.foldl (fadeSt b) t = { t with pixels := (l.foldl (fun (m : List Px) i => m.set i (fdc b (m.getD i Si20.black) 3)) t.pixels.toList).toArray } := by
    intro l
    induction l with
    | nil => intro t; rfl
    | cons i r ih =>
      intro t
      rw [List.foldl_cons, ih, List.foldl_cons]
      show _ = { t with pixels := _ }
      unfold fadeSt
      simp only
      congr 2
      congr 1
      rw [arr_set]
      congr 1
      congr 1
      rw [List.getD_eq_getElem?_getD, Array.getElem?_toList, ← Array.getD_eq_getD_getElem?]
  rw [h1]
  congr 1
  rw [fade_eq (fun p => fdc b p 3) 0 s.pixels.size s.pixels.toList (by rw [Array.length_toList]; exact Nat.le_refl _)]
  rw [← Array.length_toList, List.take_length, List.drop_length, List.append_nil]
  refine Array.ext' ?_
  rw [Array.toList_map]
  rfl
theorem fadeSt_sz (b : Nat) (s : Si20.St) (k : Nat) : ((List.range k).foldl (fadeSt b) s).pixels.size = s.pixels.size :=
  (fold_inv (fun t : Si20.St => t.pixels.size = s.pixels.size) (fadeSt b) (fadeSt b) (List.range k) s rfl fun t x h _ => ⟨rfl, by show (t.pixels.setIfInBounds _ _).size = _; rw [Array.size_setIfInBounds]; exact h⟩).2
theorem set_same {l : Array Px} {i : Nat} {p q : Px} : (l.setIfInBounds i p).setIfInBounds i q = l.setIfInBounds i q := by
  refine Array.ext' ?_
  rw [arr_set, arr_set, arr_set, List.set_set]
theorem set_self {l : Array Px} {i : Nat} : l.setIfInBounds i (l.getD i Si20.black) = l := by
  refine Array.ext' ?_
  rw [arr_set]
  by_cases h : i < l.toList.length
  · rw [Array.getD_eq_getD_getElem?, ← Array.getElem?_toList, List.getElem?_eq_getElem h, Option.getD_some, List.set_getElem_self]
  · rw [List.set_eq_of_length_le (by omega)]
theorem pure_D_fade (T : Tx K mg) (vs : List V) (H : Hp) (Q : VK) (E : XK) (h : sp_D_fade K vs H Q E) : t_D_fade K { nx := fun _ H' => Q .non H', rt := Q } (start ["self", "much", "pixel", "k"] vs) H := by
  obtain ⟨a, us, tg, d, D, st, b, rfl, tk, dr, rfl, -, k⟩ := h
  have k : ∀ H', At K a d tg H H' { st with pixels := st.pixels.map fun (p : Px) => { (p.map fun (y : Nat) => Si20.less y b) with a := p.a } } → Q .non H' := k
  rw [← fadeSt_all] at k
  have len : D.vs.length = st.pixels.size := by rw [dr.pxs.1, Array.length_toList]
  refine ⟨.ref a, rfl, a, _, D.dx, _, .ref D.ap, rfl, dr.ins, T.cl, T.n_pixels, lk_pixels, D.ap, rfl, ⟨D.vs, SqL.of dr.px⟩, ?_⟩
  refine for_list (xs := D.vs) (fun n σ H' => (∃ o1 o2, σ = [some (.ref a), some (.int (b : Int)), o1, o2]) ∧ Stp d tg H tg H' ∧ TagOk tg H' ∧ Dr K (dC K) tg d H' a D ((List.range n).foldl (fadeSt b) st)) ⟨⟨none, none, rfl⟩, Stp.refl, tk, dr⟩ ?_ ?_ ?_
  · rintro n σ H' _ ⟨_, _, _, z⟩
    exact SqL.of z.px
  · rintro n v σ H' hv ⟨⟨o1, o2, rfl⟩, z1, z2, z3⟩
    generalize hst : (List.range n).foldl (fadeSt b) st = s1 at z3
    have hn : n < s1.pixels.size := by
      rw [← hst, fadeSt_sz, ← len]
      exact (List.getElem?_eq_some_iff.mp hv).1
    obtain ⟨y, hy, q, rfl, _, _⟩ := z3.pxs.get' hv
    generalize hp : s1.pixels.getD n Si20.black = p
    have pok : p.Ok := by rw [← hp]; exact getD_ok z3.wf.po n
    have e3 : EvR RI (tC (.int (3 : Int))) [some (.ref a), some (.int (b : Int)), some (.ref q), o2] H' 3 := er_cI
    show tFor _ _ _ _ [some (.ref a), some (.int (b : Int)), some (.ref q), o2] H'
    refine ⟨3, rfl, by omega, by omega, ?_⟩
    refine for_range (lo := 0) (n := 3) (fun c σ H2 => (∃ o2, σ = [some (.ref a), some (.int (b : Int)), some (.ref q), o2]) ∧ Stp d tg H tg H2 ∧ TagOk tg H2 ∧ Dr K (dC K) tg d H2 a D { s1 with pixels := s1.pixels.setIfInBounds n (fdc b p c) }) ⟨⟨o2, rfl⟩, z1, z2, by
      show Dr K (dC K) tg d H' a D { s1 with pixels := s1.pixels.setIfInBounds n p }
      rw [← hp, set_self]
      exact z3⟩ ?_ ?_
    · rintro c σ H2 hc ⟨⟨o2, rfl⟩, y1, y2, y3⟩
      rw [Int.zero_add]
      have at_n : (s1.pixels.setIfInBounds n (fdc b p c)).toList[n]? = some (fdc b p c) := by
        rw [arr_set, List.getElem?_set_self (by rw [Array.length_toList]; exact hn)]
      obtain ⟨u, hu, q', r1, r2, r3⟩ := y3.pxs.get at_n
      rw [hv] at hu
      cases hu
      cases r1
      obtain ⟨f1, f2⟩ := fdc_step b p pok c hc
      have ev : EvR RI (tCall sp_held [] E0 (tCons (tOp rSubI (tOp (rIxL K) (tVar 2) (tVar 3)) (tVar 1)) tNil)) [some (.ref a), some (.int (b : Int)), some (.ref q), some (.int (c : Int))] H2 ((pxI (fdc b p (c + 1))).getD c 0) :=
        er_is (er_call1 (er_op0 (er_is (er_ixD (xs := pxI (fdc b p c)) (er_var rfl (⟨q, rfl, r3⟩ : RIL H2 (.ref q) _)) (er_varI rfl) (by omega) (by show (c : Int) < 4; omega)) (by rw [Int.toNat_natCast])) (er_varI rfl)) trivial) f1
      refine s_asgT (ev H2 (Ex.refl _) _ fun w H3 e3 r => ?_)
      cases r
      have y4 := y3.mono e3
      obtain ⟨x1, x2, x3⟩ := y4.fadePx (y2.mono e3) (p := fdc b p (c + 1)) hv (fdc_ok b p pok (c + 1))
      refine ⟨.ref q, rfl, .int (c : Int), rfl, q, _, _, c, rfl, rfl, e3 _ _ r3, ixN_nat (by show c < 4; omega), ⟨_, rfl⟩, ?_⟩
      rw [f2]
      refine ⟨(y1.trans (Stp.ofEx e3)).trans x1, x2, ?_⟩
      have x3 : Dr K (dC K) tg d (upd H3 q (.lst (pxV (fdc b p (c + 1))))) a D { s1 with pixels := (s1.pixels.setIfInBounds n (fdc b p c)).setIfInBounds n (fdc b p (c + 1)) } := x3
      rw [set_same] at x3
      exact x3
    · rintro σ H2 ⟨⟨o2, rfl⟩, y1, y2, y3⟩
      refine ⟨⟨_, _, rfl⟩, y1, y2, ?_⟩
      rw [List.range_succ, List.foldl_append, hst]
      show Dr K (dC K) tg d H2 a D { s1 with pixels := s1.pixels.setIfInBounds n (fdc b (s1.pixels.getD n Si20.black) 3) }
      rw [hp]
      exact y3
  · rintro σ H' ⟨_, z1, z2, z3⟩
    rw [len] at z3
    exact k H' ⟨tg, D, z1, z2, z3⟩
theorem ok_D_fade (T : Tx K mg) (G_held : GF P w K mg base "held" 1 ["number"] sp_held) : GM P w K mg base (He.ga K "Drawer") "fade" 2 ["self", "much"] (sp_D_fade K) := by
  refine ⟨fn_keep (k := 1) (tt := (t_D_fade K)) T.d_D_fade sc_D_fade len_D_fade (fun _ _ _ _ _ _ us hl => match us, hl with | [_, _], _ => rfl) (fun cdv A outer s H E hr => ?_) (pure_D_fade T), T.m_D_fade⟩
  exact (pss_one (ps_for PassesOwn.never rfl (pi_list (pe_fld (pv 0) rfl)) (pg_name (i := 2) sc_D_fade.nd rfl (.inl rfl)) (pss_one (ps_for PassesOwn.never rfl (pi_range1 rfl T.f_range (pa_cons (pe_gi rfl T.i_COVER) pa_nil)) (pg_name (i := 3) sc_D_fade.nd rfl (.inl rfl)) (pss_one (ps_asg (pe_gf G_held (hr.mono (by decide)) rfl (pa_cons (pe_op op_sub (pe_ix ix_list (pv 2) (pv 3) (fun _ _ => rfl)) (pv 1)) pa_nil)) (pg_sub (pv 2) (pv 3) set_list)))))))
theorem grab_eq (st : Si20.St) (x y : Int) : ((List.range 4096).map fun (j : Nat) => pixAt st (x + (j % 64 : Nat)) (y + (j / 64 : Nat))) = (List.range 64).flatMap fun (j : Nat) => (List.range 64).map fun (i : Nat) => pixAt st (x + (i : Int)) (y + (j : Int)) := map_grid (fun i j => pixAt st (x + (i : Nat)) (y + (j : Nat))) 64 64
def GrI (H0 : Hp) (p : Addr) (ps : List Px) (H' : Hp) : Prop := H0 p = none ∧ Ex H0 H' ∧ ∃ acc, H' p = some (.lst acc) ∧ All2 (NewPx H0 p H') acc ps
theorem pixAt_ok (st : Si20.St) (h : ∀ q ∈ st.pixels.toList, q.Ok) (x y : Int) : (pixAt st x y).Ok := by
  unfold pixAt
  split
  · exact getD_ok h _
  · exact black_ok
theorem pure_D_grab (T : Tx K mg) (vs : List V) (H : Hp) (Q : VK) (E : XK) (h : sp_D_grab K vs H Q E) : t_D_grab K { nx := fun _ H' => Q .non H', rt := Q } (start ["self", "k", "x", "y", "found", "j", "i"] vs) H := by
  obtain ⟨a, us, tg, d, D, st, ⟨n, x, y⟩, rfl, tk, dr, rfl, h8, k⟩ := h
  simp only at h8 k
  rw [grab_eq] at k
  have r : RD K (dC K) H (.ref a) st := ⟨tg, d, a, D, rfl, dr⟩
  have wf := r.wf
  refine ⟨by rw [sizeLine_eq]; simp, fun p hp => ?_⟩
  refine ⟨64, rfl, by omega, by omega, ?_⟩
  refine for_range (lo := 0) (n := 64) (fun j σ H' => (∃ o1, σ = [some (.ref a), some (.int (n : Int)), some (.int x), some (.int y), some (.ref p), o1, none]) ∧ GrI H p ((List.range j).flatMap fun (j : Nat) => (List.range 64).map fun (i : Nat) => pixAt st (x + (i : Int)) (y + (j : Int))) H') ⟨⟨none, rfl⟩, hp, Ex.new hp, [], upd_same, All2.nil⟩ ?_ ?_
  · rintro j σ H' hj ⟨⟨o1, rfl⟩, g1, g2, acc, g3, g4⟩
    rw [Int.zero_add]
    have r' := mo g2 r
    have ev : EvNN RI (tLc (iRng1 (tCons (tC (.int (64))) tNil)) (gName 6) tYes (tMeth (dC K) "pixel_at" (sp_D_pixel_at K) [] E0 (tVar 0) (tCons (tOp rAddI (tVar 2) (tVar 6)) (tCons (tOp rAddI (tVar 3) (tVar 5)) tNil))) [6]) [some (.ref a), some (.int (n : Int)), some (.int x), some (.int y), some (.ref p), some (.int (j : Int)), none] H' ((List.range (64 : Int).toNat).map fun (i : Nat) => pxI (pixAt st (x + (i : Int)) (y + (j : Int)))) :=
      enn_lcR (fun (i : Nat) => pxI (pixAt st (x + (i : Int)) (y + (j : Int)))) er_cI (by omega) (by omega) (fun _ => rfl) fun i H1 e hi => el_n (el_meth2 (x := x + (i : Int)) (y := y + (j : Int)) (by decide +kernel) (er_var rfl (mo e r')) (er_op0 (er_varI rfl) (er_varI rfl)) (er_op0 (er_varI rfl) (er_varI rfl)) trivial)
    refine ⟨.ref p, rfl, Or.inl ⟨rfl, _, sq_of g3⟩, ev H' (Ex.refl _) _ fun q ws H2 hq e2 h2 r2 => ?_⟩
    have hl : acc.length = j * 64 := by
      rw [g4.1, flat_c (k := 64) _ _ (fun j => by rw [List.length_map, List.length_range]), List.length_range]
    have wl : ws.length = 64 := by rw [r2.1, List.length_map, List.length_range]; rfl
    refine ⟨p, q, acc, ws, rfl, rfl, e2 _ _ g3, h2, by rw [hl, wl, sizeLine_eq]; omega, ⟨_, rfl⟩, g1, Ex.mut (g2.trans e2) g1, acc ++ ws, upd_same, ?_⟩
    rw [rsucc_flat]
    refine All2.app (g4.mono fun v z ⟨b, f1, f2, f3, f4⟩ => ⟨b, f1, f2, f3, by rw [upd_ne f3]; exact e2 _ _ f4⟩) ⟨by rw [wl, List.length_map, List.length_range], fun i v z hv hz => ?_⟩
    rw [List.getElem?_map] at hz
    cases e : (List.range 64)[i]? with
    | none => rw [e] at hz; cases hz
    | some m =>
      rw [e] at hz
      cases hz
      obtain ⟨b, us, f1, f2, f3, f4⟩ := r2.2 i v (pxI (pixAt st (x + (m : Int)) (y + (j : Int)))) hv (by rw [List.getElem?_map]; show Option.map _ ((List.range 64)[i]?) = _; rw [e]; rfl)
      have ne : b ≠ p := fun z => by rw [z, g3] at f2; cases f2
      exact ⟨b, f1, fresh_back g2 f2, ne, by rw [upd_ne ne, f3, ints_of f4]⟩
  · rintro σ H' ⟨⟨o1, rfl⟩, g1, g2, acc, g3, g4⟩
    have dr2 := dr.mono g2
    have ht : RTex (Un_ tg) H' (.ref p) (some ((List.range 64).flatMap fun (j : Nat) => (List.range 64).map fun (i : Nat) => pixAt st (x + (i : Int)) (y + (j : Int))).toArray) :=
      (⟨p, acc, rfl, tk.fresh g1, g3, g4.mono fun v z ⟨b, f1, f2, f3, f4⟩ => ⟨b, f1, tk.fresh f2, f4⟩⟩ : RLn (Un_ tg) (RPx (Un_ tg)) H' (.ref p) _)
    have sz : ((List.range 64).flatMap fun (j : Nat) => (List.range 64).map fun (i : Nat) => pixAt st (x + (i : Int)) (y + (j : Int))).toArray.size = 4096 ∧ ∀ q ∈ ((List.range 64).flatMap fun (j : Nat) => (List.range 64).map fun (i : Nat) => pixAt st (x + (i : Int)) (y + (j : Int))).toArray.toList, q.Ok := by
      constructor
      · show ((List.range 64).flatMap fun (j : Nat) => (List.range 64).map fun (i : Nat) => pixAt st (x + (i : Int)) (y + (j : Int))).length = 4096
        rw [flat_c (k := 64) _ _ (fun j => by rw [List.length_map, List.length_range]), List.length_range]
      · intro q hq
        have hq : q ∈ (List.range 64).flatMap fun (j : Nat) => (List.range 64).map fun (i : Nat) => pixAt st (x + (i : Int)) (y + (j : Int)) := hq
        obtain ⟨j, _, hq⟩ := List.mem_flatMap.mp hq
        obtain ⟨i, _, rfl⟩ := List.mem_map.mp hq
        exact pixAt_ok st wf.po _ _
    obtain ⟨z1, z2, z3⟩ := dr2.putTx (i := n) (tk.mono g2) ht sz
    exact ⟨.ref p, rfl, .ref a, rfl, a, _, D.dx, _, .ref D.at_, rfl, dr2.ins, T.cl, T.n_textures, lk_textures, .int (n : Int), rfl, D.at_, D.ts, _, n, rfl, rfl, dr2.tx, ixN_nat (by rw [dr.txs.1, wf.tx]; omega), k _ ⟨tg, _, (Stp.ofEx g2).trans z1, z2, z3⟩⟩
theorem ok_D_grab (T : Tx K mg) (G_D_pixel_at : GM P w K mg base (He.ga K "Drawer") "pixel_at" 2 ["self", "x", "y"] (sp_D_pixel_at K)) : GM P w K mg base (He.ga K "Drawer") "grab" 3 ["self", "k", "x", "y"] (sp_D_grab K) := by
  refine ⟨fn_keep (k := 2) (tt := (t_D_grab K)) T.d_D_grab sc_D_grab len_D_grab (fun _ _ _ _ _ _ us hl => match us, hl with | [_, _, _, _], _ => rfl) (fun cdv A outer s H E hr => ?_) (pure_D_grab T), T.m_D_grab⟩
  exact (pss_cons (ps_set (i := 4) sc_D_grab.nd rfl (.inl rfl) (pe_lst pa_nil))
    (pss_cons (ps_for PassesOwn.never rfl (pi_range1 rfl T.f_range (pa_cons (pe_gi rfl T.i_SIDE_drawers) pa_nil)) (pg_name (i := 5) sc_D_grab.nd rfl (.inr rfl)) (pss_one (ps_expr (pe_bm PySem.F.plainAttrs_list PySem.F.slot_list_extend PySem.F.type_list_extend mt_extend (pv 4) (pa_cons (pe_lc (own := [("i", 6)]) (g := (gName 6)) (tt := tYes) rfl sc_D_grab.nd (pi_range1 rfl T.f_range (pa_cons (pe_gi rfl T.i_SIDE_drawers) pa_nil)) (blkOk_by (N := ["self", "k", "x", "y", "found", "j", "i"]) (sc := defScope s_D_grab) (by decide +kernel)) (fun _ _ _ _ _ => (pg_name (i := 6) sc_D_grab.nd rfl (.inl rfl))) (fun _ _ _ _ _ => pts_nil) (fun _ _ _ _ _ => (pe_gm (pv 0) T.cl G_D_pixel_at (hr.mono (by decide)) (pa_cons (pe_op op_add (pv 2) (pv 6)) (pa_cons (pe_op op_add (pv 3) (pv 5)) pa_nil))))) pa_nil)))))
    (pss_one (ps_asg (pv 4) (pg_sub (pe_fld (pv 0) rfl) (pv 1) set_list)))))
end
end Sd
end

section
set_option Elab.async false
set_option linter.all false
set_option maxRecDepth 100000
set_option maxHeartbeats 400000
/-! ## 19. drawers.py: a new drawer -/
namespace Sd
open PySem PySem.Spec PyProof.Rows L2 Evl
open Si20 (Px)
local macro_rules | `(tactic| walk_at "ev") => `(tactic| first
  | with_reducible exact er_cI
  | focus ((with_reducible apply er_varI); with_unfolding_all rfl)
  | focus ((with_reducible apply er_var); all_goals first | with_unfolding_all rfl | assumption)
  | focus ((with_reducible apply er_op0); all_goals walk_at "ev")
  | focus ((with_reducible apply er_op); all_goals walk_at "ev")
  | focus ((with_reducible apply er_neg); all_goals walk_at "ev")
  | focus ((with_reducible apply er_max); all_goals walk_at "ev")
  | focus ((with_reducible apply er_min); all_goals walk_at "ev")
  | focus ((with_reducible apply er_abs); all_goals walk_at "ev")
  | focus ((with_reducible apply er_intB); all_goals walk_at "ev")
  | focus ((with_reducible apply er_bits); all_goals walk_at "ev")
  | focus ((with_reducible apply er_ixD); all_goals walk_at "ev")
  | focus ((with_reducible apply er_call1); all_goals walk_at "ev")
  | focus ((with_reducible apply er_call2); all_goals walk_at "ev")
  | focus ((with_reducible apply er_call3); all_goals walk_at "ev")
  | focus ((with_reducible apply er_call4); all_goals walk_at "ev")
  | focus ((with_reducible apply er_eq); all_goals walk_at "ev")
  | focus ((with_reducible apply er_ne); all_goals walk_at "ev")
  | focus ((with_reducible apply er_cmp); all_goals walk_at "ev")
  | focus ((with_reducible apply er_chain); all_goals walk_at "ev")
  | focus ((with_reducible apply er_andU); all_goals walk_at "ev")
  | focus ((with_reducible apply er_orU); all_goals walk_at "ev")
  | focus ((with_reducible apply et_t); all_goals walk_at "ev")
  | focus ((with_reducible apply et_b); all_goals walk_at "ev")
  | focus ((with_reducible apply et_andU); all_goals walk_at "ev")
  | focus ((with_reducible apply et_orU); all_goals walk_at "ev")
  | focus ((with_reducible apply Evl.et_not); all_goals walk_at "ev")
  | walk_at "side")
local macro_rules | `(tactic| walk_at "evr") => `(tactic| (refine er_is (by walk_at "ev") (by with_unfolding_all rfl)))
local macro_rules | `(tactic| walk_at "side") => `(tactic| first
  | assumption
  | exact True.intro
  | exact cdiv_ok (by decide) (by decide)
  | exact cmul_l (by omega) (by omega)
  | exact cmul_r (by omega) (by omega)
  | omega
  | decide
  | (dsimp only; done)
  | (dsimp only; first | assumption | omega | decide)
  | (constructor <;> assumption))
local macro_rules | `(tactic| walk_at "ev") => `(tactic| first
  | focus ((with_reducible apply er_s0); all_goals walk_at "ev")
  | focus ((with_reducible apply er_s1); all_goals walk_at "ev")
  | focus ((with_reducible apply er_s2); all_goals walk_at "ev")
  | focus ((with_reducible apply er_tupS); all_goals walk_at "ev")
  | focus ((with_reducible apply er_tupI2); all_goals walk_at "ev")
  | focus ((with_reducible apply er_divmod); all_goals walk_at "ev"))
local macro_rules | `(tactic| walk_at "side") => `(tactic| exact cshl_ok (by omega) (by omega))
local macro_rules | `(tactic| walk_at "ev") => `(tactic| first
  | focus ((with_reducible apply er_wide); all_goals walk_at "ev")
  | focus ((with_reducible apply er_high); all_goals walk_at "ev")
  | focus ((with_reducible apply er_meth1); all_goals walk_at "ev")
  | focus ((with_reducible apply er_meth2); all_goals walk_at "ev")
  | focus ((with_reducible apply er_meth3); all_goals walk_at "ev"))
local macro_rules | `(tactic| walk_at "side") => `(tactic| (focus (decide +kernel)))
def spNN0 {c : Type} (R : Rel c) (f : List (List c)) : Sp := fun vs H Q _ => vs = [] ∧ ∀ p ws H', H p = none → Ex H H' → H' p = some (.lst ws) → All2 (NewIt R H H') ws f → Q (.ref p) H'
theorem spNN0_len {c : Type} {R : Rel c} {f : List (List c)} : ∀ vs H Q E, spNN0 R f vs H Q E → vs.length = 0 := fun vs H Q E ⟨e, _⟩ => by rw [e]; rfl
theorem enn_call0 {c : Type} {R : Rel c} {f : List (List c)} {s : L2.St} {H : Hp} {E : XK} : EvNN R (tCall (spNN0 R f) [] E tNil) s H f := fun H1 e Q q => ⟨rfl, q⟩
/-- only the instance at a may change -/
def Exx (a : Addr) (H H' : Hp) : Prop := ∀ b o, b ≠ a → H b = some o → H' b = some o
structure StpX (a : Addr) (tg : Tags) (H : Hp) (tg' : Tags) (H' : Hp) : Prop where
  fr : Exx a H H'
  tk : ∀ b o, b ≠ a → H b = some o → tg' b = tg b
abbrev sp_first_matrix (K : PySem.W.Frag) : Sp := spNN0 (RF K) (pieces 4 Si20.unit)
def sp_D_init (K : PySem.W.Frag) : Sp := fun vs H Q _ => ∃ a dx w h tg d, vs = [.ref a, .int ((w : Nat) : Int), .int ((h : Nat) : Int)] ∧ H a = some (.ins (dC K) dx []) ∧ TagOk tg H ∧ (8 ≤ w ∧ w ≤ 128 ∧ w % 8 = 0 ∧ 8 ≤ h ∧ h ≤ 128 ∧ h % 8 = 0) ∧ ∀ tg' D H', StpX a tg H tg' H' → TagOk tg' H' → Dr K (dC K) tg' d H' a D (Si20.opened w h) → Q .non H'
/-- the scope of the outer comprehension -/
abbrev lcScope (_ : Stmt) : Scope := { kind := .function, names := [(".0", .local), ("row", .cell), ("range", .globalImplicit), ("FOUR", .globalImplicit), ("one", .cell)], isGenerator := false, isCoroutine := false }
/-- first_matrix: 0 one, 1 row, 2 column -/
def t_first_matrix (K : PySem.W.Frag) : TS :=
  (tSeq (tAsg (tCall (sp_single_of K) [] E0 (tCons (tC (.int (1065353216))) tNil)) (gName 0))
    (tRet (tLc (iRng1 (tCons (tC (.int (4))) tNil)) (gName 1) tYes (tLc (iRng1 (tCons (tC (.int (4))) tNil)) (gName 2) tYes (tOp (rIxL K) (tLst (tCons (tC (.ref (He.ga K "NOUGHT"))) (tCons (tVar 0) tNil))) (tCB rInt1 (tCons (tOp rEq (tVar 1) (tVar 2)) tNil))) [2]) [1])))
/-- Drawer.__init__: 0 self, 1 wide, 2 high, 3 place, 4 row -/
def t_D_init (K : PySem.W.Frag) : TS :=
  (tSeq (sFld K (tVar 0) (tVar 1) "wide")
    (tSeq (sFld K (tVar 0) (tVar 2) "high")
    (tSeq (sFld K (tVar 0) (tLc (iRng1 (tCons (tOp rMulI (tVar 1) (tVar 2)) tNil)) (gName 3) tYes (tLst (tCons (tC (.int 0)) (tCons (tC (.int 0)) (tCons (tC (.int 0)) (tCons (tC (.int 0)) tNil))))) [3]) "pixels")
    (tSeq (sFld K (tVar 0) (tOp rRep (tLst (tCons (tC (.int (65535))) tNil)) (tOp rMulI (tVar 1) (tVar 2))) "depths")
    (tSeq (sFld K (tVar 0) (tOp rRep (tLst (tCons (tC .non) tNil)) (tC (.int (8)))) "textures")
    (tSeq (sFld K (tVar 0) (tLst (tCons (tC (.int 0)) (tCons (tC (.int 0)) (tCons (tC (.int 0)) (tCons (tC (.int 0)) tNil))))) "fog")
    (tSeq (sFld K (tVar 0) (tCall (sp_first_matrix K) [] E0 tNil) "matrix")
    (sFld K (tVar 0) (tLc (iRng1 (tCons (tC (.int 3)) tNil)) (gName 4) tYes (tOp rRep (tLst (tCons (tC (.ref (He.ga K "NOUGHT"))) tNil)) (tC (.int (4)))) [4]) "light"))))))))
section
variable {P : Program} {w : World} {K : PySem.W.Frag} {mg : Str → Option Value} {base : Heap}
theorem len_first_matrix : ∀ vs H Q E, sp_first_matrix K vs H Q E → vs.length = 0 := spNN0_len
theorem len_D_init : ∀ vs H Q E, sp_D_init K vs H Q E → vs.length = 3 := by
  rintro vs H Q E ⟨_, _, _, _, _, _, rfl, _⟩
  rfl
theorem unit_rows : ((List.range (4 : Int).toNat).map fun (i : Nat) => (List.range (4 : Int).toNat).map fun (j : Nat) => if i = j then Si20.one else 0) = pieces 4 Si20.unit := by decide +kernel
theorem pure_first_matrix (T : Tx K mg) (vs : List V) (H : Hp) (Q : VK) (E : XK) (h : sp_first_matrix K vs H Q E) : t_first_matrix K { nx := fun _ H' => Q .non H', rt := Q } (start ["one", "row", "column"] vs) H := by
  obtain ⟨rfl, k⟩ := h
  have e1 : EvR (RF K) (tCall (sp_single_of K) [] E0 (tCons (tC (.int (1065353216))) tNil)) (start ["one", "row", "column"] []) H Si20.one := er_is (er_call1 er_cI ⟨1065353216, rfl, by omega, by omega⟩) (by decide +kernel)
  refine qr_asg e1 fun v H1 ex1 r1 => ?_
  refine s_retNN (EvNN.is (enn_lcR (n := 4) (fun (i : Nat) => (List.range (4 : Int).toNat).map fun (j : Nat) => if i = j then Si20.one else 0) er_cI (by omega) (by omega) (fun _ => rfl) fun i H2 e2 hi => en_lcR (n := 4) (fun (j : Nat) => if i = j then Si20.one else 0) er_cI (by omega) (by omega) (fun _ => rfl) fun j H3 e3 hj => ?_) unit_rows) fun p ws H2 hp e2 h2 r2 => k p ws H2 (fresh_back ex1 hp) (ex1.trans e2) h2 (r2.mono fun v xs ⟨q', ws, f1, f0, f3, f4⟩ => ⟨q', ws, f1, fresh_back ex1 f0, f3, f4⟩)
  have r3 := mo (e2.trans e3) r1
  have el : EvR (RL (RF K)) (tLst (tCons (tC (.ref (He.ga K "NOUGHT"))) (tCons (tVar 0) tNil))) [some v, some (.int (i : Int)), some (.int (j : Int))] H3 [0, Si20.one] := er_lst (ers_cons (er_c (rf_const T.t_NOUGHT rep_nought)) (ers_cons (er_var rfl r3) ers_nil)) (by
    rintro H' vs ⟨u1, _, rfl, f1, u2, _, rfl, f2, rfl⟩
    exact all2_cons f1 (all2_cons f2 All2.nil)) (by simp)
  have ei : EvR RI (tCB rInt1 (tCons (tOp rEq (tVar 1) (tVar 2)) tNil)) [some v, some (.int (i : Int)), some (.int (j : Int))] H3 (if decide ((i : Int) = (j : Int)) then 1 else 0) := er_intB (er_eq (er_varI rfl) (er_varI rfl))
  by_cases hij : i = j
  · subst hij
    rw [if_pos rfl]
    rw [decide_eq_true rfl] at ei
    exact er_ixL (j := 1) el ei rfl rfl
  · rw [if_neg hij]
    rw [decide_eq_false (by omega)] at ei
    exact er_ixL (j := 0) el ei rfl rfl
theorem ok_first_matrix (T : Tx K mg) (G_single_of : GF P w K mg base "single_of" 1 ["bits"] (sp_single_of K)) : GF P w K mg base "first_matrix" 2 [] (sp_first_matrix K) := by
  refine ⟨fn_keep (k := 1) (tt := (t_first_matrix K)) T.d_first_matrix sc_first_matrix len_first_matrix (fun _ _ _ _ _ _ us hl => match us, hl with | [], _ => rfl) (fun cdv A outer s H E hr => ?_) (pure_first_matrix T), T.d_first_matrix.kp, T.g_first_matrix⟩
  exact (pss_cons (ps_set (i := 0) sc_first_matrix.nd rfl (.inr rfl) (pe_gf G_single_of (hr.mono (by decide)) rfl (pa_cons (pe_gi rfl T.i_WHOLE_BITS) pa_nil)))
    (pss_one (ps_ret (pe_lc (own := [("row", 1)]) (g := (gName 1)) (tt := tYes) rfl sc_first_matrix.nd (pi_range1 rfl T.f_range (pa_cons (pe_gi rfl T.i_FOUR) pa_nil)) (blkOk_by (N := ["one", "row", "column"]) (sc := defScope s_first_matrix) (by decide +kernel)) (fun _ _ _ _ _ => (pg_name (i := 1) sc_first_matrix.nd rfl (.inr rfl))) (fun _ _ _ _ _ => pts_nil) (fun _ _ _ _ _ => (pe_lc (own := [("column", 2)]) (g := (gName 2)) (tt := tYes) rfl sc_first_matrix.nd (pi_range1 rfl T.f_range (pa_cons (pe_gi rfl T.i_FOUR) pa_nil)) (blkOk_by (N := ["one", "row", "column"]) (sc := lcScope s_first_matrix) (by decide +kernel)) (fun _ _ _ _ _ => (pg_name (i := 2) sc_first_matrix.nd rfl (.inl rfl))) (fun _ _ _ _ _ => pts_nil) (fun _ _ _ _ _ => (pe_ix ix_list (pe_lst (pa_cons (pe_glob rfl T.g_NOUGHT rfl) (pa_cons (pv 0) pa_nil))) (pe_callTy call_int1 rfl T.f_int (by decide +kernel) (pa_cons (pe_cmpR op_eq (pv 1) (pv 2) (nomark _)) pa_nil)) (fun _ _ => rfl)))))))))
end
end Sd
end

section
set_option Elab.async false
set_option linter.all false
set_option maxRecDepth 100000
set_option maxHeartbeats 400000
/-! ## 20. drawers.py: a drawer is made -/
namespace Sd
open PySem PySem.Spec PyProof.Rows L2 Evl
open Si20 (Px)
local macro_rules | `(tactic| walk_at "ev") => `(tactic| first
  | with_reducible exact er_cI
  | focus ((with_reducible apply er_varI); with_unfolding_all rfl)
  | focus ((with_reducible apply er_var); all_goals first | with_unfolding_all rfl | assumption)
  | focus ((with_reducible apply er_op0); all_goals walk_at "ev")
  | focus ((with_reducible apply er_op); all_goals walk_at "ev")
  | focus ((with_reducible apply er_neg); all_goals walk_at "ev")
  | focus ((with_reducible apply er_max); all_goals walk_at "ev")
  | focus ((with_reducible apply er_min); all_goals walk_at "ev")
  | focus ((with_reducible apply er_abs); all_goals walk_at "ev")
  | focus ((with_reducible apply er_intB); all_goals walk_at "ev")
  | focus ((with_reducible apply er_bits); all_goals walk_at "ev")
  | focus ((with_reducible apply er_ixD); all_goals walk_at "ev")
  | focus ((with_reducible apply er_call1); all_goals walk_at "ev")
  | focus ((with_reducible apply er_call2); all_goals walk_at "ev")
  | focus ((with_reducible apply er_call3); all_goals walk_at "ev")
  | focus ((with_reducible apply er_call4); all_goals walk_at "ev")
  | focus ((with_reducible apply er_eq); all_goals walk_at "ev")
  | focus ((with_reducible apply er_ne); all_goals walk_at "ev")
  | focus ((with_reducible apply er_cmp); all_goals walk_at "ev")
  | focus ((with_reducible apply er_chain); all_goals walk_at "ev")
  | focus ((with_reducible apply er_andU); all_goals walk_at "ev")
  | focus ((with_reducible apply er_orU); all_goals walk_at "ev")
  | focus ((with_reducible apply et_t); all_goals walk_at "ev")
  | focus ((with_reducible apply et_b); all_goals walk_at "ev")
  | focus ((with_reducible apply et_andU); all_goals walk_at "ev")
  | focus ((with_reducible apply et_orU); all_goals walk_at "ev")
  | focus ((with_reducible apply Evl.et_not); all_goals walk_at "ev")
  | walk_at "side")
local macro_rules | `(tactic| walk_at "evr") => `(tactic| (refine er_is (by walk_at "ev") (by with_unfolding_all rfl)))
local macro_rules | `(tactic| walk_at "side") => `(tactic| first
  | assumption
  | exact True.intro
  | exact cdiv_ok (by decide) (by decide)
  | exact cmul_l (by omega) (by omega)
  | exact cmul_r (by omega) (by omega)
  | omega
  | decide
  | (dsimp only; done)
  | (dsimp only; first | assumption | omega | decide)
  | (constructor <;> assumption))
local macro_rules | `(tactic| walk_at "ev") => `(tactic| first
  | focus ((with_reducible apply er_s0); all_goals walk_at "ev")
  | focus ((with_reducible apply er_s1); all_goals walk_at "ev")
  | focus ((with_reducible apply er_s2); all_goals walk_at "ev")
  | focus ((with_reducible apply er_tupS); all_goals walk_at "ev")
  | focus ((with_reducible apply er_tupI2); all_goals walk_at "ev")
  | focus ((with_reducible apply er_divmod); all_goals walk_at "ev"))
local macro_rules | `(tactic| walk_at "side") => `(tactic| exact cshl_ok (by omega) (by omega))
local macro_rules | `(tactic| walk_at "ev") => `(tactic| first
  | focus ((with_reducible apply er_wide); all_goals walk_at "ev")
  | focus ((with_reducible apply er_high); all_goals walk_at "ev")
  | focus ((with_reducible apply er_meth1); all_goals walk_at "ev")
  | focus ((with_reducible apply er_meth2); all_goals walk_at "ev")
  | focus ((with_reducible apply er_meth3); all_goals walk_at "ev"))
local macro_rules | `(tactic| walk_at "side") => `(tactic| (focus (decide +kernel)))
def fl2 (wd hg : Nat) : List (Str × V) := [("wide", .int (wd : Int)), ("high", .int (hg : Int))]
def fl3 (wd hg : Nat) (p : Addr) : List (Str × V) := [("wide", .int (wd : Int)), ("high", .int (hg : Int)), ("pixels", .ref p)]
def fl4 (wd hg : Nat) (p ad : Addr) : List (Str × V) := [("wide", .int (wd : Int)), ("high", .int (hg : Int)), ("pixels", .ref p), ("depths", .ref ad)]
def fl5 (wd hg : Nat) (p ad at_ : Addr) : List (Str × V) := [("wide", .int (wd : Int)), ("high", .int (hg : Int)), ("pixels", .ref p), ("depths", .ref ad), ("textures", .ref at_)]
def fl6 (wd hg : Nat) (p ad at_ fp : Addr) : List (Str × V) := [("wide", .int (wd : Int)), ("high", .int (hg : Int)), ("pixels", .ref p), ("depths", .ref ad), ("textures", .ref at_), ("fog", .ref fp)]
def fl7 (wd hg : Nat) (p ad at_ fp mp : Addr) : List (Str × V) := [("wide", .int (wd : Int)), ("high", .int (hg : Int)), ("pixels", .ref p), ("depths", .ref ad), ("textures", .ref at_), ("fog", .ref fp), ("matrix", .ref mp)]
def fl8 (wd hg : Nat) (p ad at_ fp mp lp : Addr) : List (Str × V) := [("wide", .int (wd : Int)), ("high", .int (hg : Int)), ("pixels", .ref p), ("depths", .ref ad), ("textures", .ref at_), ("fog", .ref fp), ("matrix", .ref mp), ("light", .ref lp)]
theorem fl3_put {wd hg : Nat} {p : Addr} : putF "pixels" (.ref p) (fl2 wd hg) = fl3 wd hg p := by
  unfold fl2
  rw [put_past (st_ne (by decide +kernel)), put_past (st_ne (by decide +kernel))]
  rfl
theorem fl4_put {wd hg : Nat} {p ad : Addr} : putF "depths" (.ref ad) (fl3 wd hg p) = fl4 wd hg p ad := by
  unfold fl3
  rw [put_past (st_ne (by decide +kernel)), put_past (st_ne (by decide +kernel)), put_past (st_ne (by decide +kernel))]
  rfl
theorem fl5_put {wd hg : Nat} {p ad at_ : Addr} : putF "textures" (.ref at_) (fl4 wd hg p ad) = fl5 wd hg p ad at_ := by
  unfold fl4
  rw [put_past (st_ne (by decide +kernel)), put_past (st_ne (by decide +kernel)), put_past (st_ne (by decide +kernel)), put_past (st_ne (by decide +kernel))]
  rfl
theorem fl6_put {wd hg : Nat} {p ad at_ fp : Addr} : putF "fog" (.ref fp) (fl5 wd hg p ad at_) = fl6 wd hg p ad at_ fp := by
  unfold fl5
  rw [put_past (st_ne (by decide +kernel)), put_past (st_ne (by decide +kernel)), put_past (st_ne (by decide +kernel)), put_past (st_ne (by decide +kernel)), put_past (st_ne (by decide +kernel))]
  rfl
theorem fl7_put {wd hg : Nat} {p ad at_ fp mp : Addr} : putF "matrix" (.ref mp) (fl6 wd hg p ad at_ fp) = fl7 wd hg p ad at_ fp mp := by
  unfold fl6
  rw [put_past (st_ne (by decide +kernel)), put_past (st_ne (by decide +kernel)), put_past (st_ne (by decide +kernel)), put_past (st_ne (by decide +kernel)), put_past (st_ne (by decide +kernel)), put_past (st_ne (by decide +kernel))]
  rfl
theorem fl8_put {wd hg : Nat} {p ad at_ fp mp lp : Addr} : putF "light" (.ref lp) (fl7 wd hg p ad at_ fp mp) = fl8 wd hg p ad at_ fp mp lp := by
  unfold fl7
  rw [put_past (st_ne (by decide +kernel)), put_past (st_ne (by decide +kernel)), put_past (st_ne (by decide +kernel)), put_past (st_ne (by decide +kernel)), put_past (st_ne (by decide +kernel)), put_past (st_ne (by decide +kernel)), put_past (st_ne (by decide +kernel))]
  rfl
theorem fl2_put {wd hg : Nat} : putF "high" (.int (hg : Int)) (putF "wide" (.int (wd : Int)) []) = fl2 wd hg := put_past (st_ne (by decide +kernel))
section
variable {P : Program} {w : World} {K : PySem.W.Frag} {mg : Str → Option Value} {base : Heap} {a : Addr} {H H1 H2 H' : Hp} {C dx : Addr} {fs : List (Str × V)}
theorem Exx.trans (x : Exx a H H1) (y : Exx a H1 H2) : Exx a H H2 := fun b o n h => y b o n (x b o n h)
theorem exx_upd {o : HO} (e : Ex H H1) : Exx a H (upd H1 a o) := fun b x n h => by
  rw [upd_ne n]
  exact e _ _ h
theorem Exx.rf (x : Exx a H H') (h : H a = some (.ins C dx fs)) {v : V} {n : Nat} (r : RF K H v n) : RF K H' v n := by
  obtain ⟨y, ⟨p, r1, r2⟩, r3⟩ := r
  refine ⟨y, ⟨p, r1, ?_⟩, r3⟩
  rcases r2 with (r | ⟨o, r⟩) | r
  · exact .inl (.inl (x _ _ (ne_of r h (by intro z; cases z)) r))
  · exact .inl (.inr ⟨o, x _ _ (ne_of r h (by intro z; cases z)) r⟩)
  · exact .inr r
theorem Exx.back (x : Exx a H H') (h : ∃ o, H' a = some o) {b : Addr} (hb : H' b = none) : H b = none := by
  obtain ⟨o, h⟩ := h
  have ne : b ≠ a := fun z => by rw [z, h] at hb; cases hb
  cases e : H b with
  | none => rfl
  | some o' =>
    rw [x b o' ne e] at hb
    cases hb
/-- rows of singles that are new -/
theorem rows_un {tg : Tags} {H0 H1 : Hp} {v : V} {n : List Nat} (un : ∀ b, H0 b = none → Un_ tg b) (x : Exx a H1 H') (h : H1 a = some (.ins C dx fs)) (r : NewIt (RF K) H0 H1 v n) : RLn (Un_ tg) (RF K) H' v n := by
  obtain ⟨q, ws, r1, r2, r3, r4⟩ := r
  exact ⟨q, ws, r1, un q r2, x _ _ (ne_of r3 h (by intro z; cases z)) r3, r4.mono fun _ _ => x.rf h⟩
theorem pure_D_init (T : Tx K mg) (vs : List V) (H : Hp) (Q : VK) (E : XK) (h : sp_D_init K vs H Q E) : t_D_init K { nx := fun _ H' => Q .non H', rt := Q } (start ["self", "wide", "high", "place", "row"] vs) H := by
  obtain ⟨a, dx, wd, hg, tg, d, rfl, ha, tk, ⟨w1, w2, w3, g1, g2, g3⟩, k⟩ := h
  have b1 : wd * hg ≤ 128 * 128 := Nat.mul_le_mul w2 g2
  have hm : CMul (wd : Int) (hg : Int) := cmul_r (by omega) (by omega)
  have ew : (wd : Int) * (hg : Int) = ((wd * hg : Nat) : Int) := by rw [Int.natCast_mul]
  -- wide, high
  refine ⟨_, rfl, .ref a, rfl, a, _, dx, _, rfl, ha, T.cl, T.n_wide, by show 0 < 1000; omega, ?_⟩
  refine ⟨_, rfl, .ref a, rfl, a, _, dx, _, rfl, upd_same, T.cl, T.n_high, by show 1 < 1000; omega, ?_⟩
  generalize hH2 : upd (upd H a (.ins (dC K) dx (putF "wide" (.int (wd : Int)) []))) a (.ins (dC K) dx (putF "high" (.int (hg : Int)) (putF "wide" (.int (wd : Int)) []))) = H2
  rw [fl2_put] at hH2
  have a2 : H2 a = some (.ins (dC K) dx (fl2 wd hg)) := by rw [← hH2]; exact upd_same
  have x2 : Exx a H H2 := by
    rw [← hH2]
    exact (exx_upd (Ex.refl H)).trans (exx_upd (Ex.refl _))
  -- pixels
  have ev3 : EvND (tLc (iRng1 (tCons (tOp rMulI (tVar 1) (tVar 2)) tNil)) (gName 3) tYes (tLst (tCons (tC (.int 0)) (tCons (tC (.int 0)) (tCons (tC (.int 0)) (tCons (tC (.int 0)) tNil))))) [3]) [some (.ref a), some (.int (wd : Int)), some (.int (hg : Int)), none, none] H2 ((List.range ((wd * hg : Nat) : Int).toNat).map fun _ => pxV Si20.black) :=
    end_lcR (fun _ => pxV Si20.black) (er_is (er_op (er_varI rfl) (er_varI rfl) hm) ew) (by omega) (by omega) (fun _ => rfl) fun i H1 e hi => el_lstI (ers_cons er_cI (ers_cons er_cI (ers_cons er_cI (ers_cons er_cI ers_nil)))) (by
      rintro H' vs ⟨_, _, rfl, rfl, _, _, rfl, rfl, _, _, rfl, rfl, _, _, rfl, rfl, rfl⟩
      rfl) (by show 4 ≤ 1000; omega)
  rw [Int.toNat_natCast] at ev3
  refine q_fldT (ev3 H2 (Ex.refl _) _ fun p ws H3' hp e3 h3 nd r3 => ⟨.ref a, rfl, a, _, dx, _, rfl, e3 _ _ a2, T.cl, T.n_pixels, by show 2 < 1000; omega, ?_⟩)
  rw [fl3_put]
  generalize hH3 : upd H3' a (.ins (dC K) dx (fl3 wd hg p)) = H3
  have a3 : H3 a = some (.ins (dC K) dx (fl3 wd hg p)) := by rw [← hH3]; exact upd_same
  have x3 : Exx a H2 H3 := by rw [← hH3]; exact exx_upd e3
  have y3 : Exx a H3' H3 := by rw [← hH3]; exact exx_upd (Ex.refl _)
  have nz : ∀ {b}, H2 b = none → b ≠ a := fun hb z => by rw [z, a2] at hb; cases hb
  have p3 : H3 p = some (.lst ws) := y3 _ _ (nz hp) h3
  have r3' : All2 (NewPx H2 p H3) ws (List.replicate (wd * hg) Si20.black) := by
    have e : List.replicate (wd * hg) Si20.black = (List.range (wd * hg)).map fun _ => Si20.black := by rw [List.map_const', List.length_range]
    rw [e]
    refine ⟨by rw [r3.1, List.length_map, List.length_map], fun i u q hu hq => ?_⟩
    rw [List.getElem?_map] at hq
    cases e3 : (List.range (wd * hg))[i]? with
    | none => rw [e3] at hq; cases hq
    | some j =>
      rw [e3] at hq
      cases hq
      obtain ⟨b, f1, f2, f3, f4⟩ := r3.2 i u (pxV Si20.black) hu (by rw [List.getElem?_map, e3]; rfl)
      exact ⟨b, f1, f2, f3, y3 _ _ (nz f2) f4⟩
  -- depths
  have ev4 : EvL (tOp rRep (tLst (tCons (tC (.int (65535))) tNil)) (tOp rMulI (tVar 1) (tVar 2))) [some (.ref a), some (.int (wd : Int)), some (.int (hg : Int)), none, none] H3 (List.replicate ((wd * hg : Nat) : Int).toNat (.int (65535 : Int))) :=
    el_rep (elv (el_lstI (xs := [.int (65535 : Int)]) (ers_cons er_cI ers_nil) (by rintro H' vs ⟨v, r, rfl, r1, rfl⟩; rw [r1]) (by simp))) (er_is (er_op (er_varI rfl) (er_varI rfl) hm) ew) (by omega) (by omega)
  rw [Int.toNat_natCast] at ev4
  refine q_fldT (ev4 H3 (Ex.refl _) _ fun ad H4' hd e4 h4 => ⟨.ref a, rfl, a, _, dx, _, rfl, e4 _ _ a3, T.cl, T.n_depths, by show 3 < 1000; omega, ?_⟩)
  rw [fl4_put]
  generalize hH4 : upd H4' a (.ins (dC K) dx (fl4 wd hg p ad)) = H4
  have a4 : H4 a = some (.ins (dC K) dx (fl4 wd hg p ad)) := by rw [← hH4]; exact upd_same
  have x4 : Exx a H3 H4 := by rw [← hH4]; exact exx_upd e4
  have n4 : ad ≠ a := fun z => by rw [z, a3] at hd; cases hd
  have p4 : H4 ad = some (.lst (List.replicate (wd * hg) (.int (65535 : Int)))) := by rw [← hH4, upd_ne n4]; exact h4
  -- textures
  have ev5 : EvL (tOp rRep (tLst (tCons (tC .non) tNil)) (tC (.int (8)))) [some (.ref a), some (.int (wd : Int)), some (.int (hg : Int)), none, none] H4 (List.replicate (8 : Int).toNat .non) :=
    el_rep (elv (el_lstI (xs := [.non]) (ers_cons (R := RV) (x := .non) (er_c rfl) ers_nil) (by rintro H' vs ⟨v, r, rfl, r1, rfl⟩; rw [r1]) (by simp))) er_cI (by omega) (by omega)
  refine q_fldT (ev5 H4 (Ex.refl _) _ fun at_ H5' ht e5 h5 => ⟨.ref a, rfl, a, _, dx, _, rfl, e5 _ _ a4, T.cl, T.n_textures, by show 4 < 1000; omega, ?_⟩)
  rw [fl5_put]
  generalize hH5 : upd H5' a (.ins (dC K) dx (fl5 wd hg p ad at_)) = H5
  have a5 : H5 a = some (.ins (dC K) dx (fl5 wd hg p ad at_)) := by rw [← hH5]; exact upd_same
  have x5 : Exx a H4 H5 := by rw [← hH5]; exact exx_upd e5
  have n5 : at_ ≠ a := fun z => by rw [z, a4] at ht; cases ht
  have p5 : H5 at_ = some (.lst (List.replicate 8 .non)) := by rw [← hH5, upd_ne n5]; exact h5
  -- fog
  have ev6 : EvL (tLst (tCons (tC (.int 0)) (tCons (tC (.int 0)) (tCons (tC (.int 0)) (tCons (tC (.int 0)) tNil))))) [some (.ref a), some (.int (wd : Int)), some (.int (hg : Int)), none, none] H5 (pxV Si20.black) :=
    el_lstI (ers_cons er_cI (ers_cons er_cI (ers_cons er_cI (ers_cons er_cI ers_nil)))) (by
      rintro H' vs ⟨_, _, rfl, rfl, _, _, rfl, rfl, _, _, rfl, rfl, _, _, rfl, rfl, rfl⟩
      rfl) (by show 4 ≤ 1000; omega)
  refine q_fldT (ev6 H5 (Ex.refl _) _ fun fp H6' hfp e6 h6 => ⟨.ref a, rfl, a, _, dx, _, rfl, e6 _ _ a5, T.cl, T.n_fog, by show 5 < 1000; omega, ?_⟩)
  rw [fl6_put]
  generalize hH6 : upd H6' a (.ins (dC K) dx (fl6 wd hg p ad at_ fp)) = H6
  have a6 : H6 a = some (.ins (dC K) dx (fl6 wd hg p ad at_ fp)) := by rw [← hH6]; exact upd_same
  have x6 : Exx a H5 H6 := by rw [← hH6]; exact exx_upd e6
  have n6 : fp ≠ a := fun z => by rw [z, a5] at hfp; cases hfp
  have p6 : H6 fp = some (.lst (pxV Si20.black)) := by rw [← hH6, upd_ne n6]; exact h6
  -- matrix
  refine q_fldT (enn_call0 (R := RF K) (f := pieces 4 Si20.unit) (H := H6) H6 (Ex.refl _) _ fun mp ms H7' hmp e7 h7 r7 => ⟨.ref a, rfl, a, _, dx, _, rfl, e7 _ _ a6, T.cl, T.n_matrix, by show 6 < 1000; omega, ?_⟩)
  rw [fl7_put]
  have a7' : H7' a = some (.ins (dC K) dx (fl6 wd hg p ad at_ fp)) := e7 _ _ a6
  generalize hH7 : upd H7' a (.ins (dC K) dx (fl7 wd hg p ad at_ fp mp)) = H7
  have a7 : H7 a = some (.ins (dC K) dx (fl7 wd hg p ad at_ fp mp)) := by rw [← hH7]; exact upd_same
  have x7 : Exx a H6 H7 := by rw [← hH7]; exact exx_upd e7
  have y7 : Exx a H7' H7 := by rw [← hH7]; exact exx_upd (Ex.refl _)
  have n7 : mp ≠ a := fun z => by rw [z, a6] at hmp; cases hmp
  -- light
  have ev8 : EvNN (RF K) (tLc (iRng1 (tCons (tC (.int 3)) tNil)) (gName 4) tYes (tOp rRep (tLst (tCons (tC (.ref (He.ga K "NOUGHT"))) tNil)) (tC (.int (4)))) [4]) [some (.ref a), some (.int (wd : Int)), some (.int (hg : Int)), none, none] H7 ((List.range (3 : Int).toNat).map fun _ => [0, 0, 0, 0]) :=
    enn_lcR (fun _ => [0, 0, 0, 0]) er_cI (by omega) (by omega) (fun _ => rfl) fun i H1 e hi H2 e2 Q q =>
      el_rep (elv (el_lstI (xs := [.ref (He.ga K "NOUGHT")]) (ers_cons (R := RV) (x := .ref (He.ga K "NOUGHT")) (er_c rfl) ers_nil) (by rintro H' vs ⟨v, r, rfl, r1, rfl⟩; rw [r1]) (by simp))) er_cI (by omega) (by omega) H2 e2 Q fun p H3 hp e3 h3 => q p _ H3 hp e3 h3 (by
        have z : RF K H3 (.ref (He.ga K "NOUGHT")) 0 := rf_const T.t_NOUGHT rep_nought
        exact all2_cons z (all2_cons z (all2_cons z (all2_cons z All2.nil))))
  refine s_fldT (ev8 H7 (Ex.refl _) _ fun lp ls H8' hlp e8 h8 r8 => ⟨.ref a, rfl, a, _, dx, _, rfl, e8 _ _ a7, T.cl, T.n_light, by show 7 < 1000; omega, ?_⟩)
  rw [fl8_put]
  have a8' : H8' a = some (.ins (dC K) dx (fl7 wd hg p ad at_ fp mp)) := e8 _ _ a7
  generalize hH8 : upd H8' a (.ins (dC K) dx (fl8 wd hg p ad at_ fp mp lp)) = H8
  have a8 : H8 a = some (.ins (dC K) dx (fl8 wd hg p ad at_ fp mp lp)) := by rw [← hH8]; exact upd_same
  have x8 : Exx a H7 H8 := by rw [← hH8]; exact exx_upd e8
  have y8 : Exx a H8' H8 := by rw [← hH8]; exact exx_upd (Ex.refl _)
  have n8 : lp ≠ a := fun z => by rw [z, a7] at hlp; cases hlp
  -- the tags
  have npa : p ≠ a := nz hp
  have nap : ad ≠ p := fun z => by rw [z, p3] at hd; cases hd
  have p4x : H4 p = some (.lst ws) := x4 _ _ npa p3
  have ntp : at_ ≠ p := fun z => by rw [z, p4x] at ht; cases ht
  have ntd : at_ ≠ ad := fun z => by rw [z, p4] at ht; cases ht
  have wsm : ∀ {b}, V.ref b ∈ ws → H2 b = none ∧ b ≠ p ∧ H3 b = some (.lst (pxV Si20.black)) := fun {b} hb => by
    obtain ⟨i, hi⟩ := List.getElem?_of_mem hb
    obtain ⟨q, hq, c, f1, f2, f3, f4⟩ := r3'.get' hi
    cases f1
    have : q = Si20.black := (List.mem_replicate.mp (List.mem_of_getElem? hq)).2
    rw [this] at f4
    exact ⟨f2, f3, f4⟩
  let tg' : Tags := fun b => if b = a then some (d, 0) else if b = p then some (d, 1) else if b = ad then some (d, 2) else if b = at_ then some (d, 3) else if V.ref b ∈ ws then some (d, 4) else tg b
  have x58 : Exx a H5 H8 := (x6.trans x7).trans x8
  have x48 : Exx a H4 H8 := x5.trans x58
  have x38 : Exx a H3 H8 := x4.trans x48
  have x05 : Exx a H H5 := ((x2.trans x3).trans x4).trans x5
  have x08 : Exx a H H8 := x05.trans x58
  have un5 : ∀ b, H5 b = none → Un_ tg' b := fun b hb => by
    have m0 : b ≠ a := fun z => by rw [z, a5] at hb; cases hb
    have m1 : b ≠ p := fun z => by rw [z, x5 _ _ npa p4x] at hb; cases hb
    have m2 : b ≠ ad := fun z => by rw [z, x5 _ _ n4 p4] at hb; cases hb
    have m3 : b ≠ at_ := fun z => by rw [z, p5] at hb; cases hb
    have m4 : V.ref b ∉ ws := fun z => by
      obtain ⟨f1, f2, f3⟩ := wsm z
      rw [(x4.trans x5) _ _ m0 f3] at hb
      cases hb
    show (if b = a then _ else _) = none
    rw [if_neg m0, if_neg m1, if_neg m2, if_neg m3, if_neg m4]
    exact tk.fresh (x05.back ⟨_, a5⟩ hb)
  have un6 : ∀ b, H6 b = none → Un_ tg' b := fun b hb => un5 b (x6.back ⟨_, a6⟩ hb)
  have un7 : ∀ b, H7 b = none → Un_ tg' b := fun b hb => un6 b (x7.back ⟨_, a7⟩ hb)
  have tks : ∀ b o, b ≠ a → H b = some o → tg' b = tg b := fun b o m0 hb => by
    have hb2 := x2 _ _ m0 hb
    have m1 : b ≠ p := fun z => by rw [z, hp] at hb2; cases hb2
    have hb3 := x3 _ _ m0 hb2
    have m2 : b ≠ ad := fun z => by rw [z, hd] at hb3; cases hb3
    have hb4 := x4 _ _ m0 hb3
    have m3 : b ≠ at_ := fun z => by rw [z, ht] at hb4; cases hb4
    have m4 : V.ref b ∉ ws := fun z => by rw [(wsm z).1] at hb2; cases hb2
    show (if b = a then _ else _) = _
    rw [if_neg m0, if_neg m1, if_neg m2, if_neg m3, if_neg m4]
  refine k tg' ⟨dx, p, ad, at_, ws, List.replicate 8 .non, .ref fp, .ref mp, .ref lp⟩ H8 ⟨x08, tks⟩ (fun b y h => ?_) ⟨a8, if_pos rfl, x38 _ _ npa p3, ?_, ?_, nd, ?_, ?_, x58 _ _ n5 p5, ?_, ?_, ⟨fp, rfl, un5 fp hfp, (x7.trans x8) _ _ n6 p6⟩, ⟨mp, ms, rfl, un6 mp hmp, (y7.trans x8) _ _ n7 h7, r7.mono fun v n r => rows_un un6 (y7.trans x8) a7' r⟩, ⟨lp, ls, rfl, un7 lp hlp, y8 _ _ n8 h8, ?_⟩, ?_⟩
  · have h : (if b = a then some (d, 0) else if b = p then some (d, 1) else if b = ad then some (d, 2) else if b = at_ then some (d, 3) else if V.ref b ∈ ws then some (d, 4) else tg b) = some y := h
    by_cases m0 : b = a
    · rw [m0]
      exact .inr ⟨_, _, _, a8⟩
    · rw [if_neg m0] at h
      by_cases m1 : b = p
      · rw [m1]
        exact .inl ⟨_, x38 _ _ npa p3⟩
      · rw [if_neg m1] at h
        by_cases m2 : b = ad
        · rw [m2]
          exact .inl ⟨_, x48 _ _ n4 p4⟩
        · rw [if_neg m2] at h
          by_cases m3 : b = at_
          · rw [m3]
            exact .inl ⟨_, x58 _ _ n5 p5⟩
          · rw [if_neg m3] at h
            by_cases m4 : V.ref b ∈ ws
            · exact .inl ⟨_, x38 _ _ m0 (wsm m4).2.2⟩
            · rw [if_neg m4] at h
              rcases tk b y h with ⟨xs, z⟩ | ⟨C, dx, fs, z⟩
              · exact .inl ⟨xs, x08 _ _ m0 z⟩
              · exact .inr ⟨C, dx, fs, x08 _ _ m0 z⟩
  · show (if p = a then _ else _) = _
    rw [if_neg npa, if_pos rfl]
  · show All2 _ ws (List.replicate (wd * hg) Si20.black)
    refine ⟨r3'.1, fun i u q hu hq => ?_⟩
    obtain ⟨b, f1, f2, f3, f4⟩ := r3'.2 i u q hu hq
    have m0 : b ≠ a := nz f2
    refine ⟨b, f1, ?_, x38 _ _ m0 f4⟩
    have m2 : b ≠ ad := fun z => by rw [z, hd] at f4; cases f4
    have m3 : b ≠ at_ := fun z => by rw [z] at f4 m0; rw [x4 _ _ m0 f4] at ht; cases ht
    show (if b = a then _ else _) = _
    rw [if_neg m0, if_neg f3, if_neg m2, if_neg m3, if_pos (by rw [← f1]; exact List.mem_of_getElem? hu)]
  · rw [x48 _ _ n4 p4]
    show _ = some (HO.lst ((List.replicate (wd * hg) 65535).map fun (n : Nat) => V.int (n : Int)))
    rw [List.map_replicate]
    rfl
  · show (if ad = a then _ else _) = _
    rw [if_neg n4, if_neg nap, if_pos rfl]
  · show (if at_ = a then _ else _) = _
    rw [if_neg n5, if_neg ntp, if_neg ntd, if_pos rfl]
  · show All2 _ (List.replicate 8 V.non) (List.replicate 8 none)
    refine ⟨rfl, fun i u q hu hq => ?_⟩
    have e1 : u = .non := (List.mem_replicate.mp (List.mem_of_getElem? hu)).2
    have e2 : q = none := (List.mem_replicate.mp (List.mem_of_getElem? hq)).2
    rw [e1, e2]
    exact rfl
  · have e : pieces 4 (Si20.opened wd hg).light = (List.range (3 : Int).toNat).map fun _ => [0, 0, 0, 0] := by
      show pieces 4 (List.replicate 12 0) = _
      decide +kernel
    rw [e]
    exact r8.mono fun v n r => rows_un un7 y8 a8' r
  · refine ⟨w1, w2, w3, g1, g2, g3, ?_, ?_, rfl, ?_, ?_, black_ok, rfl, ?_, rfl, ?_⟩
    · show (List.replicate (wd * hg) Si20.black).length = wd * hg
      rw [List.length_replicate]
    · show (List.replicate (wd * hg) 65535).length = wd * hg
      rw [List.length_replicate]
    · intro l hl
      have hl : some l ∈ List.replicate 8 (none : Option (Array Px)) := hl
      have := (List.mem_replicate.mp hl).2
      cases this
    · intro q hq
      have hq : q ∈ List.replicate (wd * hg) Si20.black := hq
      rw [(List.mem_replicate.mp hq).2]
      exact black_ok
    · show ∀ n ∈ Si20.unit, Si20.calm n = true
      decide +kernel
    · show ∀ n ∈ List.replicate 12 0, Si20.calm n = true
      decide +kernel
theorem ok_D_init (T : Tx K mg) (G_first_matrix : GF P w K mg base "first_matrix" 2 [] (sp_first_matrix K)) : ∃ fd, FnOk P w K mg base CX0 3 (He.ma K (He.ga K "Drawer") "__init__") fd ["self", "wide", "high"] (sp_D_init K) ∧ Binds K fd ["self", "wide", "high"] [] := by
  refine fn_keep (k := 2) (tt := (t_D_init K)) T.d_D_init sc_D_init len_D_init (fun _ _ _ _ _ _ us hl => match us, hl with | [_, _, _], _ => rfl) (fun cdv A outer s H E hr => ?_) (pure_D_init T)
  exact (pss_cons (ps_fld (pv 0) (pv 1) rfl)
    (pss_cons (ps_fld (pv 0) (pv 2) rfl)
    (pss_cons (ps_fld (pv 0) (pe_lc (own := [("place", 3)]) (g := (gName 3)) (tt := tYes) rfl sc_D_init.nd (pi_range1 rfl T.f_range (pa_cons (pe_op op_mul (pv 1) (pv 2)) pa_nil)) (blkOk_by (N := ["self", "wide", "high", "place", "row"]) (sc := defScope s_D_init) (by decide +kernel)) (fun _ _ _ _ _ => (pg_name (i := 3) sc_D_init.nd rfl (.inl rfl))) (fun _ _ _ _ _ => pts_nil) (fun _ _ _ _ _ => (pe_lst (pa_cons pe_int (pa_cons pe_int (pa_cons pe_int (pa_cons pe_int pa_nil))))))) rfl)
    (pss_cons (ps_fld (pv 0) (pe_op op_rep (pe_lst (pa_cons (pe_gi rfl T.i_FARTHEST) pa_nil)) (pe_op op_mul (pv 1) (pv 2))) rfl)
    (pss_cons (ps_fld (pv 0) (pe_op op_rep (pe_lst (pa_cons pe_non pa_nil)) (pe_gi rfl T.i_TEXTURES)) rfl)
    (pss_cons (ps_fld (pv 0) (pe_lst (pa_cons pe_int (pa_cons pe_int (pa_cons pe_int (pa_cons pe_int pa_nil))))) rfl)
    (pss_cons (ps_fld (pv 0) (pe_gf0 G_first_matrix (hr.mono (by decide)) rfl) rfl)
    (pss_one (ps_fld (pv 0) (pe_lc (own := [("row", 4)]) (g := (gName 4)) (tt := tYes) rfl sc_D_init.nd (pi_range1 rfl T.f_range (pa_cons pe_int pa_nil)) (blkOk_by (N := ["self", "wide", "high", "place", "row"]) (sc := defScope s_D_init) (by decide +kernel)) (fun _ _ _ _ _ => (pg_name (i := 4) sc_D_init.nd rfl (.inl rfl))) (fun _ _ _ _ _ => pts_nil) (fun _ _ _ _ _ => (pe_op op_rep (pe_lst (pa_cons (pe_glob rfl T.g_NOUGHT rfl) pa_nil)) (pe_gi rfl T.i_FOUR)))) rfl)))))))))
end
end Sd
end

section
set_option Elab.async false
set_option linter.all false
set_option maxRecDepth 100000
set_option maxHeartbeats 400000
/-! ## 21. spans.py -/
namespace Sd
open PySem PySem.Spec PyProof.Rows L2 Evl
open Si20 (Px)
local macro_rules | `(tactic| walk_at "ev") => `(tactic| first
  | with_reducible exact er_cI
  | focus ((with_reducible apply er_varI); with_unfolding_all rfl)
  | focus ((with_reducible apply er_var); all_goals first | with_unfolding_all rfl | assumption)
  | focus ((with_reducible apply er_op0); all_goals walk_at "ev")
  | focus ((with_reducible apply er_op); all_goals walk_at "ev")
  | focus ((with_reducible apply er_neg); all_goals walk_at "ev")
  | focus ((with_reducible apply er_max); all_goals walk_at "ev")
  | focus ((with_reducible apply er_min); all_goals walk_at "ev")
  | focus ((with_reducible apply er_abs); all_goals walk_at "ev")
  | focus ((with_reducible apply er_intB); all_goals walk_at "ev")
  | focus ((with_reducible apply er_bits); all_goals walk_at "ev")
  | focus ((with_reducible apply er_ixD); all_goals walk_at "ev")
  | focus ((with_reducible apply er_call1); all_goals walk_at "ev")
  | focus ((with_reducible apply er_call2); all_goals walk_at "ev")
  | focus ((with_reducible apply er_call3); all_goals walk_at "ev")
  | focus ((with_reducible apply er_call4); all_goals walk_at "ev")
  | focus ((with_reducible apply er_eq); all_goals walk_at "ev")
  | focus ((with_reducible apply er_ne); all_goals walk_at "ev")
  | focus ((with_reducible apply er_cmp); all_goals walk_at "ev")
  | focus ((with_reducible apply er_chain); all_goals walk_at "ev")
  | focus ((with_reducible apply er_andU); all_goals walk_at "ev")
  | focus ((with_reducible apply er_orU); all_goals walk_at "ev")
  | focus ((with_reducible apply et_t); all_goals walk_at "ev")
  | focus ((with_reducible apply et_b); all_goals walk_at "ev")
  | focus ((with_reducible apply et_andU); all_goals walk_at "ev")
  | focus ((with_reducible apply et_orU); all_goals walk_at "ev")
  | focus ((with_reducible apply Evl.et_not); all_goals walk_at "ev")
  | walk_at "side")
local macro_rules | `(tactic| walk_at "evr") => `(tactic| (refine er_is (by walk_at "ev") (by with_unfolding_all rfl)))
local macro_rules | `(tactic| walk_at "side") => `(tactic| first
  | assumption
  | exact True.intro
  | exact cdiv_ok (by decide) (by decide)
  | exact cmul_l (by omega) (by omega)
  | exact cmul_r (by omega) (by omega)
  | omega
  | decide
  | (dsimp only; done)
  | (dsimp only; first | assumption | omega | decide)
  | (constructor <;> assumption))
local macro_rules | `(tactic| walk_at "ev") => `(tactic| first
  | focus ((with_reducible apply er_s0); all_goals walk_at "ev")
  | focus ((with_reducible apply er_s1); all_goals walk_at "ev")
  | focus ((with_reducible apply er_s2); all_goals walk_at "ev")
  | focus ((with_reducible apply er_tupS); all_goals walk_at "ev")
  | focus ((with_reducible apply er_tupI2); all_goals walk_at "ev")
  | focus ((with_reducible apply er_divmod); all_goals walk_at "ev"))
local macro_rules | `(tactic| walk_at "side") => `(tactic| exact cshl_ok (by omega) (by omega))
local macro_rules | `(tactic| walk_at "ev") => `(tactic| first
  | focus ((with_reducible apply er_wide); all_goals walk_at "ev")
  | focus ((with_reducible apply er_high); all_goals walk_at "ev")
  | focus ((with_reducible apply er_meth1); all_goals walk_at "ev")
  | focus ((with_reducible apply er_meth2); all_goals walk_at "ev")
  | focus ((with_reducible apply er_meth3); all_goals walk_at "ev"))
local macro_rules | `(tactic| walk_at "side") => `(tactic| (focus (decide +kernel)))
abbrev gI (l : List Int) (i : Nat) : Int := l.getD i 0
abbrev sp_upper_of : Sp := sp3 RIL RI RI (fun l at_ j => 0 ≤ at_ ∧ at_ + 1 < (l.length : Int) ∧ 0 ≤ j ∧ j ≤ 2000) RI fun l at_ j => ((Si20.upper (gI l at_.toNat + j * gI l (at_.toNat + 1)) : Nat) : Int)
abbrev sp_byte_of : Sp := sp3 RI RI RI (fun _ _ j => 0 ≤ j ∧ j ≤ 2000) RI fun n st j => ((Si20.byteOf (n + j * st) : Nat) : Int)
abbrev sp_colour_at : Sp := spL2 RIL RI (fun l j => l.length = 20 ∧ 0 ≤ j ∧ j ≤ 2000) fun l j => vI (pxI ((Si20.spanOf l).colour j.toNat))
abbrev sp_is_near_enough : Sp := sp3 RI RI RI (fun how d t => 0 ≤ how ∧ how / 8 % 4 ≠ 3 ∧ 0 ≤ d ∧ 0 ≤ t) RB fun how d t => Si20.passes (how.toNat / 8 % 4) d.toNat t.toNat
abbrev sp_spans_of : Sp := spNN1 RIL (fun l => l.length ≤ 1280) RI fun l => pieces 20 l
abbrev sp_may_be_drawn (K : PySem.W.Frag) : Sp := sp2 (RD K (dC K)) RIL (fun _ l => l.length = 20) RB fun st l => (Si20.spanOf l).Ok st
/-- upper_of: 0 span, 1 at, 2 place -/
def t_upper_of (K : PySem.W.Frag) : TS :=
  (tRet (tOp rDivI (tOp rModI (tOp rAddI (tOp (rIxL K) (tVar 0) (tVar 1)) (tOp rMulI (tVar 2) (tOp (rIxL K) (tVar 0) (tOp rAddI (tVar 1) (tC (.int 1)))))) (tC (.int (4294967296)))) (tC (.int (65536)))))
/-- byte_of: 0 number, 1 step, 2 place, 3 total -/
def t_byte_of : TS :=
  (tSeq (tAsg (tOp rModI (tOp rAddI (tVar 0) (tOp rMulI (tVar 2) (tVar 1))) (tC (.int (4294967296)))) (gName 3))
    (tSeq (tIfS (tTest (tOp rGeI (tVar 3) (tC (.int (2147483648))))) (tAsg (tOp rSubI (tVar 3) (tC (.int (4294967296)))) (gName 3)) tNext)
    (tRet (tCall sp_held [] E0 (tCons (tOp rDivI (tVar 3) (tC (.int (65536)))) tNil)))))
/-- colour_at: 0 span, 1 place, 2 k -/
def t_colour_at (K : PySem.W.Frag) : TS :=
  (tRet (tLc (iRng1 (tCons (tC (.int (4))) tNil)) (gName 2) tYes (tCall sp_byte_of [] E0 (tCons (tOp (rIxL K) (tVar 0) (tOp rAddI (tC (.int (9))) (tVar 2))) (tCons (tOp (rIxL K) (tVar 0) (tOp rAddI (tOp rAddI (tC (.int (9))) (tC (.int (4)))) (tVar 2))) (tCons (tVar 1) tNil)))) [2]))
/-- is_near_enough: 0 how, 1 depth, 2 there, 3 way -/
def t_is_near_enough : TS :=
  (tSeq (tAsg (tOp rModI (tOp rDivI (tVar 0) (tC (.int 8))) (tC (.int 4))) (gName 3))
    (tRet (tOrV (tOp rEq (tVar 3) (tC (.int 0))) (tOrV (tAndV (tOp rEq (tVar 3) (tC (.int 1))) (tOp rLeI (tVar 1) (tVar 2))) (tAndV (tOp rEq (tVar 3) (tC (.int 2))) (tOp rLtI (tVar 1) (tVar 2)))))))
/-- spans_of: 0 row, 1 at -/
def t_spans_of (K : PySem.W.Frag) : TS :=
  (tRet (tLc (iRng3 (tCons (tC (.int 0)) (tCons (tCB (rLenS K) (tCons (tVar 0) tNil)) (tCons (tC (.int (20))) tNil)))) (gName 1) tYes (tSl (rSlL K) (tVar 0) (tPart (tVar 1)) (tPart (tOp rAddI (tVar 1) (tC (.int (20)))))) [1]))
/-- may_be_drawn: 0 drawer, 1 span -/
def t_may_be_drawn (K : PySem.W.Frag) : TS :=
  (tSeq (tIfS (tOr (tNot (tTest (tChain rLeI rLeI (tC (.int 0)) (tOp (rIxL K) (tVar 1) (tC (.int (2)))) (tC (.int (1024)))))) (tTest (tOp rGtI (tOp (rIxL K) (tVar 1) (tC (.int (19)))) (tC (.int (7)))))) (tRet (tC (.bl false))) tNext)
    (tRet (tOrV (tOp rLtI (tOp (rIxL K) (tVar 1) (tC (.int (19)))) (tC (.int 0))) (tMeth (He.ga K "Drawer") "has_texture" (sp_D_has_texture K) [] E0 (tVar 0) (tCons (tOp (rIxL K) (tVar 1) (tC (.int (19)))) tNil)))))
section
variable {P : Program} {w : World} {K : PySem.W.Frag} {mg : Str → Option Value} {base : Heap}
theorem len_upper_of : ∀ vs H Q E, sp_upper_of vs H Q E → vs.length = 3 := sp3_len
theorem len_byte_of : ∀ vs H Q E, sp_byte_of vs H Q E → vs.length = 3 := sp3_len
theorem len_colour_at : ∀ vs H Q E, sp_colour_at vs H Q E → vs.length = 2 := spL2_len
theorem len_is_near_enough : ∀ vs H Q E, sp_is_near_enough vs H Q E → vs.length = 3 := sp3_len
theorem len_spans_of : ∀ vs H Q E, sp_spans_of vs H Q E → vs.length = 1 := spNN1_len
theorem len_may_be_drawn : ∀ vs H Q E, sp_may_be_drawn K vs H Q E → vs.length = 2 := sp2_len
theorem upper_int (z : Int) : z % 4294967296 / 65536 = ((Si20.upper z : Nat) : Int) := by
  show _ = (((z % 2 ^ 32).toNat / 2 ^ 16 : Nat) : Int)
  omega
theorem byte_int (z : Int) : heldM ((if z % 4294967296 ≥ 2147483648 then z % 4294967296 - 4294967296 else z % 4294967296) / 65536) = ((Si20.byteOf z : Nat) : Int) := by
  show _ = (((if 2 ^ 31 ≤ (z % 2 ^ 32).toNat then 0 else min 255 ((z % 2 ^ 32).toNat / 2 ^ 16)) : Nat) : Int)
  have h0 : 0 ≤ z % 4294967296 := by omega
  have h1 : z % 4294967296 < 4294967296 := by omega
  have e : z % 2 ^ 32 = z % 4294967296 := by omega
  rw [e]
  generalize z % 4294967296 = t at h0 h1
  unfold heldM
  split <;> split <;> split <;> split <;> omega
theorem pure_upper_of (T : Tx K mg) (vs : List V) (H : Hp) (Q : VK) (E : XK) (h : sp_upper_of vs H Q E) : t_upper_of K { nx := fun _ H' => Q .non H', rt := Q } (start ["span", "at", "place"] vs) H := by
  obtain ⟨v0, _, _, l, n, j, rfl, r, rfl, rfl, ⟨h0, h1, j0, j1⟩, k⟩ := h
  have hm : CMul j (gI l (n + 1).toNat) := cmul_l (by omega) (by omega)
  refine sr_ret (er_is (x := (gI l n.toNat + j * gI l (n + 1).toNat) % 4294967296 / 65536) (by walk_at "ev") ?_) k
  rw [upper_int, show (n + 1).toNat = n.toNat + 1 by omega]
theorem ok_upper_of (T : Tx K mg)  : GF P w K mg base "upper_of" 1 ["span", "at", "place"] sp_upper_of := by
  refine ⟨fn_keep (k := 0) (tt := (t_upper_of K)) T.d_upper_of sc_upper_of len_upper_of (fun _ _ _ _ _ _ us hl => match us, hl with | [_, _, _], _ => rfl) (fun cdv A outer s H E hr => ?_) (pure_upper_of T), T.d_upper_of.kp, T.g_upper_of⟩
  exact (pss_one (ps_ret (pe_op op_fdiv (pe_op op_mod (pe_op op_add (pe_ix ix_list (pv 0) (pv 1) (fun _ _ => rfl)) (pe_op op_mul (pv 2) (pe_ix ix_list (pv 0) (pe_op op_add (pv 1) pe_int) (fun _ _ => rfl)))) (pe_gi rfl T.i_WORD)) (pe_gi rfl T.i_UPPER))))
theorem pure_byte_of (T : Tx K mg) (vs : List V) (H : Hp) (Q : VK) (E : XK) (h : sp_byte_of vs H Q E) : t_byte_of { nx := fun _ H' => Q .non H', rt := Q } (start ["number", "step", "place", "total"] vs) H := by
  obtain ⟨_, _, _, n, st, j, rfl, rfl, rfl, rfl, ⟨j0, j1⟩, k⟩ := h
  have hm : CMul j st := cmul_l (by omega) (by omega)
  have k : ∀ v H', Ex H H' → RI H' v ((Si20.byteOf (n + j * st) : Nat) : Int) → Q v H' := k
  rw [← byte_int] at k
  refine qr_asgI (n := (n + j * st) % 4294967296) (by walk_at "ev") fun H1 e1 => ?_
  generalize (n + j * st) % 4294967296 = t at k
  refine qp_when (p := t ≥ 2147483648) (by walk_at "ev") (fun b H2 e2 => ?_) fun b H2 e2 => ?_
  · rw [if_pos b] at k
    refine sr_asgI (n := t - 4294967296) (by walk_at "ev") fun H3 e3 => ?_
    show tRet (tCall sp_held [] E0 (tCons (tOp rDivI (tVar 3) (tC (.int (65536)))) tNil)) { nx := fun _ H' => Q .non H', rt := Q } _ H3
    exact sr_ret (by walk_at "ev") fun v H4 e4 r4 => k v H4 (((e1.trans e2).trans e3).trans e4) r4
  · rw [if_neg b] at k
    exact sr_ret (by walk_at "ev") fun v H4 e4 r4 => k v H4 ((e1.trans e2).trans e4) r4
theorem ok_byte_of (T : Tx K mg) (G_held : GF P w K mg base "held" 1 ["number"] sp_held) : GF P w K mg base "byte_of" 2 ["number", "step", "place"] sp_byte_of := by
  refine ⟨fn_keep (k := 1) (tt := t_byte_of) T.d_byte_of sc_byte_of len_byte_of (fun _ _ _ _ _ _ us hl => match us, hl with | [_, _, _], _ => rfl) (fun cdv A outer s H E hr => ?_) (pure_byte_of T), T.d_byte_of.kp, T.g_byte_of⟩
  exact (pss_cons (ps_set (i := 3) sc_byte_of.nd rfl (.inl rfl) (pe_op op_mod (pe_op op_add (pv 0) (pe_op op_mul (pv 2) (pv 1))) (pe_gi rfl T.i_WORD)))
    (pss_cons (ps_if (pt_cmpR op_ge (pv 3) (pe_gi rfl T.i_HALF_WORD) (nomark _)) (pss_one (ps_set (i := 3) sc_byte_of.nd rfl (.inl rfl) (pe_op op_sub (pv 3) (pe_gi rfl T.i_WORD)))) pss_nil)
    (pss_one (ps_ret (pe_gf G_held (hr.mono (by decide)) rfl (pa_cons (pe_op op_fdiv (pv 3) (pe_gi rfl T.i_UPPER)) pa_nil))))))
theorem getD_cut (l : List Int) (a k i : Nat) (h : i < k) : ((l.drop a).take k).getD i 0 = l.getD (a + i) 0 := by
  rw [List.getD_eq_getElem?_getD, List.getElem?_take_of_lt h, List.getElem?_drop, ← List.getD_eq_getElem?_getD]
theorem colour_eq (l : List Int) (j : Nat) : pxI ((Si20.spanOf l).colour j) = (List.range 4).map fun (k : Nat) => ((Si20.byteOf (gI l (9 + k) + (j : Int) * gI l (13 + k)) : Nat) : Int) := by
  show [((Si20.byteOf (((l.drop 9).take 4).getD 0 0 + (j : Int) * ((l.drop 13).take 4).getD 0 0) : Nat) : Int), ((Si20.byteOf (((l.drop 9).take 4).getD 1 0 + (j : Int) * ((l.drop 13).take 4).getD 1 0) : Nat) : Int), ((Si20.byteOf (((l.drop 9).take 4).getD 2 0 + (j : Int) * ((l.drop 13).take 4).getD 2 0) : Nat) : Int), ((Si20.byteOf (((l.drop 9).take 4).getD 3 0 + (j : Int) * ((l.drop 13).take 4).getD 3 0) : Nat) : Int)] = _
  rw [getD_cut _ _ _ _ (by omega), getD_cut _ _ _ _ (by omega), getD_cut _ _ _ _ (by omega), getD_cut _ _ _ _ (by omega), getD_cut _ _ _ _ (by omega), getD_cut _ _ _ _ (by omega), getD_cut _ _ _ _ (by omega), getD_cut _ _ _ _ (by omega)]
  rfl
theorem pure_colour_at (T : Tx K mg) (vs : List V) (H : Hp) (Q : VK) (E : XK) (h : sp_colour_at vs H Q E) : t_colour_at K { nx := fun _ H' => Q .non H', rt := Q } (start ["span", "place", "k"] vs) H := by
  obtain ⟨v0, _, l, j, rfl, r, rfl, ⟨hl, j0, j1⟩, k⟩ := h
  refine s_retL (el_is (el_lcR (n := 4) (fun (i : Nat) => V.int ((Si20.byteOf (gI l (9 + i) + j * gI l (13 + i)) : Nat) : Int)) (by walk_at "ev") (by decide) (by decide) (fun _ => rfl) fun i H1 e hi => ?_) ?_) k
  · have r := mo e r
    refine erV (er_is (x := ((Si20.byteOf (gI l (9 + (i : Int)).toNat + j * gI l (9 + 4 + (i : Int)).toNat) : Nat) : Int)) (by walk_at "ev") ?_)
    rw [show (9 + (i : Int)).toNat = 9 + i by omega, show (9 + 4 + (i : Int)).toNat = 13 + i by omega]
  · show _ = vI (pxI ((Si20.spanOf l).colour j.toNat))
    rw [colour_eq, Int.toNat_of_nonneg j0]
    exact (List.map_map ..).symm
theorem ok_colour_at (T : Tx K mg) (G_byte_of : GF P w K mg base "byte_of" 2 ["number", "step", "place"] sp_byte_of) : GF P w K mg base "colour_at" 3 ["span", "place"] sp_colour_at := by
  refine ⟨fn_keep (k := 2) (tt := (t_colour_at K)) T.d_colour_at sc_colour_at len_colour_at (fun _ _ _ _ _ _ us hl => match us, hl with | [_, _], _ => rfl) (fun cdv A outer s H E hr => ?_) (pure_colour_at T), T.d_colour_at.kp, T.g_colour_at⟩
  exact (pss_one (ps_ret (pe_lc (own := [("k", 2)]) (g := (gName 2)) (tt := tYes) rfl sc_colour_at.nd (pi_range1 rfl T.f_range (pa_cons (pe_gi rfl T.i_FOUR) pa_nil)) (blkOk_by (N := ["span", "place", "k"]) (sc := defScope s_colour_at) (by decide +kernel)) (fun _ _ _ _ _ => (pg_name (i := 2) sc_colour_at.nd rfl (.inl rfl))) (fun _ _ _ _ _ => pts_nil) (fun _ _ _ _ _ => (pe_gf G_byte_of (hr.mono (by decide)) rfl (pa_cons (pe_ix ix_list (pv 0) (pe_op op_add (pe_gi rfl T.i_COLOURS) (pv 2)) (fun _ _ => rfl)) (pa_cons (pe_ix ix_list (pv 0) (pe_op op_add (pe_op op_add (pe_gi rfl T.i_COLOURS) (pe_gi rfl T.i_FOUR)) (pv 2)) (fun _ _ => rfl)) (pa_cons (pv 1) pa_nil))))))))
theorem pure_is_near_enough (T : Tx K mg) (vs : List V) (H : Hp) (Q : VK) (E : XK) (h : sp_is_near_enough vs H Q E) : t_is_near_enough { nx := fun _ H' => Q .non H', rt := Q } (start ["how", "depth", "there", "way"] vs) H := by
  obtain ⟨_, _, _, how, d, t, rfl, rfl, rfl, rfl, ⟨h0, h3, d0, t0⟩, k⟩ := h
  refine qr_asgI (n := how / 8 % 4) (by walk_at "ev") fun H1 e1 => ?_
  refine sr_ret (er_is (by walk_at "ev") ?_) fun v H2 e2 r2 => k v H2 (e1.trans e2) r2
  have e : how.toNat / 8 % 4 = (how / 8 % 4).toNat := by omega
  show (decide (how / 8 % 4 = 0) || (decide (how / 8 % 4 = 1) && decide (d ≤ t) || decide (how / 8 % 4 = 2) && decide (d < t))) = Si20.passes (how.toNat / 8 % 4) d.toNat t.toNat
  rw [e]
  have h4 : how / 8 % 4 = 0 ∨ how / 8 % 4 = 1 ∨ how / 8 % 4 = 2 := by omega
  rcases h4 with z | z | z <;> rw [z]
  · rfl
  · show (decide (d ≤ t) || false) = decide (d.toNat ≤ t.toNat)
    rw [Bool.or_false, decide_eq_decide]
    omega
  · show decide (d < t) = decide (d.toNat < t.toNat)
    rw [decide_eq_decide]
    omega
theorem ok_is_near_enough (T : Tx K mg)  : GF P w K mg base "is_near_enough" 1 ["how", "depth", "there"] sp_is_near_enough := by
  refine ⟨fn_keep (k := 0) (tt := t_is_near_enough) T.d_is_near_enough sc_is_near_enough len_is_near_enough (fun _ _ _ _ _ _ us hl => match us, hl with | [_, _, _], _ => rfl) (fun cdv A outer s H E hr => ?_) (pure_is_near_enough T), T.d_is_near_enough.kp, T.g_is_near_enough⟩
  exact (pss_cons (ps_set (i := 3) sc_is_near_enough.nd rfl (.inl rfl) (pe_op op_mod (pe_op op_fdiv (pv 0) pe_int) pe_int))
    (pss_one (ps_ret (pe_or (pe_cmpR op_eq (pv 3) pe_int (nomark _)) (pe_or (pe_and (pe_cmpR op_eq (pv 3) pe_int (nomark _)) (pe_one (pe_cmpR op_le (pv 1) (pv 2) (nomark _)))) (pe_one (pe_and (pe_cmpR op_eq (pv 3) pe_int (nomark _)) (pe_one (pe_cmpR op_lt (pv 1) (pv 2) (nomark _))))))))))
theorem pure_spans_of (T : Tx K mg) (vs : List V) (H : Hp) (Q : VK) (E : XK) (h : sp_spans_of vs H Q E) : t_spans_of K { nx := fun _ H' => Q .non H', rt := Q } (start ["row", "at"] vs) H := by
  obtain ⟨v0, l, rfl, r, hl, k⟩ := h
  have hl : l.length ≤ 1280 := hl
  exact s_retNN (enn_pieces (K := K) (A := AnyA) (i0 := 0) (j := 1) (c := 20) rfl (fun _ => rfl) (fun _ => rfl) (fun _ => rfl) (ints_rl r) (by omega) (by omega) (by omega)) k
theorem ok_spans_of (T : Tx K mg)  : GF P w K mg base "spans_of" 1 ["row"] sp_spans_of := by
  refine ⟨fn_keep (k := 0) (tt := (t_spans_of K)) T.d_spans_of sc_spans_of len_spans_of (fun _ _ _ _ _ _ us hl => match us, hl with | [_], _ => rfl) (fun cdv A outer s H E hr => ?_) (pure_spans_of T), T.d_spans_of.kp, T.g_spans_of⟩
  exact (pss_one (ps_ret (pe_lc (own := [("at", 1)]) (g := (gName 1)) (tt := tYes) rfl sc_spans_of.nd (pi_range3 rfl T.f_range (pa_cons pe_int (pa_cons (pe_callB call_len_seq rfl T.f_len (by decide +kernel) (pa_cons (pv 0) pa_nil)) (pa_cons (pe_gi rfl T.i_TWENTY) pa_nil)))) (blkOk_by (N := ["row", "at"]) (sc := defScope s_spans_of) (by decide +kernel)) (fun _ _ _ _ _ => (pg_name (i := 1) sc_spans_of.nd rfl (.inl rfl))) (fun _ _ _ _ _ => pts_nil) (fun _ _ _ _ _ => (pe_slice sl_list (pv 0) (po_some (pv 1)) (po_some (pe_op op_add (pv 1) (pe_gi rfl T.i_TWENTY))))))))
theorem pure_may_be_drawn (T : Tx K mg) (vs : List V) (H : Hp) (Q : VK) (E : XK) (h : sp_may_be_drawn K vs H Q E) : t_may_be_drawn K { nx := fun _ H' => Q .non H', rt := Q } (start ["drawer", "span"] vs) H := by
  obtain ⟨v0, v1, st, l, rfl, r, rl, hl, k⟩ := h
  have hl : l.length = 20 := hl
  have k : ∀ v H', Ex H H' → RB H' v ((decide (0 ≤ gI l 2) && decide (gI l 2 ≤ 1024)) && (decide (gI l 19 < 0) || (decide (gI l 19 < 8) && (st.texture (gI l 19)).isSome))) → Q v H' := k
  refine q_when (by walk_at "ev") (fun b H1 e1 => ?_) fun b H1 e1 => ?_
  · have b : ((!(decide (0 ≤ gI l 2) && decide (gI l 2 ≤ 1024))) || decide (7 < gI l 19)) = true := b
    refine sr_ret (R := RB) (x := false) (er_c rfl) fun v H2 e2 r2 => k v H2 (e1.trans e2) ?_
    rw [r2]
    show V.bl false = V.bl _
    cases h1 : (decide (0 ≤ gI l 2) && decide (gI l 2 ≤ 1024)) with
    | false => rfl
    | true =>
      rw [h1] at b
      have hb : 7 < gI l 19 := by simpa using b
      rw [decide_eq_false (show ¬ gI l 19 < 0 by omega), decide_eq_false (show ¬ gI l 19 < 8 by omega)]
      rfl
  · have b : ((!(decide (0 ≤ gI l 2) && decide (gI l 2 ≤ 1024))) || decide (7 < gI l 19)) = false := b
    have r1 := mo e1 r
    have rl1 := mo e1 rl
    cases h1 : (decide (0 ≤ gI l 2) && decide (gI l 2 ≤ 1024)) with
    | false => rw [h1] at b; cases b
    | true =>
      rw [h1] at b k
      have hb : ¬ 7 < gI l 19 := by simpa using b
      refine sr_ret (R := RB) (x := decide (gI l 19 < 0) || (st.texture (gI l 19)).isSome) (er_or (er_is (x := decide (gI l 19 < 0)) (er_cmp (g := fun i j => decide (i < j)) (er_is (er_ixD (er_var rfl rl1) er_cI (by omega) (by omega)) rfl) er_cI) rfl) fun h => ?_) fun v H2 e2 r2 => k v H2 (e1.trans e2) ?_
      · have h := of_decide_eq_false h
        have h0 : 0 ≤ gI l 19 := by omega
        have h8 : gI l 19 < 8 := by omega
        exact er_meth1 (by decide +kernel) (er_var rfl r1) (er_is (er_ixD (er_var rfl rl1) er_cI (by omega) (by omega)) rfl) ⟨h0, h8⟩
      · rw [r2, decide_eq_true (show gI l 19 < 8 by omega)]
        rfl
theorem ok_may_be_drawn (T : Tx K mg) (G_D_has_texture : GM P w K mg base (He.ga K "Drawer") "has_texture" 1 ["self", "k"] (sp_D_has_texture K)) : GF P w K mg base "may_be_drawn" 2 ["drawer", "span"] (sp_may_be_drawn K) := by
  refine ⟨fn_keep (k := 1) (tt := (t_may_be_drawn K)) T.d_may_be_drawn sc_may_be_drawn len_may_be_drawn (fun _ _ _ _ _ _ us hl => match us, hl with | [_, _], _ => rfl) (fun cdv A outer s H E hr => ?_) (pure_may_be_drawn T), T.d_may_be_drawn.kp, T.g_may_be_drawn⟩
  exact (pss_cons (ps_if (PW.pt (pw_or (pt_not (pt_chain op_le op_le pe_int (pe_ix ix_list (pv 1) (pe_gi rfl T.i_MANY) (fun _ _ => rfl)) (pe_gi rfl T.i_MOST_PLACES))) (pw_or1 (pt_cmpR op_gt (pe_ix ix_list (pv 1) (pe_gi rfl T.i_TEXTURE) (fun _ _ => rfl)) (pe_gi rfl T.i_MOST_TEXTURE) (nomark _))))) (pss_one (ps_ret pe_bl)) pss_nil)
    (pss_one (ps_ret (pe_or (pe_cmpR op_lt (pe_ix ix_list (pv 1) (pe_gi rfl T.i_TEXTURE) (fun _ _ => rfl)) pe_int (nomark _)) (pe_one (pe_gm (pv 0) T.cl G_D_has_texture (hr.mono (by decide)) (pa_cons (pe_ix ix_list (pv 1) (pe_gi rfl T.i_TEXTURE) (fun _ _ => rfl)) pa_nil)))))))
end
end Sd
end

section
set_option Elab.async false
set_option linter.all false
set_option maxRecDepth 100000
set_option maxHeartbeats 400000
/-! ## 22. spans.py: spans drawn -/
namespace Sd
open PySem PySem.Spec PyProof.Rows L2 Evl
open Si20 (Px)
local macro_rules | `(tactic| walk_at "ev") => `(tactic| first
  | with_reducible exact er_cI
  | focus ((with_reducible apply er_varI); with_unfolding_all rfl)
  | focus ((with_reducible apply er_var); all_goals first | with_unfolding_all rfl | assumption)
  | focus ((with_reducible apply er_op0); all_goals walk_at "ev")
  | focus ((with_reducible apply er_op); all_goals walk_at "ev")
  | focus ((with_reducible apply er_neg); all_goals walk_at "ev")
  | focus ((with_reducible apply er_max); all_goals walk_at "ev")
  | focus ((with_reducible apply er_min); all_goals walk_at "ev")
  | focus ((with_reducible apply er_abs); all_goals walk_at "ev")
  | focus ((with_reducible apply er_intB); all_goals walk_at "ev")
  | focus ((with_reducible apply er_bits); all_goals walk_at "ev")
  | focus ((with_reducible apply er_ixD); all_goals walk_at "ev")
  | focus ((with_reducible apply er_call1); all_goals walk_at "ev")
  | focus ((with_reducible apply er_call2); all_goals walk_at "ev")
  | focus ((with_reducible apply er_call3); all_goals walk_at "ev")
  | focus ((with_reducible apply er_call4); all_goals walk_at "ev")
  | focus ((with_reducible apply er_eq); all_goals walk_at "ev")
  | focus ((with_reducible apply er_ne); all_goals walk_at "ev")
  | focus ((with_reducible apply er_cmp); all_goals walk_at "ev")
  | focus ((with_reducible apply er_chain); all_goals walk_at "ev")
  | focus ((with_reducible apply er_andU); all_goals walk_at "ev")
  | focus ((with_reducible apply er_orU); all_goals walk_at "ev")
  | focus ((with_reducible apply et_t); all_goals walk_at "ev")
  | focus ((with_reducible apply et_b); all_goals walk_at "ev")
  | focus ((with_reducible apply et_andU); all_goals walk_at "ev")
  | focus ((with_reducible apply et_orU); all_goals walk_at "ev")
  | focus ((with_reducible apply Evl.et_not); all_goals walk_at "ev")
  | walk_at "side")
local macro_rules | `(tactic| walk_at "evr") => `(tactic| (refine er_is (by walk_at "ev") (by with_unfolding_all rfl)))
local macro_rules | `(tactic| walk_at "side") => `(tactic| first
  | assumption
  | exact True.intro
  | exact cdiv_ok (by decide) (by decide)
  | exact cmul_l (by omega) (by omega)
  | exact cmul_r (by omega) (by omega)
  | omega
  | decide
  | (dsimp only; done)
  | (dsimp only; first | assumption | omega | decide)
  | (constructor <;> assumption))
local macro_rules | `(tactic| walk_at "ev") => `(tactic| first
  | focus ((with_reducible apply er_s0); all_goals walk_at "ev")
  | focus ((with_reducible apply er_s1); all_goals walk_at "ev")
  | focus ((with_reducible apply er_s2); all_goals walk_at "ev")
  | focus ((with_reducible apply er_tupS); all_goals walk_at "ev")
  | focus ((with_reducible apply er_tupI2); all_goals walk_at "ev")
  | focus ((with_reducible apply er_divmod); all_goals walk_at "ev"))
local macro_rules | `(tactic| walk_at "side") => `(tactic| exact cshl_ok (by omega) (by omega))
local macro_rules | `(tactic| walk_at "ev") => `(tactic| first
  | focus ((with_reducible apply er_wide); all_goals walk_at "ev")
  | focus ((with_reducible apply er_high); all_goals walk_at "ev")
  | focus ((with_reducible apply er_meth1); all_goals walk_at "ev")
  | focus ((with_reducible apply er_meth2); all_goals walk_at "ev")
  | focus ((with_reducible apply er_meth3); all_goals walk_at "ev"))
local macro_rules | `(tactic| walk_at "side") => `(tactic| (focus (decide +kernel)))
/-- what is asked of a span -/
def SpanP (st : Si20.St) (l : List Int) : Prop := l.length = 20 ∧ (∀ z ∈ l, -(2 ^ 31) ≤ z ∧ z < 2 ^ 31) ∧ 0 ≤ gI l 2 ∧ gI l 2 ≤ 1024 ∧ (gI l 19 < 0 ∨ gI l 19 < 8 ∧ (st.texture (gI l 19)).isSome = true)
def HowP (how : Nat) : Prop := how ≤ 127 ∧ how / 8 % 4 ≠ 3
section
variable (K : PySem.W.Frag)
abbrev sp_draw_place : Sp := spM K (fun tg H us (x : Nat × List Int × Nat) => ∃ v, us = [.int (x.1 : Int), v, .int (x.2.2 : Int)] ∧ RIu (Un_ tg) H v x.2.1) (fun st x => HowP x.1 ∧ SpanP st x.2.1 ∧ x.2.2 ≤ 1024 ∧ OnP st (gI x.2.1 1 + (x.2.2 : Int)) (gI x.2.1 0)) fun st x => Si20.drawPlace x.1 (Si20.spanOf x.2.1) st x.2.2
abbrev sp_draw_span : Sp := spM K (fun tg H us (x : Nat × List Int) => ∃ v, us = [.int (x.1 : Int), v] ∧ RIu (Un_ tg) H v x.2) (fun st x => HowP x.1 ∧ SpanP st x.2) fun st x => Si20.drawSpan x.1 st (Si20.spanOf x.2)
end
/-- draw_place: 0 drawer, 1 how, 2 span, 3 place, 4 x, 5 depth, 6 pixel, 7 texel -/
def t_draw_place (K : PySem.W.Frag) : TS :=
  (tSeq (tAsg (tOp rAddI (tOp (rIxL K) (tVar 2) (tC (.int (1)))) (tVar 3)) (gName 4))
    (tSeq (tAsg (tCall sp_upper_of [] E0 (tCons (tVar 2) (tCons (tC (.int (3))) (tCons (tVar 3) tNil)))) (gName 5))
    (tSeq (tIfS (tNot (tB (tCall sp_is_near_enough [] E0 (tCons (tVar 1) (tCons (tVar 5) (tCons (tMeth (He.ga K "Drawer") "depth_at" (sp_D_depth_at K) [] E0 (tVar 0) (tCons (tVar 4) (tCons (tOp (rIxL K) (tVar 2) (tC (.int (0)))) tNil))) tNil)))))) tRetN tNext)
    (tSeq (tAsg (tCall sp_colour_at [] E0 (tCons (tVar 2) (tCons (tVar 3) tNil))) (gName 6))
    (tSeq (tIfS (tTest (tOp rGeI (tOp (rIxL K) (tVar 2) (tC (.int (19)))) (tC (.int 0)))) (tSeq (tAsg (tMeth (He.ga K "Drawer") "texel" (sp_D_texel K) [] E0 (tVar 0) (tCons (tOp (rIxL K) (tVar 2) (tC (.int (19)))) (tCons (tCall sp_upper_of [] E0 (tCons (tVar 2) (tCons (tC (.int (5))) (tCons (tVar 3) tNil)))) (tCons (tCall sp_upper_of [] E0 (tCons (tVar 2) (tCons (tC (.int (7))) (tCons (tVar 3) tNil)))) tNil)))) (gName 7))
    (tSeq (tIfS (tAnd (tTest (tOp rEq (tOp rModI (tOp rDivI (tVar 1) (tC (.int (64)))) (tC (.int 2))) (tC (.int 1)))) (tTest (tOp rEq (tOp (rIxL K) (tVar 7) (tC (.int (3)))) (tC (.int 0))))) tRetN tNext)
    (tAsg (tCall sp_both_times [] E0 (tCons (tVar 7) (tCons (tVar 6) tNil))) (gName 6)))) tNext)
    (tSeq (tAsg (tCall sp_fogged [] E0 (tCons (tVar 6) (tCons (tCall sp_byte_of [] E0 (tCons (tOp (rIxL K) (tVar 2) (tC (.int (17)))) (tCons (tOp (rIxL K) (tVar 2) (tOp rAddI (tC (.int (17))) (tC (.int 1)))) (tCons (tVar 3) tNil)))) (tCons (tFld K (tVar 0) "fog") tNil)))) (gName 6))
    (tSeq (tDrop (tMeth (He.ga K "Drawer") "lay" (sp_D_lay K) [] E0 (tVar 0) (tCons (tOp rModI (tVar 1) (tC (.int 8))) (tCons (tVar 4) (tCons (tOp (rIxL K) (tVar 2) (tC (.int (0)))) (tCons (tVar 6) tNil))))))
    (tIfS (tTest (tOp rEq (tOp rModI (tOp rDivI (tVar 1) (tC (.int (32)))) (tC (.int 2))) (tC (.int 1)))) (tDrop (tMeth (He.ga K "Drawer") "keep_depth" (sp_D_keep_depth K) [] E0 (tVar 0) (tCons (tVar 4) (tCons (tOp (rIxL K) (tVar 2) (tC (.int (0)))) (tCons (tVar 5) tNil))))) tNext))))))))
/-- draw_span: 0 drawer, 1 how, 2 span, 3 place -/
def t_draw_span (K : PySem.W.Frag) : TS :=
  (tIfS (tTest (tChain rLeI rLtI (tC (.int 0)) (tOp (rIxL K) (tVar 2) (tC (.int (0)))) (tFld K (tVar 0) "high"))) (tFor (iList K (tMeth (He.ga K "Drawer") "columns" (sp_D_columns K) [] E0 (tVar 0) (tCons (tOp (rIxL K) (tVar 2) (tC (.int (1)))) (tCons (tOp (rIxL K) (tVar 2) (tC (.int (2)))) tNil)))) (gName 3) (tDrop (tCall (sp_draw_place K) [] E0 (tCons (tVar 0) (tCons (tVar 1) (tCons (tVar 2) (tCons (tVar 3) tNil))))))) tNext)
section
variable {P : Program} {w : World} {K : PySem.W.Frag} {mg : Str → Option Value} {base : Heap}
theorem len_draw_place : ∀ vs H Q E, sp_draw_place K vs H Q E → vs.length = 4 := by
  rintro vs H Q E ⟨_, _, _, _, _, _, _, rfl, _, _, ⟨_, rfl, _⟩, _⟩
  rfl
theorem len_draw_span : ∀ vs H Q E, sp_draw_span K vs H Q E → vs.length = 3 := by
  rintro vs H Q E ⟨_, _, _, _, _, _, _, rfl, _, _, ⟨_, rfl, _⟩, _⟩
  rfl
/-- a call that changes the drawer -/
theorem s_mutC {tg : Tags} {d : Nat} {H H0 : Hp} {a : Addr} {s : L2.St} {st : Si20.St} {b : Type} {A : Tags → Hp → List V → b → Prop} {pre : Si20.St → b → Prop} {f : Si20.St → b → Si20.St} {x : b} {i : Nat} {E : XK} {D : Ends} {tr : TA}
    (y : At K a d tg H0 H st) (hv : s[i]? = some (some (.ref a))) (ha : ∀ tg1, Stp d tg H0 tg1 H → TagOk tg1 H → EvRs tr s H fun H' us => A tg1 H' us x) (hp : pre st x) (k : ∀ H2, At K a d tg H0 H2 (f st x) → D.nx s H2) :
    tDrop (tCall (spM K A pre f) [] E (tCons (tVar i) tr)) D s H := by
  obtain ⟨tg1, D1, y1, y2, y3⟩ := y
  exact ⟨.ref a, hv, ha tg1 y1 y2 H (Ex.refl H) _ fun us H1 e1 p => ⟨a, us, tg1, d, D1, st, x, by rw [List.append_nil], y2.mono e1, y3.mono e1, p, hp, fun H2 y4 => k H2 (At.trans (y1.trans (Stp.ofEx e1)) y4)⟩⟩
theorem byteOf_le (z : Int) : Si20.byteOf z ≤ 255 := by
  unfold Si20.byteOf
  split <;> omega
theorem colour_ok (l : List Int) (j : Nat) : ((Si20.spanOf l).colour j).Ok := by
  have h : ∀ z, Si20.byteOf z < 256 := fun z => Nat.lt_succ_of_le (byteOf_le z)
  exact ⟨h _, h _, h _, h _⟩
/-- the pixel of a place -/
theorem pixel_none (st : Si20.St) (l : List Int) (o : Bool) (j : Nat) (h : gI l 19 < 0) : Si20.Span.pixel st (Si20.spanOf l) o j = some (Si20.fogged (Si20.byteOf (gI l 17 + (j : Int) * gI l 18)) st.fog ((Si20.spanOf l).colour j)) := by
  unfold Si20.Span.pixel
  rw [if_pos (show (Si20.spanOf l).t < 0 from h)]
  rfl
theorem pixel_some (st : Si20.St) (l : List Int) (o : Bool) (j : Nat) (t : Array Px) (h : ¬ gI l 19 < 0) (ht : st.texture (gI l 19) = some t) : Si20.Span.pixel st (Si20.spanOf l) o j = if o = true ∧ (Si20.texel t (Si20.upper (gI l 5 + (j : Int) * gI l 6)) (Si20.upper (gI l 7 + (j : Int) * gI l 8))).a = 0 then none else some (Si20.fogged (Si20.byteOf (gI l 17 + (j : Int) * gI l 18)) st.fog ((Si20.texel t (Si20.upper (gI l 5 + (j : Int) * gI l 6)) (Si20.upper (gI l 7 + (j : Int) * gI l 8))).zip Si20.times ((Si20.spanOf l).colour j))) := by
  unfold Si20.Span.pixel
  rw [if_neg (show ¬ (Si20.spanOf l).t < 0 from h), show st.texture (Si20.spanOf l).t = some t from ht]
  rfl
/-- what a drawn place leaves -/
def laidAt (how : Nat) (l : List Int) (st : Si20.St) (j : Nat) (q : Px) : Si20.St := if how / 32 % 2 = 1 then { st.lay (ixP st (gI l 1 + (j : Int)) (gI l 0)) (how % 8) q with depths := st.depths.setIfInBounds (ixP st (gI l 1 + (j : Int)) (gI l 0)) (Si20.upper (gI l 3 + (j : Int) * gI l 4)) } else st.lay (ixP st (gI l 1 + (j : Int)) (gI l 0)) (how % 8) q
theorem place_off (how : Nat) (l : List Int) (st : Si20.St) (j : Nat) (on : OnP st (gI l 1 + (j : Int)) (gI l 0)) (h : Si20.passes (how / 8 % 4) (Si20.upper (gI l 3 + (j : Int) * gI l 4)) (st.depths.getD (ixP st (gI l 1 + (j : Int)) (gI l 0)) 0) = false) : Si20.drawPlace how (Si20.spanOf l) st j = st := by
  unfold Si20.drawPlace
  rw [show st.at_ ((Si20.spanOf l).x + (j : Int)) (Si20.spanOf l).y = some (ixP st (gI l 1 + (j : Int)) (gI l 0)) from at_on on]
  simp only
  cases Si20.Span.pixel st (Si20.spanOf l) (how / 64 % 2 == 1) j with
  | none => rfl
  | some q =>
    simp only
    rw [show Si20.passes (how / 8 % 4) ((Si20.spanOf l).depth j) (st.depths.getD (ixP st (gI l 1 + (j : Int)) (gI l 0)) 0) = false from h]
    rfl
theorem place_none (how : Nat) (l : List Int) (st : Si20.St) (j : Nat) (on : OnP st (gI l 1 + (j : Int)) (gI l 0)) (h : Si20.Span.pixel st (Si20.spanOf l) (how / 64 % 2 == 1) j = none) : Si20.drawPlace how (Si20.spanOf l) st j = st := by
  unfold Si20.drawPlace
  rw [show st.at_ ((Si20.spanOf l).x + (j : Int)) (Si20.spanOf l).y = some (ixP st (gI l 1 + (j : Int)) (gI l 0)) from at_on on]
  simp only
  rw [h]
theorem place_on (how : Nat) (l : List Int) (st : Si20.St) (j : Nat) (q : Px) (on : OnP st (gI l 1 + (j : Int)) (gI l 0)) (h : Si20.passes (how / 8 % 4) (Si20.upper (gI l 3 + (j : Int) * gI l 4)) (st.depths.getD (ixP st (gI l 1 + (j : Int)) (gI l 0)) 0) = true) (hq : Si20.Span.pixel st (Si20.spanOf l) (how / 64 % 2 == 1) j = some q) : Si20.drawPlace how (Si20.spanOf l) st j = laidAt how l st j q := by
  unfold Si20.drawPlace
  rw [show st.at_ ((Si20.spanOf l).x + (j : Int)) (Si20.spanOf l).y = some (ixP st (gI l 1 + (j : Int)) (gI l 0)) from at_on on]
  simp only
  rw [hq]
  simp only
  rw [if_pos (show Si20.passes (how / 8 % 4) ((Si20.spanOf l).depth j) (st.depths.getD (ixP st (gI l 1 + (j : Int)) (gI l 0)) 0) = true from h)]
  rfl
theorem texI_nat (st : Si20.St) (k : Int) (t : Array Px) (u v : Nat) (h : st.texture k = some t) : texI st k (u : Int) (v : Int) = Si20.texel t u v := by
  unfold texI Si20.texel
  rw [h, Option.getD_some, show ((v : Int) % 64).toNat % 64 = v % 64 by omega, show ((u : Int) % 64).toNat % 64 = u % 64 by omega]
end
end Sd
end

section
set_option Elab.async false
set_option linter.all false
set_option maxRecDepth 100000
set_option maxHeartbeats 400000
/-! ## 23. spans.py: walks -/
namespace Sd
open PySem PySem.Spec PyProof.Rows L2 Evl
open Si20 (Px)
local macro_rules | `(tactic| walk_at "ev") => `(tactic| first
  | with_reducible exact er_cI
  | focus ((with_reducible apply er_varI); with_unfolding_all rfl)
  | focus ((with_reducible apply er_var); all_goals first | with_unfolding_all rfl | assumption)
  | focus ((with_reducible apply er_op0); all_goals walk_at "ev")
  | focus ((with_reducible apply er_op); all_goals walk_at "ev")
  | focus ((with_reducible apply er_neg); all_goals walk_at "ev")
  | focus ((with_reducible apply er_max); all_goals walk_at "ev")
  | focus ((with_reducible apply er_min); all_goals walk_at "ev")
  | focus ((with_reducible apply er_abs); all_goals walk_at "ev")
  | focus ((with_reducible apply er_intB); all_goals walk_at "ev")
  | focus ((with_reducible apply er_bits); all_goals walk_at "ev")
  | focus ((with_reducible apply er_ixD); all_goals walk_at "ev")
  | focus ((with_reducible apply er_call1); all_goals walk_at "ev")
  | focus ((with_reducible apply er_call2); all_goals walk_at "ev")
  | focus ((with_reducible apply er_call3); all_goals walk_at "ev")
  | focus ((with_reducible apply er_call4); all_goals walk_at "ev")
  | focus ((with_reducible apply er_eq); all_goals walk_at "ev")
  | focus ((with_reducible apply er_ne); all_goals walk_at "ev")
  | focus ((with_reducible apply er_cmp); all_goals walk_at "ev")
  | focus ((with_reducible apply er_chain); all_goals walk_at "ev")
  | focus ((with_reducible apply er_andU); all_goals walk_at "ev")
  | focus ((with_reducible apply er_orU); all_goals walk_at "ev")
  | focus ((with_reducible apply et_t); all_goals walk_at "ev")
  | focus ((with_reducible apply et_b); all_goals walk_at "ev")
  | focus ((with_reducible apply et_andU); all_goals walk_at "ev")
  | focus ((with_reducible apply et_orU); all_goals walk_at "ev")
  | focus ((with_reducible apply Evl.et_not); all_goals walk_at "ev")
  | walk_at "side")
local macro_rules | `(tactic| walk_at "evr") => `(tactic| (refine er_is (by walk_at "ev") (by with_unfolding_all rfl)))
local macro_rules | `(tactic| walk_at "side") => `(tactic| first
  | assumption
  | exact True.intro
  | exact cdiv_ok (by decide) (by decide)
  | exact cmul_l (by omega) (by omega)
  | exact cmul_r (by omega) (by omega)
  | omega
  | decide
  | (dsimp only; done)
  | (dsimp only; first | assumption | omega | decide)
  | (constructor <;> assumption))
local macro_rules | `(tactic| walk_at "ev") => `(tactic| first
  | focus ((with_reducible apply er_s0); all_goals walk_at "ev")
  | focus ((with_reducible apply er_s1); all_goals walk_at "ev")
  | focus ((with_reducible apply er_s2); all_goals walk_at "ev")
  | focus ((with_reducible apply er_tupS); all_goals walk_at "ev")
  | focus ((with_reducible apply er_tupI2); all_goals walk_at "ev")
  | focus ((with_reducible apply er_divmod); all_goals walk_at "ev"))
local macro_rules | `(tactic| walk_at "side") => `(tactic| exact cshl_ok (by omega) (by omega))
local macro_rules | `(tactic| walk_at "ev") => `(tactic| first
  | focus ((with_reducible apply er_wide); all_goals walk_at "ev")
  | focus ((with_reducible apply er_high); all_goals walk_at "ev")
  | focus ((with_reducible apply er_meth1); all_goals walk_at "ev")
  | focus ((with_reducible apply er_meth2); all_goals walk_at "ev")
  | focus ((with_reducible apply er_meth3); all_goals walk_at "ev"))
local macro_rules | `(tactic| walk_at "side") => `(tactic| (focus (decide +kernel)))
section
variable {P : Program} {w : World} {K : PySem.W.Frag} {mg : Str → Option Value} {base : Heap}
theorem er_at {s : L2.St} {H : Hp} {i : Nat} {c : Int} {v : V} {l : List Int} (n : Nat) (hc : c = (n : Int)) (hv : s[i]? = some (some v)) (r : RIL H v l) (hn : n < l.length) : EvR RI (tOp (rIxL K) (tVar i) (tC (.int c))) s H (gI l n) :=
  er_is (er_ixD (er_var hv r) er_cI (by omega) (by omega)) (by rw [hc, Int.toNat_natCast])
theorem er_upper {s : L2.St} {H : Hp} {i j : Nat} {c : Int} {v : V} {l : List Int} {n : Nat} (m : Nat) (hc : c = (m : Int)) (hv : s[i]? = some (some v)) (hj : s[j]? = some (some (.int (n : Int)))) (r : RIL H v l) (hn : m + 1 < l.length) (hm : n ≤ 2000) : EvR RI (tCall sp_upper_of [] E0 (tCons (tVar i) (tCons (tC (.int c)) (tCons (tVar j) tNil)))) s H ((Si20.upper (gI l m + (n : Int) * gI l (m + 1)) : Nat) : Int) :=
  er_is (er_call3 (er_var hv r) er_cI (er_varI hj) ⟨by omega, by omega, by omega, by omega⟩) (by rw [hc, Int.toNat_natCast])
theorem passes_int (how d t : Nat) : Si20.passes ((how : Int).toNat / 8 % 4) (d : Int).toNat (t : Int).toNat = Si20.passes (how / 8 % 4) d t := rfl
theorem s_ret0 {D : Ends} {s : L2.St} {H : Hp} (h : D.rt .non H) : tRetN D s H := h
theorem pure_draw_place (T : Tx K mg) (vs : List V) (H : Hp) (Q : VK) (E : XK) (h : sp_draw_place K vs H Q E) : t_draw_place K { nx := fun _ H' => Q .non H', rt := Q } (start ["drawer", "how", "span", "place", "x", "depth", "pixel", "texel"] vs) H := by
  obtain ⟨a, us, tg, d, D, st, ⟨how, l, j⟩, rfl, tk, dr, ⟨v, rfl, rl⟩, ⟨⟨hw1, hw2⟩, sp, hj, on⟩, k⟩ := h
  simp only at rl hw1 hw2 sp hj on k
  show t_draw_place K { nx := fun _ H' => Q .non H', rt := Q } [some (.ref a), some (.int (how : Int)), some v, some (.int (j : Int)), none, none, none, none] H
  obtain ⟨hl, hb, hn0, hn1, htx⟩ := sp
  have r : RD K (dC K) H (.ref a) st := ⟨tg, d, a, D, rfl, dr⟩
  have wf := r.wf
  have rl0 := rl.ril
  have at0 := At.start tk dr
  -- x, depth
  refine qr_asgI (n := gI l 1 + (j : Int)) (er_op0 (er_at 1 rfl rfl rl0 (by omega)) (er_varI rfl)) fun H1 e1 => ?_
  have rl1 := mo e1 rl0
  refine qr_asgI (er_upper 3 rfl rfl rfl rl1 (by omega) (by omega)) fun H2 e2 => ?_
  have e02 := e1.trans e2
  have rl2 := mo e02 rl0
  have r2 := mo e02 r
  generalize hz : Si20.upper (gI l 3 + (j : Int) * gI l (3 + 1)) = z
  -- the test of depths
  have evd : EvR RB (tCall sp_is_near_enough [] E0 (tCons (tVar 1) (tCons (tVar 5) (tCons (tMeth (dC K) "depth_at" (sp_D_depth_at K) [] E0 (tVar 0) (tCons (tVar 4) (tCons (tOp (rIxL K) (tVar 2) (tC (.int (0)))) tNil))) tNil)))) [some (.ref a), some (.int (how : Int)), some v, some (.int (j : Int)), some (.int (gI l 1 + (j : Int))), some (.int (z : Int)), none, none] H2 (Si20.passes (how / 8 % 4) z (st.depths.getD (ixP st (gI l 1 + (j : Int)) (gI l 0)) 0)) :=
    er_is (er_call3 (er_varI rfl) (er_varI rfl) (er_meth2 (by decide +kernel) (er_var rfl r2) (er_varI rfl) (er_at 0 rfl rfl rl2 (by omega)) on) ⟨by omega, by omega, by omega, by omega⟩) (passes_int _ _ _)
  refine q_when (Evl.et_not (et_b evd)) (fun b H3 e3 => ?_) fun b H3 e3 => ?_
  · refine s_ret0 (k H3 ?_)
    rw [place_off how l st j on (by rw [show Si20.upper (gI l 3 + (j : Int) * gI l 4) = z from hz]; cases h : Si20.passes (how / 8 % 4) z (st.depths.getD (ixP st (gI l 1 + (j : Int)) (gI l 0)) 0) with | false => rfl | true => rw [h] at b; cases b)]
    exact at0.ex (e02.trans e3)
  have ps : Si20.passes (how / 8 % 4) (Si20.upper (gI l 3 + (j : Int) * gI l 4)) (st.depths.getD (ixP st (gI l 1 + (j : Int)) (gI l 0)) 0) = true := by
    rw [show Si20.upper (gI l 3 + (j : Int) * gI l 4) = z from hz]
    cases h : Si20.passes (how / 8 % 4) z (st.depths.getD (ixP st (gI l 1 + (j : Int)) (gI l 0)) 0) with
    | true => rfl
    | false => rw [h] at b; cases b
  have e03 := e02.trans e3
  have rl3 := mo e03 rl0
  -- the colour
  refine q_asgL (el_call2 (er_var rfl rl3) (er_varI rfl) ⟨hl, by omega, by omega⟩) fun pc H4 hpc e4 h4 => ?_
  rw [show ((j : Int)).toNat = j from rfl] at h4
  have e04 := e03.trans e4
  have rl4 := mo e04 rl0
  have r4 := mo e04 r
  -- the end, for any pixel
  have fin : ∀ (vp : V) (o7 : Option V) (q : Px) (H5 : Hp), Ex H H5 → RIL H5 vp (pxI q) → q.Ok → Si20.Span.pixel st (Si20.spanOf l) (how / 64 % 2 == 1) j = some (Si20.fogged (Si20.byteOf (gI l 17 + (j : Int) * gI l 18)) st.fog q) →
      tSeq (tAsg (tCall sp_fogged [] E0 (tCons (tVar 6) (tCons (tCall sp_byte_of [] E0 (tCons (tOp (rIxL K) (tVar 2) (tC (.int (17)))) (tCons (tOp (rIxL K) (tVar 2) (tOp rAddI (tC (.int (17))) (tC (.int 1)))) (tCons (tVar 3) tNil)))) (tCons (tFld K (tVar 0) "fog") tNil)))) (gName 6))
        (tSeq (tDrop (tMeth (dC K) "lay" (sp_D_lay K) [] E0 (tVar 0) (tCons (tOp rModI (tVar 1) (tC (.int 8))) (tCons (tVar 4) (tCons (tOp (rIxL K) (tVar 2) (tC (.int (0)))) (tCons (tVar 6) tNil))))))
        (tIfS (tTest (tOp rEq (tOp rModI (tOp rDivI (tVar 1) (tC (.int (32)))) (tC (.int 2))) (tC (.int 1)))) (tDrop (tMeth (dC K) "keep_depth" (sp_D_keep_depth K) [] E0 (tVar 0) (tCons (tVar 4) (tCons (tOp (rIxL K) (tVar 2) (tC (.int (0)))) (tCons (tVar 5) tNil))))) tNext)) { nx := fun _ H' => Q .non H', rt := Q } [some (.ref a), some (.int (how : Int)), some v, some (.int (j : Int)), some (.int (gI l 1 + (j : Int))), some (.int (z : Int)), some vp, o7] H5 := by
    intro vp o7 q H5 e5 rq qok hpx
    have rl5 := mo e5 rl0
    have r5 := mo e5 r
    have bl := byteOf_le (gI l 17 + (j : Int) * gI l 18)
    have ev : EvL (tCall sp_fogged [] E0 (tCons (tVar 6) (tCons (tCall sp_byte_of [] E0 (tCons (tOp (rIxL K) (tVar 2) (tC (.int (17)))) (tCons (tOp (rIxL K) (tVar 2) (tOp rAddI (tC (.int (17))) (tC (.int 1)))) (tCons (tVar 3) tNil)))) (tCons (tFld K (tVar 0) "fog") tNil)))) [some (.ref a), some (.int (how : Int)), some v, some (.int (j : Int)), some (.int (gI l 1 + (j : Int))), some (.int (z : Int)), some vp, o7] H5 (vI (foggedM (pxI q) ((Si20.byteOf (gI l 17 + (j : Int) * gI l 18) : Nat) : Int) (pxI st.fog))) :=
      el_call3 (er_var rfl rq) (er_call3 (er_at 17 rfl rfl rl5 (by omega)) (er_is (er_ixD (n := 17 + 1) (er_var rfl rl5) (er_op0 er_cI er_cI) (by omega) (by omega)) (show _ = gI l 18 from rfl)) (er_varI rfl) ⟨by omega, by omega⟩) (er_fog T (er_var rfl r5)) ⟨rfl, ⟨by omega, by omega⟩, rfl⟩
    rw [fogged_eq _ _ _ bl] at ev
    generalize hqf : Si20.fogged (Si20.byteOf (gI l 17 + (j : Int) * gI l 18)) st.fog q = qf at ev hpx
    have qfok : qf.Ok := by rw [← hqf]; exact fogged_ok _ _ _ qok
    refine q_asgL ev fun pf H6 hpf e6 h6 => ?_
    have e06 := e5.trans e6
    have rl6 := mo e06 rl0
    have rqf : RIL H6 (.ref pf) (pxI qf) := ⟨pf, rfl, h6⟩
    rw [place_on how l st j qf on ps hpx] at k
    refine s_mut (x := ((how : Int) % 8, gI l 1 + (j : Int), gI l 0, qf)) (D := { nx := _, rt := _ }) (at0.ex e06) rfl (by decide +kernel) (fun tg4 _ _ => ers_lay (tg := tg4) (er_op (er_varI rfl) er_cI (by decide)) (er_varI rfl) (er_at 0 rfl rfl rl6 (by omega)) (er_var rfl rqf)) ⟨on, by show (0 : Int) ≤ (how : Int) % 8; omega, by show (how : Int) % 8 ≤ 7; omega, qfok⟩ fun H7 at7 => ?_
    have at7 : At K a d tg H H7 (st.lay (ixP st (gI l 1 + (j : Int)) (gI l 0)) (how % 8) qf) := by
      have : ((how : Int) % 8).toNat = how % 8 := by omega
      rw [← this]
      exact at7
    have rl7 := at7.riu rl
    have r7 := at7.rd
    unfold laidAt at k
    refine s_if (b := decide ((how : Int) / 32 % 2 = 1)) (et_t (er_eq (er_op (er_op (er_varI rfl) er_cI (cdiv_ok (by decide) (by decide))) er_cI (by decide)) er_cI)) (fun b H8 e8 => ?_) fun b H8 e8 => ?_
    · have hb : how / 32 % 2 = 1 := by have := of_decide_eq_true b; omega
      rw [if_pos hb] at k
      have rl8 := mo e8 rl7
      refine s_mut (x := (gI l 1 + (j : Int), gI l 0, z)) (D := { nx := _, rt := _ }) (at7.ex e8) rfl (by decide +kernel) (fun tg4 _ _ H9 e9 Q' q' => ?_) on fun H9 at9 => ?_
      · refine ⟨_, rfl, er_at (K := K) (i := 2) 0 rfl rfl rl8 (by omega) H9 e9 _ fun w H10 e10 r10 => ⟨_, rfl, q' _ H10 e10 ?_⟩⟩
        rw [r10]
      · refine k H9 ?_
        rw [show Si20.upper (gI l 3 + (j : Int) * gI l 4) = z from hz]
        exact at9
    · have hb : ¬ how / 32 % 2 = 1 := by have := of_decide_eq_false b; omega
      rw [if_neg hb] at k
      exact k H8 (at7.ex e8)
  -- the texture
  by_cases ht : gI l 19 < 0
  · refine q_when (b := decide (0 ≤ gI l 19)) (et_t (er_cmp (er_at 19 rfl rfl rl4 (by omega)) er_cI)) (fun b => absurd (of_decide_eq_true b) (by omega)) fun _ H5 e5 => ?_
    exact fin (.ref pc) none _ H5 (e04.trans e5) ⟨pc, rfl, e5 _ _ h4⟩ (colour_ok l j) (pixel_none st l _ j ht)
  · have ht0 : 0 ≤ gI l 19 := by omega
    obtain ⟨h8, hs⟩ := htx.resolve_left ht
    refine q_when (b := decide (0 ≤ gI l 19)) (et_t (er_cmp (er_at 19 rfl rfl rl4 (by omega)) er_cI)) (fun _ H5 e5 => ?_) fun b => absurd (of_decide_eq_false b) (by omega)
    cases hte : st.texture (gI l 19) with
    | none => rw [hte] at hs; cases hs
    | some t =>
      have rl5 := mo e5 rl4
      have r5 := mo e5 r4
      have evt : EvR RIL (tMeth (dC K) "texel" (sp_D_texel K) [] E0 (tVar 0) (tCons (tOp (rIxL K) (tVar 2) (tC (.int (19)))) (tCons (tCall sp_upper_of [] E0 (tCons (tVar 2) (tCons (tC (.int (5))) (tCons (tVar 3) tNil)))) (tCons (tCall sp_upper_of [] E0 (tCons (tVar 2) (tCons (tC (.int (7))) (tCons (tVar 3) tNil)))) tNil)))) [some (.ref a), some (.int (how : Int)), some v, some (.int (j : Int)), some (.int (gI l 1 + (j : Int))), some (.int (z : Int)), some (.ref pc), none] H5 (pxI (Si20.texel t (Si20.upper (gI l 5 + (j : Int) * gI l 6)) (Si20.upper (gI l 7 + (j : Int) * gI l 8)))) :=
        er_is (er_meth3 (by decide +kernel) (er_var rfl r5) (er_at 19 rfl rfl rl5 (by omega)) (er_upper 5 rfl rfl rfl rl5 (by omega) (by omega)) (er_upper 7 rfl rfl rfl rl5 (by omega) (by omega)) ⟨ht0, h8, hs⟩) (by show pxI (texI st _ _ _) = _; rw [texI_nat st _ t _ _ hte])
      have px := pixel_some st l (how / 64 % 2 == 1) j t ht hte
      have tok : (Si20.texel t (Si20.upper (gI l 5 + (j : Int) * gI l 6)) (Si20.upper (gI l 7 + (j : Int) * gI l 8))).Ok := getD_ok (wf.ts t (tx_mem hte)).2 _
      generalize Si20.texel t (Si20.upper (gI l 5 + (j : Int) * gI l 6)) (Si20.upper (gI l 7 + (j : Int) * gI l 8)) = te at evt px tok
      refine qr_asg evt fun vt H6 e6 r6 => ?_
      have e06 := (e04.trans e5).trans e6
      have ev3 : EvR RI (tOp (rIxL K) (tVar 7) (tC (.int (3)))) [some (.ref a), some (.int (how : Int)), some v, some (.int (j : Int)), some (.int (gI l 1 + (j : Int))), some (.int (z : Int)), some (.ref pc), some vt] H6 (te.a : Int) := er_at 3 rfl rfl r6 (by rw [pxI_len]; decide)
      refine q_when (b := decide ((how : Int) / 64 % 2 = 1) && decide ((te.a : Int) = 0)) (et_andU (et_t (er_eq (er_op (er_op (er_varI rfl) er_cI (cdiv_ok (by decide) (by decide))) er_cI (by decide)) er_cI)) (et_t (er_eq ev3 er_cI))) (fun b H7 e7 => ?_) fun b H7 e7 => ?_
      · refine s_ret0 (k H7 ?_)
        rw [Bool.and_eq_true] at b
        have b1 := of_decide_eq_true b.1
        have b2 := of_decide_eq_true b.2
        have o1 : (how / 64 % 2 == 1) = true := by rw [beq_iff_eq]; omega
        rw [if_pos ⟨o1, by omega⟩] at px
        rw [place_none how l st j on px]
        exact at0.ex (e06.trans e7)
      · have nb : ¬ ((how / 64 % 2 == 1) = true ∧ te.a = 0) := fun ⟨o1, o2⟩ => by
          rw [beq_iff_eq] at o1
          rw [decide_eq_true (show (how : Int) / 64 % 2 = 1 by omega), decide_eq_true (show (te.a : Int) = 0 by omega)] at b
          cases b
        rw [if_neg nb] at px
        have r7 := mo e7 r6
        have h4' : RIL H7 (.ref pc) (pxI ((Si20.spanOf l).colour j)) := ⟨pc, rfl, e7 _ _ (e6 _ _ (e5 _ _ h4))⟩
        have evb : EvL (tCall sp_both_times [] E0 (tCons (tVar 7) (tCons (tVar 6) tNil))) [some (.ref a), some (.int (how : Int)), some v, some (.int (j : Int)), some (.int (gI l 1 + (j : Int))), some (.int (z : Int)), some (.ref pc), some vt] H7 (vI (bothM (pxI te) (pxI ((Si20.spanOf l).colour j)))) := el_call2 (er_var rfl r7) (er_var rfl h4') ⟨isP te tok, rfl⟩
        rw [both_eq] at evb
        refine s_asgL evb fun pb H8 hpb e8 h8' => ?_
        exact fin (.ref pb) _ _ H8 ((e06.trans e7).trans e8) ⟨pb, rfl, h8'⟩ (zip_ok (fun a b h1 h2 => times_lt h1 h2) tok (colour_ok l j)) px
theorem ok_draw_place (T : Tx K mg) (G_D_depth_at : GM P w K mg base (He.ga K "Drawer") "depth_at" 2 ["self", "x", "y"] (sp_D_depth_at K)) (G_D_keep_depth : GM P w K mg base (He.ga K "Drawer") "keep_depth" 2 ["self", "x", "y", "depth"] (sp_D_keep_depth K)) (G_D_lay : GM P w K mg base (He.ga K "Drawer") "lay" 4 ["self", "how", "x", "y", "pixel"] (sp_D_lay K)) (G_D_texel : GM P w K mg base (He.ga K "Drawer") "texel" 1 ["self", "k", "u", "v"] (sp_D_texel K)) (G_both_times : GF P w K mg base "both_times" 2 ["s", "d"] sp_both_times) (G_byte_of : GF P w K mg base "byte_of" 2 ["number", "step", "place"] sp_byte_of) (G_colour_at : GF P w K mg base "colour_at" 3 ["span", "place"] sp_colour_at) (G_fogged : GF P w K mg base "fogged" 2 ["pixel", "much", "colour"] sp_fogged) (G_is_near_enough : GF P w K mg base "is_near_enough" 1 ["how", "depth", "there"] sp_is_near_enough) (G_upper_of : GF P w K mg base "upper_of" 1 ["span", "at", "place"] sp_upper_of) : GF P w K mg base "draw_place" 5 ["drawer", "how", "span", "place"] (sp_draw_place K) := by
  refine ⟨fn_keep (k := 4) (tt := (t_draw_place K)) T.d_draw_place sc_draw_place len_draw_place (fun _ _ _ _ _ _ us hl => match us, hl with | [_, _, _, _], _ => rfl) (fun cdv A outer s H E hr => ?_) (pure_draw_place T), T.d_draw_place.kp, T.g_draw_place⟩
  exact (pss_cons (ps_set (i := 4) sc_draw_place.nd rfl (.inl rfl) (pe_op op_add (pe_ix ix_list (pv 2) (pe_gi rfl T.i_X) (fun _ _ => rfl)) (pv 3)))
    (pss_cons (ps_set (i := 5) sc_draw_place.nd rfl (.inl rfl) (pe_gf G_upper_of (hr.mono (by decide)) rfl (pa_cons (pv 2) (pa_cons (pe_gi rfl T.i_DEPTH) (pa_cons (pv 3) pa_nil)))))
    (pss_cons (ps_if (pt_not (pt_val (pe_gf G_is_near_enough (hr.mono (by decide)) rfl (pa_cons (pv 1) (pa_cons (pv 5) (pa_cons (pe_gm (pv 0) T.cl G_D_depth_at (hr.mono (by decide)) (pa_cons (pv 4) (pa_cons (pe_ix ix_list (pv 2) (pe_gi rfl T.i_Y) (fun _ _ => rfl)) pa_nil))) pa_nil)))))) (pss_one ps_retN) pss_nil)
    (pss_cons (ps_set (i := 6) sc_draw_place.nd rfl (.inl rfl) (pe_gf G_colour_at (hr.mono (by decide)) rfl (pa_cons (pv 2) (pa_cons (pv 3) pa_nil))))
    (pss_cons (ps_if (pt_cmpR op_ge (pe_ix ix_list (pv 2) (pe_gi rfl T.i_TEXTURE) (fun _ _ => rfl)) pe_int (nomark _)) (pss_cons (ps_set (i := 7) sc_draw_place.nd rfl (.inl rfl) (pe_gm (pv 0) T.cl G_D_texel (hr.mono (by decide)) (pa_cons (pe_ix ix_list (pv 2) (pe_gi rfl T.i_TEXTURE) (fun _ _ => rfl)) (pa_cons (pe_gf G_upper_of (hr.mono (by decide)) rfl (pa_cons (pv 2) (pa_cons (pe_gi rfl T.i_ACROSS) (pa_cons (pv 3) pa_nil)))) (pa_cons (pe_gf G_upper_of (hr.mono (by decide)) rfl (pa_cons (pv 2) (pa_cons (pe_gi rfl T.i_DOWN) (pa_cons (pv 3) pa_nil)))) pa_nil)))))
    (pss_cons (ps_if (PW.pt (pw_and (pt_cmpR op_eq (pe_op op_mod (pe_op op_fdiv (pv 1) (pe_gi rfl T.i_COVERED)) pe_int) pe_int (nomark _)) (pw_and1 (pt_cmpR op_eq (pe_ix ix_list (pv 7) (pe_gi rfl T.i_COVER) (fun _ _ => rfl)) pe_int (nomark _))))) (pss_one ps_retN) pss_nil)
    (pss_one (ps_set (i := 6) sc_draw_place.nd rfl (.inl rfl) (pe_gf G_both_times (hr.mono (by decide)) rfl (pa_cons (pv 7) (pa_cons (pv 6) pa_nil))))))) pss_nil)
    (pss_cons (ps_set (i := 6) sc_draw_place.nd rfl (.inl rfl) (pe_gf G_fogged (hr.mono (by decide)) rfl (pa_cons (pv 6) (pa_cons (pe_gf G_byte_of (hr.mono (by decide)) rfl (pa_cons (pe_ix ix_list (pv 2) (pe_gi rfl T.i_FOG) (fun _ _ => rfl)) (pa_cons (pe_ix ix_list (pv 2) (pe_op op_add (pe_gi rfl T.i_FOG) pe_int) (fun _ _ => rfl)) (pa_cons (pv 3) pa_nil)))) (pa_cons (pe_fld (pv 0) rfl) pa_nil)))))
    (pss_cons (ps_expr (pe_gm (pv 0) T.cl G_D_lay (hr.mono (by decide)) (pa_cons (pe_op op_mod (pv 1) pe_int) (pa_cons (pv 4) (pa_cons (pe_ix ix_list (pv 2) (pe_gi rfl T.i_Y) (fun _ _ => rfl)) (pa_cons (pv 6) pa_nil))))))
    (pss_one (ps_if (pt_cmpR op_eq (pe_op op_mod (pe_op op_fdiv (pv 1) (pe_gi rfl T.i_KEEPS)) pe_int) pe_int (nomark _)) (pss_one (ps_expr (pe_gm (pv 0) T.cl G_D_keep_depth (hr.mono (by decide)) (pa_cons (pv 4) (pa_cons (pe_ix ix_list (pv 2) (pe_gi rfl T.i_Y) (fun _ _ => rfl)) (pa_cons (pv 5) pa_nil)))))) pss_nil)))))))))
theorem place_wh (how : Nat) (p : Si20.Span) (s : Si20.St) (j : Nat) : (Si20.drawPlace how p s j).w = s.w ∧ (Si20.drawPlace how p s j).h = s.h ∧ (Si20.drawPlace how p s j).textures = s.textures := by
  unfold Si20.drawPlace
  split
  · exact ⟨rfl, rfl, rfl⟩
  · split
    · exact ⟨rfl, rfl, rfl⟩
    · split
      · dsimp only
        split <;> exact ⟨rfl, rfl, rfl⟩
      · exact ⟨rfl, rfl, rfl⟩
theorem place_skip (how : Nat) (p : Si20.Span) (s : Si20.St) (j : Nat) (h : ¬ OnP s (p.x + (j : Int)) p.y) : Si20.drawPlace how p s j = s := by
  unfold Si20.drawPlace
  rw [at_off h]
theorem span_eq (how : Nat) (s : Si20.St) (p : Si20.Span) (h0 : 0 ≤ p.n) : Si20.drawSpan how s p = if 0 ≤ p.y ∧ p.y < (s.h : Int) then (colsI s.w p.x p.n).foldl (fun t i => Si20.drawPlace how p t i.toNat) s else s := by
  unfold Si20.drawSpan
  by_cases hy : 0 ≤ p.y ∧ p.y < (s.h : Int)
  · rw [if_pos hy]
    obtain ⟨n, hn⟩ := Int.eq_ofNat_of_zero_le h0
    rw [hn, Int.toNat_natCast, ← skip_cols (fun t i => Si20.drawPlace how p t i.toNat) s.w n p.x s]
    refine (fold_inv (fun (t : Si20.St) => t.w = s.w ∧ t.h = s.h) _ _ _ _ ⟨rfl, rfl⟩ fun t i ⟨tw, th⟩ _ => ?_).1
    by_cases hx : 0 ≤ p.x + (i : Int) ∧ p.x + (i : Int) < (s.w : Int)
    · rw [if_pos hx, Int.toNat_natCast]
      obtain ⟨w1, w2, _⟩ := place_wh how p t i
      exact ⟨rfl, w1.trans tw, w2.trans th⟩
    · rw [if_neg hx]
      exact ⟨place_skip how p t i fun z => hx ⟨z.1, by rw [← tw]; exact z.2.1⟩, tw, th⟩
  · rw [if_neg hy]
    have := (fold_inv (fun (t : Si20.St) => t.h = s.h) (Si20.drawPlace how p) (fun t _ => t) (List.range p.n.toNat) s rfl fun t i th _ => ⟨place_skip how p t i fun z => hy ⟨z.2.2.1, by rw [← th]; exact z.2.2.2⟩, th⟩).1
    rw [this]
    exact fold_skip _ _ _ fun _ _ _ => rfl
theorem pure_draw_span (T : Tx K mg) (vs : List V) (H : Hp) (Q : VK) (E : XK) (h : sp_draw_span K vs H Q E) : t_draw_span K { nx := fun _ H' => Q .non H', rt := Q } (start ["drawer", "how", "span", "place"] vs) H := by
  obtain ⟨a, us, tg, d, D, st, ⟨how, l⟩, rfl, tk, dr, ⟨v, rfl, rl⟩, ⟨hw, sp⟩, k⟩ := h
  simp only at rl hw sp k
  show t_draw_span K { nx := fun _ H' => Q .non H', rt := Q } [some (.ref a), some (.int (how : Int)), some v, none] H
  have sp' := sp
  obtain ⟨hl, hb, hn0, hn1, htx⟩ := sp
  have r : RD K (dC K) H (.ref a) st := ⟨tg, d, a, D, rfl, dr⟩
  have rl0 := rl.ril
  rw [span_eq how st (Si20.spanOf l) hn0] at k
  have hx := hb (gI l 1) (by unfold gI; rw [List.getD_eq_getElem?_getD, List.getElem?_eq_getElem (show 1 < l.length by omega)]; exact List.getElem_mem _)
  refine s_if (b := decide (0 ≤ gI l 0) && decide (gI l 0 < (st.h : Int))) (et_t (er_chain er_cI (er_at 0 rfl rfl rl0 (by omega)) (er_high T (er_var rfl r)))) (fun b H1 e1 => ?_) fun b H1 e1 => ?_
  · rw [Bool.and_eq_true] at b
    have y0 := of_decide_eq_true b.1
    have y1 := of_decide_eq_true b.2
    rw [if_pos (show 0 ≤ (Si20.spanOf l).y ∧ (Si20.spanOf l).y < (st.h : Int) from ⟨y0, y1⟩)] at k
    have rl1 := mo e1 rl0
    have r1 := mo e1 r
    refine s_forM (j := 3) (fun t i => Si20.drawPlace how (Si20.spanOf l) t i.toNat) ((At.start tk dr).ex e1) (el_meth2 (x := gI l 1) (y := gI l 2) (by decide +kernel) (er_var rfl r1) (er_at 1 rfl rfl rl1 (by omega)) (er_at 2 rfl rfl rl1 (by omega)) ⟨by omega, by omega, by omega, by omega⟩) (fun σ => ∃ o, σ = [some (.ref a), some (.int (how : Int)), some v, o]) ⟨none, rfl⟩ ?_ ?_
    · rintro tg1 H2 s1 tk1 n i σ H' st' N hi hst ⟨o, rfl⟩ at' hN
      have im := colsI_mem (List.mem_of_getElem? hi)
      have wh : st'.w = st.w ∧ st'.h = st.h ∧ st'.textures = st.textures := by
        rw [hst]
        exact (fold_inv (fun (t : Si20.St) => t.w = st.w ∧ t.h = st.h ∧ t.textures = st.textures) _ _ _ st ⟨rfl, rfl, rfl⟩ fun t x ⟨h1, h2, h3⟩ _ => by
          obtain ⟨w1, w2, w3⟩ := place_wh how (Si20.spanOf l) t x.toNat
          exact ⟨rfl, w1.trans h1, w2.trans h2, w3.trans h3⟩).2
      have ei : i = (i.toNat : Int) := by omega
      have hpl : (Si20.spanOf l).n ≤ 1024 := hn1
      have on : OnP st' (gI l 1 + (i.toNat : Int)) (gI l 0) := ⟨by rw [← ei]; exact im.2.2.1, by rw [← ei, wh.1]; exact im.2.2.2, y0, by rw [wh.2.1]; exact y1⟩
      refine s_mutC (x := (how, l, i.toNat)) at' rfl (fun tg4 z1 _ H9 e9 Q' q' => ?_) ⟨hw, ⟨hl, hb, hn0, hn1, by rw [tex_keep wh.2.2]; exact htx⟩, by show i.toNat ≤ 1024; omega, on⟩ fun H3 at3 => hN _ _ ⟨_, rfl⟩ at3
      refine ⟨_, rfl, _, rfl, _, rfl, q' _ H9 (Ex.refl _) ⟨v, by rw [← ei], mo e9 ((s1.trans z1).riu rl)⟩⟩
    · rintro σ H3 _ at3
      exact k H3 at3
  · have ny : ¬ (0 ≤ gI l 0 ∧ gI l 0 < (st.h : Int)) := fun ⟨h1, h2⟩ => by
      rw [decide_eq_true h1, decide_eq_true h2] at b
      cases b
    rw [if_neg (show ¬ (0 ≤ (Si20.spanOf l).y ∧ (Si20.spanOf l).y < (st.h : Int)) from ny)] at k
    exact k H1 ((At.start tk dr).ex e1)
theorem ok_draw_span (T : Tx K mg) (G_D_columns : GM P w K mg base (He.ga K "Drawer") "columns" 1 ["self", "x", "many"] (sp_D_columns K)) (G_draw_place : GF P w K mg base "draw_place" 5 ["drawer", "how", "span", "place"] (sp_draw_place K)) : GF P w K mg base "draw_span" 6 ["drawer", "how", "span"] (sp_draw_span K) := by
  refine ⟨fn_keep (k := 5) (tt := (t_draw_span K)) T.d_draw_span sc_draw_span len_draw_span (fun _ _ _ _ _ _ us hl => match us, hl with | [_, _, _], _ => rfl) (fun cdv A outer s H E hr => ?_) (pure_draw_span T), T.d_draw_span.kp, T.g_draw_span⟩
  exact (pss_one (ps_if (pt_chain op_le op_lt pe_int (pe_ix ix_list (pv 2) (pe_gi rfl T.i_Y) (fun _ _ => rfl)) (pe_fld (pv 0) rfl)) (pss_one (ps_for PassesOwn.never rfl (pi_list (pe_gm (pv 0) T.cl G_D_columns (hr.mono (by decide)) (pa_cons (pe_ix ix_list (pv 2) (pe_gi rfl T.i_X) (fun _ _ => rfl)) (pa_cons (pe_ix ix_list (pv 2) (pe_gi rfl T.i_MANY) (fun _ _ => rfl)) pa_nil)))) (pg_name (i := 3) sc_draw_span.nd rfl (.inl rfl)) (pss_one (ps_expr (pe_gf G_draw_place (hr.mono (by decide)) rfl (pa_cons (pv 0) (pa_cons (pv 1) (pa_cons (pv 2) (pa_cons (pv 3) pa_nil))))))))) pss_nil))
end
end Sd
end

section
set_option Elab.async false
set_option linter.all false
set_option maxRecDepth 100000
set_option maxHeartbeats 400000
/-! ## 24. desk.py: single calls -/
namespace Sd
open PySem PySem.Spec PyProof.Rows L2 Evl
open Si20 (Px)
open Si20Neutral (natsOf listOf)
local macro_rules | `(tactic| walk_at "ev") => `(tactic| first
  | with_reducible exact er_cI
  | focus ((with_reducible apply er_varI); with_unfolding_all rfl)
  | focus ((with_reducible apply er_var); all_goals first | with_unfolding_all rfl | assumption)
  | focus ((with_reducible apply er_op0); all_goals walk_at "ev")
  | focus ((with_reducible apply er_op); all_goals walk_at "ev")
  | focus ((with_reducible apply er_neg); all_goals walk_at "ev")
  | focus ((with_reducible apply er_max); all_goals walk_at "ev")
  | focus ((with_reducible apply er_min); all_goals walk_at "ev")
  | focus ((with_reducible apply er_abs); all_goals walk_at "ev")
  | focus ((with_reducible apply er_intB); all_goals walk_at "ev")
  | focus ((with_reducible apply er_bits); all_goals walk_at "ev")
  | focus ((with_reducible apply er_ixD); all_goals walk_at "ev")
  | focus ((with_reducible apply er_call1); all_goals walk_at "ev")
  | focus ((with_reducible apply er_call2); all_goals walk_at "ev")
  | focus ((with_reducible apply er_call3); all_goals walk_at "ev")
  | focus ((with_reducible apply er_call4); all_goals walk_at "ev")
  | focus ((with_reducible apply er_eq); all_goals walk_at "ev")
  | focus ((with_reducible apply er_ne); all_goals walk_at "ev")
  | focus ((with_reducible apply er_cmp); all_goals walk_at "ev")
  | focus ((with_reducible apply er_chain); all_goals walk_at "ev")
  | focus ((with_reducible apply er_andU); all_goals walk_at "ev")
  | focus ((with_reducible apply er_orU); all_goals walk_at "ev")
  | focus ((with_reducible apply et_t); all_goals walk_at "ev")
  | focus ((with_reducible apply et_b); all_goals walk_at "ev")
  | focus ((with_reducible apply et_andU); all_goals walk_at "ev")
  | focus ((with_reducible apply et_orU); all_goals walk_at "ev")
  | focus ((with_reducible apply Evl.et_not); all_goals walk_at "ev")
  | walk_at "side")
local macro_rules | `(tactic| walk_at "evr") => `(tactic| (refine er_is (by walk_at "ev") (by with_unfolding_all rfl)))
local macro_rules | `(tactic| walk_at "side") => `(tactic| first
  | assumption
  | exact True.intro
  | exact cdiv_ok (by decide) (by decide)
  | exact cmul_l (by omega) (by omega)
  | exact cmul_r (by omega) (by omega)
  | omega
  | decide
  | (dsimp only; done)
  | (dsimp only; first | assumption | omega | decide)
  | (constructor <;> assumption))
local macro_rules | `(tactic| walk_at "ev") => `(tactic| first
  | focus ((with_reducible apply er_s0); all_goals walk_at "ev")
  | focus ((with_reducible apply er_s1); all_goals walk_at "ev")
  | focus ((with_reducible apply er_s2); all_goals walk_at "ev")
  | focus ((with_reducible apply er_tupS); all_goals walk_at "ev")
  | focus ((with_reducible apply er_tupI2); all_goals walk_at "ev")
  | focus ((with_reducible apply er_divmod); all_goals walk_at "ev"))
local macro_rules | `(tactic| walk_at "side") => `(tactic| exact cshl_ok (by omega) (by omega))
local macro_rules | `(tactic| walk_at "ev") => `(tactic| first
  | focus ((with_reducible apply er_wide); all_goals walk_at "ev")
  | focus ((with_reducible apply er_high); all_goals walk_at "ev")
  | focus ((with_reducible apply er_meth1); all_goals walk_at "ev")
  | focus ((with_reducible apply er_meth2); all_goals walk_at "ev")
  | focus ((with_reducible apply er_meth3); all_goals walk_at "ev"))
local macro_rules | `(tactic| walk_at "side") => `(tactic| (focus (decide +kernel)))
def I32 (z : Int) : Prop := -(2 ^ 31) ≤ z ∧ z < 2 ^ 31
/-- a call as it may be handed in: its number, its numbers, its row; the call that is meant -/
inductive Ask : Int → List Int → List Int → Si20.Call → Prop
  | texture (k x0 : Int) (l : List Int) (h1 : 0 ≤ x0 ∧ x0 ≤ 7 → l.length = 16384 ∧ ∀ z ∈ l, 0 ≤ z ∧ z < 256) : Ask 1 [k, x0] l (.texture x0 (if Si20.within x0 0 7 = true then natsOf l else []))
  | grab (k x0 x1 x2 : Int) : Ask 2 [k, x0, x1, x2] [] (.grab x0 x1 x2)
  | clear (k x0 x1 : Int) (h : 0 ≤ x0) : Ask 3 [k, x0, x1] [] (.clear x0.toNat x1)
  | fog (k x0 : Int) (h : 0 ≤ x0) : Ask 4 [k, x0] [] (.fogs x0.toNat)
  | spans (k x0 x1 : Int) (l : List Int) (hl : (l.length : Int) = if 0 ≤ 20 * x1 ∧ 20 * x1 ≤ 1280 then 20 * x1 else 0) (hb : ∀ z ∈ l, I32 z) : Ask 5 [k, x0, x1] l (.spans x0 x1 l)
  | sprite (k x0 x1 x2 x3 x4 x5 x6 x7 x8 : Int) (h6 : I32 x6) (h7 : I32 x7) (h8 : 0 ≤ x8 ∧ x8 < 2 ^ 32) : Ask 6 [k, x0, x1, x2, x3, x4, x5, x6, x7, x8] [] (.sprite x0 x1 x2 x3 x4 x5 x6 x7 x8.toNat)
  | fill (k x0 x1 x2 x3 x4 x5 : Int) (h1 : I32 x1) (h2 : I32 x2) (h5 : 0 ≤ x5) : Ask 7 [k, x0, x1, x2, x3, x4, x5] [] (.fill x0 x1 x2 x3 x4 x5.toNat)
  | fade (k x0 : Int) : Ask 8 [k, x0] [] (.fade x0)
  | get (k x0 x1 x2 x3 : Int) : Ask 9 [k, x0, x1, x2, x3] [] (.get x0 x1 x2 x3)
  | small (k : Int) : Ask 10 [k] [] .small
  | give (k : Int) : Ask 11 [k] [] .give
  | apart (k x0 : Int) : Ask 12 [k, x0] [] .apart
  | matrix (k : Int) (l : List Int) (hl : l.length = 16) (hb : ∀ z ∈ l, 0 ≤ z ∧ z < 2 ^ 32) : Ask 13 [k] l (.matrix (natsOf l))
  | move (k x0 : Int) (l : List Int) (hl : (l.length : Int) = if 0 ≤ 4 * x0 ∧ 4 * x0 ≤ 1024 then 4 * x0 else 0) (hb : ∀ z ∈ l, 0 ≤ z ∧ z < 2 ^ 32) : Ask 14 [k, x0] l (.move x0 (natsOf l))
  | place (k x0 : Int) (l : List Int) (hl : (l.length : Int) = if 0 ≤ 4 * x0 ∧ 4 * x0 ≤ 1024 then 4 * x0 else 0) (hb : ∀ z ∈ l, 0 ≤ z ∧ z < 2 ^ 32) : Ask 15 [k, x0] l (.place x0 (natsOf l))
  | light (k : Int) (l : List Int) (hl : l.length = 12) (hb : ∀ z ∈ l, 0 ≤ z ∧ z < 2 ^ 32) : Ask 16 [k] l (.light (natsOf l))
  | lights (k x0 : Int) (l : List Int) (hl : (l.length : Int) = if 0 ≤ 4 * x0 ∧ 4 * x0 ≤ 1024 then 4 * x0 else 0) (hb : ∀ z ∈ l, 0 ≤ z ∧ z < 2 ^ 32) : Ask 17 [k, x0] l (.lights x0 (natsOf l))
structure Cl where
  g : List Int
  r : List Int
  c : Si20.Call
abbrev AG : Tags → Hp → List V → Cl → Prop := fun tg H us x => ∃ vg, us = [vg] ∧ RIu (Un_ tg) H vg x.g
abbrev AR : Tags → Hp → List V → Cl → Prop := fun tg H us x => ∃ vr, us = [vr] ∧ RIu (Un_ tg) H vr x.r
abbrev AGR : Tags → Hp → List V → Cl → Prop := fun tg H us x => ∃ vg vr, us = [vg, vr] ∧ RIu (Un_ tg) H vg x.g ∧ RIu (Un_ tg) H vr x.r
abbrev ANGR : Tags → Hp → List V → Int × Cl → Prop := fun tg H us x => ∃ vg vr, us = [.int x.1, vg, vr] ∧ RIu (Un_ tg) H vg x.2.g ∧ RIu (Un_ tg) H vr x.2.r
/-- what a call on a drawer leaves and answers -/
def spD {b : Type} (K : PySem.W.Frag) (A : Tags → Hp → List V → b → Prop) (pre : Si20.St → b → Prop) (c : b → Si20.Call) : Sp := fun vs H Q _ => ∃ a us tg d D st x, vs = .ref a :: us ∧ TagOk tg H ∧ Dr K (dC K) tg d H a D st ∧ A tg H us x ∧ pre st x ∧ ∀ p H', H p = none → At K a d tg H H' (Si20.spec st st (c x)).1 → H' p = some (.lst (vI (listOf (Si20.spec st st (c x)).2))) → Q (.ref p) H'
section
variable (K : PySem.W.Frag)
abbrev sp_texture : Sp := spD K AGR (fun _ x => Ask 1 x.g x.r x.c) Cl.c
abbrev sp_grab : Sp := spD K AG (fun _ x => Ask 2 x.g x.r x.c) Cl.c
abbrev sp_clear : Sp := spD K AG (fun _ x => Ask 3 x.g x.r x.c) Cl.c
abbrev sp_fog : Sp := spD K AG (fun _ x => Ask 4 x.g x.r x.c) Cl.c
abbrev sp_spans : Sp := spD K AGR (fun _ x => Ask 5 x.g x.r x.c) Cl.c
abbrev sp_sprite : Sp := spD K AG (fun _ x => Ask 6 x.g x.r x.c) Cl.c
abbrev sp_fill : Sp := spD K AG (fun _ x => Ask 7 x.g x.r x.c) Cl.c
abbrev sp_fade : Sp := spD K AG (fun _ x => Ask 8 x.g x.r x.c) Cl.c
abbrev sp_get : Sp := spD K AG (fun _ x => Ask 9 x.g x.r x.c) Cl.c
abbrev sp_matrix : Sp := spD K AR (fun _ x => Ask 13 x.g x.r x.c) Cl.c
abbrev sp_light : Sp := spD K AR (fun _ x => Ask 16 x.g x.r x.c) Cl.c
abbrev sp_on_points : Sp := spD K ANGR (fun _ x => Ask x.1 x.2.g x.2.r x.2.c ∧ (x.1 = 14 ∨ x.1 = 15 ∨ x.1 = 17)) fun x => x.2.c
abbrev sp_drawn : Sp := spD K ANGR (fun _ x => Ask x.1 x.2.g x.2.r x.2.c ∧ x.1 < 9) fun x => x.2.c
end
def sideB (w : Int) : Bool := !(decide (w < 8) || (decide (128 < w) || !decide (w % 8 = 0)))
abbrev sp_are_sides : Sp := sp2 RI RI (fun _ _ => True) RB fun w h => sideB w && sideB h
abbrev sp_counted : Sp := spL1 RIL (fun l => l.length ≤ 1000000) fun l => vI ((l.length : Int) :: l)
/-- are_sides: 0 w, 1 h, 2 side -/
def t_are_sides (K : PySem.W.Frag) : TS :=
  (tSeq (tFor (iTup K (tTup (tCons (tVar 0) (tCons (tVar 1) tNil)))) (gName 2) (tIfS (tOr (tTest (tOp rLtI (tVar 2) (tC (.int (8))))) (tOr (tTest (tOp rGtI (tVar 2) (tC (.int (128))))) (tTest (tOp rNe (tOp rModI (tVar 2) (tC (.int 8))) (tC (.int 0)))))) (tRet (tC (.bl false))) tNext))
    (tRet (tC (.bl true))))
/-- texture: 0 drawer, 1 given, 2 row -/
def t_texture (K : PySem.W.Frag) : TS :=
  (tSeq (tIfS (tNot (tTest (tChain rLeI rLtI (tC (.int 0)) (tOp (rIxL K) (tVar 1) (tC (.int 1))) (tC (.int (8)))))) (tRet (tLst (tCons (tC (.int (-2))) tNil))) tNext)
    (tSeq (tDrop (tMeth (He.ga K "Drawer") "set_texture" (sp_D_set_texture K) [] E0 (tVar 0) (tCons (tOp (rIxL K) (tVar 1) (tC (.int 1))) (tCons (tVar 2) tNil))))
    (tRet (tLst (tCons (tC (.int 0)) tNil)))))
/-- grab: 0 drawer, 1 given -/
def t_grab (K : PySem.W.Frag) : TS :=
  (tSeq (tIfS (tNot (tTest (tChain rLeI rLtI (tC (.int 0)) (tOp (rIxL K) (tVar 1) (tC (.int 1))) (tC (.int (8)))))) (tRet (tLst (tCons (tC (.int (-2))) tNil))) tNext)
    (tSeq (tDrop (tMeth (He.ga K "Drawer") "grab" (sp_D_grab K) [] E0 (tVar 0) (tCons (tOp (rIxL K) (tVar 1) (tC (.int 1))) (tCons (tOp (rIxL K) (tVar 1) (tC (.int 2))) (tCons (tOp (rIxL K) (tVar 1) (tC (.int 3))) tNil)))))
    (tRet (tLst (tCons (tC (.int 0)) tNil)))))
/-- clear: 0 drawer, 1 given -/
def t_clear (K : PySem.W.Frag) : TS :=
  (tSeq (tIfS (tNot (tTest (tChain rLeI rLeI (tC (.int 0)) (tOp (rIxL K) (tVar 1) (tC (.int 2))) (tC (.int (65535)))))) (tRet (tLst (tCons (tC (.int (-2))) tNil))) tNext)
    (tSeq (tDrop (tMeth (He.ga K "Drawer") "clear" (sp_D_clear K) [] E0 (tVar 0) (tCons (tOp (rIxL K) (tVar 1) (tC (.int 1))) (tCons (tOp (rIxL K) (tVar 1) (tC (.int 2))) tNil))))
    (tRet (tLst (tCons (tC (.int 0)) tNil)))))
/-- fog: 0 drawer, 1 given -/
def t_fog (K : PySem.W.Frag) : TS :=
  (tSeq (tDrop (tMeth (He.ga K "Drawer") "set_fog" (sp_D_set_fog K) [] E0 (tVar 0) (tCons (tOp (rIxL K) (tVar 1) (tC (.int 1))) tNil)))
    (tRet (tLst (tCons (tC (.int 0)) tNil))))
/-- fade: 0 drawer, 1 given -/
def t_fade (K : PySem.W.Frag) : TS :=
  (tSeq (tIfS (tNot (tTest (tChain rLeI rLeI (tC (.int 0)) (tOp (rIxL K) (tVar 1) (tC (.int 1))) (tC (.int (255)))))) (tRet (tLst (tCons (tC (.int (-2))) tNil))) tNext)
    (tSeq (tDrop (tMeth (He.ga K "Drawer") "fade" (sp_D_fade K) [] E0 (tVar 0) (tCons (tOp (rIxL K) (tVar 1) (tC (.int 1))) tNil)))
    (tRet (tLst (tCons (tC (.int 0)) tNil)))))
/-- counted: 0 row -/
def t_counted (K : PySem.W.Frag) : TS :=
  (tRet (tOp rCat (tLst (tCons (tCB (rLenS K) (tCons (tVar 0) tNil)) tNil)) (tVar 0)))
section
variable {P : Program} {w : World} {K : PySem.W.Frag} {mg : Str → Option Value} {base : Heap}
theorem len_ag {pre : Si20.St → Cl → Prop} {c : Cl → Si20.Call} : ∀ vs H Q E, spD K AG pre c vs H Q E → vs.length = 2 := by
  rintro vs H Q E ⟨_, _, _, _, _, _, _, rfl, _, _, ⟨_, rfl, _⟩, _⟩
  rfl
theorem len_ar {pre : Si20.St → Cl → Prop} {c : Cl → Si20.Call} : ∀ vs H Q E, spD K AR pre c vs H Q E → vs.length = 2 := by
  rintro vs H Q E ⟨_, _, _, _, _, _, _, rfl, _, _, ⟨_, rfl, _⟩, _⟩
  rfl
theorem len_agr {pre : Si20.St → Cl → Prop} {c : Cl → Si20.Call} : ∀ vs H Q E, spD K AGR pre c vs H Q E → vs.length = 3 := by
  rintro vs H Q E ⟨_, _, _, _, _, _, _, rfl, _, _, ⟨_, _, rfl, _⟩, _⟩
  rfl
theorem len_angr {pre : Si20.St → Int × Cl → Prop} {c : Int × Cl → Si20.Call} : ∀ vs H Q E, spD K ANGR pre c vs H Q E → vs.length = 4 := by
  rintro vs H Q E ⟨_, _, _, _, _, _, _, rfl, _, _, ⟨_, _, rfl, _⟩, _⟩
  rfl
theorem len_texture : ∀ vs H Q E, sp_texture K vs H Q E → vs.length = 3 := len_agr
theorem len_grab : ∀ vs H Q E, sp_grab K vs H Q E → vs.length = 2 := len_ag
theorem len_clear : ∀ vs H Q E, sp_clear K vs H Q E → vs.length = 2 := len_ag
theorem len_fog : ∀ vs H Q E, sp_fog K vs H Q E → vs.length = 2 := len_ag
theorem len_spans : ∀ vs H Q E, sp_spans K vs H Q E → vs.length = 3 := len_agr
theorem len_sprite : ∀ vs H Q E, sp_sprite K vs H Q E → vs.length = 2 := len_ag
theorem len_fill : ∀ vs H Q E, sp_fill K vs H Q E → vs.length = 2 := len_ag
theorem len_fade : ∀ vs H Q E, sp_fade K vs H Q E → vs.length = 2 := len_ag
theorem len_get : ∀ vs H Q E, sp_get K vs H Q E → vs.length = 2 := len_ag
theorem len_matrix : ∀ vs H Q E, sp_matrix K vs H Q E → vs.length = 2 := len_ar
theorem len_light : ∀ vs H Q E, sp_light K vs H Q E → vs.length = 2 := len_ar
theorem len_on_points : ∀ vs H Q E, sp_on_points K vs H Q E → vs.length = 4 := len_angr
theorem len_drawn : ∀ vs H Q E, sp_drawn K vs H Q E → vs.length = 4 := len_angr
theorem len_are_sides : ∀ vs H Q E, sp_are_sides vs H Q E → vs.length = 2 := sp2_len
theorem len_counted : ∀ vs H Q E, sp_counted vs H Q E → vs.length = 1 := spL1_len
/-! ### the answers of one number -/
theorem el_one {s : L2.St} {H : Hp} {z : Int} : EvL (tLst (tCons (tC (.int z)) tNil)) s H (vI [z]) := el_lstI (ers_cons er_cI ers_nil) (by rintro H' vs ⟨v, r, rfl, r1, rfl⟩; rw [r1]; rfl) (by simp)
theorem list_say (z : Int) : listOf (Si20.say z) = [z] := rfl
theorem s_one {s : L2.St} {H : Hp} {z : Int} {D : Ends} (k : ∀ p H1, H p = none → Ex H H1 → H1 p = some (.lst (vI [z])) → D.rt (.ref p) H1) : tRet (tLst (tCons (tC (.int z)) tNil)) D s H := s_retL el_one k
/-- behind a change [0] is answered -/
theorem fin_at {a : Addr} {d : Nat} {tg : Tags} {H H1 : Hp} {s : L2.St} {st : Si20.St} {c : Si20.Call} {z : Int} {Q : VK} {D : Ends} (hD : D.rt = Q) (k : ∀ p H', H p = none → At K a d tg H H' (Si20.spec st st c).1 → H' p = some (.lst (vI (listOf (Si20.spec st st c).2))) → Q (.ref p) H') {st' : Si20.St} (hs : Si20.spec st st c = (st', Si20.say z)) (y : At K a d tg H H1 st') : tRet (tLst (tCons (tC (.int z)) tNil)) D s H1 := by
  refine s_one fun p H2 hp e2 h2 => ?_
  rw [hD]
  have yy := y
  obtain ⟨tg', D', y1, _⟩ := y
  refine k p H2 (y1.back hp) ?_ ?_
  · rw [hs]
    exact yy.ex e2
  · rw [hs]
    exact h2
theorem q_drop {te : TE} {tz : TS} {D : Ends} {s : L2.St} {H : Hp} (h : tDrop te { D with nx := tz D } s H) : tSeq (tDrop te) tz D s H := h
theorem pure_are_sides (T : Tx K mg) (vs : List V) (H : Hp) (Q : VK) (E : XK) (h : sp_are_sides vs H Q E) : t_are_sides K { nx := fun _ H' => Q .non H', rt := Q } (start ["w", "h", "side"] vs) H := by
  obtain ⟨_, _, x, y, rfl, rfl, rfl, -, k⟩ := h
  have k : ∀ v H', Ex H H' → RB H' v (sideB x && sideB y) → Q v H' := k
  refine ⟨_, rfl, _, rfl, by rw [sizeLine_eq]; simp, fun p hp => ⟨p, rfl, ⟨[.int x, .int y], st_of upd_same⟩, ?_⟩⟩
  refine for_tup (xs := [.int x, .int y]) (fun i σ H' => (∃ o, σ = [some (.int x), some (.int y), o]) ∧ Ex H H' ∧ H' p = some (.tup [.int x, .int y]) ∧ (0 < i → sideB x = true) ∧ (1 < i → sideB y = true)) ⟨⟨none, rfl⟩, Ex.new hp, upd_same, by omega, by omega⟩ ?_ ?_ ?_
  · rintro i σ H' _ ⟨_, _, h, _⟩
    exact st_of h
  · rintro i v σ H' hv ⟨⟨o, rfl⟩, e, hp', hx, hy⟩
    have turn : ∀ z : Int, v = .int z → (sideB z = false → (sideB x && sideB y) = false) → (sideB z = true → (0 < i + 1 → sideB x = true) ∧ (1 < i + 1 → sideB y = true)) → gName 2 v [some (.int x), some (.int y), o] H' fun σ2 H2 => tIfS (tOr (tTest (tOp rLtI (tVar 2) (tC (.int (8))))) (tOr (tTest (tOp rGtI (tVar 2) (tC (.int (128))))) (tTest (tOp rNe (tOp rModI (tVar 2) (tC (.int 8))) (tC (.int 0)))))) (tRet (tC (.bl false))) tNext { nx := fun σ H' => (∃ o, σ = [some (.int x), some (.int y), o]) ∧ Ex H H' ∧ H' p = some (.tup [.int x, .int y]) ∧ (0 < i + 1 → sideB x = true) ∧ (1 < i + 1 → sideB y = true), ct := fun σ H' => (∃ o, σ = [some (.int x), some (.int y), o]) ∧ Ex H H' ∧ H' p = some (.tup [.int x, .int y]) ∧ (0 < i + 1 → sideB x = true) ∧ (1 < i + 1 → sideB y = true), bk := fun σ H' => tRet (tC (.bl true)) { nx := fun _ H' => Q .non H', rt := Q } σ H', rt := Q } σ2 H2 := by
      rintro z rfl hf ht
      show tIfS _ _ _ _ [some (.int x), some (.int y), some (.int z)] H'
      refine s_if (b := decide (z < 8) || (decide (128 < z) || !decide (z % 8 = 0))) (by walk_at "ev") (fun b H2 e2 => ?_) fun b H2 e2 => ?_
      · refine sr_ret (R := RB) (x := false) (er_c rfl) fun v H3 e3 r3 => k v H3 ((e.trans e2).trans e3) ?_
        rw [hf (by unfold sideB; rw [b]; rfl)]
        exact r3
      · exact ⟨⟨_, rfl⟩, e.trans e2, e2 _ _ hp', ht (by unfold sideB; rw [b]; rfl)⟩
    match i, hv with
    | 0, hv =>
      refine turn x (Option.some.inj hv).symm (fun h => by rw [h]; rfl) fun h => ⟨fun _ => h, by omega⟩
    | 1, hv =>
      refine turn y (Option.some.inj hv).symm (fun h => by rw [h, Bool.and_false]) fun h => ⟨fun _ => hx (by omega), fun _ => h⟩
    | n + 2, hv => cases hv
  · rintro σ H' ⟨⟨o, rfl⟩, e, hp', hx, hy⟩
    show tRet (tC (.bl true)) { nx := fun _ H' => Q .non H', rt := Q } [] H'
    refine sr_ret (R := RB) (x := true) (er_c rfl) fun v H3 e3 r3 => k v H3 (e.trans e3) ?_
    rw [hx (by simp), hy (by simp)]
    exact r3
theorem ok_are_sides (T : Tx K mg)  : GF P w K mg base "are_sides" 1 ["w", "h"] sp_are_sides := by
  refine ⟨fn_keep (k := 0) (tt := (t_are_sides K)) T.d_are_sides sc_are_sides len_are_sides (fun _ _ _ _ _ _ us hl => match us, hl with | [_, _], _ => rfl) (fun cdv A outer s H E hr => ?_) (pure_are_sides T), T.d_are_sides.kp, T.g_are_sides⟩
  exact (pss_cons (ps_for PassesOwn.never rfl (pi_tup (pe_tup (pa_cons (pv 0) (pa_cons (pv 1) pa_nil)))) (pg_name (i := 2) sc_are_sides.nd rfl (.inl rfl)) (pss_one (ps_if (PW.pt (pw_or (pt_cmpR op_lt (pv 2) (pe_gi rfl T.i_LEAST_SIDE) (nomark _)) (pw_or (pt_cmpR op_gt (pv 2) (pe_gi rfl T.i_MOST_SIDE) (nomark _)) (pw_or1 (pt_cmpR op_ne (pe_op op_mod (pv 2) pe_int) pe_int (nomark _)))))) (pss_one (ps_ret pe_bl)) pss_nil)))
    (pss_one (ps_ret pe_bl)))
theorem pure_texture (T : Tx K mg) (vs : List V) (H : Hp) (Q : VK) (E : XK) (h : sp_texture K vs H Q E) : t_texture K { nx := fun _ H' => Q .non H', rt := Q } (start ["drawer", "given", "row"] vs) H := by
  obtain ⟨a, us, tg, d, D, st, ⟨g, r, c⟩, rfl, tk, dr, ⟨vg, vr, rfl, rg, rr⟩, ask, k⟩ := h
  simp only at rg rr ask k
  cases ask with
  | texture n x0 _ h1 =>
    have rg0 := rg.ril
    refine q_when (b := !(decide (0 ≤ x0) && decide (x0 < 8))) (Evl.et_not (et_t (er_chain er_cI (er_at 1 rfl rfl rg0 (by simp)) er_cI))) (fun b H1 e1 => ?_) fun b H1 e1 => ?_
    · have nb : ¬ (0 ≤ x0 ∧ x0 ≤ 7) := fun ⟨u, v⟩ => by
        rw [decide_eq_true u, decide_eq_true (show x0 < 8 by omega)] at b
        cases b
      exact fin_at rfl k (if_neg (show ¬ (Si20.within x0 0 7 = true) by unfold Si20.within; simpa using nb)) ((At.start tk dr).ex e1)
    · have yb : 0 ≤ x0 ∧ x0 < 8 := by
        have : (decide (0 ≤ x0) && decide (x0 < 8)) = true := by
          cases h : (decide (0 ≤ x0) && decide (x0 < 8)) with
          | true => rfl
          | false => rw [h] at b; cases b
        simpa using this
      obtain ⟨hl, hb⟩ := h1 ⟨yb.1, by omega⟩
      have hw : Si20.within x0 0 7 = true := by unfold Si20.within; simp; omega
      have rg1 := mo e1 rg0
      have rr1 := mo e1 rr.ril
      refine q_drop (s_mut (x := (x0, r)) ((At.start tk dr).ex e1) rfl (by decide +kernel) (fun tg4 _ _ H9 e9 Q' q' => ?_) ⟨yb.1, yb.2, hl, hb⟩ fun H2 at2 => ?_)
      · refine er_at (K := K) (i := 1) 1 rfl rfl rg1 (by simp) H9 e9 _ fun w H10 e10 r10 => ⟨_, rfl, q' _ H10 e10 ⟨vr, by rw [r10]; rfl, mo (e9.trans e10) rr1⟩⟩
      · refine fin_at (s := []) rfl k (st' := { st with textures := st.textures.set x0.toNat (some ((Si20.chunks 4 (natsOf r)).map Si20.pxOf).toArray) }) ?_ at2
        rw [if_pos hw]
        exact if_pos hw
theorem ok_texture (T : Tx K mg) (G_D_set_texture : GM P w K mg base (He.ga K "Drawer") "set_texture" 1 ["self", "k", "row"] (sp_D_set_texture K)) : GF P w K mg base "texture" 2 ["drawer", "given", "row"] (sp_texture K) := by
  refine ⟨fn_keep (k := 1) (tt := (t_texture K)) T.d_texture sc_texture len_texture (fun _ _ _ _ _ _ us hl => match us, hl with | [_, _, _], _ => rfl) (fun cdv A outer s H E hr => ?_) (pure_texture T), T.d_texture.kp, T.g_texture⟩
  exact (pss_cons (ps_if (pt_not (pt_chain op_le op_lt pe_int (pe_ix ix_list (pv 1) pe_int (fun _ _ => rfl)) (pe_gi rfl T.i_TEXTURES))) (pss_one (ps_ret (pe_lst (pa_cons (pe_gi rfl T.i_OUT) pa_nil)))) pss_nil)
    (pss_cons (ps_expr (pe_gm (pv 0) T.cl G_D_set_texture (hr.mono (by decide)) (pa_cons (pe_ix ix_list (pv 1) pe_int (fun _ _ => rfl)) (pa_cons (pv 2) pa_nil))))
    (pss_one (ps_ret (pe_lst (pa_cons pe_int pa_nil))))))
theorem pure_grab (T : Tx K mg) (vs : List V) (H : Hp) (Q : VK) (E : XK) (h : sp_grab K vs H Q E) : t_grab K { nx := fun _ H' => Q .non H', rt := Q } (start ["drawer", "given"] vs) H := by
  obtain ⟨a, us, tg, d, D, st, ⟨g, r, c⟩, rfl, tk, dr, ⟨vg, rfl, rg⟩, ask, k⟩ := h
  simp only at rg ask k
  cases ask with
  | grab n x0 x1 x2 =>
    have rg0 := rg.ril
    refine q_when (b := !(decide (0 ≤ x0) && decide (x0 < 8))) (Evl.et_not (et_t (er_chain er_cI (er_at 1 rfl rfl rg0 (by simp)) er_cI))) (fun b H1 e1 => ?_) fun b H1 e1 => ?_
    · have nb : ¬ (0 ≤ x0 ∧ x0 ≤ 7) := fun ⟨u, v⟩ => by
        rw [decide_eq_true u, decide_eq_true (show x0 < 8 by omega)] at b
        cases b
      exact fin_at rfl k (if_neg (show ¬ (Si20.within x0 0 7 = true) by unfold Si20.within; simpa using nb)) ((At.start tk dr).ex e1)
    · have yb : 0 ≤ x0 ∧ x0 < 8 := by
        have : (decide (0 ≤ x0) && decide (x0 < 8)) = true := by
          cases h : (decide (0 ≤ x0) && decide (x0 < 8)) with
          | true => rfl
          | false => rw [h] at b; cases b
        simpa using this
      have hw : Si20.within x0 0 7 = true := by unfold Si20.within; simp; omega
      have rg1 := mo e1 rg0
      obtain ⟨m, rfl⟩ := Int.eq_ofNat_of_zero_le yb.1
      refine q_drop (s_mut (x := (m, x1, x2)) ((At.start tk dr).ex e1) rfl (by decide +kernel) (fun tg4 _ _ H9 e9 Q' q' => ?_) (show m < 8 by omega) fun H2 at2 => ?_)
      · refine er_at (K := K) (i := 1) 1 rfl rfl rg1 (by simp) H9 e9 _ fun w H10 e10 r10 => er_at (K := K) (i := 1) 2 rfl rfl rg1 (by simp) H10 (e9.trans e10) _ fun w2 H11 e11 r11 => er_at (K := K) (i := 1) 3 rfl rfl rg1 (by simp) H11 ((e9.trans e10).trans e11) _ fun w3 H12 e12 r12 => q' _ H12 ((e10.trans e11).trans e12) (by rw [r10, r11, r12]; rfl)
      · exact fin_at (s := []) rfl k (if_pos hw) at2
theorem ok_grab (T : Tx K mg) (G_D_grab : GM P w K mg base (He.ga K "Drawer") "grab" 3 ["self", "k", "x", "y"] (sp_D_grab K)) : GF P w K mg base "grab" 4 ["drawer", "given"] (sp_grab K) := by
  refine ⟨fn_keep (k := 3) (tt := (t_grab K)) T.d_grab sc_grab len_grab (fun _ _ _ _ _ _ us hl => match us, hl with | [_, _], _ => rfl) (fun cdv A outer s H E hr => ?_) (pure_grab T), T.d_grab.kp, T.g_grab⟩
  exact (pss_cons (ps_if (pt_not (pt_chain op_le op_lt pe_int (pe_ix ix_list (pv 1) pe_int (fun _ _ => rfl)) (pe_gi rfl T.i_TEXTURES))) (pss_one (ps_ret (pe_lst (pa_cons (pe_gi rfl T.i_OUT) pa_nil)))) pss_nil)
    (pss_cons (ps_expr (pe_gm (pv 0) T.cl G_D_grab (hr.mono (by decide)) (pa_cons (pe_ix ix_list (pv 1) pe_int (fun _ _ => rfl)) (pa_cons (pe_ix ix_list (pv 1) pe_int (fun _ _ => rfl)) (pa_cons (pe_ix ix_list (pv 1) pe_int (fun _ _ => rfl)) pa_nil)))))
    (pss_one (ps_ret (pe_lst (pa_cons pe_int pa_nil))))))
theorem pure_clear (T : Tx K mg) (vs : List V) (H : Hp) (Q : VK) (E : XK) (h : sp_clear K vs H Q E) : t_clear K { nx := fun _ H' => Q .non H', rt := Q } (start ["drawer", "given"] vs) H := by
  obtain ⟨a, us, tg, d, D, st, ⟨g, r, c⟩, rfl, tk, dr, ⟨vg, rfl, rg⟩, ask, k⟩ := h
  simp only at rg ask k
  cases ask with
  | clear n x0 x1 h0 =>
    have rg0 := rg.ril
    refine q_when (b := !(decide (0 ≤ x1) && decide (x1 ≤ 65535))) (Evl.et_not (et_t (er_chain er_cI (er_at 2 rfl rfl rg0 (by simp)) er_cI))) (fun b H1 e1 => ?_) fun b H1 e1 => ?_
    · have nb : ¬ (Si20.within x1 0 65535 = true) := fun z => by
        have z : (decide (0 ≤ x1) && decide (x1 ≤ 65535)) = true := z
        rw [z] at b
        cases b
      exact fin_at rfl k (if_neg nb) ((At.start tk dr).ex e1)
    · have hw : Si20.within x1 0 65535 = true := by
        show (decide (0 ≤ x1) && decide (x1 ≤ 65535)) = true
        cases h : (decide (0 ≤ x1) && decide (x1 ≤ 65535)) with
        | true => rfl
        | false => rw [h] at b; cases b
      have y1 : 0 ≤ x1 := by
        unfold Si20.within at hw
        rw [Bool.and_eq_true] at hw
        exact of_decide_eq_true hw.1
      have rg1 := mo e1 rg0
      refine q_drop (s_mut (x := (x0.toNat, x1.toNat)) ((At.start tk dr).ex e1) rfl (by decide +kernel) (fun tg4 _ _ H9 e9 Q' q' => ?_) trivial fun H2 at2 => ?_)
      · refine er_at (K := K) (i := 1) 1 rfl rfl rg1 (by simp) H9 e9 _ fun w H10 e10 r10 => er_at (K := K) (i := 1) 2 rfl rfl rg1 (by simp) H10 (e9.trans e10) _ fun w2 H11 e11 r11 => q' _ H11 (e10.trans e11) (by
          rw [r10, r11]
          show [V.int x0, V.int x1] = [V.int (x0.toNat : Int), V.int (x1.toNat : Int)]
          rw [Int.toNat_of_nonneg h0, Int.toNat_of_nonneg y1])
      · exact fin_at (s := []) rfl k (if_pos hw) at2
theorem ok_clear (T : Tx K mg) (G_D_clear : GM P w K mg base (He.ga K "Drawer") "clear" 2 ["self", "colour", "depth"] (sp_D_clear K)) : GF P w K mg base "clear" 3 ["drawer", "given"] (sp_clear K) := by
  refine ⟨fn_keep (k := 2) (tt := (t_clear K)) T.d_clear sc_clear len_clear (fun _ _ _ _ _ _ us hl => match us, hl with | [_, _], _ => rfl) (fun cdv A outer s H E hr => ?_) (pure_clear T), T.d_clear.kp, T.g_clear⟩
  exact (pss_cons (ps_if (pt_not (pt_chain op_le op_le pe_int (pe_ix ix_list (pv 1) pe_int (fun _ _ => rfl)) (pe_gi rfl T.i_FARTHEST))) (pss_one (ps_ret (pe_lst (pa_cons (pe_gi rfl T.i_OUT) pa_nil)))) pss_nil)
    (pss_cons (ps_expr (pe_gm (pv 0) T.cl G_D_clear (hr.mono (by decide)) (pa_cons (pe_ix ix_list (pv 1) pe_int (fun _ _ => rfl)) (pa_cons (pe_ix ix_list (pv 1) pe_int (fun _ _ => rfl)) pa_nil))))
    (pss_one (ps_ret (pe_lst (pa_cons pe_int pa_nil))))))
theorem pure_fog (T : Tx K mg) (vs : List V) (H : Hp) (Q : VK) (E : XK) (h : sp_fog K vs H Q E) : t_fog K { nx := fun _ H' => Q .non H', rt := Q } (start ["drawer", "given"] vs) H := by
  obtain ⟨a, us, tg, d, D, st, ⟨g, r, c⟩, rfl, tk, dr, ⟨vg, rfl, rg⟩, ask, k⟩ := h
  simp only at rg ask k
  cases ask with
  | fog n x0 h0 =>
    have rg0 := rg.ril
    refine q_drop (s_mut (x := x0.toNat) (At.start tk dr) rfl (by decide +kernel) (fun tg4 _ _ H9 e9 Q' q' => ?_) trivial fun H2 at2 => ?_)
    · refine er_at (K := K) (i := 1) 1 rfl rfl rg0 (by simp) H9 e9 _ fun w H10 e10 r10 => q' _ H10 e10 (by
          rw [r10]
          show [V.int x0] = [V.int (x0.toNat : Int)]
          rw [Int.toNat_of_nonneg h0])
    · exact fin_at (s := []) rfl k rfl at2
theorem ok_fog (T : Tx K mg) (G_D_set_fog : GM P w K mg base (He.ga K "Drawer") "set_fog" 2 ["self", "colour"] (sp_D_set_fog K)) : GF P w K mg base "fog" 3 ["drawer", "given"] (sp_fog K) := by
  refine ⟨fn_keep (k := 2) (tt := (t_fog K)) T.d_fog sc_fog len_fog (fun _ _ _ _ _ _ us hl => match us, hl with | [_, _], _ => rfl) (fun cdv A outer s H E hr => ?_) (pure_fog T), T.d_fog.kp, T.g_fog⟩
  exact (pss_cons (ps_expr (pe_gm (pv 0) T.cl G_D_set_fog (hr.mono (by decide)) (pa_cons (pe_ix ix_list (pv 1) pe_int (fun _ _ => rfl)) pa_nil)))
    (pss_one (ps_ret (pe_lst (pa_cons pe_int pa_nil)))))
theorem pure_fade (T : Tx K mg) (vs : List V) (H : Hp) (Q : VK) (E : XK) (h : sp_fade K vs H Q E) : t_fade K { nx := fun _ H' => Q .non H', rt := Q } (start ["drawer", "given"] vs) H := by
  obtain ⟨a, us, tg, d, D, st, ⟨g, r, c⟩, rfl, tk, dr, ⟨vg, rfl, rg⟩, ask, k⟩ := h
  simp only at rg ask k
  cases ask with
  | fade n x0 =>
    have rg0 := rg.ril
    refine q_when (b := !(decide (0 ≤ x0) && decide (x0 ≤ 255))) (Evl.et_not (et_t (er_chain er_cI (er_at 1 rfl rfl rg0 (by simp)) er_cI))) (fun b H1 e1 => ?_) fun b H1 e1 => ?_
    · have nb : ¬ (Si20.within x0 0 255 = true) := fun z => by
        have z : (decide (0 ≤ x0) && decide (x0 ≤ 255)) = true := z
        rw [z] at b
        cases b
      exact fin_at rfl k (if_neg nb) ((At.start tk dr).ex e1)
    · have hw : Si20.within x0 0 255 = true := by
        show (decide (0 ≤ x0) && decide (x0 ≤ 255)) = true
        cases h : (decide (0 ≤ x0) && decide (x0 ≤ 255)) with
        | true => rfl
        | false => rw [h] at b; cases b
      have y1 : 0 ≤ x0 := by
        unfold Si20.within at hw
        rw [Bool.and_eq_true] at hw
        exact of_decide_eq_true hw.1
      have rg1 := mo e1 rg0
      refine q_drop (s_mut (x := x0.toNat) ((At.start tk dr).ex e1) rfl (by decide +kernel) (fun tg4 _ _ H9 e9 Q' q' => ?_) trivial fun H2 at2 => ?_)
      · refine er_at (K := K) (i := 1) 1 rfl rfl rg1 (by simp) H9 e9 _ fun w H10 e10 r10 => q' _ H10 e10 (by
          rw [r10]
          show [V.int x0] = [V.int (x0.toNat : Int)]
          rw [Int.toNat_of_nonneg y1])
      · exact fin_at (s := []) rfl k (if_pos hw) at2
theorem ok_fade (T : Tx K mg) (G_D_fade : GM P w K mg base (He.ga K "Drawer") "fade" 2 ["self", "much"] (sp_D_fade K)) : GF P w K mg base "fade" 3 ["drawer", "given"] (sp_fade K) := by
  refine ⟨fn_keep (k := 2) (tt := (t_fade K)) T.d_fade sc_fade len_fade (fun _ _ _ _ _ _ us hl => match us, hl with | [_, _], _ => rfl) (fun cdv A outer s H E hr => ?_) (pure_fade T), T.d_fade.kp, T.g_fade⟩
  exact (pss_cons (ps_if (pt_not (pt_chain op_le op_le pe_int (pe_ix ix_list (pv 1) pe_int (fun _ _ => rfl)) (pe_gi rfl T.i_MOST))) (pss_one (ps_ret (pe_lst (pa_cons (pe_gi rfl T.i_OUT) pa_nil)))) pss_nil)
    (pss_cons (ps_expr (pe_gm (pv 0) T.cl G_D_fade (hr.mono (by decide)) (pa_cons (pe_ix ix_list (pv 1) pe_int (fun _ _ => rfl)) pa_nil)))
    (pss_one (ps_ret (pe_lst (pa_cons pe_int pa_nil))))))
theorem pure_counted (T : Tx K mg) (vs : List V) (H : Hp) (Q : VK) (E : XK) (h : sp_counted vs H Q E) : t_counted K { nx := fun _ H' => Q .non H', rt := Q } (start ["row"] vs) H := by
  obtain ⟨v0, l, rfl, r, hl, k⟩ := h
  have hl : l.length ≤ 1000000 := hl
  refine s_retL (el_is (el_catL (xs := [.int (l.length : Int)]) (ys := vI l) (elv (el_lstI (ers_cons (er_lenI (er_var rfl r)) ers_nil) (by rintro H' vs ⟨v, r, rfl, r1, rfl⟩; rw [r1]) (by simp))) (er_to (er_var rfl r) fun H1 v h => h) (by rw [List.length_map]; simp; omega)) rfl) k
theorem ok_counted (T : Tx K mg)  : GF P w K mg base "counted" 1 ["row"] sp_counted := by
  refine ⟨fn_keep (k := 0) (tt := (t_counted K)) T.d_counted sc_counted len_counted (fun _ _ _ _ _ _ us hl => match us, hl with | [_], _ => rfl) (fun cdv A outer s H E hr => ?_) (pure_counted T), T.d_counted.kp, T.g_counted⟩
  exact (pss_one (ps_ret (pe_op op_cat (pe_lst (pa_cons (pe_callB call_len_seq rfl T.f_len (by decide +kernel) (pa_cons (pv 0) pa_nil)) pa_nil)) (pv 0))))
end
end Sd
end

section
set_option Elab.async false
set_option linter.all false
set_option maxRecDepth 100000
set_option maxHeartbeats 400000
/-! ## 25. desk.py: spans, sprites, rectangles -/
namespace Sd
open PySem PySem.Spec PyProof.Rows L2 Evl
open Si20 (Px)
open Si20Neutral (natsOf listOf)
local macro_rules | `(tactic| walk_at "ev") => `(tactic| first
  | with_reducible exact er_cI
  | focus ((with_reducible apply er_varI); with_unfolding_all rfl)
  | focus ((with_reducible apply er_var); all_goals first | with_unfolding_all rfl | assumption)
  | focus ((with_reducible apply er_op0); all_goals walk_at "ev")
  | focus ((with_reducible apply er_op); all_goals walk_at "ev")
  | focus ((with_reducible apply er_neg); all_goals walk_at "ev")
  | focus ((with_reducible apply er_max); all_goals walk_at "ev")
  | focus ((with_reducible apply er_min); all_goals walk_at "ev")
  | focus ((with_reducible apply er_abs); all_goals walk_at "ev")
  | focus ((with_reducible apply er_intB); all_goals walk_at "ev")
  | focus ((with_reducible apply er_bits); all_goals walk_at "ev")
  | focus ((with_reducible apply er_ixD); all_goals walk_at "ev")
  | focus ((with_reducible apply er_call1); all_goals walk_at "ev")
  | focus ((with_reducible apply er_call2); all_goals walk_at "ev")
  | focus ((with_reducible apply er_call3); all_goals walk_at "ev")
  | focus ((with_reducible apply er_call4); all_goals walk_at "ev")
  | focus ((with_reducible apply er_eq); all_goals walk_at "ev")
  | focus ((with_reducible apply er_ne); all_goals walk_at "ev")
  | focus ((with_reducible apply er_cmp); all_goals walk_at "ev")
  | focus ((with_reducible apply er_chain); all_goals walk_at "ev")
  | focus ((with_reducible apply er_andU); all_goals walk_at "ev")
  | focus ((with_reducible apply er_orU); all_goals walk_at "ev")
  | focus ((with_reducible apply et_t); all_goals walk_at "ev")
  | focus ((with_reducible apply et_b); all_goals walk_at "ev")
  | focus ((with_reducible apply et_andU); all_goals walk_at "ev")
  | focus ((with_reducible apply et_orU); all_goals walk_at "ev")
  | focus ((with_reducible apply Evl.et_not); all_goals walk_at "ev")
  | walk_at "side")
local macro_rules | `(tactic| walk_at "evr") => `(tactic| (refine er_is (by walk_at "ev") (by with_unfolding_all rfl)))
local macro_rules | `(tactic| walk_at "side") => `(tactic| first
  | assumption
  | exact True.intro
  | exact cdiv_ok (by decide) (by decide)
  | exact cmul_l (by omega) (by omega)
  | exact cmul_r (by omega) (by omega)
  | omega
  | decide
  | (dsimp only; done)
  | (dsimp only; first | assumption | omega | decide)
  | (constructor <;> assumption))
local macro_rules | `(tactic| walk_at "ev") => `(tactic| first
  | focus ((with_reducible apply er_s0); all_goals walk_at "ev")
  | focus ((with_reducible apply er_s1); all_goals walk_at "ev")
  | focus ((with_reducible apply er_s2); all_goals walk_at "ev")
  | focus ((with_reducible apply er_tupS); all_goals walk_at "ev")
  | focus ((with_reducible apply er_tupI2); all_goals walk_at "ev")
  | focus ((with_reducible apply er_divmod); all_goals walk_at "ev"))
local macro_rules | `(tactic| walk_at "side") => `(tactic| exact cshl_ok (by omega) (by omega))
local macro_rules | `(tactic| walk_at "ev") => `(tactic| first
  | focus ((with_reducible apply er_wide); all_goals walk_at "ev")
  | focus ((with_reducible apply er_high); all_goals walk_at "ev")
  | focus ((with_reducible apply er_meth1); all_goals walk_at "ev")
  | focus ((with_reducible apply er_meth2); all_goals walk_at "ev")
  | focus ((with_reducible apply er_meth3); all_goals walk_at "ev"))
local macro_rules | `(tactic| walk_at "side") => `(tactic| (focus (decide +kernel)))
abbrev sp_is_sprite : Sp := sp1 RIL (fun l => l.length = 10) RB fun l => Si20.within (gI l 1) 0 7 && (Si20.within (gI l 2) 0 7 && (Si20.within (gI l 3) 0 63 && (Si20.within (gI l 4) 0 63 && Si20.rectOk (gI l 5) (gI l 6))))
/-- is_sprite: 0 given, 1 o, 2 how, 3 k, 4 u, 5 v, 6 w, 7 h, 8 x, 9 y, 10 key -/
def t_is_sprite (K : PySem.W.Frag) : TS :=
  (tSeq (tAsg (tVar 0) (gUnl K 10 (gCons (gName 1) (gCons (gName 2) (gCons (gName 3) (gCons (gName 4) (gCons (gName 5) (gCons (gName 6) (gCons (gName 7) (gCons (gName 8) (gCons (gName 9) (gCons (gName 10) gNil))))))))))))
    (tSeq (tIfS (tOr (tNot (tTest (tChain rLeI rLeI (tC (.int 0)) (tVar 2) (tC (.int (7)))))) (tOr (tNot (tTest (tChain rLeI rLtI (tC (.int 0)) (tVar 3) (tC (.int (8)))))) (tOr (tNot (tTest (tChain rLeI rLtI (tC (.int 0)) (tVar 4) (tC (.int (64)))))) (tNot (tTest (tChain rLeI rLtI (tC (.int 0)) (tVar 5) (tC (.int (64))))))))) (tRet (tC (.bl false))) tNext)
    (tRet (tAndV (tChain rLeI rLeI (tC (.int 0)) (tVar 6) (tC (.int (64)))) (tChain rLeI rLeI (tC (.int 0)) (tVar 7) (tC (.int (64))))))))
/-- sprite: 0 drawer, 1 given, 2 o, 3 how, 4 k, 5 u, 6 v, 7 w, 8 h, 9 x, 10 y, 11 key -/
def t_sprite (K : PySem.W.Frag) : TS :=
  (tSeq (tIfS (tNot (tB (tCall sp_is_sprite [] E0 (tCons (tVar 1) tNil)))) (tRet (tLst (tCons (tC (.int (-2))) tNil))) tNext)
    (tSeq (tAsg (tVar 1) (gUnl K 10 (gCons (gName 2) (gCons (gName 3) (gCons (gName 4) (gCons (gName 5) (gCons (gName 6) (gCons (gName 7) (gCons (gName 8) (gCons (gName 9) (gCons (gName 10) (gCons (gName 11) gNil))))))))))))
    (tSeq (tIfS (tNot (tB (tMeth (He.ga K "Drawer") "has_texture" (sp_D_has_texture K) [] E0 (tVar 0) (tCons (tVar 4) tNil)))) (tRet (tLst (tCons (tC (.int (-3))) tNil))) tNext)
    (tSeq (tDrop (tMeth (He.ga K "Drawer") "draw_sprite" (sp_D_draw_sprite K) [] E0 (tVar 0) (tCons (tVar 3) (tCons (tVar 4) (tCons (tTup (tCons (tVar 5) (tCons (tVar 6) tNil))) (tCons (tTup (tCons (tVar 7) (tCons (tVar 8) tNil))) (tCons (tTup (tCons (tVar 9) (tCons (tVar 10) tNil))) (tCons (tVar 11) tNil))))))))
    (tRet (tLst (tCons (tC (.int 0)) tNil)))))))
/-- fill: 0 drawer, 1 given, 2 o, 3 how, 4 x, 5 y, 6 w, 7 h, 8 colour -/
def t_fill (K : PySem.W.Frag) : TS :=
  (tSeq (tAsg (tVar 1) (gUnl K 7 (gCons (gName 2) (gCons (gName 3) (gCons (gName 4) (gCons (gName 5) (gCons (gName 6) (gCons (gName 7) (gCons (gName 8) gNil)))))))))
    (tSeq (tIfS (tOr (tNot (tTest (tChain rLeI rLeI (tC (.int 0)) (tVar 3) (tC (.int (7)))))) (tOr (tNot (tTest (tChain rLeI rLeI (tC (.int 0)) (tVar 6) (tC (.int (128)))))) (tNot (tTest (tChain rLeI rLeI (tC (.int 0)) (tVar 7) (tC (.int (128)))))))) (tRet (tLst (tCons (tC (.int (-2))) tNil))) tNext)
    (tSeq (tDrop (tMeth (He.ga K "Drawer") "fill" (sp_D_fill K) [] E0 (tVar 0) (tCons (tVar 3) (tCons (tVar 4) (tCons (tVar 5) (tCons (tTup (tCons (tVar 6) (tCons (tVar 7) tNil))) (tCons (tCall sp_pixel_of [] E0 (tCons (tVar 8) tNil)) tNil)))))))
    (tRet (tLst (tCons (tC (.int 0)) tNil))))))
/-- get: 0 drawer, 1 given, 2 o, 3 x, 4 y, 5 w, 6 h -/
def t_get (K : PySem.W.Frag) : TS :=
  (tSeq (tAsg (tVar 1) (gUnl K 5 (gCons (gName 2) (gCons (gName 3) (gCons (gName 4) (gCons (gName 5) (gCons (gName 6) gNil)))))))
    (tSeq (tIfS (tOr (tNot (tTest (tChain rLeI rLeI (tC (.int 0)) (tVar 3) (tFld K (tVar 0) "wide")))) (tNot (tTest (tChain rLeI rLeI (tC (.int 0)) (tVar 4) (tFld K (tVar 0) "high"))))) (tRet (tLst (tCons (tC (.int (-2))) tNil))) tNext)
    (tSeq (tIfS (tOr (tNot (tTest (tChain rLeI rLeI (tC (.int 0)) (tVar 5) (tOp rSubI (tFld K (tVar 0) "wide") (tVar 3))))) (tNot (tTest (tChain rLeI rLeI (tC (.int 0)) (tVar 6) (tOp rSubI (tFld K (tVar 0) "high") (tVar 4)))))) (tRet (tLst (tCons (tC (.int (-2))) tNil))) tNext)
    (tRet (tOp rCat (tLst (tCons (tC (.int 0)) tNil)) (tMeth (He.ga K "Drawer") "rectangle" (sp_D_rectangle K) [] E0 (tVar 0) (tCons (tVar 3) (tCons (tVar 4) (tCons (tVar 5) (tCons (tVar 6) tNil))))))))))
/-- spans: 0 drawer, 1 given, 2 row, 3 how, 4 rows, 5 span -/
def t_spans (K : PySem.W.Frag) : TS :=
  (tSeq (tAsg (tOp (rIxL K) (tVar 1) (tC (.int 1))) (gName 3))
    (tSeq (tIfS (tOr (tNot (tTest (tChain rLeI rLeI (tC (.int 0)) (tVar 3) (tC (.int (127)))))) (tOr (tNot (tTest (tChain rLeI rLeI (tC (.int 0)) (tOp (rIxL K) (tVar 1) (tC (.int 2))) (tC (.int (64)))))) (tTest (tOp rEq (tOp rModI (tOp rDivI (tVar 3) (tC (.int 8))) (tC (.int 4))) (tC (.int 3)))))) (tRet (tLst (tCons (tC (.int (-2))) tNil))) tNext)
    (tSeq (tAsg (tCall sp_spans_of [] E0 (tCons (tVar 2) tNil)) (gName 4))
    (tSeq (tFor (iList K (tVar 4)) (gName 5) (tIfS (tNot (tB (tCall (sp_may_be_drawn K) [] E0 (tCons (tVar 0) (tCons (tVar 5) tNil))))) (tRet (tLst (tCons (tC (.int (-3))) tNil))) tNext))
    (tSeq (tFor (iList K (tVar 4)) (gName 5) (tDrop (tCall (sp_draw_span K) [] E0 (tCons (tVar 0) (tCons (tVar 3) (tCons (tVar 5) tNil))))))
    (tRet (tLst (tCons (tC (.int 0)) tNil))))))))
section
variable {P : Program} {w : World} {K : PySem.W.Frag} {mg : Str → Option Value} {base : Heap}
theorem len_is_sprite : ∀ vs H Q E, sp_is_sprite vs H Q E → vs.length = 1 := sp1_len
theorem ten_of {l : List Int} (h : l.length = 10) : ∃ a0 a1 a2 a3 a4 a5 a6 a7 a8 a9, l = [a0, a1, a2, a3, a4, a5, a6, a7, a8, a9] := by
  match l, h with
  | [a0, a1, a2, a3, a4, a5, a6, a7, a8, a9], _ => exact ⟨_, _, _, _, _, _, _, _, _, _, rfl⟩
theorem not_true {b : Bool} (h : (!b) = false) : b = true := by
  cases b with
  | true => rfl
  | false => cases h
theorem not_false' {b : Bool} (h : (!b) = true) : b = false := by
  cases b with
  | false => rfl
  | true => cases h
theorem within_lt (x : Int) (n : Int) : (decide (0 ≤ x) && decide (x < n + 1)) = Si20.within x 0 n := by
  unfold Si20.within
  congr 1
  rw [decide_eq_decide]
  omega
theorem pure_is_sprite (T : Tx K mg) (vs : List V) (H : Hp) (Q : VK) (E : XK) (h : sp_is_sprite vs H Q E) : t_is_sprite K { nx := fun _ H' => Q .non H', rt := Q } (start ["given", "o", "how", "k", "u", "v", "w", "h", "x", "y", "key"] vs) H := by
  obtain ⟨v0, l, rfl, r, hl, k⟩ := h
  obtain ⟨a0, a1, a2, a3, a4, a5, a6, a7, a8, a9, rfl⟩ := ten_of hl
  have k : ∀ v H', Ex H H' → RB H' v (Si20.within a1 0 7 && (Si20.within a2 0 7 && (Si20.within a3 0 63 && (Si20.within a4 0 63 && (Si20.within a5 0 64 && Si20.within a6 0 64))))) → Q v H' := k
  refine qr_unl (A := AnyA) (R0 := RI) (xs := [a0, a1, a2, a3, a4, a5, a6, a7, a8, a9]) (er_var rfl (ints_rl r)) rfl fun ws H1 e1 hw => ?_
  rw [ints_of hw]
  refine ⟨_, _, rfl, _, _, rfl, _, _, rfl, _, _, rfl, _, _, rfl, _, _, rfl, _, _, rfl, _, _, rfl, _, _, rfl, _, _, rfl, rfl, ?_⟩
  refine q_when (b := (!Si20.within a1 0 7) || ((!(decide (0 ≤ a2) && decide (a2 < 8))) || ((!(decide (0 ≤ a3) && decide (a3 < 64))) || (!(decide (0 ≤ a4) && decide (a4 < 64)))))) (et_orU (Evl.et_not (et_t (er_chain er_cI (er_varI rfl) er_cI))) (et_orU (Evl.et_not (et_t (er_chain er_cI (er_varI rfl) er_cI))) (et_orU (Evl.et_not (et_t (er_chain er_cI (er_varI rfl) er_cI))) (Evl.et_not (et_t (er_chain er_cI (er_varI rfl) er_cI)))))) (fun b H2 e2 => ?_) fun b H2 e2 => ?_
  · rw [show (decide (0 ≤ a2) && decide (a2 < 8)) = Si20.within a2 0 7 from within_lt a2 7, show (decide (0 ≤ a3) && decide (a3 < 64)) = Si20.within a3 0 63 from within_lt a3 63, show (decide (0 ≤ a4) && decide (a4 < 64)) = Si20.within a4 0 63 from within_lt a4 63] at b
    refine sr_ret (R := RB) (x := false) (er_c rfl) fun v H3 e3 r3 => k v H3 ((e1.trans e2).trans e3) ?_
    rw [r3]
    show V.bl _ = V.bl _
    revert b
    cases Si20.within a1 0 7 <;> cases Si20.within a2 0 7 <;> cases Si20.within a3 0 63 <;> cases Si20.within a4 0 63 <;> intro b <;> first | rfl | cases b
  · rw [show (decide (0 ≤ a2) && decide (a2 < 8)) = Si20.within a2 0 7 from within_lt a2 7, show (decide (0 ≤ a3) && decide (a3 < 64)) = Si20.within a3 0 63 from within_lt a3 63, show (decide (0 ≤ a4) && decide (a4 < 64)) = Si20.within a4 0 63 from within_lt a4 63] at b
    refine sr_ret (R := RB) (x := Si20.within a5 0 64 && Si20.within a6 0 64) (er_andU (er_chain er_cI (er_varI rfl) er_cI) (er_chain er_cI (er_varI rfl) er_cI)) fun v H3 e3 r3 => k v H3 ((e1.trans e2).trans e3) ?_
    rw [r3]
    show V.bl _ = V.bl _
    revert b
    cases Si20.within a1 0 7 <;> cases Si20.within a2 0 7 <;> cases Si20.within a3 0 63 <;> cases Si20.within a4 0 63 <;> intro b <;> first | rfl | cases b
theorem ok_is_sprite (T : Tx K mg)  : GF P w K mg base "is_sprite" 1 ["given"] sp_is_sprite := by
  refine ⟨fn_keep (k := 0) (tt := (t_is_sprite K)) T.d_is_sprite sc_is_sprite len_is_sprite (fun _ _ _ _ _ _ us hl => match us, hl with | [_], _ => rfl) (fun cdv A outer s H E hr => ?_) (pure_is_sprite T), T.d_is_sprite.kp, T.g_is_sprite⟩
  exact (pss_cons (ps_asg (pv 0) (pg_unl rfl (pgs_cons (pg_name (i := 1) sc_is_sprite.nd rfl (.inl rfl)) (pgs_cons (pg_name (i := 2) sc_is_sprite.nd rfl (.inl rfl)) (pgs_cons (pg_name (i := 3) sc_is_sprite.nd rfl (.inl rfl)) (pgs_cons (pg_name (i := 4) sc_is_sprite.nd rfl (.inl rfl)) (pgs_cons (pg_name (i := 5) sc_is_sprite.nd rfl (.inl rfl)) (pgs_cons (pg_name (i := 6) sc_is_sprite.nd rfl (.inl rfl)) (pgs_cons (pg_name (i := 7) sc_is_sprite.nd rfl (.inl rfl)) (pgs_cons (pg_name (i := 8) sc_is_sprite.nd rfl (.inl rfl)) (pgs_cons (pg_name (i := 9) sc_is_sprite.nd rfl (.inl rfl)) (pgs_cons (pg_name (i := 10) sc_is_sprite.nd rfl (.inl rfl)) pgs_nil))))))))))))
    (pss_cons (ps_if (PW.pt (pw_or (pt_not (pt_chain op_le op_le pe_int (pv 2) (pe_gi rfl T.i_MOST_WAY))) (pw_or (pt_not (pt_chain op_le op_lt pe_int (pv 3) (pe_gi rfl T.i_TEXTURES))) (pw_or (pt_not (pt_chain op_le op_lt pe_int (pv 4) (pe_gi rfl T.i_SIDE_desk))) (pw_or1 (pt_not (pt_chain op_le op_lt pe_int (pv 5) (pe_gi rfl T.i_SIDE_desk)))))))) (pss_one (ps_ret pe_bl)) pss_nil)
    (pss_one (ps_ret (pe_and (pe_chain op_le op_le pe_int (pv 6) (pe_gi rfl T.i_MOST_SPRITE)) (pe_one (pe_chain op_le op_le pe_int (pv 7) (pe_gi rfl T.i_MOST_SPRITE))))))))
theorem within_iff {x lo hi : Int} (h : Si20.within x lo hi = true) : lo ≤ x ∧ x ≤ hi := by
  unfold Si20.within at h
  rw [Bool.and_eq_true] at h
  exact ⟨of_decide_eq_true h.1, of_decide_eq_true h.2⟩
theorem er_tup2 {s : L2.St} {H : Hp} {ta tb : TE} {m n : Int} (h1 : EvR RI ta s H m) (h2 : EvR RI tb s H n) : EvR (RT K) (tTup (tCons ta (tCons tb tNil))) s H [.int m, .int n] := er_tup (ers_cons h1 (ers_cons h2 ers_nil)) (by
  rintro H' vs ⟨_, _, rfl, rfl, _, _, rfl, rfl, rfl⟩
  rfl) (by simp)
theorem pure_sprite (T : Tx K mg) (vs : List V) (H : Hp) (Q : VK) (E : XK) (h : sp_sprite K vs H Q E) : t_sprite K { nx := fun _ H' => Q .non H', rt := Q } (start ["drawer", "given", "o", "how", "k", "u", "v", "w", "h", "x", "y", "key"] vs) H := by
  obtain ⟨a, us, tg, d, D, st, ⟨g, r, c⟩, rfl, tk, dr, ⟨vg, rfl, rg⟩, ask, k⟩ := h
  simp only at rg ask k
  cases ask with
  | sprite n x0 x1 x2 x3 x4 x5 x6 x7 x8 h6 h7 h8 =>
    have rg0 := rg.ril
    have r0 : RD K (dC K) H (.ref a) st := ⟨tg, d, a, D, rfl, dr⟩
    refine q_when (b := !(Si20.within x0 0 7 && (Si20.within x1 0 7 && (Si20.within x2 0 63 && (Si20.within x3 0 63 && Si20.rectOk x4 x5))))) (Evl.et_not (et_b (er_call1 (x := [n, x0, x1, x2, x3, x4, x5, x6, x7, x8]) (er_var rfl rg0) rfl))) (fun b H1 e1 => ?_) fun b H1 e1 => ?_
    · exact fin_at rfl k (if_neg (by rw [not_false' b]; intro z; cases z)) ((At.start tk dr).ex e1)
    · have b := not_true b
      have hb := b
      rw [Bool.and_eq_true, Bool.and_eq_true, Bool.and_eq_true, Bool.and_eq_true] at hb
      obtain ⟨b0, b1, b2, b3, b4⟩ := hb
      unfold Si20.rectOk at b4
      rw [Bool.and_eq_true] at b4
      have c0 := within_iff b0
      have c1 := within_iff b1
      have c2 := within_iff b2
      have c3 := within_iff b3
      have c4 := within_iff b4.1
      have c5 := within_iff b4.2
      have hspec : ∀ z, (match st.texture x1 with
        | some l => (Si20.drawSprite x0.toNat x8.toNat l x2.toNat x3.toNat x4.toNat x5.toNat x6 x7 st, Si20.say 0)
        | none => (st, Si20.say (-3))) = z → Si20.spec st st (.sprite x0 x1 x2 x3 x4 x5 x6 x7 x8.toNat) = z := fun z hz => (if_pos b).trans hz
      have rg1 := mo e1 rg0
      refine qr_unl (A := AnyA) (R0 := RI) (xs := [n, x0, x1, x2, x3, x4, x5, x6, x7, x8]) (er_var rfl (ints_rl rg1)) rfl fun ws H2 e2 hw => ?_
      rw [ints_of hw]
      refine ⟨_, _, rfl, _, _, rfl, _, _, rfl, _, _, rfl, _, _, rfl, _, _, rfl, _, _, rfl, _, _, rfl, _, _, rfl, _, _, rfl, rfl, ?_⟩
      have r2 := mo (e1.trans e2) r0
      refine q_when (b := !(st.texture x1).isSome) (Evl.et_not (et_b (er_meth1 (x := x1) (by decide +kernel) (er_var rfl r2) (er_varI rfl) ⟨by omega, by omega⟩))) (fun b' H3 e3 => ?_) fun b' H3 e3 => ?_
      · refine fin_at (s := []) rfl k (hspec _ ?_) ((At.start tk dr).ex ((e1.trans e2).trans e3))
        cases ht : st.texture x1 with
        | none => rfl
        | some l => rw [ht] at b'; cases b'
      · cases ht : st.texture x1 with
        | none => rw [ht] at b'; cases b'
        | some l =>
          have f1 : ((x1.toNat : Nat) : Int) = x1 := by omega
          refine q_drop (s_mut (x := SprA.mk x0.toNat x1.toNat x2.toNat x3.toNat x4.toNat x5.toNat x6 x7 x8.toNat) ((At.start tk dr).ex ((e1.trans e2).trans e3)) rfl (by decide +kernel) (fun tg4 _ _ H9 e9 Q' q' => ?_) ⟨by show x0.toNat ≤ 7; omega, by show x1.toNat < 8; omega, by show (st.texture ((x1.toNat : Nat) : Int)).isSome = true; rw [f1, ht]; rfl, by show x2.toNat < 64; omega, by show x3.toNat < 64; omega, by show x4.toNat ≤ 64; omega, by show x5.toNat ≤ 64; omega, h6, h7, by show x8.toNat < 2 ^ 32; omega⟩ fun H4 at4 => ?_)
          · refine ⟨_, rfl, _, rfl, er_tup2 (K := K) (m := x2) (n := x3) (er_varI rfl) (er_varI rfl) H9 e9 _ fun u1 H10 e10 r10 => er_tup2 (K := K) (m := x4) (n := x5) (er_varI rfl) (er_varI rfl) H10 (e9.trans e10) _ fun u2 H11 e11 r11 => er_tup2 (K := K) (m := x6) (n := x7) (er_varI rfl) (er_varI rfl) H11 ((e9.trans e10).trans e11) _ fun u3 H12 e12 r12 => ⟨_, rfl, q' _ H12 ((e10.trans e11).trans e12) ⟨u1, u2, u3, ?_, ?_, ?_, r12⟩⟩⟩
            · show [V.int x0, V.int x1, u1, u2, u3, V.int x8] = [V.int (x0.toNat : Int), V.int (x1.toNat : Int), u1, u2, u3, V.int (x8.toNat : Int)]
              rw [f1, show ((x0.toNat : Nat) : Int) = x0 by omega, show ((x8.toNat : Nat) : Int) = x8 by omega]
            · show RT K H12 u1 [.int (x2.toNat : Int), .int (x3.toNat : Int)]
              rw [show ((x2.toNat : Nat) : Int) = x2 by omega, show ((x3.toNat : Nat) : Int) = x3 by omega]
              exact mo (e11.trans e12) r10
            · show RT K H12 u2 [.int (x4.toNat : Int), .int (x5.toNat : Int)]
              rw [show ((x4.toNat : Nat) : Int) = x4 by omega, show ((x5.toNat : Nat) : Int) = x5 by omega]
              exact mo e12 r11
          · refine fin_at (s := []) rfl k (hspec (Si20.drawSprite x0.toNat x8.toNat l x2.toNat x3.toNat x4.toNat x5.toNat x6 x7 st, Si20.say 0) (by rw [ht])) ?_
            have at4 : At K a d tg H H4 (Si20.drawSprite x0.toNat x8.toNat ((st.texture ((x1.toNat : Nat) : Int)).getD #[]) x2.toNat x3.toNat x4.toNat x5.toNat x6 x7 st) := at4
            rw [f1, ht] at at4
            exact at4
theorem ok_sprite (T : Tx K mg) (G_D_draw_sprite : GM P w K mg base (He.ga K "Drawer") "draw_sprite" 5 ["self", "how", "k", "corner", "size", "spot", "key"] (sp_D_draw_sprite K)) (G_D_has_texture : GM P w K mg base (He.ga K "Drawer") "has_texture" 1 ["self", "k"] (sp_D_has_texture K)) (G_is_sprite : GF P w K mg base "is_sprite" 1 ["given"] sp_is_sprite) : GF P w K mg base "sprite" 6 ["drawer", "given"] (sp_sprite K) := by
  refine ⟨fn_keep (k := 5) (tt := (t_sprite K)) T.d_sprite sc_sprite len_sprite (fun _ _ _ _ _ _ us hl => match us, hl with | [_, _], _ => rfl) (fun cdv A outer s H E hr => ?_) (pure_sprite T), T.d_sprite.kp, T.g_sprite⟩
  exact (pss_cons (ps_if (pt_not (pt_val (pe_gf G_is_sprite (hr.mono (by decide)) rfl (pa_cons (pv 1) pa_nil)))) (pss_one (ps_ret (pe_lst (pa_cons (pe_gi rfl T.i_OUT) pa_nil)))) pss_nil)
    (pss_cons (ps_asg (pv 1) (pg_unl rfl (pgs_cons (pg_name (i := 2) sc_sprite.nd rfl (.inl rfl)) (pgs_cons (pg_name (i := 3) sc_sprite.nd rfl (.inl rfl)) (pgs_cons (pg_name (i := 4) sc_sprite.nd rfl (.inl rfl)) (pgs_cons (pg_name (i := 5) sc_sprite.nd rfl (.inl rfl)) (pgs_cons (pg_name (i := 6) sc_sprite.nd rfl (.inl rfl)) (pgs_cons (pg_name (i := 7) sc_sprite.nd rfl (.inl rfl)) (pgs_cons (pg_name (i := 8) sc_sprite.nd rfl (.inl rfl)) (pgs_cons (pg_name (i := 9) sc_sprite.nd rfl (.inl rfl)) (pgs_cons (pg_name (i := 10) sc_sprite.nd rfl (.inl rfl)) (pgs_cons (pg_name (i := 11) sc_sprite.nd rfl (.inl rfl)) pgs_nil))))))))))))
    (pss_cons (ps_if (pt_not (pt_val (pe_gm (pv 0) T.cl G_D_has_texture (hr.mono (by decide)) (pa_cons (pv 4) pa_nil)))) (pss_one (ps_ret (pe_lst (pa_cons (pe_gi rfl T.i_NOT_SO) pa_nil)))) pss_nil)
    (pss_cons (ps_expr (pe_gm (pv 0) T.cl G_D_draw_sprite (hr.mono (by decide)) (pa_cons (pv 3) (pa_cons (pv 4) (pa_cons (pe_tup (pa_cons (pv 5) (pa_cons (pv 6) pa_nil))) (pa_cons (pe_tup (pa_cons (pv 7) (pa_cons (pv 8) pa_nil))) (pa_cons (pe_tup (pa_cons (pv 9) (pa_cons (pv 10) pa_nil))) (pa_cons (pv 11) pa_nil))))))))
    (pss_one (ps_ret (pe_lst (pa_cons pe_int pa_nil))))))))
theorem pure_fill (T : Tx K mg) (vs : List V) (H : Hp) (Q : VK) (E : XK) (h : sp_fill K vs H Q E) : t_fill K { nx := fun _ H' => Q .non H', rt := Q } (start ["drawer", "given", "o", "how", "x", "y", "w", "h", "colour"] vs) H := by
  obtain ⟨a, us, tg, d, D, st, ⟨g, r, c⟩, rfl, tk, dr, ⟨vg, rfl, rg⟩, ask, k⟩ := h
  simp only at rg ask k
  cases ask with
  | fill n x0 x1 x2 x3 x4 x5 h1 h2 h5 =>
    have rg0 := rg.ril
    refine qr_unl (A := AnyA) (R0 := RI) (xs := [n, x0, x1, x2, x3, x4, x5]) (er_var rfl (ints_rl rg0)) rfl fun ws H1 e1 hw => ?_
    rw [ints_of hw]
    refine ⟨_, _, rfl, _, _, rfl, _, _, rfl, _, _, rfl, _, _, rfl, _, _, rfl, _, _, rfl, rfl, ?_⟩
    refine q_when (b := (!Si20.within x0 0 7) || ((!Si20.within x3 0 128) || (!Si20.within x4 0 128))) (et_orU (Evl.et_not (et_t (er_chain er_cI (er_varI rfl) er_cI))) (et_orU (Evl.et_not (et_t (er_chain er_cI (er_varI rfl) er_cI))) (Evl.et_not (et_t (er_chain er_cI (er_varI rfl) er_cI))))) (fun b H2 e2 => ?_) fun b H2 e2 => ?_
    · refine fin_at (s := []) rfl k (if_neg ?_) ((At.start tk dr).ex (e1.trans e2))
      revert b
      cases Si20.within x0 0 7 <;> cases Si20.within x3 0 128 <;> cases Si20.within x4 0 128 <;> intro b <;> first | (intro z; cases z; done) | cases b
    · have hb : (Si20.within x0 0 7 && (Si20.within x3 0 128 && Si20.within x4 0 128)) = true := by
        revert b
        cases Si20.within x0 0 7 <;> cases Si20.within x3 0 128 <;> cases Si20.within x4 0 128 <;> intro b <;> first | rfl | cases b
      have hb' := hb
      rw [Bool.and_eq_true, Bool.and_eq_true] at hb'
      have c0 := within_iff hb'.1
      have c3 := within_iff hb'.2.1
      have c4 := within_iff hb'.2.2
      refine q_drop (s_mut (x := (x0.toNat, x1, x2, x3.toNat, x4.toNat, Si20.px x5.toNat)) ((At.start tk dr).ex (e1.trans e2)) rfl (by decide +kernel) (fun tg4 z1 z2 H9 e9 Q' q' => ?_) ⟨by show x0.toNat ≤ 7; omega, h1, h2, by show x3.toNat ≤ 128; omega, by show x4.toNat ≤ 128; omega, px_ok _⟩ fun H4 at4 => ?_)
      · refine ⟨_, rfl, _, rfl, _, rfl, er_tup2 (K := K) (m := x3) (n := x4) (er_varI rfl) (er_varI rfl) H9 e9 _ fun u1 H10 e10 r10 => ?_⟩
        have ev : EvL (tCall sp_pixel_of [] E0 (tCons (tVar 8) tNil)) [some (.ref a), some vg, some (.int n), some (.int x0), some (.int x1), some (.int x2), some (.int x3), some (.int x4), some (.int x5)] H2 (vI (pixelOfM x5)) := el_call1 (er_varI rfl) trivial
        rw [show x5 = ((x5.toNat : Nat) : Int) by omega, pixelOf_eq] at ev
        rw [show x5 = ((x5.toNat : Nat) : Int) by omega]
        refine ev H10 (e9.trans e10) _ fun p H11 hp e11 h11 => q' _ H11 (e10.trans e11) ⟨u1, .ref p, ?_, ?_, p, rfl, z2.fresh (fresh_back (e9.trans e10) hp), h11⟩
        · show [V.int x0, V.int x1, V.int x2, u1, V.ref p] = [V.int (x0.toNat : Int), V.int x1, V.int x2, u1, V.ref p]
          rw [show ((x0.toNat : Nat) : Int) = x0 by omega]
        · show RT K H11 u1 [.int (x3.toNat : Int), .int (x4.toNat : Int)]
          rw [show ((x3.toNat : Nat) : Int) = x3 by omega, show ((x4.toNat : Nat) : Int) = x4 by omega]
          exact mo e11 r10
      · exact fin_at (s := []) rfl k (if_pos hb) at4
theorem ok_fill (T : Tx K mg) (G_D_fill : GM P w K mg base (He.ga K "Drawer") "fill" 5 ["self", "how", "x", "y", "size", "pixel"] (sp_D_fill K)) (G_pixel_of : GF P w K mg base "pixel_of" 1 ["colour"] sp_pixel_of) : GF P w K mg base "fill" 6 ["drawer", "given"] (sp_fill K) := by
  refine ⟨fn_keep (k := 5) (tt := (t_fill K)) T.d_fill sc_fill len_fill (fun _ _ _ _ _ _ us hl => match us, hl with | [_, _], _ => rfl) (fun cdv A outer s H E hr => ?_) (pure_fill T), T.d_fill.kp, T.g_fill⟩
  exact (pss_cons (ps_asg (pv 1) (pg_unl rfl (pgs_cons (pg_name (i := 2) sc_fill.nd rfl (.inl rfl)) (pgs_cons (pg_name (i := 3) sc_fill.nd rfl (.inl rfl)) (pgs_cons (pg_name (i := 4) sc_fill.nd rfl (.inl rfl)) (pgs_cons (pg_name (i := 5) sc_fill.nd rfl (.inl rfl)) (pgs_cons (pg_name (i := 6) sc_fill.nd rfl (.inl rfl)) (pgs_cons (pg_name (i := 7) sc_fill.nd rfl (.inl rfl)) (pgs_cons (pg_name (i := 8) sc_fill.nd rfl (.inl rfl)) pgs_nil)))))))))
    (pss_cons (ps_if (PW.pt (pw_or (pt_not (pt_chain op_le op_le pe_int (pv 3) (pe_gi rfl T.i_MOST_WAY))) (pw_or (pt_not (pt_chain op_le op_le pe_int (pv 6) (pe_gi rfl T.i_MOST_SIDE))) (pw_or1 (pt_not (pt_chain op_le op_le pe_int (pv 7) (pe_gi rfl T.i_MOST_SIDE))))))) (pss_one (ps_ret (pe_lst (pa_cons (pe_gi rfl T.i_OUT) pa_nil)))) pss_nil)
    (pss_cons (ps_expr (pe_gm (pv 0) T.cl G_D_fill (hr.mono (by decide)) (pa_cons (pv 3) (pa_cons (pv 4) (pa_cons (pv 5) (pa_cons (pe_tup (pa_cons (pv 6) (pa_cons (pv 7) pa_nil))) (pa_cons (pe_gf G_pixel_of (hr.mono (by decide)) rfl (pa_cons (pv 8) pa_nil)) pa_nil)))))))
    (pss_one (ps_ret (pe_lst (pa_cons pe_int pa_nil)))))))
theorem pxI_list (p : Px) : pxI p = p.list.map fun (x : Nat) => (x : Int) := rfl
theorem bytes_flat (l : List Px) : Si20.bytes l = l.flatMap pxI := by
  unfold Si20.bytes
  rw [List.map_flatMap]
  rfl
theorem rect_eq (s : Si20.St) (x y : Int) (w h : Nat) (hx : 0 ≤ x) (hy : 0 ≤ y) : rectM s x y (w : Int) (h : Int) = Si20.bytes ((List.range (w * h)).map fun (j : Nat) => s.pixels.getD ((y.toNat + j / w) * s.w + x.toNat + j % w) Si20.black) := by
  rw [bytes_flat, map_grid (fun i j => s.pixels.getD ((y.toNat + j) * s.w + x.toNat + i) Si20.black) w h, List.flatMap_assoc]
  unfold rectM
  rw [Int.toNat_natCast, Int.toNat_natCast]
  congr 1
  funext j
  rw [List.flatMap_map]
  congr 1
  funext i
  have e : ixP s (x + (i : Int)) (y + (j : Int)) = (y.toNat + j) * s.w + x.toNat + i := by
    unfold ixP
    rw [show (y + (j : Int)).toNat = y.toNat + j by omega, show (x + (i : Int)).toNat = x.toNat + i by omega]
    omega
  rw [e]
theorem pure_get (T : Tx K mg) (vs : List V) (H : Hp) (Q : VK) (E : XK) (h : sp_get K vs H Q E) : t_get K { nx := fun _ H' => Q .non H', rt := Q } (start ["drawer", "given", "o", "x", "y", "w", "h"] vs) H := by
  obtain ⟨a, us, tg, d, D, st, ⟨g, r, c⟩, rfl, tk, dr, ⟨vg, rfl, rg⟩, ask, k⟩ := h
  simp only at rg ask k
  cases ask with
  | get n x0 x1 x2 x3 =>
    have rg0 := rg.ril
    have r0 : RD K (dC K) H (.ref a) st := ⟨tg, d, a, D, rfl, dr⟩
    have wf := r0.wf
    refine qr_unl (A := AnyA) (R0 := RI) (xs := [n, x0, x1, x2, x3]) (er_var rfl (ints_rl rg0)) rfl fun ws H1 e1 hw => ?_
    rw [ints_of hw]
    refine ⟨_, _, rfl, _, _, rfl, _, _, rfl, _, _, rfl, _, _, rfl, rfl, ?_⟩
    have r1 := mo e1 r0
    refine q_when (b := (!Si20.within x0 0 st.w) || (!Si20.within x1 0 st.h)) (et_orU (Evl.et_not (et_t (er_chain er_cI (er_varI rfl) (er_wide T (er_var rfl r1))))) (Evl.et_not (et_t (er_chain er_cI (er_varI rfl) (er_high T (er_var rfl r1)))))) (fun b H2 e2 => ?_) fun b H2 e2 => ?_
    · refine fin_at (s := []) rfl k (if_neg ?_) ((At.start tk dr).ex (e1.trans e2))
      revert b
      cases Si20.within x0 0 st.w <;> cases Si20.within x1 0 st.h <;> intro b <;> first | (intro z; cases z; done) | cases b
    have r2 := mo e2 r1
    refine q_when (b := (!Si20.within x2 0 (st.w - x0)) || (!Si20.within x3 0 (st.h - x1))) (et_orU (Evl.et_not (et_t (er_chain er_cI (er_varI rfl) (er_op0 (er_wide T (er_var rfl r2)) (er_varI rfl))))) (Evl.et_not (et_t (er_chain er_cI (er_varI rfl) (er_op0 (er_high T (er_var rfl r2)) (er_varI rfl)))))) (fun b' H3 e3 => ?_) fun b' H3 e3 => ?_
    · refine fin_at (s := []) rfl k (if_neg ?_) ((At.start tk dr).ex ((e1.trans e2).trans e3))
      revert b'
      cases Si20.within x0 0 st.w <;> cases Si20.within x1 0 st.h <;> cases Si20.within x2 0 (st.w - x0) <;> cases Si20.within x3 0 (st.h - x1) <;> intro b' <;> first | (intro z; cases z; done) | cases b'
    · have hb : (Si20.within x0 0 st.w && (Si20.within x1 0 st.h && (Si20.within x2 0 (st.w - x0) && Si20.within x3 0 (st.h - x1)))) = true := by
        revert b b'
        cases Si20.within x0 0 st.w <;> cases Si20.within x1 0 st.h <;> cases Si20.within x2 0 (st.w - x0) <;> cases Si20.within x3 0 (st.h - x1) <;> intro b b' <;> first | rfl | (cases b; done) | (cases b'; done)
      have hb' := hb
      rw [Bool.and_eq_true, Bool.and_eq_true, Bool.and_eq_true] at hb'
      have c0 := within_iff hb'.1
      have c1 := within_iff hb'.2.1
      have c2 := within_iff hb'.2.2.1
      have c3 := within_iff hb'.2.2.2
      have r3 := mo e3 r2
      have ew : x2 = ((x2.toNat : Nat) : Int) := by omega
      have eh : x3 = ((x3.toNat : Nat) : Int) := by omega
      have hl := rectM_len st x0 x1 x2 x3
      have hs : Si20.spec st st (.get x0 x1 x2 x3) = (st, ⟨0, rectM st x0 x1 x2 x3, []⟩) := by
        refine (if_pos hb).trans ?_
        have := rect_eq st x0 x1 x2.toNat x3.toNat c0.1 c1.1
        rw [← ew, ← eh] at this
        rw [this]
      have wx := wf.w2
      have hx := wf.h2
      have bl : x3.toNat * (x2.toNat * 4) ≤ 128 * (128 * 4) := Nat.mul_le_mul (by omega) (by omega)
      rw [hs] at k
      refine s_retL (el_is (el_catL (xs := [.int 0]) (ys := vI (rectM st x0 x1 x2 x3)) (elv el_one) (elv (el_meth4 (by decide +kernel) (er_var rfl r3) (er_varI rfl) (er_varI rfl) (er_varI rfl) (er_varI rfl) ⟨c0.1, c1.1, c2.1, c3.1, by omega, by omega⟩)) (by rw [List.length_map, hl]; simp; omega)) rfl) fun p H4 hp e4 h4 => k p H4 (fresh_back ((e1.trans e2).trans e3) hp) ((At.start tk dr).ex (((e1.trans e2).trans e3).trans e4)) ?_
      rw [h4]
      show _ = some (HO.lst (vI ((0 : Int) :: (rectM st x0 x1 x2 x3 ++ []))))
      rw [List.append_nil]
      rfl
theorem ok_get (T : Tx K mg) (G_D_rectangle : GM P w K mg base (He.ga K "Drawer") "rectangle" 2 ["self", "x", "y", "wide", "high"] (sp_D_rectangle K)) : GF P w K mg base "get" 3 ["drawer", "given"] (sp_get K) := by
  refine ⟨fn_keep (k := 2) (tt := (t_get K)) T.d_get sc_get len_get (fun _ _ _ _ _ _ us hl => match us, hl with | [_, _], _ => rfl) (fun cdv A outer s H E hr => ?_) (pure_get T), T.d_get.kp, T.g_get⟩
  exact (pss_cons (ps_asg (pv 1) (pg_unl rfl (pgs_cons (pg_name (i := 2) sc_get.nd rfl (.inl rfl)) (pgs_cons (pg_name (i := 3) sc_get.nd rfl (.inl rfl)) (pgs_cons (pg_name (i := 4) sc_get.nd rfl (.inl rfl)) (pgs_cons (pg_name (i := 5) sc_get.nd rfl (.inl rfl)) (pgs_cons (pg_name (i := 6) sc_get.nd rfl (.inl rfl)) pgs_nil)))))))
    (pss_cons (ps_if (PW.pt (pw_or (pt_not (pt_chain op_le op_le pe_int (pv 3) (pe_fld (pv 0) rfl))) (pw_or1 (pt_not (pt_chain op_le op_le pe_int (pv 4) (pe_fld (pv 0) rfl)))))) (pss_one (ps_ret (pe_lst (pa_cons (pe_gi rfl T.i_OUT) pa_nil)))) pss_nil)
    (pss_cons (ps_if (PW.pt (pw_or (pt_not (pt_chain op_le op_le pe_int (pv 5) (pe_op op_sub (pe_fld (pv 0) rfl) (pv 3)))) (pw_or1 (pt_not (pt_chain op_le op_le pe_int (pv 6) (pe_op op_sub (pe_fld (pv 0) rfl) (pv 4))))))) (pss_one (ps_ret (pe_lst (pa_cons (pe_gi rfl T.i_OUT) pa_nil)))) pss_nil)
    (pss_one (ps_ret (pe_op op_cat (pe_lst (pa_cons pe_int pa_nil)) (pe_gm (pv 0) T.cl G_D_rectangle (hr.mono (by decide)) (pa_cons (pv 3) (pa_cons (pv 4) (pa_cons (pv 5) (pa_cons (pv 6) pa_nil)))))))))))
end
end Sd
end

section
set_option Elab.async false
set_option linter.all false
set_option maxRecDepth 100000
set_option maxHeartbeats 400000
/-! ## 26. desk.py: spans -/
namespace Sd
open PySem PySem.Spec PyProof.Rows L2 Evl
open Si20 (Px)
open Si20Neutral (natsOf listOf)
local macro_rules | `(tactic| walk_at "ev") => `(tactic| first
  | with_reducible exact er_cI
  | focus ((with_reducible apply er_varI); with_unfolding_all rfl)
  | focus ((with_reducible apply er_var); all_goals first | with_unfolding_all rfl | assumption)
  | focus ((with_reducible apply er_op0); all_goals walk_at "ev")
  | focus ((with_reducible apply er_op); all_goals walk_at "ev")
  | focus ((with_reducible apply er_neg); all_goals walk_at "ev")
  | focus ((with_reducible apply er_max); all_goals walk_at "ev")
  | focus ((with_reducible apply er_min); all_goals walk_at "ev")
  | focus ((with_reducible apply er_abs); all_goals walk_at "ev")
  | focus ((with_reducible apply er_intB); all_goals walk_at "ev")
  | focus ((with_reducible apply er_bits); all_goals walk_at "ev")
  | focus ((with_reducible apply er_ixD); all_goals walk_at "ev")
  | focus ((with_reducible apply er_call1); all_goals walk_at "ev")
  | focus ((with_reducible apply er_call2); all_goals walk_at "ev")
  | focus ((with_reducible apply er_call3); all_goals walk_at "ev")
  | focus ((with_reducible apply er_call4); all_goals walk_at "ev")
  | focus ((with_reducible apply er_eq); all_goals walk_at "ev")
  | focus ((with_reducible apply er_ne); all_goals walk_at "ev")
  | focus ((with_reducible apply er_cmp); all_goals walk_at "ev")
  | focus ((with_reducible apply er_chain); all_goals walk_at "ev")
  | focus ((with_reducible apply er_andU); all_goals walk_at "ev")
  | focus ((with_reducible apply er_orU); all_goals walk_at "ev")
  | focus ((with_reducible apply et_t); all_goals walk_at "ev")
  | focus ((with_reducible apply et_b); all_goals walk_at "ev")
  | focus ((with_reducible apply et_andU); all_goals walk_at "ev")
  | focus ((with_reducible apply et_orU); all_goals walk_at "ev")
  | focus ((with_reducible apply Evl.et_not); all_goals walk_at "ev")
  | walk_at "side")
local macro_rules | `(tactic| walk_at "evr") => `(tactic| (refine er_is (by walk_at "ev") (by with_unfolding_all rfl)))
local macro_rules | `(tactic| walk_at "side") => `(tactic| first
  | assumption
  | exact True.intro
  | exact cdiv_ok (by decide) (by decide)
  | exact cmul_l (by omega) (by omega)
  | exact cmul_r (by omega) (by omega)
  | omega
  | decide
  | (dsimp only; done)
  | (dsimp only; first | assumption | omega | decide)
  | (constructor <;> assumption))
local macro_rules | `(tactic| walk_at "ev") => `(tactic| first
  | focus ((with_reducible apply er_s0); all_goals walk_at "ev")
  | focus ((with_reducible apply er_s1); all_goals walk_at "ev")
  | focus ((with_reducible apply er_s2); all_goals walk_at "ev")
  | focus ((with_reducible apply er_tupS); all_goals walk_at "ev")
  | focus ((with_reducible apply er_tupI2); all_goals walk_at "ev")
  | focus ((with_reducible apply er_divmod); all_goals walk_at "ev"))
local macro_rules | `(tactic| walk_at "side") => `(tactic| exact cshl_ok (by omega) (by omega))
local macro_rules | `(tactic| walk_at "ev") => `(tactic| first
  | focus ((with_reducible apply er_wide); all_goals walk_at "ev")
  | focus ((with_reducible apply er_high); all_goals walk_at "ev")
  | focus ((with_reducible apply er_meth1); all_goals walk_at "ev")
  | focus ((with_reducible apply er_meth2); all_goals walk_at "ev")
  | focus ((with_reducible apply er_meth3); all_goals walk_at "ev"))
local macro_rules | `(tactic| walk_at "side") => `(tactic| (focus (decide +kernel)))
section
variable {P : Program} {w : World} {K : PySem.W.Frag} {mg : Str → Option Value} {base : Heap}
theorem spansOf_eq (l : List Int) (h : l.length % 20 = 0) : Si20.spansOf l = (pieces 20 l).map Si20.spanOf := by
  unfold Si20.spansOf
  rw [chunk_eq 20 l (by omega) h, List.map_map]
  rfl
theorem span_wh (how : Nat) (p : Si20.Span) (s : Si20.St) : (Si20.drawSpan how s p).w = s.w ∧ (Si20.drawSpan how s p).h = s.h ∧ (Si20.drawSpan how s p).textures = s.textures :=
  (fold_inv (fun (t : Si20.St) => t.w = s.w ∧ t.h = s.h ∧ t.textures = s.textures) (Si20.drawPlace how p) (Si20.drawPlace how p) (List.range p.n.toNat) s ⟨rfl, rfl, rfl⟩ fun t x ⟨h1, h2, h3⟩ _ => by
    obtain ⟨w1, w2, w3⟩ := place_wh how p t x
    exact ⟨rfl, w1.trans h1, w2.trans h2, w3.trans h3⟩).2
theorem spanP_of {st : Si20.St} {l : List Int} (hl : l.length = 20) (hb : ∀ z ∈ l, I32 z) (ok : (Si20.spanOf l).Ok st = true) : SpanP st l := by
  have ok : ((decide (0 ≤ gI l 2) && decide (gI l 2 ≤ 1024)) && (decide (gI l 19 < 0) || (decide (gI l 19 < 8) && (st.texture (gI l 19)).isSome))) = true := ok
  rw [Bool.and_eq_true, Bool.and_eq_true, Bool.or_eq_true, Bool.and_eq_true] at ok
  obtain ⟨⟨h1, h2⟩, h3⟩ := ok
  refine ⟨hl, hb, of_decide_eq_true h1, of_decide_eq_true h2, ?_⟩
  rcases h3 with h | ⟨h, h'⟩
  · exact .inl (of_decide_eq_true h)
  · exact .inr ⟨of_decide_eq_true h, h'⟩
theorem pure_spans (T : Tx K mg) (vs : List V) (H : Hp) (Q : VK) (E : XK) (h : sp_spans K vs H Q E) : t_spans K { nx := fun _ H' => Q .non H', rt := Q } (start ["drawer", "given", "row", "how", "rows", "span"] vs) H := by
  obtain ⟨a, us, tg, d, D, st, ⟨g, r, c⟩, rfl, tk, dr, ⟨vg, vr, rfl, rg, rr⟩, ask, k⟩ := h
  simp only at rg rr ask k
  cases ask with
  | spans n how m _ hl hb =>
    have rg0 := rg.ril
    have rr0 := rr.ril
    have r0 : RD K (dC K) H (.ref a) st := ⟨tg, d, a, D, rfl, dr⟩
    have at0 := At.start tk dr
    show t_spans K { nx := fun _ H' => Q .non H', rt := Q } [some (.ref a), some vg, some vr, none, none, none] H
    refine qr_asgI (n := how) (er_at 1 rfl rfl rg0 (by simp)) fun H1 e1 => ?_
    have rg1 := mo e1 rg0
    refine q_when (b := (!Si20.within how 0 127) || ((!Si20.within m 0 64) || decide (how / 8 % 4 = 3))) (et_orU (Evl.et_not (et_t (er_chain er_cI (er_varI rfl) er_cI))) (et_orU (Evl.et_not (et_t (er_chain er_cI (er_at 2 rfl rfl rg1 (by simp)) er_cI))) (et_t (er_eq (er_op (er_op (er_varI rfl) er_cI (cdiv_ok (by decide) (by decide))) er_cI (by decide)) er_cI)))) (fun b H2 e2 => ?_) fun b H2 e2 => ?_
    · refine fin_at (s := []) rfl k (if_neg ?_) (at0.ex (e1.trans e2))
      unfold Si20.howOk
      have e : (how / 8 % 4 != 3) = !decide (how / 8 % 4 = 3) := by
        rw [bne, Bool.beq_eq_decide_eq]
      rw [e]
      revert b
      cases Si20.within how 0 127 <;> cases Si20.within m 0 64 <;> cases decide (how / 8 % 4 = 3) <;> intro b <;> first | (intro z; cases z; done) | cases b
    have hok : (Si20.howOk how && Si20.within m 0 64) = true ∧ Si20.within how 0 127 = true ∧ Si20.within m 0 64 = true ∧ decide (how / 8 % 4 = 3) = false := by
      unfold Si20.howOk
      have e : (how / 8 % 4 != 3) = !decide (how / 8 % 4 = 3) := by
        rw [bne, Bool.beq_eq_decide_eq]
      rw [e]
      revert b
      cases Si20.within how 0 127 <;> cases Si20.within m 0 64 <;> cases decide (how / 8 % 4 = 3) <;> intro b <;> first | exact ⟨rfl, rfl, rfl, rfl⟩ | cases b
    obtain ⟨hok1, w1, w2, w3⟩ := hok
    have c1 := within_iff w1
    have c2 := within_iff w2
    have c3 := of_decide_eq_false w3
    rw [if_pos (show 0 ≤ 20 * m ∧ 20 * m ≤ 1280 by omega)] at hl
    have hl20 : r.length % 20 = 0 := by omega
    have hspec : ∀ z, (if (Si20.spansOf r).all (fun (p : Si20.Span) => p.Ok st) = true then ((Si20.spansOf r).foldl (Si20.drawSpan how.toNat) st, Si20.say 0) else (st, Si20.say (-3))) = z → Si20.spec st st (.spans how m r) = z := fun z hz => (if_pos hok1).trans hz
    rw [spansOf_eq r hl20] at hspec
    have e02 := e1.trans e2
    have rr2 := mo e02 rr0
    -- the rows
    have evs : EvNN RI (tCall sp_spans_of [] E0 (tCons (tVar 2) tNil)) [some (.ref a), some vg, some vr, some (.int how), none, none] H2 (pieces 20 r) := enn_call1 (er_var rfl rr2) (by show r.length ≤ 1280; omega)
    have tk2 := tk.mono e02
    refine s_asgT (D := { nx := _, rt := _ }) (evs H2 (Ex.refl _) _ fun p ws H3 hp e3 h3 r3 => ?_)
    have e03 := e02.trans e3
    have un : ∀ b, H2 b = none → Un_ tg b := fun b hb => tk2.fresh hb
    have up : Un_ tg p := un p hp
    have item : ∀ (i : Nat) v, ws[i]? = some v → ∃ l, (pieces 20 r)[i]? = some l ∧ RIu (Un_ tg) H3 v l ∧ l.length = 20 ∧ ∀ z ∈ l, I32 z := fun i v hv => by
      obtain ⟨l, hl', q, us, f1, f2, f3, f4⟩ := r3.get' hv
      refine ⟨l, hl', ⟨q, f1, un q f2, by rw [f3, ints_of f4]⟩, ?_⟩
      rw [chunk_eq 20 r (by omega) hl20] at hl'
      have mem := List.mem_of_getElem? hl'
      obtain ⟨j, hj, rfl⟩ := List.mem_map.mp mem
      have hj := List.mem_range.mp hj
      refine ⟨by rw [List.length_take, List.length_drop]; omega, fun z hz => hb z (List.mem_of_mem_drop (List.mem_of_mem_take hz))⟩
    show tSeq _ _ _ [some (.ref a), some vg, some vr, some (.int how), some (.ref p), none] H3
    -- all may be drawn
    refine ⟨.ref p, rfl, p, rfl, ⟨ws, SqL.of h3⟩, ?_⟩
    refine for_list (xs := ws) (fun i σ H' => (∃ o, σ = [some (.ref a), some vg, some vr, some (.int how), some (.ref p), o]) ∧ Ex H3 H' ∧ ∀ j l, j < i → (pieces 20 r)[j]? = some l → (Si20.spanOf l).Ok st = true) ⟨⟨none, rfl⟩, Ex.refl _, by intro j l hj; omega⟩ ?_ ?_ ?_
    · rintro i σ H' _ ⟨_, e, _⟩
      exact SqL.of (e _ _ h3)
    · rintro i v σ H' hv ⟨⟨o, rfl⟩, e, hall⟩
      obtain ⟨l, hl', rl, ll, lb⟩ := item i v hv
      have r4 := mo (e03.trans e) r0
      have rl4 := mo e rl.ril
      show tIfS _ _ _ _ [some (.ref a), some vg, some vr, some (.int how), some (.ref p), some v] H'
      refine s_if (b := !(Si20.spanOf l).Ok st) (Evl.et_not (et_b (er_call2 (er_var rfl r4) (er_var rfl rl4) ll))) (fun b H5 e5 => ?_) fun b H5 e5 => ?_
      · refine fin_at (s := []) rfl k (hspec _ (if_neg fun z => ?_)) (at0.ex ((e03.trans e).trans e5))
        have := List.all_eq_true.mp z (Si20.spanOf l) (List.mem_map.mpr ⟨l, List.mem_of_getElem? hl', rfl⟩)
        rw [this] at b
        cases b
      · refine ⟨⟨_, rfl⟩, e.trans e5, fun j l' hj hl2 => ?_⟩
        by_cases hji : j = i
        · subst hji
          rw [hl'] at hl2
          cases hl2
          exact not_true b
        · exact hall j l' (by omega) hl2
    · rintro σ H4 ⟨⟨o, rfl⟩, e4, hall⟩
      rw [r3.1] at hall
      have okA : ∀ j l, (pieces 20 r)[j]? = some l → (Si20.spanOf l).Ok st = true := fun j l hl' => hall j l (List.getElem?_eq_some_iff.mp hl').1 hl'
      have e04 := e03.trans e4
      -- all are drawn
      refine ⟨.ref p, rfl, p, rfl, ⟨ws, SqL.of (e4 _ _ h3)⟩, ?_⟩
      have dr4 := dr.mono e04
      have tk4 := tk.mono e04
      refine for_list (xs := ws) (fun i σ H' => (∃ o, σ = [some (.ref a), some vg, some vr, some (.int how), some (.ref p), o]) ∧ At K a d tg H4 H' (((pieces 20 r).take i).foldl (fun s l => Si20.drawSpan how.toNat s (Si20.spanOf l)) st)) ⟨⟨_, rfl⟩, At.start tk4 dr4⟩ ?_ ?_ ?_
      · rintro i σ H' _ ⟨_, tg', D', z, _⟩
        exact SqL.of (z.un up (e4 _ _ h3)).2
      · rintro i v σ H' hv ⟨⟨o, rfl⟩, at5⟩
        obtain ⟨l, hl', rl, ll, lb⟩ := item i v hv
        generalize hst : ((pieces 20 r).take i).foldl (fun s l => Si20.drawSpan how.toNat s (Si20.spanOf l)) st = st5 at at5
        have tx : st5.textures = st.textures := by
          rw [← hst]
          exact fold_tx _ (fun s x => (span_wh _ _ _).2.2) _ _
        have spp := spanP_of ll lb (okA i l hl')
        have spp5 : SpanP st5 l := by
          obtain ⟨s1, s2, s3, s4, s5⟩ := spp
          exact ⟨s1, s2, s3, s4, by rw [tex_keep tx]; exact s5⟩
        refine s_mutC (x := (how.toNat, l)) at5 rfl (fun tg4 z1 _ H9 e9 Q' q' => ?_) ⟨⟨by show how.toNat ≤ 127; omega, by show how.toNat / 8 % 4 ≠ 3; omega⟩, spp5⟩ fun H6 at6 => ⟨⟨_, rfl⟩, ?_⟩
        · refine ⟨_, rfl, _, rfl, q' _ H9 (Ex.refl _) ⟨v, ?_, mo e9 (z1.riu (mo e4 rl))⟩⟩
          show [V.int how, v] = [V.int ((how.toNat : Nat) : Int), v]
          rw [show ((how.toNat : Nat) : Int) = how by omega]
        · rw [take_succ_of hl', List.foldl_append, hst]
          exact at6
      · rintro σ H5 ⟨⟨o, rfl⟩, at5⟩
        rw [r3.1, List.take_length] at at5
        refine fin_at (s := []) rfl k (hspec (((pieces 20 r).map Si20.spanOf).foldl (Si20.drawSpan how.toNat) st, Si20.say 0) (if_pos ?_)) ?_
        · refine List.all_eq_true.mpr fun q hq => ?_
          obtain ⟨l, hl', rfl⟩ := List.mem_map.mp hq
          obtain ⟨i, hi⟩ := List.getElem?_of_mem hl'
          exact okA i l hi
        · rw [List.foldl_map]
          exact At.trans (Stp.ofEx e04) at5
theorem ok_spans (T : Tx K mg) (G_draw_span : GF P w K mg base "draw_span" 6 ["drawer", "how", "span"] (sp_draw_span K)) (G_may_be_drawn : GF P w K mg base "may_be_drawn" 2 ["drawer", "span"] (sp_may_be_drawn K)) (G_spans_of : GF P w K mg base "spans_of" 1 ["row"] sp_spans_of) : GF P w K mg base "spans" 7 ["drawer", "given", "row"] (sp_spans K) := by
  refine ⟨fn_keep (k := 6) (tt := (t_spans K)) T.d_spans sc_spans len_spans (fun _ _ _ _ _ _ us hl => match us, hl with | [_, _, _], _ => rfl) (fun cdv A outer s H E hr => ?_) (pure_spans T), T.d_spans.kp, T.g_spans⟩
  exact (pss_cons (ps_set (i := 3) sc_spans.nd rfl (.inl rfl) (pe_ix ix_list (pv 1) pe_int (fun _ _ => rfl)))
    (pss_cons (ps_if (PW.pt (pw_or (pt_not (pt_chain op_le op_le pe_int (pv 3) (pe_gi rfl T.i_MOST_HOW))) (pw_or (pt_not (pt_chain op_le op_le pe_int (pe_ix ix_list (pv 1) pe_int (fun _ _ => rfl)) (pe_gi rfl T.i_MOST_SPANS))) (pw_or1 (pt_cmpR op_eq (pe_op op_mod (pe_op op_fdiv (pv 3) pe_int) pe_int) pe_int (nomark _)))))) (pss_one (ps_ret (pe_lst (pa_cons (pe_gi rfl T.i_OUT) pa_nil)))) pss_nil)
    (pss_cons (ps_set (i := 4) sc_spans.nd rfl (.inl rfl) (pe_gf G_spans_of (hr.mono (by decide)) rfl (pa_cons (pv 2) pa_nil)))
    (pss_cons (ps_for PassesOwn.never rfl (pi_list (pv 4)) (pg_name (i := 5) sc_spans.nd rfl (.inl rfl)) (pss_one (ps_if (pt_not (pt_val (pe_gf G_may_be_drawn (hr.mono (by decide)) rfl (pa_cons (pv 0) (pa_cons (pv 5) pa_nil))))) (pss_one (ps_ret (pe_lst (pa_cons (pe_gi rfl T.i_NOT_SO) pa_nil)))) pss_nil)))
    (pss_cons (ps_for PassesOwn.never rfl (pi_list (pv 4)) (pg_name (i := 5) sc_spans.nd rfl (.inl rfl)) (pss_one (ps_expr (pe_gf G_draw_span (hr.mono (by decide)) rfl (pa_cons (pv 0) (pa_cons (pv 3) (pa_cons (pv 5) pa_nil)))))))
    (pss_one (ps_ret (pe_lst (pa_cons pe_int pa_nil)))))))))
end
end Sd
end

section
set_option Elab.async false
set_option linter.all false
set_option maxRecDepth 100000
set_option maxHeartbeats 400000
/-! ## 27. Plain laws of what is answered -/
namespace Sd
open Si20 (Px)
open Si20Neutral (natsOf listOf)
theorem flat_cong {a b : Type} {f g : a → List b} : ∀ l : List a, (∀ x ∈ l, f x = g x) → l.flatMap f = l.flatMap g
  | [], _ => rfl
  | x :: r, h => by
    rw [List.flatMap_cons, List.flatMap_cons, h x (by simp), flat_cong r fun y hy => h y (by simp [hy])]
/-! ### small, give, apart -/
theorem small_eq (s : Si20.St) (wf : Wf s) : smallM s = Si20.bytes (Si20.halved s) := by
  unfold Si20.halved
  have e := map_grid (fun i j => ((s.pixels.getD ((2 * j + 0) * s.w + 2 * i + 0) Si20.black).zip Si20.mean (s.pixels.getD ((2 * j + 0) * s.w + 2 * i + 1) Si20.black)).zip Si20.mean ((s.pixels.getD ((2 * j + 1) * s.w + 2 * i + 0) Si20.black).zip Si20.mean (s.pixels.getD ((2 * j + 1) * s.w + 2 * i + 1) Si20.black))) (s.w / 2) (s.h / 2)
  refine Eq.trans ?_ (congrArg Si20.bytes e.symm)
  rw [bytes_flat, List.flatMap_assoc]
  unfold smallM
  refine flat_cong _ ?_
  intro j hj
  have hj := List.mem_range.mp hj
  rw [List.flatMap_map]
  refine flat_cong _ ?_
  intro i hi
  have hi := List.mem_range.mp hi
  have w3 := wf.w3
  have h3 := wf.h3
  congr 1
  have px : ∀ (a b : Nat), a ≤ 1 → b ≤ 1 → pixAt s (((i * 2 : Nat) : Int) + (a : Int)) (((j * 2 : Nat) : Int) + (b : Int)) = s.pixels.getD ((2 * j + b) * s.w + 2 * i + a) Si20.black := fun a b ha hb => by
    rw [pixAt_on ⟨by omega, by omega, by omega, by omega⟩]
    congr 1
    unfold ixP
    rw [show (((j * 2 : Nat) : Int) + (b : Int)).toNat = 2 * j + b by omega, show (((i * 2 : Nat) : Int) + (a : Int)).toNat = 2 * i + a by omega]
    omega
  have p00 := px 0 0 (by omega) (by omega)
  have p10 := px 1 0 (by omega) (by omega)
  have p01 := px 0 1 (by omega) (by omega)
  have p11 := px 1 1 (by omega) (by omega)
  unfold meanPx
  rw [show ((0 : Nat) : Int) = 0 from rfl, Int.add_zero] at p00 p10 p01
  rw [show ((1 : Nat) : Int) = 1 from rfl] at p10 p01 p11
  rw [Int.add_zero] at p00
  rw [p00, p10, p01, p11]
theorem give_eq (s : Si20.St) : giveM s = (List.range (s.w * s.h)).map fun (i : Nat) => ((Si20.cut s i : Nat) : Int) := by
  unfold giveM
  rw [← map_grid (fun x y => ((Si20.cut s (y * s.w + x) : Nat) : Int)) s.w s.h]
  refine List.map_congr_left fun j _ => ?_
  rw [Nat.mul_comm, Nat.div_add_mod]
theorem zip_flat {b : Type} (f : Int → Int → Int) (g h : b → List Int) (hl : ∀ x, (g x).length = (h x).length) : ∀ l : List b, List.zipWith f (l.flatMap g) (l.flatMap h) = l.flatMap fun x => List.zipWith f (g x) (h x)
  | [] => rfl
  | x :: r => by
    rw [List.flatMap_cons, List.flatMap_cons, List.flatMap_cons, List.zipWith_append (hl x), zip_flat f g h hl r]
theorem sum_flat {b : Type} (g : b → List Int) : ∀ l : List b, (l.flatMap g).sum = (l.map fun x => (g x).sum).sum
  | [] => rfl
  | x :: r => by
    rw [List.flatMap_cons, List.sum_append, sum_flat g r, List.map_cons, List.sum_cons]
theorem sum_cast : ∀ l : List Nat, ((l.sum : Nat) : Int) = (l.map fun (n : Nat) => (n : Int)).sum
  | [] => rfl
  | x :: r => by
    rw [List.sum_cons, Int.natCast_add, sum_cast r, List.map_cons, List.sum_cons]
theorem abs_px (a b : Px) : (List.zipWith absM (pxI a) (pxI b)).sum = (((a.zip (fun (a b : Nat) => max a b - min a b) b).list.sum : Nat) : Int) := by
  rw [sum_cast]
  have e : ∀ m n : Nat, absM (m : Int) (n : Int) = ((max m n - min m n : Nat) : Int) := fun m n => by
    unfold absM
    rw [Nat.max_def, Nat.min_def]
    split <;> split <;> omega
  show ([absM a.b b.b, absM a.g b.g, absM a.r b.r, absM a.a b.a]).sum = _
  rw [e, e, e, e]
  rfl
theorem tile_eq (s t : Si20.St) (hw : s.w = t.w) (x y : Nat) : (List.zipWith absM (tileM s ((x * 8 : Nat) : Int) ((y * 8 : Nat) : Int)) (tileM t ((x * 8 : Nat) : Int) ((y * 8 : Nat) : Int))).sum = ((((List.range 64).map fun (j : Nat) => (((s.pixels.getD ((y * 8 + j / 8) * s.w + x * 8 + j % 8) Si20.black).zip (fun (a b : Nat) => max a b - min a b) (t.pixels.getD ((y * 8 + j / 8) * s.w + x * 8 + j % 8) Si20.black)).list).sum).sum : Nat) : Int) := by
  unfold tileM rectM
  rw [show ((8 : Int)).toNat = 8 from rfl]
  rw [zip_flat _ _ _ (fun j => by rw [flat_c (k := 4) _ _ (fun i => pxI_len _), flat_c (k := 4) _ _ (fun i => pxI_len _)])]
  rw [sum_cast, List.map_map]
  rw [show (64 : Nat) = 8 * 8 from rfl]
  have mg := map_grid (fun i j => (((((s.pixels.getD ((y * 8 + j) * s.w + x * 8 + i) Si20.black).zip (fun (a b : Nat) => max a b - min a b) (t.pixels.getD ((y * 8 + j) * s.w + x * 8 + i) Si20.black)).list).sum : Nat) : Int)) 8 8
  refine Eq.trans ?_ (congrArg List.sum mg.symm)
  rw [sum_flat, sum_flat]
  congr 1
  refine List.map_congr_left fun j _ => ?_
  rw [zip_flat _ _ _ (fun i => by rw [pxI_len, pxI_len]), sum_flat]
  congr 1
  refine List.map_congr_left fun i _ => ?_
  rw [abs_px]
  have es : ixP s (((x * 8 : Nat) : Int) + (i : Int)) (((y * 8 : Nat) : Int) + (j : Int)) = (y * 8 + j) * s.w + x * 8 + i := by
    unfold ixP
    rw [show (((y * 8 : Nat) : Int) + (j : Int)).toNat = y * 8 + j by omega, show (((x * 8 : Nat) : Int) + (i : Int)).toNat = x * 8 + i by omega]
    omega
  have et : ixP t (((x * 8 : Nat) : Int) + (i : Int)) (((y * 8 : Nat) : Int) + (j : Int)) = (y * 8 + j) * s.w + x * 8 + i := by
    rw [← es]
    unfold ixP
    rw [hw]
  rw [es, et]
theorem apart_eq (s t : Si20.St) (hw : s.w = t.w) : apartM s t = ((List.range (s.w / 8 * (s.h / 8))).map (Si20.tileApart s t)).map fun (x : Nat) => (x : Int) := by
  unfold apartM
  rw [List.map_map]
  have mg := map_grid (fun x y => ((((List.range 64).map fun (j : Nat) => (((s.pixels.getD ((y * 8 + j / 8) * s.w + x * 8 + j % 8) Si20.black).zip (fun (a b : Nat) => max a b - min a b) (t.pixels.getD ((y * 8 + j / 8) * s.w + x * 8 + j % 8) Si20.black)).list).sum).sum : Nat) : Int)) (s.w / 8) (s.h / 8)
  refine Eq.trans ?_ mg.symm
  refine flat_cong _ fun y _ => ?_
  induction List.range (s.w / 8) with
  | nil => rfl
  | cons x r ih =>
    rw [List.flatMap_cons, List.map_cons, ih, tile_eq s t hw x y]
    rfl
/-! ### points -/
theorem chunks_pieces (l : List Nat) (h : l.length % 4 = 0) : Si20.chunks 4 l = pieces 4 l := (chunk_eq 4 l (by omega) h).symm
theorem moved_eq (m p : List Nat) (h : m.length = 16) : Si20.moved m p = (pieces 4 m).map fun r => Si20.dot r p := by
  unfold Si20.moved
  rw [chunk_eq 4 m (by omega) (by omega), h, List.map_map]
  rfl
theorem count_filter (l : List (List Nat)) : ((l.map fun q => ((Si20.sides q : Nat) : Int)).count 0 : Int) = ((l.filter fun (q : List Nat) => Si20.sides q == 0).length : Int) := by
  congr 1
  induction l with
  | nil => rfl
  | cons q r ih =>
    rw [List.map_cons, List.count_cons, ih, List.filter_cons]
    generalize Si20.sides q = n
    by_cases h : n = 0
    · subst h
      simp
    · rw [if_neg (by simp; omega), if_neg (by simp; omega)]
      rfl
theorem move_eq (m p : List Nat) (hm : m.length = 16) (hp : p.length % 4 = 0) : moveM (pieces 4 m) p = listOf ⟨((((Si20.chunks 4 p).map (Si20.moved m)).filter fun (q : List Nat) => Si20.sides q == 0).length : Nat), ((Si20.chunks 4 p).map (Si20.moved m)).flatten.map fun (x : Nat) => (x : Int), ((Si20.chunks 4 p).map (Si20.moved m)).map Si20.sides⟩ := by
  have e : (Si20.chunks 4 p).map (Si20.moved m) = ptsM (pieces 4 m) p := by
    unfold ptsM
    rw [chunks_pieces p hp]
    refine List.map_congr_left fun q _ => ?_
    exact moved_eq m q hm
  rw [e]
  unfold moveM
  rw [count_filter]
  show _ = _ :: (_ ++ _)
  rw [List.cons_append, List.map_flatten, List.flatMap_def]
  congr 1
  congr 1
  exact (List.map_map ..).symm
end Sd
end

section
set_option Elab.async false
set_option linter.all false
set_option maxRecDepth 100000
set_option maxHeartbeats 400000
/-! ## 28. desk.py: what reads; the matrix, the light, points -/
namespace Sd
open PySem PySem.Spec PyProof.Rows L2 Evl
open Si20 (Px)
open Si20Neutral (natsOf listOf)
local macro_rules | `(tactic| walk_at "ev") => `(tactic| first
  | with_reducible exact er_cI
  | focus ((with_reducible apply er_varI); with_unfolding_all rfl)
  | focus ((with_reducible apply er_var); all_goals first | with_unfolding_all rfl | assumption)
  | focus ((with_reducible apply er_op0); all_goals walk_at "ev")
  | focus ((with_reducible apply er_op); all_goals walk_at "ev")
  | focus ((with_reducible apply er_neg); all_goals walk_at "ev")
  | focus ((with_reducible apply er_max); all_goals walk_at "ev")
  | focus ((with_reducible apply er_min); all_goals walk_at "ev")
  | focus ((with_reducible apply er_abs); all_goals walk_at "ev")
  | focus ((with_reducible apply er_intB); all_goals walk_at "ev")
  | focus ((with_reducible apply er_bits); all_goals walk_at "ev")
  | focus ((with_reducible apply er_ixD); all_goals walk_at "ev")
  | focus ((with_reducible apply er_call1); all_goals walk_at "ev")
  | focus ((with_reducible apply er_call2); all_goals walk_at "ev")
  | focus ((with_reducible apply er_call3); all_goals walk_at "ev")
  | focus ((with_reducible apply er_call4); all_goals walk_at "ev")
  | focus ((with_reducible apply er_eq); all_goals walk_at "ev")
  | focus ((with_reducible apply er_ne); all_goals walk_at "ev")
  | focus ((with_reducible apply er_cmp); all_goals walk_at "ev")
  | focus ((with_reducible apply er_chain); all_goals walk_at "ev")
  | focus ((with_reducible apply er_andU); all_goals walk_at "ev")
  | focus ((with_reducible apply er_orU); all_goals walk_at "ev")
  | focus ((with_reducible apply et_t); all_goals walk_at "ev")
  | focus ((with_reducible apply et_b); all_goals walk_at "ev")
  | focus ((with_reducible apply et_andU); all_goals walk_at "ev")
  | focus ((with_reducible apply et_orU); all_goals walk_at "ev")
  | focus ((with_reducible apply Evl.et_not); all_goals walk_at "ev")
  | walk_at "side")
local macro_rules | `(tactic| walk_at "evr") => `(tactic| (refine er_is (by walk_at "ev") (by with_unfolding_all rfl)))
local macro_rules | `(tactic| walk_at "side") => `(tactic| first
  | assumption
  | exact True.intro
  | exact cdiv_ok (by decide) (by decide)
  | exact cmul_l (by omega) (by omega)
  | exact cmul_r (by omega) (by omega)
  | omega
  | decide
  | (dsimp only; done)
  | (dsimp only; first | assumption | omega | decide)
  | (constructor <;> assumption))
local macro_rules | `(tactic| walk_at "ev") => `(tactic| first
  | focus ((with_reducible apply er_s0); all_goals walk_at "ev")
  | focus ((with_reducible apply er_s1); all_goals walk_at "ev")
  | focus ((with_reducible apply er_s2); all_goals walk_at "ev")
  | focus ((with_reducible apply er_tupS); all_goals walk_at "ev")
  | focus ((with_reducible apply er_tupI2); all_goals walk_at "ev")
  | focus ((with_reducible apply er_divmod); all_goals walk_at "ev"))
local macro_rules | `(tactic| walk_at "side") => `(tactic| exact cshl_ok (by omega) (by omega))
local macro_rules | `(tactic| walk_at "ev") => `(tactic| first
  | focus ((with_reducible apply er_wide); all_goals walk_at "ev")
  | focus ((with_reducible apply er_high); all_goals walk_at "ev")
  | focus ((with_reducible apply er_meth1); all_goals walk_at "ev")
  | focus ((with_reducible apply er_meth2); all_goals walk_at "ev")
  | focus ((with_reducible apply er_meth3); all_goals walk_at "ev"))
local macro_rules | `(tactic| walk_at "side") => `(tactic| (focus (decide +kernel)))
theorem place_eq (s : Si20.St) (p : List Nat) : placedN s.w s.h p = Si20.placed s p := by
  unfold placedN placed4 Si20.placed
  rfl
theorem lit_eq (l p : List Nat) (hl : l.length = 12) : litN (pieces 4 l) p = (Si20.lit l p).map fun (x : Nat) => (x : Int) := by
  have e0 : (pieces 4 l).getD 0 [] = l.take 4 := by
    rw [chunk_eq 4 l (by omega) (by omega), hl]
    rfl
  have e1 : (pieces 4 l).getD 1 [] = (l.drop 4).take 4 := by
    rw [chunk_eq 4 l (by omega) (by omega), hl]
    rfl
  have e2 : (pieces 4 l).getD 2 [] = (l.drop 8).take 4 := by
    rw [chunk_eq 4 l (by omega) (by omega), hl]
    rfl
  unfold litN Si20.lit
  rw [e0, e1, e2, List.map_map]
  refine List.map_congr_left fun i hi => ?_
  have hi := List.mem_range.mp hi
  have g : ∀ a : Nat, ((l.drop a).take 4).getD i 0 = l.getD (a + i) 0 := fun a => by
    rw [List.getD_eq_getElem?_getD, List.getElem?_take_of_lt hi, List.getElem?_drop, ← List.getD_eq_getElem?_getD]
  rw [g, g]
  unfold litByteN
  show _ = (((max 0 (min 255 (Si20.whole _))).toNat : Nat) : Int)
  generalize Si20.whole (Si20.plus (l.getD (8 + i) 0) (Si20.product (if Si20.above (Si20.dot (l.take 4) p) 0 = true then Si20.dot (l.take 4) p else 0) (l.getD (4 + i) 0))) = z
  omega

/-! ### the walks -/
abbrev sp_are_calm : Sp := sp1 RIL (fun l => ∀ z ∈ l, 0 ≤ z ∧ z < 2 ^ 32) RB fun l => Si20.allCalm (natsOf l)
abbrev sp_apart (K : PySem.W.Frag) : Sp := spL2 (RD K (dC K)) (RD K (dC K)) (fun _ _ => True) fun s t => vI (listOf (Si20.spec s t .apart).2)
/-- apart: 0 drawer, 1 other -/
def t_apart (K : PySem.W.Frag) : TS :=
  (tSeq (tIfS (tOr (tTest (tOp rNe (tFld K (tVar 0) "wide") (tFld K (tVar 1) "wide"))) (tTest (tOp rNe (tFld K (tVar 0) "high") (tFld K (tVar 1) "high")))) (tRet (tLst (tCons (tC (.int (-3))) tNil))) tNext)
    (tRet (tCall sp_counted [] E0 (tCons (tMeth (He.ga K "Drawer") "apart" (sp_D_apart K) [] E0 (tVar 0) (tCons (tVar 1) tNil)) tNil))))
/-- are_calm: 0 row, 1 bits -/
def t_are_calm (K : PySem.W.Frag) : TS :=
  (tSeq (tFor (iList K (tVar 0)) (gName 1) (tIfS (tNot (tB (tCall sp_is_calm [] E0 (tCons (tVar 1) tNil)))) (tRet (tC (.bl false))) tNext))
    (tRet (tC (.bl true))))
/-- matrix: 0 drawer, 1 row -/
def t_matrix (K : PySem.W.Frag) : TS :=
  (tSeq (tIfS (tNot (tB (tCall sp_are_calm [] E0 (tCons (tVar 1) tNil)))) (tRet (tLst (tCons (tC (.int (-2))) tNil))) tNext)
    (tSeq (sFld K (tVar 0) (tCall (sp_points_of K) [] E0 (tCons (tVar 1) tNil)) "matrix")
    (tRet (tLst (tCons (tC (.int 0)) tNil)))))
/-- light: 0 drawer, 1 row -/
def t_light (K : PySem.W.Frag) : TS :=
  (tSeq (tIfS (tNot (tB (tCall sp_are_calm [] E0 (tCons (tVar 1) tNil)))) (tRet (tLst (tCons (tC (.int (-2))) tNil))) tNext)
    (tSeq (sFld K (tVar 0) (tCall (sp_points_of K) [] E0 (tCons (tVar 1) tNil)) "light")
    (tRet (tLst (tCons (tC (.int 0)) tNil)))))
/-- on_points: 0 drawer, 1 number, 2 given, 3 row -/
def t_on_points (K : PySem.W.Frag) : TS :=
  (tSeq (tIfS (tOr (tNot (tTest (tChain rLeI rLeI (tC (.int 0)) (tOp (rIxL K) (tVar 2) (tC (.int 1))) (tC (.int (256)))))) (tNot (tB (tCall sp_are_calm [] E0 (tCons (tVar 3) tNil))))) (tRet (tLst (tCons (tC (.int (-2))) tNil))) tNext)
    (tSeq (tIfS (tTest (tOp rEq (tVar 1) (tC (.int 14)))) (tRet (tCall (sp_move_all K) [] E0 (tCons (tFld K (tVar 0) "matrix") (tCons (tVar 3) tNil)))) tNext)
    (tSeq (tIfS (tTest (tOp rEq (tVar 1) (tC (.int 15)))) (tRet (tOp rCat (tLst (tCons (tC (.int 0)) tNil)) (tCall (sp_place_all K) [] E0 (tCons (tVar 3) (tCons (tFld K (tVar 0) "wide") (tCons (tFld K (tVar 0) "high") tNil)))))) tNext)
    (tRet (tOp rCat (tLst (tCons (tC (.int 0)) tNil)) (tCall (sp_light_all K) [] E0 (tCons (tFld K (tVar 0) "light") (tCons (tVar 3) tNil))))))))
/-- drawn: 0 drawer, 1 number, 2 given, 3 row -/
def t_drawn (K : PySem.W.Frag) : TS :=
  (tSeq (tIfS (tTest (tOp rEq (tVar 1) (tC (.int 1)))) (tRet (tCall (sp_texture K) [] E0 (tCons (tVar 0) (tCons (tVar 2) (tCons (tVar 3) tNil))))) tNext)
    (tSeq (tIfS (tTest (tOp rEq (tVar 1) (tC (.int 2)))) (tRet (tCall (sp_grab K) [] E0 (tCons (tVar 0) (tCons (tVar 2) tNil)))) tNext)
    (tSeq (tIfS (tTest (tOp rEq (tVar 1) (tC (.int 3)))) (tRet (tCall (sp_clear K) [] E0 (tCons (tVar 0) (tCons (tVar 2) tNil)))) tNext)
    (tSeq (tIfS (tTest (tOp rEq (tVar 1) (tC (.int 4)))) (tRet (tCall (sp_fog K) [] E0 (tCons (tVar 0) (tCons (tVar 2) tNil)))) tNext)
    (tSeq (tIfS (tTest (tOp rEq (tVar 1) (tC (.int 5)))) (tRet (tCall (sp_spans K) [] E0 (tCons (tVar 0) (tCons (tVar 2) (tCons (tVar 3) tNil))))) tNext)
    (tSeq (tIfS (tTest (tOp rEq (tVar 1) (tC (.int 6)))) (tRet (tCall (sp_sprite K) [] E0 (tCons (tVar 0) (tCons (tVar 2) tNil)))) tNext)
    (tSeq (tIfS (tTest (tOp rEq (tVar 1) (tC (.int 7)))) (tRet (tCall (sp_fill K) [] E0 (tCons (tVar 0) (tCons (tVar 2) tNil)))) tNext)
    (tRet (tCall (sp_fade K) [] E0 (tCons (tVar 0) (tCons (tVar 2) tNil)))))))))))
theorem calm_int {z : Int} (h : 0 ≤ z ∧ z < 2 ^ 32) : decide (z % 2147483648 ≤ 1317011456) = Si20.calm z.toNat := by
  rw [calm_iff (by omega)]
  exact decide_eq_decide.mpr (by omega)
theorem calmRow_of {l : List Int} (h1 : l.length ≤ 1024) (h2 : l.length % 4 = 0) (hb : ∀ z ∈ l, 0 ≤ z ∧ z < 2 ^ 32) (h : Si20.allCalm (natsOf l) = true) : CalmRow l := by
  refine ⟨h1, h2, fun z hz => ⟨z.toNat, ?_, ?_⟩⟩
  · have := hb z hz
    omega
  · exact List.all_eq_true.mp h z.toNat (List.mem_map.mpr ⟨z, hz, rfl⟩)
theorem mat_of {k : Nat} {m : List Nat} (h : m.length = 4 * k) (hk : k ≤ 256) (hc : ∀ n ∈ m, Si20.calm n = true) : Mat k (pieces 4 m) := by
  have e : nats (m.map fun (n : Nat) => (n : Int)) = m := by
    unfold nats
    rw [List.map_map]
    exact List.map_id' m
  have cr : CalmRow (m.map fun (n : Nat) => (n : Int)) := by
    refine ⟨by rw [List.length_map]; omega, by rw [List.length_map]; omega, fun b hb => ?_⟩
    obtain ⟨n, hn, rfl⟩ := List.mem_map.mp hb
    exact ⟨n, rfl, hc n hn⟩
  refine ⟨?_, fun r hr => cr.pt (by rw [e]; exact hr)⟩
  rw [chunk_eq 4 m (by omega) (by omega), List.length_map, List.length_range, h]
  omega
section
variable {P : Program} {w : World} {K : PySem.W.Frag} {mg : Str → Option Value} {base : Heap}
theorem len_are_calm : ∀ vs H Q E, sp_are_calm vs H Q E → vs.length = 1 := sp1_len
theorem len_apart : ∀ vs H Q E, sp_apart K vs H Q E → vs.length = 2 := spL2_len
theorem pure_are_calm (T : Tx K mg) (vs : List V) (H : Hp) (Q : VK) (E : XK) (h : sp_are_calm vs H Q E) : t_are_calm K { nx := fun _ H' => Q .non H', rt := Q } (start ["row", "bits"] vs) H := by
  obtain ⟨_, l, rfl, ⟨p, rfl, hp⟩, hb, k⟩ := h
  have k : ∀ v H', Ex H H' → RB H' v (Si20.allCalm (natsOf l)) → Q v H' := k
  have hb : ∀ z ∈ l, 0 ≤ z ∧ z < 2 ^ 32 := hb
  refine ⟨_, rfl, p, rfl, ⟨_, SqL.of hp⟩, ?_⟩
  refine for_list (xs := vI l) (fun i σ H' => (∃ o, σ = [some (.ref p), o]) ∧ Ex H H' ∧ ∀ j z, j < i → l[j]? = some z → Si20.calm z.toNat = true) ⟨⟨none, rfl⟩, Ex.refl _, by intro j z hj; omega⟩ ?_ ?_ ?_
  · rintro i σ H' _ ⟨_, e, _⟩
    exact SqL.of (e _ _ hp)
  · rintro i v σ H' hv ⟨⟨o, rfl⟩, e, hall⟩
    rw [List.getElem?_map] at hv
    cases hz : l[i]? with
    | none => rw [hz] at hv; cases hv
    | some z =>
      rw [hz] at hv
      cases hv
      have zb := hb z (List.mem_of_getElem? hz)
      show tIfS _ _ _ _ [some (.ref p), some (.int z)] H'
      refine s_if (b := !decide (z % 2147483648 ≤ 1317011456)) (Evl.et_not (et_b (er_call1 (er_varI rfl) trivial))) (fun b H2 e2 => ?_) fun b H2 e2 => ?_
      · refine sr_ret (R := RB) (x := false) (er_c rfl) fun v H3 e3 r3 => k v H3 ((e.trans e2).trans e3) ?_
        have : Si20.allCalm (natsOf l) = false := by
          cases hh : Si20.allCalm (natsOf l) with
          | false => rfl
          | true =>
            have := List.all_eq_true.mp hh z.toNat (List.mem_map.mpr ⟨z, List.mem_of_getElem? hz, rfl⟩)
            rw [calm_int zb, this] at b
            cases b
        rw [this]
        exact r3
      · refine ⟨⟨_, rfl⟩, e.trans e2, fun j y hj hy => ?_⟩
        by_cases hji : j = i
        · subst hji
          rw [hz] at hy
          cases hy
          rw [← calm_int zb]
          exact not_true b
        · exact hall j y (by omega) hy
  · rintro σ H' ⟨⟨o, rfl⟩, e, hall⟩
    show tRet (tC (.bl true)) { nx := fun _ H' => Q .non H', rt := Q } [] H'
    refine sr_ret (R := RB) (x := true) (er_c rfl) fun v H3 e3 r3 => k v H3 (e.trans e3) ?_
    have : Si20.allCalm (natsOf l) = true := List.all_eq_true.mpr fun n hn => by
      obtain ⟨z, hz, rfl⟩ := List.mem_map.mp hn
      obtain ⟨j, hj⟩ := List.getElem?_of_mem hz
      exact hall j z (by rw [List.length_map]; exact (List.getElem?_eq_some_iff.mp hj).1) hj
    rw [this]
    exact r3
theorem ok_are_calm (T : Tx K mg) (G_is_calm : GF P w K mg base "is_calm" 1 ["bits"] sp_is_calm) : GF P w K mg base "are_calm" 2 ["row"] sp_are_calm := by
  refine ⟨fn_keep (k := 1) (tt := (t_are_calm K)) T.d_are_calm sc_are_calm len_are_calm (fun _ _ _ _ _ _ us hl => match us, hl with | [_], _ => rfl) (fun cdv A outer s H E hr => ?_) (pure_are_calm T), T.d_are_calm.kp, T.g_are_calm⟩
  exact (pss_cons (ps_for PassesOwn.never rfl (pi_list (pv 0)) (pg_name (i := 1) sc_are_calm.nd rfl (.inl rfl)) (pss_one (ps_if (pt_not (pt_val (pe_gf G_is_calm (hr.mono (by decide)) rfl (pa_cons (pv 1) pa_nil)))) (pss_one (ps_ret pe_bl)) pss_nil)))
    (pss_one (ps_ret pe_bl)))
theorem pure_apart (T : Tx K mg) (vs : List V) (H : Hp) (Q : VK) (E : XK) (h : sp_apart K vs H Q E) : t_apart K { nx := fun _ H' => Q .non H', rt := Q } (start ["drawer", "other"] vs) H := by
  obtain ⟨_, _, s, t, rfl, rs, rt, -, k⟩ := h
  have k : ∀ p H', H p = none → Ex H H' → H' p = some (.lst (vI (listOf (Si20.spec s t .apart).2))) → Q (.ref p) H' := k
  have wf := rs.wf
  refine q_when (b := (!decide ((s.w : Int) = (t.w : Int))) || (!decide ((s.h : Int) = (t.h : Int)))) (et_orU (et_t (er_ne (er_wide T (er_var rfl rs)) (er_wide T (er_var rfl rt)))) (et_t (er_ne (er_high T (er_var rfl rs)) (er_high T (er_var rfl rt))))) (fun b H1 e1 => ?_) fun b H1 e1 => ?_
  · have hn : ¬ (s.w = t.w ∧ s.h = t.h) := fun ⟨h1, h2⟩ => by
      rw [h1, h2, decide_eq_true rfl, decide_eq_true rfl] at b
      cases b
    rw [show Si20.spec s t .apart = (s, Si20.say (-3)) from if_neg hn] at k
    exact s_one fun p H2 hp e2 h2 => k p H2 (fresh_back e1 hp) (e1.trans e2) h2
  · have hy : s.w = t.w ∧ s.h = t.h := by
      have : ((s.w : Int) = (t.w : Int)) ∧ ((s.h : Int) = (t.h : Int)) := by
        by_cases h1 : (s.w : Int) = (t.w : Int)
        · by_cases h2 : (s.h : Int) = (t.h : Int)
          · exact ⟨h1, h2⟩
          · rw [decide_eq_false h2, Bool.not_false, Bool.or_true] at b
            cases b
        · rw [decide_eq_false h1] at b
          cases b
      omega
    have hs : Si20.spec s t .apart = (s, ⟨((((List.range (s.w / 8 * (s.h / 8))).map (Si20.tileApart s t)).length : Nat) : Int), ((List.range (s.w / 8 * (s.h / 8))).map (Si20.tileApart s t)).map fun (x : Nat) => (x : Int), []⟩) := if_pos hy
    rw [hs] at k
    have hl : (apartM s t).length = ((List.range (s.w / 8 * (s.h / 8))).map (Si20.tileApart s t)).length := by
      rw [apart_eq s t hy.1, List.length_map]
    have hb : (apartM s t).length ≤ 1000000 := by
      rw [hl, List.length_map, List.length_range]
      have w2 := wf.w2
      have h2 := wf.h2
      have := Nat.mul_le_mul (show s.w / 8 ≤ 16 by omega) (show s.h / 8 ≤ 16 by omega)
      omega
    refine s_retL (el_call1 (x := apartM s t) (el_ints (el_meth1 (by decide +kernel) (er_var rfl (mo e1 rs)) (er_var rfl (mo e1 rt)) hy)) hb) fun p H2 hp e2 h2 => k p H2 (fresh_back e1 hp) (e1.trans e2) ?_
    rw [h2, hl, apart_eq s t hy.1]
    show _ = some (HO.lst (vI (_ :: (_ ++ []))))
    rw [List.append_nil]
theorem ok_apart (T : Tx K mg) (G_D_apart : GM P w K mg base (He.ga K "Drawer") "apart" 4 ["self", "other"] (sp_D_apart K)) (G_counted : GF P w K mg base "counted" 1 ["row"] sp_counted) : GF P w K mg base "apart" 5 ["drawer", "other"] (sp_apart K) := by
  refine ⟨fn_keep (k := 4) (tt := (t_apart K)) T.d_apart sc_apart len_apart (fun _ _ _ _ _ _ us hl => match us, hl with | [_, _], _ => rfl) (fun cdv A outer s H E hr => ?_) (pure_apart T), T.d_apart.kp, T.g_apart⟩
  exact (pss_cons (ps_if (PW.pt (pw_or (pt_cmpR op_ne (pe_fld (pv 0) rfl) (pe_fld (pv 1) rfl) (nomark _)) (pw_or1 (pt_cmpR op_ne (pe_fld (pv 0) rfl) (pe_fld (pv 1) rfl) (nomark _))))) (pss_one (ps_ret (pe_lst (pa_cons (pe_gi rfl T.i_NOT_SO) pa_nil)))) pss_nil)
    (pss_one (ps_ret (pe_gf G_counted (hr.mono (by decide)) rfl (pa_cons (pe_gm (pv 0) T.cl G_D_apart (hr.mono (by decide)) (pa_cons (pv 1) pa_nil)) pa_nil)))))
theorem pure_matrix (T : Tx K mg) (vs : List V) (H : Hp) (Q : VK) (E : XK) (h : sp_matrix K vs H Q E) : t_matrix K { nx := fun _ H' => Q .non H', rt := Q } (start ["drawer", "row"] vs) H := by
  obtain ⟨a, us, tg, d, D, st, ⟨g, r, c⟩, rfl, tk, dr, ⟨vr, rfl, rr⟩, ask, k⟩ := h
  simp only at rr ask k
  cases ask with
  | matrix n _ hl hb =>
    have rr0 := rr.ril
    refine q_when (b := !Si20.allCalm (natsOf r)) (Evl.et_not (et_b (er_call1 (er_var rfl rr0) hb))) (fun b H1 e1 => ?_) fun b H1 e1 => ?_
    · exact fin_at rfl k (if_neg (by rw [not_false' b]; intro z; cases z)) ((At.start tk dr).ex e1)
    · have b := not_true b
      have cr : CalmRow r := calmRow_of (by omega) (by omega) hb b
      have rr1 := mo e1 rr0
      have tk1 := tk.mono e1
      have dr1 := dr.mono e1
      have ev : EvNN (RF K) (tCall (sp_points_of K) [] E0 (tCons (tVar 1) tNil)) [some (.ref a), some vr] H1 (pieces 4 (natsOf r)) := enn_call1 (er_var rfl rr1) cr.fin
      refine q_fldT (ev H1 (Ex.refl _) _ fun p ws H2 hp e2 h2 r2 => ⟨.ref a, rfl, a, _, D.dx, _, rfl, (dr1.mono e2).ins, T.cl, T.n_matrix, by show 8 < 1000; omega, ?_⟩)
      rw [put_matrix]
      have un : ∀ b, H1 b = none → Un_ tg b := fun b hb => tk1.fresh hb
      have rm : RLn (Un_ tg) (RLn (Un_ tg) (RF K)) H2 (.ref p) (pieces 4 (natsOf r)) := ⟨p, ws, rfl, un p hp, h2, r2.mono fun v xs ⟨q, us, f1, f0, f3, f4⟩ => ⟨q, us, f1, un q f0, f3, f4⟩⟩
      exact fin_at (s := []) rfl k (if_pos b) (At.trans (Stp.ofEx (e1.trans e2)) ((dr1.mono e2).putMat (tk1.mono e2) rm (by rw [natsOf, List.length_map]; exact hl) (List.all_eq_true.mp b)))
theorem ok_matrix (T : Tx K mg) (G_are_calm : GF P w K mg base "are_calm" 2 ["row"] sp_are_calm) (G_points_of : GF P w K mg base "points_of" 2 ["row"] (sp_points_of K)) : GF P w K mg base "matrix" 3 ["drawer", "row"] (sp_matrix K) := by
  refine ⟨fn_keep (k := 2) (tt := (t_matrix K)) T.d_matrix sc_matrix len_matrix (fun _ _ _ _ _ _ us hl => match us, hl with | [_, _], _ => rfl) (fun cdv A outer s H E hr => ?_) (pure_matrix T), T.d_matrix.kp, T.g_matrix⟩
  exact (pss_cons (ps_if (pt_not (pt_val (pe_gf G_are_calm (hr.mono (by decide)) rfl (pa_cons (pv 1) pa_nil)))) (pss_one (ps_ret (pe_lst (pa_cons (pe_gi rfl T.i_OUT) pa_nil)))) pss_nil)
    (pss_cons (ps_fld (pv 0) (pe_gf G_points_of (hr.mono (by decide)) rfl (pa_cons (pv 1) pa_nil)) rfl)
    (pss_one (ps_ret (pe_lst (pa_cons pe_int pa_nil))))))
theorem pure_light (T : Tx K mg) (vs : List V) (H : Hp) (Q : VK) (E : XK) (h : sp_light K vs H Q E) : t_light K { nx := fun _ H' => Q .non H', rt := Q } (start ["drawer", "row"] vs) H := by
  obtain ⟨a, us, tg, d, D, st, ⟨g, r, c⟩, rfl, tk, dr, ⟨vr, rfl, rr⟩, ask, k⟩ := h
  simp only at rr ask k
  cases ask with
  | light n _ hl hb =>
    have rr0 := rr.ril
    refine q_when (b := !Si20.allCalm (natsOf r)) (Evl.et_not (et_b (er_call1 (er_var rfl rr0) hb))) (fun b H1 e1 => ?_) fun b H1 e1 => ?_
    · exact fin_at rfl k (if_neg (by rw [not_false' b]; intro z; cases z)) ((At.start tk dr).ex e1)
    · have b := not_true b
      have cr : CalmRow r := calmRow_of (by omega) (by omega) hb b
      have rr1 := mo e1 rr0
      have tk1 := tk.mono e1
      have dr1 := dr.mono e1
      have ev : EvNN (RF K) (tCall (sp_points_of K) [] E0 (tCons (tVar 1) tNil)) [some (.ref a), some vr] H1 (pieces 4 (natsOf r)) := enn_call1 (er_var rfl rr1) cr.fin
      refine q_fldT (ev H1 (Ex.refl _) _ fun p ws H2 hp e2 h2 r2 => ⟨.ref a, rfl, a, _, D.dx, _, rfl, (dr1.mono e2).ins, T.cl, T.n_light, by show 8 < 1000; omega, ?_⟩)
      rw [put_light]
      have un : ∀ b, H1 b = none → Un_ tg b := fun b hb => tk1.fresh hb
      have rm : RLn (Un_ tg) (RLn (Un_ tg) (RF K)) H2 (.ref p) (pieces 4 (natsOf r)) := ⟨p, ws, rfl, un p hp, h2, r2.mono fun v xs ⟨q, us, f1, f0, f3, f4⟩ => ⟨q, us, f1, un q f0, f3, f4⟩⟩
      exact fin_at (s := []) rfl k (if_pos b) (At.trans (Stp.ofEx (e1.trans e2)) ((dr1.mono e2).putLig (tk1.mono e2) rm (by rw [natsOf, List.length_map]; exact hl) (List.all_eq_true.mp b)))
theorem ok_light (T : Tx K mg) (G_are_calm : GF P w K mg base "are_calm" 2 ["row"] sp_are_calm) (G_points_of : GF P w K mg base "points_of" 2 ["row"] (sp_points_of K)) : GF P w K mg base "light" 3 ["drawer", "row"] (sp_light K) := by
  refine ⟨fn_keep (k := 2) (tt := (t_light K)) T.d_light sc_light len_light (fun _ _ _ _ _ _ us hl => match us, hl with | [_, _], _ => rfl) (fun cdv A outer s H E hr => ?_) (pure_light T), T.d_light.kp, T.g_light⟩
  exact (pss_cons (ps_if (pt_not (pt_val (pe_gf G_are_calm (hr.mono (by decide)) rfl (pa_cons (pv 1) pa_nil)))) (pss_one (ps_ret (pe_lst (pa_cons (pe_gi rfl T.i_OUT) pa_nil)))) pss_nil)
    (pss_cons (ps_fld (pv 0) (pe_gf G_points_of (hr.mono (by decide)) rfl (pa_cons (pv 1) pa_nil)) rfl)
    (pss_one (ps_ret (pe_lst (pa_cons pe_int pa_nil))))))
/-! ### points -/
theorem et_pts {a : Addr} {vg vr : V} {num n x0 : Int} {l : List Int} {H : Hp} (rg : RIL H vg [n, x0]) (rr : RIL H vr l) (hb : ∀ z ∈ l, 0 ≤ z ∧ z < 2 ^ 32) : EvT (tOr (tNot (tTest (tChain rLeI rLeI (tC (.int 0)) (tOp (rIxL K) (tVar 2) (tC (.int 1))) (tC (.int (256)))))) (tNot (tB (tCall sp_are_calm [] E0 (tCons (tVar 3) tNil))))) [some (.ref a), some (.int num), some vg, some vr] H ((!Si20.within x0 0 256) || (!Si20.allCalm (natsOf l))) :=
  et_orU (Evl.et_not (et_t (er_chain er_cI (er_at 1 rfl rfl rg (by simp)) er_cI))) (Evl.et_not (et_b (er_call1 (er_var rfl rr) hb)))
theorem q_skip {i : Nat} {c n : Int} {s : L2.St} {H : Hp} {tu tz : TS} {D : Ends} (hv : s[i]? = some (some (.int n))) (hne : n ≠ c) (k : ∀ H1, Ex H H1 → tz D s H1) : tSeq (tIfS (tTest (tOp rEq (tVar i) (tC (.int c)))) tu tNext) tz D s H := qp_when (et_t (er_eq (er_varI hv) er_cI)) (fun b => absurd b hne) fun _ => k
theorem q_take {i : Nat} {c n : Int} {s : L2.St} {H : Hp} {tu tz : TS} {D : Ends} (hv : s[i]? = some (some (.int n))) (he : n = c) (k : ∀ H1, Ex H H1 → tu { D with nx := tz D } s H1) : tSeq (tIfS (tTest (tOp rEq (tVar i) (tC (.int c)))) tu tNext) tz D s H := qp_when (et_t (er_eq (er_varI hv) er_cI)) (fun _ => k) fun b => absurd he b
theorem pts_no {x0 : Int} {l : List Nat} (b : ((!Si20.within x0 0 256) || (!Si20.allCalm l)) = true) : ¬ ((Si20.within x0 0 256 && Si20.allCalm l) = true) := by
  revert b
  cases Si20.within x0 0 256 <;> cases Si20.allCalm l <;> intro b <;> first | (intro z; cases z; done) | cases b
theorem pts_yes {x0 : Int} {l : List Nat} (b : ((!Si20.within x0 0 256) || (!Si20.allCalm l)) = false) : Si20.within x0 0 256 = true ∧ Si20.allCalm l = true := by
  revert b
  cases Si20.within x0 0 256 <;> cases Si20.allCalm l <;> intro b <;> first | exact ⟨rfl, rfl⟩ | cases b
theorem pts_row {x0 : Int} {l : List Int} (hl : (l.length : Int) = if 0 ≤ 4 * x0 ∧ 4 * x0 ≤ 1024 then 4 * x0 else 0) (hb : ∀ z ∈ l, 0 ≤ z ∧ z < 2 ^ 32) (b1 : Si20.within x0 0 256 = true) (b2 : Si20.allCalm (natsOf l) = true) : CalmRow l := by
  have c := within_iff b1
  rw [if_pos (by omega)] at hl
  exact calmRow_of (by omega) (by omega) hb b2
theorem pure_on_points (T : Tx K mg) (vs : List V) (H : Hp) (Q : VK) (E : XK) (h : sp_on_points K vs H Q E) : t_on_points K { nx := fun _ H' => Q .non H', rt := Q } (start ["drawer", "number", "given", "row"] vs) H := by
  obtain ⟨a, us, tg, d, D, st, ⟨num, g, r, c⟩, rfl, tk, dr, ⟨vg, vr, rfl, rg, rr⟩, ⟨ask, hnum⟩, k⟩ := h
  simp only at rg rr ask hnum k
  have rg0 := rg.ril
  have rr0 := rr.ril
  have r0 : RD K (dC K) H (.ref a) st := ⟨tg, d, a, D, rfl, dr⟩
  have wf := r0.wf
  have at0 := At.start tk dr
  show t_on_points K { nx := fun _ H' => Q .non H', rt := Q } [some (.ref a), some (.int num), some vg, some vr] H
  rcases hnum with rfl | rfl | rfl
  · cases ask with
    | move n x0 _ hl hb =>
      refine q_when (et_pts rg0 rr0 hb) (fun b H1 e1 => fin_at (s := []) rfl k (if_neg (pts_no b)) (at0.ex e1)) fun b H1 e1 => ?_
      obtain ⟨b1, b2⟩ := pts_yes b
      have cr := pts_row hl hb b1 b2
      refine q_take rfl rfl fun H2 e2 => ?_
      have e02 := e1.trans e2
      have hs : Si20.spec st st (.move x0 (natsOf r)) = (st, ⟨((((Si20.chunks 4 (natsOf r)).map (Si20.moved st.matrix)).filter fun (q : List Nat) => Si20.sides q == 0).length : Nat), ((Si20.chunks 4 (natsOf r)).map (Si20.moved st.matrix)).flatten.map fun (x : Nat) => (x : Int), ((Si20.chunks 4 (natsOf r)).map (Si20.moved st.matrix)).map Si20.sides⟩) := if_pos (by rw [b1, b2]; rfl)
      rw [hs] at k
      refine s_retL (el_call2 (er_matrix T (er_var rfl (mo e02 r0))) (er_var rfl (mo e02 rr0)) ⟨mat_of (by rw [wf.m1]) (by omega) wf.m2, cr⟩) fun p H3 hp e3 h3 => k p H3 (fresh_back e02 hp) (at0.ex (e02.trans e3)) ?_
      rw [h3]
      exact congrArg (fun z => some (HO.lst (vI z))) (move_eq st.matrix (natsOf r) wf.m1 (by rw [natsOf, List.length_map]; exact cr.2.1))
  · cases ask with
    | place n x0 _ hl hb =>
      refine q_when (et_pts rg0 rr0 hb) (fun b H1 e1 => fin_at (s := []) rfl k (if_neg (pts_no b)) (at0.ex e1)) fun b H1 e1 => ?_
      obtain ⟨b1, b2⟩ := pts_yes b
      have cr := pts_row hl hb b1 b2
      refine q_skip rfl (by decide) fun H2 e2 => q_take rfl rfl fun H3 e3 => ?_
      have e03 := (e1.trans e2).trans e3
      have hs : Si20.spec st st (.place x0 (natsOf r)) = (st, ⟨0, (Si20.chunks 4 (natsOf r)).flatMap (Si20.placed st), []⟩) := if_pos (by rw [b1, b2]; rfl)
      rw [hs] at k
      have w1 := wf.w1
      have w2 := wf.w2
      have h1 := wf.h1
      have h2 := wf.h2
      have hpl : (pieces 4 (nats r)).length ≤ 1024 := Nat.le_trans (pieces_len _ (by decide)) (by rw [List.length_map]; exact cr.1)
      have hfl : ((pieces 4 (nats r)).flatMap (placedN ((st.w : Int)).toNat ((st.h : Int)).toNat)).length ≤ 4 * (pieces 4 (nats r)).length := flat_len _ _ fun x hx => by
        unfold placedN placed4
        split
        · rw [List.length_replicate]; exact Nat.le_refl _
        · exact Nat.le_refl _
      refine s_retL (el_catL (xs := [.int 0]) (ys := vI ((pieces 4 (nats r)).flatMap (placedN ((st.w : Int)).toNat ((st.h : Int)).toNat))) (elv el_one) (elv (el_call3 (er_var rfl (mo e03 rr0)) (er_wide T (er_var rfl (mo e03 r0))) (er_high T (er_var rfl (mo e03 r0))) ⟨cr, ⟨by omega, by omega⟩, ⟨by omega, by omega⟩⟩)) (by rw [List.length_map]; show 1 + _ ≤ _; omega)) fun p H4 hp e4 h4 => k p H4 (fresh_back e03 hp) (at0.ex (e03.trans e4)) ?_
      rw [h4]
      show _ = some (HO.lst (vI ((0 : Int) :: ((Si20.chunks 4 (natsOf r)).flatMap (Si20.placed st) ++ []))))
      rw [List.append_nil, chunks_pieces (natsOf r) (by rw [natsOf, List.length_map]; exact cr.2.1), show ((st.w : Int)).toNat = st.w from rfl, show ((st.h : Int)).toNat = st.h from rfl, flat_cong (f := placedN st.w st.h) (g := Si20.placed st) (pieces 4 (nats r)) (fun x _ => place_eq st x)]
      rfl
  · cases ask with
    | lights n x0 _ hl hb =>
      refine q_when (et_pts rg0 rr0 hb) (fun b H1 e1 => fin_at (s := []) rfl k (if_neg (pts_no b)) (at0.ex e1)) fun b H1 e1 => ?_
      obtain ⟨b1, b2⟩ := pts_yes b
      have cr := pts_row hl hb b1 b2
      refine q_skip rfl (by decide) fun H2 e2 => q_skip rfl (by decide) fun H3 e3 => ?_
      have e03 := (e1.trans e2).trans e3
      have hs : Si20.spec st st (.lights x0 (natsOf r)) = (st, ⟨0, ((Si20.chunks 4 (natsOf r)).flatMap (Si20.lit st.light)).map fun (x : Nat) => (x : Int), []⟩) := if_pos (by rw [b1, b2]; rfl)
      rw [hs] at k
      have hpl : (pieces 4 (nats r)).length ≤ 1024 := Nat.le_trans (pieces_len _ (by decide)) (by rw [List.length_map]; exact cr.1)
      have hfl : ((pieces 4 (nats r)).flatMap (litN (pieces 4 st.light))).length ≤ 4 * (pieces 4 (nats r)).length := flat_len _ _ fun x hx => by
        unfold litN
        rw [List.length_map, List.length_range]
        exact Nat.le_refl _
      refine s_retL (el_catL (xs := [.int 0]) (ys := vI ((pieces 4 (nats r)).flatMap (litN (pieces 4 st.light)))) (elv el_one) (elv (el_call2 (er_light T (er_var rfl (mo e03 r0))) (er_var rfl (mo e03 rr0)) ⟨mat_of (by rw [wf.l1]) (by omega) wf.l2, cr⟩)) (by rw [List.length_map]; show 1 + _ ≤ _; omega)) fun p H4 hp e4 h4 => k p H4 (fresh_back e03 hp) (at0.ex (e03.trans e4)) ?_
      rw [h4]
      show _ = some (HO.lst (vI ((0 : Int) :: (((Si20.chunks 4 (natsOf r)).flatMap (Si20.lit st.light)).map (fun (x : Nat) => (x : Int)) ++ []))))
      rw [List.append_nil, chunks_pieces (natsOf r) (by rw [natsOf, List.length_map]; exact cr.2.1), List.map_flatMap, flat_cong (f := litN (pieces 4 st.light)) (g := fun p => (Si20.lit st.light p).map fun (x : Nat) => (x : Int)) (pieces 4 (nats r)) (fun x _ => lit_eq st.light x wf.l1)]
      rfl
theorem ok_on_points (T : Tx K mg) (G_are_calm : GF P w K mg base "are_calm" 2 ["row"] sp_are_calm) (G_light_all : GF P w K mg base "light_all" 8 ["light", "row"] (sp_light_all K)) (G_move_all : GF P w K mg base "move_all" 8 ["matrix", "row"] (sp_move_all K)) (G_place_all : GF P w K mg base "place_all" 7 ["row", "wide", "high"] (sp_place_all K)) : GF P w K mg base "on_points" 9 ["drawer", "number", "given", "row"] (sp_on_points K) := by
  refine ⟨fn_keep (k := 8) (tt := (t_on_points K)) T.d_on_points sc_on_points len_on_points (fun _ _ _ _ _ _ us hl => match us, hl with | [_, _, _, _], _ => rfl) (fun cdv A outer s H E hr => ?_) (pure_on_points T), T.d_on_points.kp, T.g_on_points⟩
  exact (pss_cons (ps_if (PW.pt (pw_or (pt_not (pt_chain op_le op_le pe_int (pe_ix ix_list (pv 2) pe_int (fun _ _ => rfl)) (pe_gi rfl T.i_MOST_POINTS))) (pw_or1 (pt_not (pt_val (pe_gf G_are_calm (hr.mono (by decide)) rfl (pa_cons (pv 3) pa_nil))))))) (pss_one (ps_ret (pe_lst (pa_cons (pe_gi rfl T.i_OUT) pa_nil)))) pss_nil)
    (pss_cons (ps_if (pt_cmpR op_eq (pv 1) pe_int (nomark _)) (pss_one (ps_ret (pe_gf G_move_all (hr.mono (by decide)) rfl (pa_cons (pe_fld (pv 0) rfl) (pa_cons (pv 3) pa_nil))))) pss_nil)
    (pss_cons (ps_if (pt_cmpR op_eq (pv 1) pe_int (nomark _)) (pss_one (ps_ret (pe_op op_cat (pe_lst (pa_cons pe_int pa_nil)) (pe_gf G_place_all (hr.mono (by decide)) rfl (pa_cons (pv 3) (pa_cons (pe_fld (pv 0) rfl) (pa_cons (pe_fld (pv 0) rfl) pa_nil))))))) pss_nil)
    (pss_one (ps_ret (pe_op op_cat (pe_lst (pa_cons pe_int pa_nil)) (pe_gf G_light_all (hr.mono (by decide)) rfl (pa_cons (pe_fld (pv 0) rfl) (pa_cons (pv 3) pa_nil)))))))))
/-! ### the calls that draw -/
theorem liftK {a : Addr} {d : Nat} {tg : Tags} {H H1 : Hp} {st' : Si20.St} {l : List V} {Q : VK} (e1 : Ex H H1) (k : ∀ p H', H p = none → At K a d tg H H' st' → H' p = some (.lst l) → Q (.ref p) H') : ∀ p H', H1 p = none → At K a d tg H1 H' st' → H' p = some (.lst l) → Q (.ref p) H' := fun p H' hp at_ h => k p H' (fresh_back e1 hp) (At.trans (Stp.ofEx e1) at_) h
section
variable {a : Addr} {d : Nat} {tg : Tags} {H : Hp} {st : Si20.St} {s : L2.St} {i j l : Nat} {vg vr : V} {D : Ends} {D0 : DA} {pre : Si20.St → Cl → Prop} {x : Cl} {E : XK} {pre2 : Si20.St → Int × Cl → Prop} {n : Int}
theorem s_callG (hi : s[i]? = some (some (.ref a))) (hj : s[j]? = some (some vg)) (tk : TagOk tg H) (dr : Dr K (dC K) tg d H a D0 st) (rg : RIu (Un_ tg) H vg x.g) (hp : pre st x) (k : ∀ p H', H p = none → At K a d tg H H' (Si20.spec st st x.c).1 → H' p = some (.lst (vI (listOf (Si20.spec st st x.c).2))) → D.rt (.ref p) H') : tRet (tCall (spD K AG pre Cl.c) [] E (tCons (tVar i) (tCons (tVar j) tNil))) D s H := ⟨.ref a, hi, vg, hj, a, [vg], tg, d, D0, st, x, rfl, tk, dr, ⟨vg, rfl, rg⟩, hp, k⟩
theorem s_callR (hi : s[i]? = some (some (.ref a))) (hj : s[j]? = some (some vr)) (tk : TagOk tg H) (dr : Dr K (dC K) tg d H a D0 st) (rr : RIu (Un_ tg) H vr x.r) (hp : pre st x) (k : ∀ p H', H p = none → At K a d tg H H' (Si20.spec st st x.c).1 → H' p = some (.lst (vI (listOf (Si20.spec st st x.c).2))) → D.rt (.ref p) H') : tRet (tCall (spD K AR pre Cl.c) [] E (tCons (tVar i) (tCons (tVar j) tNil))) D s H := ⟨.ref a, hi, vr, hj, a, [vr], tg, d, D0, st, x, rfl, tk, dr, ⟨vr, rfl, rr⟩, hp, k⟩
theorem s_callGR (hi : s[i]? = some (some (.ref a))) (hj : s[j]? = some (some vg)) (hl : s[l]? = some (some vr)) (tk : TagOk tg H) (dr : Dr K (dC K) tg d H a D0 st) (rg : RIu (Un_ tg) H vg x.g) (rr : RIu (Un_ tg) H vr x.r) (hp : pre st x) (k : ∀ p H', H p = none → At K a d tg H H' (Si20.spec st st x.c).1 → H' p = some (.lst (vI (listOf (Si20.spec st st x.c).2))) → D.rt (.ref p) H') : tRet (tCall (spD K AGR pre Cl.c) [] E (tCons (tVar i) (tCons (tVar j) (tCons (tVar l) tNil)))) D s H := ⟨.ref a, hi, vg, hj, vr, hl, a, [vg, vr], tg, d, D0, st, x, rfl, tk, dr, ⟨vg, vr, rfl, rg, rr⟩, hp, k⟩
theorem s_callNGR {m : Nat} (hi : s[i]? = some (some (.ref a))) (hm : s[m]? = some (some (.int n))) (hj : s[j]? = some (some vg)) (hl : s[l]? = some (some vr)) (tk : TagOk tg H) (dr : Dr K (dC K) tg d H a D0 st) (rg : RIu (Un_ tg) H vg x.g) (rr : RIu (Un_ tg) H vr x.r) (hp : pre2 st (n, x)) (k : ∀ p H', H p = none → At K a d tg H H' (Si20.spec st st x.c).1 → H' p = some (.lst (vI (listOf (Si20.spec st st x.c).2))) → D.rt (.ref p) H') : tRet (tCall (spD K ANGR pre2 fun y => y.2.c) [] E (tCons (tVar i) (tCons (tVar m) (tCons (tVar j) (tCons (tVar l) tNil))))) D s H := ⟨.ref a, hi, .int n, hm, vg, hj, vr, hl, a, [.int n, vg, vr], tg, d, D0, st, (n, x), rfl, tk, dr, ⟨vg, vr, rfl, rg, rr⟩, hp, k⟩
end
theorem pure_drawn (T : Tx K mg) (vs : List V) (H : Hp) (Q : VK) (E : XK) (h : sp_drawn K vs H Q E) : t_drawn K { nx := fun _ H' => Q .non H', rt := Q } (start ["drawer", "number", "given", "row"] vs) H := by
  obtain ⟨a, us, tg, d, D, st, ⟨num, g, r, c⟩, rfl, tk, dr, ⟨vg, vr, rfl, rg, rr⟩, ⟨ask, hnum⟩, k⟩ := h
  simp only at rg rr ask hnum k
  have ask' := ask
  show t_drawn K { nx := fun _ H' => Q .non H', rt := Q } [some (.ref a), some (.int num), some vg, some vr] H
  cases ask with
  | texture n x0 _ h1 => exact q_take rfl rfl fun H1 e1 => s_callGR (x := ⟨_, _, _⟩) rfl rfl rfl (tk.mono e1) (dr.mono e1) (mo e1 rg) (mo e1 rr) ask' (liftK e1 k)
  | grab n x0 x1 x2 => exact q_skip rfl (by decide) fun H1 e1 => q_take rfl rfl fun H2 e2 => s_callG (x := ⟨_, [], _⟩) rfl rfl (tk.mono (e1.trans e2)) (dr.mono (e1.trans e2)) (mo (e1.trans e2) rg) ask' (liftK (e1.trans e2) k)
  | clear n x0 x1 h => exact q_skip rfl (by decide) fun H1 e1 => q_skip rfl (by decide) fun H2 e2 => q_take rfl rfl fun H3 e3 => s_callG (x := ⟨_, [], _⟩) rfl rfl (tk.mono ((e1.trans e2).trans e3)) (dr.mono ((e1.trans e2).trans e3)) (mo ((e1.trans e2).trans e3) rg) ask' (liftK ((e1.trans e2).trans e3) k)
  | fog n x0 h => exact q_skip rfl (by decide) fun H1 e1 => q_skip rfl (by decide) fun H2 e2 => q_skip rfl (by decide) fun H3 e3 => q_take rfl rfl fun H4 e4 => s_callG (x := ⟨_, [], _⟩) rfl rfl (tk.mono (((e1.trans e2).trans e3).trans e4)) (dr.mono (((e1.trans e2).trans e3).trans e4)) (mo (((e1.trans e2).trans e3).trans e4) rg) ask' (liftK (((e1.trans e2).trans e3).trans e4) k)
  | spans n x0 x1 _ hl hb =>
    refine q_skip rfl (by decide) fun H1 e1 => q_skip rfl (by decide) fun H2 e2 => q_skip rfl (by decide) fun H3 e3 => q_skip rfl (by decide) fun H4 e4 => q_take rfl rfl fun H5 e5 => ?_
    have e := (((e1.trans e2).trans e3).trans e4).trans e5
    exact s_callGR (x := ⟨_, _, _⟩) rfl rfl rfl (tk.mono e) (dr.mono e) (mo e rg) (mo e rr) ask' (liftK e k)
  | sprite n x0 x1 x2 x3 x4 x5 x6 x7 x8 h6 h7 h8 =>
    refine q_skip rfl (by decide) fun H1 e1 => q_skip rfl (by decide) fun H2 e2 => q_skip rfl (by decide) fun H3 e3 => q_skip rfl (by decide) fun H4 e4 => q_skip rfl (by decide) fun H5 e5 => q_take rfl rfl fun H6 e6 => ?_
    have e := ((((e1.trans e2).trans e3).trans e4).trans e5).trans e6
    exact s_callG (x := ⟨_, [], _⟩) rfl rfl (tk.mono e) (dr.mono e) (mo e rg) ask' (liftK e k)
  | fill n x0 x1 x2 x3 x4 x5 h1 h2 h5 =>
    refine q_skip rfl (by decide) fun H1 e1 => q_skip rfl (by decide) fun H2 e2 => q_skip rfl (by decide) fun H3 e3 => q_skip rfl (by decide) fun H4 e4 => q_skip rfl (by decide) fun H5 e5 => q_skip rfl (by decide) fun H6 e6 => q_take rfl rfl fun H7 e7 => ?_
    have e := (((((e1.trans e2).trans e3).trans e4).trans e5).trans e6).trans e7
    exact s_callG (x := ⟨_, [], _⟩) rfl rfl (tk.mono e) (dr.mono e) (mo e rg) ask' (liftK e k)
  | fade n x0 =>
    refine q_skip rfl (by decide) fun H1 e1 => q_skip rfl (by decide) fun H2 e2 => q_skip rfl (by decide) fun H3 e3 => q_skip rfl (by decide) fun H4 e4 => q_skip rfl (by decide) fun H5 e5 => q_skip rfl (by decide) fun H6 e6 => q_skip rfl (by decide) fun H7 e7 => ?_
    have e := (((((e1.trans e2).trans e3).trans e4).trans e5).trans e6).trans e7
    exact s_callG (x := ⟨_, [], _⟩) rfl rfl (tk.mono e) (dr.mono e) (mo e rg) ask' (liftK e k)
  | _ => exact absurd hnum (by decide)
theorem ok_drawn (T : Tx K mg) (G_clear : GF P w K mg base "clear" 3 ["drawer", "given"] (sp_clear K)) (G_fade : GF P w K mg base "fade" 3 ["drawer", "given"] (sp_fade K)) (G_fill : GF P w K mg base "fill" 6 ["drawer", "given"] (sp_fill K)) (G_fog : GF P w K mg base "fog" 3 ["drawer", "given"] (sp_fog K)) (G_grab : GF P w K mg base "grab" 4 ["drawer", "given"] (sp_grab K)) (G_spans : GF P w K mg base "spans" 7 ["drawer", "given", "row"] (sp_spans K)) (G_sprite : GF P w K mg base "sprite" 6 ["drawer", "given"] (sp_sprite K)) (G_texture : GF P w K mg base "texture" 2 ["drawer", "given", "row"] (sp_texture K)) : GF P w K mg base "drawn" 8 ["drawer", "number", "given", "row"] (sp_drawn K) := by
  refine ⟨fn_keep (k := 7) (tt := (t_drawn K)) T.d_drawn sc_drawn len_drawn (fun _ _ _ _ _ _ us hl => match us, hl with | [_, _, _, _], _ => rfl) (fun cdv A outer s H E hr => ?_) (pure_drawn T), T.d_drawn.kp, T.g_drawn⟩
  exact (pss_cons (ps_if (pt_cmpR op_eq (pv 1) pe_int (nomark _)) (pss_one (ps_ret (pe_gf G_texture (hr.mono (by decide)) rfl (pa_cons (pv 0) (pa_cons (pv 2) (pa_cons (pv 3) pa_nil)))))) pss_nil)
    (pss_cons (ps_if (pt_cmpR op_eq (pv 1) pe_int (nomark _)) (pss_one (ps_ret (pe_gf G_grab (hr.mono (by decide)) rfl (pa_cons (pv 0) (pa_cons (pv 2) pa_nil))))) pss_nil)
    (pss_cons (ps_if (pt_cmpR op_eq (pv 1) pe_int (nomark _)) (pss_one (ps_ret (pe_gf G_clear (hr.mono (by decide)) rfl (pa_cons (pv 0) (pa_cons (pv 2) pa_nil))))) pss_nil)
    (pss_cons (ps_if (pt_cmpR op_eq (pv 1) pe_int (nomark _)) (pss_one (ps_ret (pe_gf G_fog (hr.mono (by decide)) rfl (pa_cons (pv 0) (pa_cons (pv 2) pa_nil))))) pss_nil)
    (pss_cons (ps_if (pt_cmpR op_eq (pv 1) pe_int (nomark _)) (pss_one (ps_ret (pe_gf G_spans (hr.mono (by decide)) rfl (pa_cons (pv 0) (pa_cons (pv 2) (pa_cons (pv 3) pa_nil)))))) pss_nil)
    (pss_cons (ps_if (pt_cmpR op_eq (pv 1) pe_int (nomark _)) (pss_one (ps_ret (pe_gf G_sprite (hr.mono (by decide)) rfl (pa_cons (pv 0) (pa_cons (pv 2) pa_nil))))) pss_nil)
    (pss_cons (ps_if (pt_cmpR op_eq (pv 1) pe_int (nomark _)) (pss_one (ps_ret (pe_gf G_fill (hr.mono (by decide)) rfl (pa_cons (pv 0) (pa_cons (pv 2) pa_nil))))) pss_nil)
    (pss_one (ps_ret (pe_gf G_fade (hr.mono (by decide)) rfl (pa_cons (pv 0) (pa_cons (pv 2) pa_nil))))))))))))
end
end Sd
end

section
set_option Elab.async false
set_option linter.all false
set_option maxRecDepth 100000
set_option maxHeartbeats 1000000
/-! ## 29. Plain laws of the calls: what is asked, how a list is read, what a step is -/
namespace Sd
open Si20 (Px)
open Si20Neutral (natsOf listOf)
theorem nat_of {z : Int} {b : Nat} (h : Si20Neutral.natural z b = true) : 0 ≤ z ∧ z < 2 ^ b := by
  unfold Si20Neutral.natural at h
  rw [Bool.and_eq_true] at h
  exact ⟨of_decide_eq_true h.1, of_decide_eq_true h.2⟩
theorem nat1 {z : Int} (h : Si20Neutral.natural z 1 = true) : z = 0 ∨ z = 1 := by
  have := nat_of h
  omega
theorem w32_of {z : Int} (h : Si20Neutral.whole32 z = true) : I32 z := by
  unfold Si20Neutral.whole32 at h
  rw [Bool.and_eq_true] at h
  exact ⟨of_decide_eq_true h.1, of_decide_eq_true h.2⟩
theorem all_nat {l : List Int} {b : Nat} (h : l.all (fun (z : Int) => Si20Neutral.natural z b) = true) : ∀ z ∈ l, 0 ≤ z ∧ z < 2 ^ b := fun z hz => nat_of (List.all_eq_true.mp h z hz)
theorem all_w32 {l : List Int} (h : l.all Si20Neutral.whole32 = true) : ∀ z ∈ l, I32 z := fun z hz => w32_of (List.all_eq_true.mp h z hz)
theorem long_of {l : List Int} {n lo hi : Int} (h : Si20Neutral.long l n lo hi = true) : (l.length : Int) = if lo ≤ n ∧ n ≤ hi then n else 0 := of_decide_eq_true h
/-- what is asked of one call -/
def Asked1 (c : List (List Int)) : Prop := ∃ n k t r, c = [n :: k :: t, r] ∧ (k = 0 ∨ k = 1) ∧ ((n = 0 ∧ (∃ x0 x1, t = [x0, x1]) ∧ r = []) ∨ n ≠ 0 ∧ (∃ q, Ask n (k :: t) r q) ∧ (n = 12 → t.getD 0 0 = 0 ∨ t.getD 0 0 = 1))
theorem asked1_of {c : List (List Int)} (h : Si20Neutral.asked1 c = true) : Asked1 c := by
  unfold Si20Neutral.asked1 at h
  split at h
  · rw [Bool.and_eq_true] at h
    exact ⟨_, _, _, _, rfl, nat1 h.1, .inl ⟨rfl, ⟨_, _, rfl⟩, rfl⟩⟩
  · rename_i k x0 l
    rw [Bool.and_eq_true, Bool.and_eq_true, Bool.and_eq_true] at h
    obtain ⟨h1, h2, h3, h4⟩ := h
    refine ⟨_, _, _, _, rfl, nat1 h1, .inr ⟨by decide, ⟨_, Ask.texture k x0 l fun hx => ?_⟩, fun z => absurd z (by decide)⟩⟩
    rw [if_pos hx] at h4
    have := long_of h4
    rw [if_pos (by omega)] at this
    exact ⟨by omega, all_nat h3⟩
  · rw [Bool.and_eq_true] at h
    exact ⟨_, _, _, _, rfl, nat1 h.1, .inr ⟨by decide, ⟨_, Ask.grab _ _ _ _⟩, fun z => absurd z (by decide)⟩⟩
  · rw [Bool.and_eq_true, Bool.and_eq_true] at h
    exact ⟨_, _, _, _, rfl, nat1 h.1, .inr ⟨by decide, ⟨_, Ask.clear _ _ _ (nat_of h.2.1).1⟩, fun z => absurd z (by decide)⟩⟩
  · rw [Bool.and_eq_true] at h
    exact ⟨_, _, _, _, rfl, nat1 h.1, .inr ⟨by decide, ⟨_, Ask.fog _ _ (nat_of h.2).1⟩, fun z => absurd z (by decide)⟩⟩
  · rw [Bool.and_eq_true, Bool.and_eq_true, Bool.and_eq_true, Bool.and_eq_true] at h
    exact ⟨_, _, _, _, rfl, nat1 h.1, .inr ⟨by decide, ⟨_, Ask.spans _ _ _ _ (long_of h.2.2.2.2) (all_w32 h.2.2.2.1)⟩, fun z => absurd z (by decide)⟩⟩
  · rw [Bool.and_eq_true, Bool.and_eq_true, Bool.and_eq_true, Bool.and_eq_true, Bool.and_eq_true, Bool.and_eq_true, Bool.and_eq_true, Bool.and_eq_true, Bool.and_eq_true] at h
    obtain ⟨h, h0, h1, h2, h3, h4, h5, h6, h7, h8⟩ := h
    exact ⟨_, _, _, _, rfl, nat1 h, .inr ⟨by decide, ⟨_, Ask.sprite _ _ _ _ _ _ _ _ _ _ (w32_of h6) (w32_of h7) (nat_of h8)⟩, fun z => absurd z (by decide)⟩⟩
  · rw [Bool.and_eq_true, Bool.and_eq_true, Bool.and_eq_true, Bool.and_eq_true, Bool.and_eq_true, Bool.and_eq_true] at h
    obtain ⟨h, h0, h1, h2, h3, h4, h5⟩ := h
    exact ⟨_, _, _, _, rfl, nat1 h, .inr ⟨by decide, ⟨_, Ask.fill _ _ _ _ _ _ _ (w32_of h1) (w32_of h2) (nat_of h5).1⟩, fun z => absurd z (by decide)⟩⟩
  · rw [Bool.and_eq_true] at h
    exact ⟨_, _, _, _, rfl, nat1 h.1, .inr ⟨by decide, ⟨_, Ask.fade _ _⟩, fun z => absurd z (by decide)⟩⟩
  · rw [Bool.and_eq_true] at h
    exact ⟨_, _, _, _, rfl, nat1 h.1, .inr ⟨by decide, ⟨_, Ask.get _ _ _ _ _⟩, fun z => absurd z (by decide)⟩⟩
  · exact ⟨_, _, _, _, rfl, nat1 h, .inr ⟨by decide, ⟨_, Ask.small _⟩, fun z => absurd z (by decide)⟩⟩
  · exact ⟨_, _, _, _, rfl, nat1 h, .inr ⟨by decide, ⟨_, Ask.give _⟩, fun z => absurd z (by decide)⟩⟩
  · rw [Bool.and_eq_true] at h
    exact ⟨_, _, _, _, rfl, nat1 h.1, .inr ⟨by decide, ⟨_, Ask.apart _ _⟩, fun _ => nat1 h.2⟩⟩
  · rename_i k l
    rw [Bool.and_eq_true, Bool.and_eq_true] at h
    have := long_of h.2.2
    rw [if_pos (by omega)] at this
    exact ⟨_, _, _, _, rfl, nat1 h.1, .inr ⟨by decide, ⟨_, Ask.matrix _ _ (by omega) (all_nat h.2.1)⟩, fun z => absurd z (by decide)⟩⟩
  · rw [Bool.and_eq_true, Bool.and_eq_true, Bool.and_eq_true] at h
    exact ⟨_, _, _, _, rfl, nat1 h.1, .inr ⟨by decide, ⟨_, Ask.move _ _ _ (long_of h.2.2.2) (all_nat h.2.2.1)⟩, fun z => absurd z (by decide)⟩⟩
  · rw [Bool.and_eq_true, Bool.and_eq_true, Bool.and_eq_true] at h
    exact ⟨_, _, _, _, rfl, nat1 h.1, .inr ⟨by decide, ⟨_, Ask.place _ _ _ (long_of h.2.2.2) (all_nat h.2.2.1)⟩, fun z => absurd z (by decide)⟩⟩
  · rename_i k l
    rw [Bool.and_eq_true, Bool.and_eq_true] at h
    have := long_of h.2.2
    rw [if_pos (by omega)] at this
    exact ⟨_, _, _, _, rfl, nat1 h.1, .inr ⟨by decide, ⟨_, Ask.light _ _ (by omega) (all_nat h.2.1)⟩, fun z => absurd z (by decide)⟩⟩
  · rw [Bool.and_eq_true, Bool.and_eq_true, Bool.and_eq_true] at h
    exact ⟨_, _, _, _, rfl, nat1 h.1, .inr ⟨by decide, ⟨_, Ask.lights _ _ _ (long_of h.2.2.2) (all_nat h.2.2.1)⟩, fun z => absurd z (by decide)⟩⟩
  · cases h
/-! ### a step -/
theorem ask_call {n : Int} {g r : List Int} {q : Si20.Call} (h : Ask n g r q) : Si20Neutral.callOf [n :: g, r] = some q := by
  cases h <;> rfl
theorem step_ask {S : Si20Neutral.S} {n k : Int} {t r : List Int} {q : Si20.Call} {st : Si20.St} (h : Ask n (k :: t) r q) (hn : n ≠ 12) (hg : Si20Neutral.get S k = some st) : Si20Neutral.step S [n :: k :: t, r] = (Si20Neutral.put S k (Si20.spec st st q).1, listOf (Si20.spec st st q).2) := by
  unfold Si20Neutral.step
  rw [ask_call h]
  have ho : Si20Neutral.object [n :: k :: t, r] = k := rfl
  have hp : Si20Neutral.place [n :: k :: t, r] ≠ 12 := by
    show n.toNat ≠ 12
    omega
  rw [if_neg hp, ho]
  simp only [hg]
theorem step_apart {S : Si20Neutral.S} {k x0 : Int} {st st2 : Si20.St} (hg : Si20Neutral.get S k = some st) (hg2 : Si20Neutral.get S x0 = some st2) : Si20Neutral.step S [[12, k, x0], []] = (Si20Neutral.put S k (Si20.spec st st2 .apart).1, listOf (Si20.spec st st2 .apart).2) := by
  unfold Si20Neutral.step
  rw [ask_call (Ask.apart k x0)]
  have ho : Si20Neutral.object [[12, k, x0], []] = k := rfl
  have hp : Si20Neutral.place [[12, k, x0], []] = 12 := rfl
  have ha : Si20Neutral.at_ [[12, k, x0], []] 0 = x0 := rfl
  rw [if_pos hp, ho, ha]
  simp only [hg, hg2]
theorem sideB_iff {w : Int} : sideB w = true ↔ 8 ≤ w ∧ w ≤ 128 ∧ w % 8 = 0 := by
  unfold sideB
  rw [Bool.not_eq_true', Bool.or_eq_false_iff, Bool.or_eq_false_iff, Bool.not_eq_false', decide_eq_false_iff_not, decide_eq_false_iff_not, decide_eq_true_iff]
  omega
theorem put_get {S : Si20Neutral.S} {k : Int} {x : Si20.St} (h : Si20Neutral.get S k = some x) : Si20Neutral.put S k x = S := by
  unfold Si20Neutral.put
  unfold Si20Neutral.get at h
  split
  · rename_i hk
    rw [if_pos hk] at h
    rw [← h]
  · rename_i hk
    rw [if_neg hk] at h
    rw [← h]
theorem open_cond (x0 x1 : Int) : (Si20.within x0 8 128 && (Si20.within x1 8 128 && (x0 % 8 == 0 && x1 % 8 == 0))) = (sideB x0 && sideB x1) := by
  rw [Bool.eq_iff_iff, Bool.and_eq_true, Bool.and_eq_true, Bool.and_eq_true, Bool.and_eq_true, sideB_iff, sideB_iff]
  unfold Si20.within
  rw [Bool.and_eq_true, Bool.and_eq_true, decide_eq_true_iff, decide_eq_true_iff, decide_eq_true_iff, decide_eq_true_iff, beq_iff_eq, beq_iff_eq]
  omega
theorem spec_open (s t : Si20.St) (x0 x1 : Int) : Si20.spec s t (.opens x0 x1) = if (sideB x0 && sideB x1) = true then (Si20.opened x0.toNat x1.toNat, Si20.say 0) else (s, Si20.say (-2)) := by
  rw [← open_cond]
  rfl
theorem step_open {S : Si20Neutral.S} {k x0 x1 : Int} : Si20Neutral.step S [[0, k, x0, x1], []] = if (sideB x0 && sideB x1) = true then (Si20Neutral.put S k (Si20.opened x0.toNat x1.toNat), [0]) else (S, [-2]) := by
  unfold Si20Neutral.step
  have hc : Si20Neutral.callOf [[0, k, x0, x1], []] = some (.opens x0 x1) := rfl
  have ho : Si20Neutral.object [[0, k, x0, x1], []] = k := rfl
  have hp : Si20Neutral.place [[0, k, x0, x1], []] = 0 := rfl
  rw [hc, ho, hp, if_neg (by decide)]
  simp only [spec_open]
  cases hg : Si20Neutral.get S k with
  | none =>
    simp only
    cases hb : (sideB x0 && sideB x1) with
    | true => rfl
    | false => rfl
  | some x =>
    simp only
    cases hb : (sideB x0 && sideB x1) with
    | true => rfl
    | false =>
      show (Si20Neutral.put S k x, [(-2 : Int)]) = (S, [-2])
      rw [put_get hg]
/-! ### the list read -/
theorem row_inv' {l x s : List Int} (h : PyFlat.row l = some (x, s)) : l = (x.length : Int) :: (x ++ s) := by
  cases l with
  | nil => cases h
  | cons n r =>
    unfold PyFlat.row at h
    simp only at h
    by_cases hk : 0 ≤ n ∧ n.toNat ≤ r.length
    · rw [if_pos hk] at h
      obtain ⟨h1, h2⟩ := Prod.mk.inj (Option.some.inj h)
      rw [← h1, ← h2, List.take_append_drop, List.length_take, Nat.min_eq_left hk.2, Int.toNat_of_nonneg hk.1]
    · rw [if_neg hk] at h
      cases h
theorem rows_one {l x s : List Int} (k : Nat) (h : PyFlat.rows k l = some ([x], s)) : k = 1 ∧ l = (x.length : Int) :: (x ++ s) := by
  cases k with
  | zero => cases h
  | succ k =>
    unfold PyFlat.rows at h
    cases e : PyFlat.row l with
    | none => rw [e] at h; cases h
    | some p =>
      obtain ⟨y, s1⟩ := p
      rw [e] at h
      simp only at h
      cases e2 : PyFlat.rows k s1 with
      | none => rw [e2] at h; cases h
      | some p2 =>
        obtain ⟨ys, s2⟩ := p2
        rw [e2] at h
        simp only at h
        obtain ⟨h1, h2⟩ := Prod.mk.inj (Option.some.inj h)
        obtain ⟨h3, h4⟩ := List.cons.inj h1
        cases k with
        | zero =>
          have e2 : some (([] : List (List Int)), s1) = some (ys, s2) := e2
          obtain ⟨h5, h6⟩ := Prod.mk.inj (Option.some.inj e2)
          have := row_inv' e
          rw [h3, h6, h2] at this
          exact ⟨rfl, this⟩
        | succ k =>
          exfalso
          unfold PyFlat.rows at e2
          cases e3 : PyFlat.row s1 with
          | none => rw [e3] at e2; cases e2
          | some p3 =>
            rw [e3] at e2
            simp only at e2
            cases e4 : PyFlat.rows k p3.2 with
            | none => rw [e4] at e2; cases e2
            | some p4 =>
              rw [e4] at e2
              simp only at e2
              rw [h4] at e2
              have := (Prod.mk.inj (Option.some.inj e2)).1
              cases this
theorem call_one {l t : List Int} {n : Int} {g r : List Int} (h : PyWide.call l = some ([n :: g, r], t)) : l = n :: (g.length : Int) :: (g ++ (1 : Int) :: (r.length : Int) :: (r ++ t)) := by
  cases l with
  | nil => cases h
  | cons p rest =>
    unfold PyWide.call at h
    simp only at h
    cases e : PyFlat.row rest with
    | none => rw [e] at h; cases h
    | some pr =>
      obtain ⟨ns, s1⟩ := pr
      rw [e] at h
      cases s1 with
      | nil => cases h
      | cons k t1 =>
        simp only at h
        by_cases hk : 0 ≤ k
        · rw [if_pos hk] at h
          cases e2 : PyFlat.rows k.toNat t1 with
          | none => rw [e2] at h; cases h
          | some p2 =>
            obtain ⟨xs, u⟩ := p2
            rw [e2] at h
            simp only at h
            obtain ⟨h1, h2⟩ := Prod.mk.inj (Option.some.inj h)
            obtain ⟨h3, h4⟩ := List.cons.inj h1
            obtain ⟨h5, h6⟩ := List.cons.inj h3
            rw [h4, h2] at e2
            obtain ⟨h7, h8⟩ := rows_one _ e2
            have h9 := row_inv' e
            rw [h5, h9, h6, h8, show k = 1 by omega]
        · rw [if_neg hk] at h
          cases h
theorem calls_nil {f : Nat} {cs : List (List (List Int))} (h : PyWide.calls f [] = some cs) : cs = [] := by
  cases f <;> (cases h; rfl)
theorem calls_cons {f : Nat} {p : Int} {r : List Int} {cs : List (List (List Int))} (h : PyWide.calls f (p :: r) = some cs) : ∃ f' c t ds, PyWide.call (p :: r) = some (c, t) ∧ PyWide.calls f' t = some ds ∧ cs = c :: ds := by
  cases f with
  | zero => cases h
  | succ f =>
    unfold PyWide.calls at h
    try simp only at h
    cases e : PyWide.call (p :: r) with
    | none => rw [e] at h; cases h
    | some pr =>
      obtain ⟨c, t⟩ := pr
      rw [e] at h
      simp only at h
      cases e2 : PyWide.calls f t with
      | none => rw [e2] at h; cases h
      | some ds =>
        rw [e2] at h
        simp only at h
        exact ⟨f, c, t, ds, rfl, e2, (Option.some.inj h).symm⟩
end Sd
end

section
set_option Elab.async false
set_option linter.all false
set_option maxRecDepth 100000
set_option maxHeartbeats 400000
/-! ## 30. desk.py: the two drawers -/
namespace Sd
open PySem PySem.Spec PyProof.Rows L2 Evl
open Si20 (Px)
open Si20Neutral (natsOf listOf)
local macro_rules | `(tactic| walk_at "ev") => `(tactic| first
  | with_reducible exact er_cI
  | focus ((with_reducible apply er_varI); with_unfolding_all rfl)
  | focus ((with_reducible apply er_var); all_goals first | with_unfolding_all rfl | assumption)
  | focus ((with_reducible apply er_op0); all_goals walk_at "ev")
  | focus ((with_reducible apply er_op); all_goals walk_at "ev")
  | focus ((with_reducible apply er_neg); all_goals walk_at "ev")
  | focus ((with_reducible apply er_max); all_goals walk_at "ev")
  | focus ((with_reducible apply er_min); all_goals walk_at "ev")
  | focus ((with_reducible apply er_abs); all_goals walk_at "ev")
  | focus ((with_reducible apply er_intB); all_goals walk_at "ev")
  | focus ((with_reducible apply er_bits); all_goals walk_at "ev")
  | focus ((with_reducible apply er_ixD); all_goals walk_at "ev")
  | focus ((with_reducible apply er_call1); all_goals walk_at "ev")
  | focus ((with_reducible apply er_call2); all_goals walk_at "ev")
  | focus ((with_reducible apply er_call3); all_goals walk_at "ev")
  | focus ((with_reducible apply er_call4); all_goals walk_at "ev")
  | focus ((with_reducible apply er_eq); all_goals walk_at "ev")
  | focus ((with_reducible apply er_ne); all_goals walk_at "ev")
  | focus ((with_reducible apply er_cmp); all_goals walk_at "ev")
  | focus ((with_reducible apply er_chain); all_goals walk_at "ev")
  | focus ((with_reducible apply er_andU); all_goals walk_at "ev")
  | focus ((with_reducible apply er_orU); all_goals walk_at "ev")
  | focus ((with_reducible apply et_t); all_goals walk_at "ev")
  | focus ((with_reducible apply et_b); all_goals walk_at "ev")
  | focus ((with_reducible apply et_andU); all_goals walk_at "ev")
  | focus ((with_reducible apply et_orU); all_goals walk_at "ev")
  | focus ((with_reducible apply Evl.et_not); all_goals walk_at "ev")
  | walk_at "side")
local macro_rules | `(tactic| walk_at "evr") => `(tactic| (refine er_is (by walk_at "ev") (by with_unfolding_all rfl)))
local macro_rules | `(tactic| walk_at "side") => `(tactic| first
  | assumption
  | exact True.intro
  | exact cdiv_ok (by decide) (by decide)
  | exact cmul_l (by omega) (by omega)
  | exact cmul_r (by omega) (by omega)
  | omega
  | decide
  | (dsimp only; done)
  | (dsimp only; first | assumption | omega | decide)
  | (constructor <;> assumption))
local macro_rules | `(tactic| walk_at "ev") => `(tactic| first
  | focus ((with_reducible apply er_s0); all_goals walk_at "ev")
  | focus ((with_reducible apply er_s1); all_goals walk_at "ev")
  | focus ((with_reducible apply er_s2); all_goals walk_at "ev")
  | focus ((with_reducible apply er_tupS); all_goals walk_at "ev")
  | focus ((with_reducible apply er_tupI2); all_goals walk_at "ev")
  | focus ((with_reducible apply er_divmod); all_goals walk_at "ev"))
local macro_rules | `(tactic| walk_at "side") => `(tactic| exact cshl_ok (by omega) (by omega))
local macro_rules | `(tactic| walk_at "ev") => `(tactic| first
  | focus ((with_reducible apply er_wide); all_goals walk_at "ev")
  | focus ((with_reducible apply er_high); all_goals walk_at "ev")
  | focus ((with_reducible apply er_meth1); all_goals walk_at "ev")
  | focus ((with_reducible apply er_meth2); all_goals walk_at "ev")
  | focus ((with_reducible apply er_meth3); all_goals walk_at "ev"))
local macro_rules | `(tactic| walk_at "side") => `(tactic| (focus (decide +kernel)))
/-- what a drawer's place holds -/
def Slot (K : PySem.W.Frag) (tg : Tags) (d : Nat) (H : Hp) (v : V) (o : Option Si20.St) : Prop := match o with
  | none => v = .non
  | some st => ∃ a D, v = .ref a ∧ Dr K (dC K) tg d H a D st
/-- the list of drawers -/
structure Desk (K : PySem.W.Frag) (tg : Tags) (H : Hp) (pd : Addr) (v0 v1 : V) (S : Si20Neutral.S) : Prop where
  ok : TagOk tg H
  ls : H pd = some (.lst [v0, v1])
  tl : tg pd = some (2, 0)
  s0 : Slot K tg 0 H v0 S.1
  s1 : Slot K tg 1 H v1 S.2
/-- only drawers and their list change -/
structure StpG (tg : Tags) (H : Hp) (tg' : Tags) (H' : Hp) : Prop where
  fr : ∀ b o, H b = some o → (∀ d j, tg b = some (d, j) → 3 ≤ d) → H' b = some o
  tk : ∀ b o, H b = some o → tg' b = tg b
  al : ∀ b o, H b = some o → ∃ o', H' b = some o'
section
variable {K : PySem.W.Frag} {tg tg' tg'' : Tags} {d : Nat} {H H1 H' H'' : Hp} {a pd : Addr} {v v0 v1 : V} {o : Option Si20.St} {S : Si20Neutral.S}
theorem Stp.g (x : Stp d tg H tg' H') (hd : d < 3) : StpG tg H tg' H' := ⟨fun b o h n => x.fr b o h fun j z => by
  have := n d j z
  omega, x.tk, x.al⟩
theorem StpG.ofEx (e : Ex H H') : StpG tg H tg H' := ⟨fun _ _ h _ => e _ _ h, fun _ _ _ => rfl, fun _ o h => ⟨o, e _ _ h⟩⟩
theorem StpG.trans (x : StpG tg H tg' H') (y : StpG tg' H' tg'' H'') : StpG tg H tg'' H'' :=
  ⟨fun b o h n => y.fr b o (x.fr b o h n) fun d j => by rw [x.tk b o h]; exact n d j, fun b o h => by
    obtain ⟨o', h'⟩ := x.al b o h
    rw [y.tk b o' h', x.tk b o h], fun b o h => by
    obtain ⟨o', h'⟩ := x.al b o h
    exact y.al b o' h'⟩
theorem StpG.back (x : StpG tg H tg' H') {p : Addr} (h : H' p = none) : H p = none := by
  cases e : H p with
  | none => rfl
  | some o =>
    obtain ⟨o', h'⟩ := x.al p o e
    rw [h'] at h
    cases h
theorem Slot.mono (e : Ex H H') (h : Slot K tg d H v o) : Slot K tg d H' v o := by
  cases o with
  | none => exact h
  | some st =>
    obtain ⟨a, D, h1, h2⟩ := h
    exact ⟨a, D, h1, h2.mono e⟩
theorem Slot.other {e : Nat} (x : Slot K tg e H v o) (y : Stp d tg H tg' H') (t : TagOk tg H) (ne : e ≠ d) : Slot K tg' e H' v o := by
  cases o with
  | none => exact x
  | some st =>
    obtain ⟨a, D, h1, h2⟩ := x
    exact ⟨a, D, h1, h2.other y t ne⟩
theorem Desk.mono (x : Desk K tg H pd v0 v1 S) (e : Ex H H') : Desk K tg H' pd v0 v1 S := ⟨x.ok.mono e, e _ _ x.ls, x.tl, x.s0.mono e, x.s1.mono e⟩
/-- what is none of the desk's changes -/
theorem Desk.other (x : Desk K tg H pd v0 v1 S) (y : Stp d tg H tg' H') (t : TagOk tg' H') (hd : 3 ≤ d) : Desk K tg' H' pd v0 v1 S :=
  ⟨t, y.fr _ _ x.ls fun j z => by
    rw [x.tl] at z
    cases z
    omega, (y.tk _ _ x.ls).trans x.tl, x.s0.other y x.ok (by omega), x.s1.other y x.ok (by omega)⟩
theorem put_0 {x : Si20.St} : Si20Neutral.put S 0 x = (some x, S.2) := if_pos rfl
theorem put_1 {x : Si20.St} : Si20Neutral.put S 1 x = (S.1, some x) := if_neg (by decide)
theorem Desk.put (x : Desk K tg H pd v0 v1 S) {k : Int} (hk : k = 0 ∨ k = 1) (hd : (d : Int) = k) (hv : [v0, v1][d]? = some (.ref a)) {st' : Si20.St} (y : At K a d tg H H' st') : ∃ tg', StpG tg H tg' H' ∧ Desk K tg' H' pd v0 v1 (Si20Neutral.put S k st') := by
  obtain ⟨tg', D', y1, y2, y3⟩ := y
  have lp : H' pd = some (.lst [v0, v1]) := y1.fr _ _ x.ls fun j z => by
    rw [x.tl] at z
    cases z
    omega
  have lt : tg' pd = some (2, 0) := (y1.tk _ _ x.ls).trans x.tl
  refine ⟨tg', y1.g (by omega), ?_⟩
  rcases hk with rfl | rfl
  · have : d = 0 := by omega
    subst this
    have e : v0 = .ref a := Option.some.inj hv
    rw [put_0]
    exact ⟨y2, lp, lt, ⟨a, D', e, y3⟩, x.s1.other y1 x.ok (by decide)⟩
  · have : d = 1 := by omega
    subst this
    have e : v1 = .ref a := Option.some.inj hv
    rw [put_1]
    exact ⟨y2, lp, lt, x.s0.other y1 x.ok (by decide), ⟨a, D', e, y3⟩⟩
theorem Desk.get (x : Desk K tg H pd v0 v1 S) {k : Int} (hk : k = 0 ∨ k = 1) {st : Si20.St} (h : Si20Neutral.get S k = some st) : ∃ (d : Nat) (a : Addr) (D : DA), (d : Int) = k ∧ [v0, v1][d]? = some (.ref a) ∧ Dr K (dC K) tg d H a D st := by
  rcases hk with rfl | rfl
  · have h : S.1 = some st := h
    have s0 := x.s0
    rw [h] at s0
    obtain ⟨a, D, h1, h2⟩ := s0
    exact ⟨0, a, D, rfl, by rw [h1]; rfl, h2⟩
  · have h : S.2 = some st := h
    have s1 := x.s1
    rw [h] at s1
    obtain ⟨a, D, h1, h2⟩ := s1
    exact ⟨1, a, D, rfl, by rw [h1]; rfl, h2⟩
theorem er_ixO {c : Type} {R : Rel c} [Mo R] {s : L2.St} {ta tb : TE} {xs : List V} {v : V} {y : c} {n : Int} {j : Nat} (ha : EvR RLv ta s H xs) (hb : EvR RI tb s H n) (hj : n = (j : Int)) (h : xs[j]? = some v) (r : R H v y) : EvR R (tOp (rIxL K) ta tb) s H y := fun H1 e Q q =>
  ha H1 e _ fun w H2 e2 ⟨p, r1, r2⟩ => hb H2 (e.trans e2) _ fun z H3 e3 r4 => ⟨p, xs, n, v, r1, r4, SqL.of (e3 _ _ r2), by rw [hj]; exact atI_nat h, q _ H3 (e2.trans e3) (mo ((e.trans e2).trans e3) r)⟩
end
def sp_answer (K : PySem.W.Frag) : Sp := fun vs H Q _ => ∃ pd vg vr tg v0 v1 S n k t r q st, vs = [.ref pd, .int n, vg, vr] ∧ Desk K tg H pd v0 v1 S ∧ RIu (Un_ tg) H vg (k :: t) ∧ RIu (Un_ tg) H vr r ∧ Ask n (k :: t) r q ∧ (k = 0 ∨ k = 1) ∧ Si20Neutral.get S k = some st ∧ (n = 12 → (t.getD 0 0 = 0 ∨ t.getD 0 0 = 1) ∧ ∃ st2, Si20Neutral.get S (t.getD 0 0) = some st2) ∧
  ∀ p tg' v0' v1' H', H p = none → StpG tg H tg' H' → Desk K tg' H' pd v0' v1' (Si20Neutral.step S [n :: k :: t, r]).1 → H' p = some (.lst (vI (Si20Neutral.step S [n :: k :: t, r]).2)) → Q (.ref p) H'
def sp_opened (K : PySem.W.Frag) : Sp := fun vs H Q _ => ∃ pd vg tg v0 v1 S k x0 x1, vs = [.ref pd, vg] ∧ Desk K tg H pd v0 v1 S ∧ RIu (Un_ tg) H vg [k, x0, x1] ∧ (k = 0 ∨ k = 1) ∧
  ∀ p tg' v0' v1' H', H p = none → StpG tg H tg' H' → Desk K tg' H' pd v0' v1' (Si20Neutral.step S [[0, k, x0, x1], []]).1 → H' p = some (.lst (vI (Si20Neutral.step S [[0, k, x0, x1], []]).2)) → Q (.ref p) H'
/-- answer: 0 drawers, 1 number, 2 given, 3 row, 4 drawer -/
def t_answer (K : PySem.W.Frag) : TS :=
  (tSeq (tAsg (tOp (rIxL K) (tVar 0) (tOp (rIxL K) (tVar 2) (tC (.int 0)))) (gName 4))
    (tSeq (tIfS (tTest (tOp rLtI (tVar 1) (tC (.int 9)))) (tRet (tCall (sp_drawn K) [] E0 (tCons (tVar 4) (tCons (tVar 1) (tCons (tVar 2) (tCons (tVar 3) tNil)))))) tNext)
    (tSeq (tIfS (tTest (tOp rEq (tVar 1) (tC (.int 9)))) (tRet (tCall (sp_get K) [] E0 (tCons (tVar 4) (tCons (tVar 2) tNil)))) tNext)
    (tSeq (tIfS (tTest (tOp rEq (tVar 1) (tC (.int 10)))) (tRet (tCall sp_counted [] E0 (tCons (tMeth (He.ga K "Drawer") "small" (sp_D_small K) [] E0 (tVar 4) tNil) tNil))) tNext)
    (tSeq (tIfS (tTest (tOp rEq (tVar 1) (tC (.int 11)))) (tRet (tCall sp_counted [] E0 (tCons (tMeth (He.ga K "Drawer") "give" (sp_D_give K) [] E0 (tVar 4) tNil) tNil))) tNext)
    (tSeq (tIfS (tTest (tOp rEq (tVar 1) (tC (.int 12)))) (tRet (tCall (sp_apart K) [] E0 (tCons (tVar 4) (tCons (tOp (rIxL K) (tVar 0) (tOp (rIxL K) (tVar 2) (tC (.int 1)))) tNil)))) tNext)
    (tSeq (tIfS (tTest (tOp rEq (tVar 1) (tC (.int 13)))) (tRet (tCall (sp_matrix K) [] E0 (tCons (tVar 4) (tCons (tVar 3) tNil)))) tNext)
    (tSeq (tIfS (tTest (tOp rEq (tVar 1) (tC (.int 16)))) (tRet (tCall (sp_light K) [] E0 (tCons (tVar 4) (tCons (tVar 3) tNil)))) tNext)
    (tRet (tCall (sp_on_points K) [] E0 (tCons (tVar 4) (tCons (tVar 1) (tCons (tVar 2) (tCons (tVar 3) tNil))))))))))))))
/-- opened: 0 drawers, 1 given -/
def t_opened (K : PySem.W.Frag) : TS :=
  (tSeq (tIfS (tNot (tB (tCall sp_are_sides [] E0 (tCons (tOp (rIxL K) (tVar 1) (tC (.int 1))) (tCons (tOp (rIxL K) (tVar 1) (tC (.int 2))) tNil))))) (tRet (tLst (tCons (tC (.int (-2))) tNil))) tNext)
    (tSeq (tAsg (tMake (He.ga K "Drawer") (sp_D_init K) [] E0 (tCons (tOp (rIxL K) (tVar 1) (tC (.int 1))) (tCons (tOp (rIxL K) (tVar 1) (tC (.int 2))) tNil))) (gSub (tVar 0) (tOp (rIxL K) (tVar 1) (tC (.int 0))) rSetL))
    (tRet (tLst (tCons (tC (.int 0)) tNil)))))
section
variable {P : Program} {w : World} {K : PySem.W.Frag} {mg : Str → Option Value} {base : Heap}
theorem len_answer : ∀ vs H Q E, sp_answer K vs H Q E → vs.length = 4 := by
  rintro vs H Q E ⟨_, _, _, _, _, _, _, _, _, _, _, _, _, rfl, _⟩
  rfl
theorem len_opened : ∀ vs H Q E, sp_opened K vs H Q E → vs.length = 2 := by
  rintro vs H Q E ⟨_, _, _, _, _, _, _, _, _, rfl, _⟩
  rfl
theorem bytes_len (l : List Px) : (Si20.bytes l).length = 4 * l.length := by
  rw [bytes_flat, flat_c (k := 4) _ _ (fun x => pxI_len x), Nat.mul_comm]
theorem pure_answer (T : Tx K mg) (vs : List V) (H : Hp) (Q : VK) (E : XK) (h : sp_answer K vs H Q E) : t_answer K { nx := fun _ H' => Q .non H', rt := Q } (start ["drawers", "number", "given", "row", "drawer"] vs) H := by
  obtain ⟨pd, vg, vr, tg, v0, v1, S, n, kk, t, r, q, st, rfl, dk, rg, rr, ask, hk, hg, h12, k⟩ := h
  show t_answer K { nx := fun _ H' => Q .non H', rt := Q } [some (.ref pd), some (.int n), some vg, some vr, none] H
  obtain ⟨d, a, D, hd, hv, dr⟩ := dk.get hk hg
  have rl : RLv H (.ref pd) [v0, v1] := ⟨pd, rfl, dk.ls⟩
  have r0 : RD K (dC K) H (.ref a) st := ⟨tg, d, a, D, rfl, dr⟩
  have wf := r0.wf
  have w2 := wf.w2
  have h2' := wf.h2
  refine qr_asg (R := RV) (x := .ref a) (er_ixO (R := RV) (j := d) (er_var rfl rl) (er_at 0 rfl rfl rg.ril (by simp)) hd.symm hv rfl) fun v H1 e1 r1 => ?_
  cases r1
  have fin : n ≠ 12 → ∀ p H', H p = none → At K a d tg H H' (Si20.spec st st q).1 → H' p = some (.lst (vI (listOf (Si20.spec st st q).2))) → Q (.ref p) H' := fun hn p H' hp y h => by
    obtain ⟨tg', g1, g2⟩ := dk.put hk hd hv y
    rw [step_ask ask hn hg] at k
    exact k p tg' v0 v1 H' hp g1 g2 h
  have at0 := At.start dk.ok dr
  have ask' := ask
  refine qp_when (et_t (er_cmp (er_varI rfl) er_cI)) (fun b H2 e2 => ?_) fun b H2 e2 => ?_
  · have b : n < 9 := b
    have e := e1.trans e2
    exact s_callNGR (x := ⟨_, _, _⟩) rfl rfl rfl rfl (dk.ok.mono e) (dr.mono e) (mo e rg) (mo e rr) ⟨ask, b⟩ (liftK e (fin (by omega)))
  · have e02 := e1.trans e2
    cases ask with
    | get _ x0 x1 x2 x3 =>
      refine q_take rfl rfl fun H3 e3 => ?_
      have e := e02.trans e3
      exact s_callG (x := ⟨_, [], _⟩) rfl rfl (dk.ok.mono e) (dr.mono e) (mo e rg) ask' (liftK e (fin (by decide)))
    | small =>
      refine q_skip rfl (by decide) fun H3 e3 => q_take rfl rfl fun H4 e4 => ?_
      have e := (e02.trans e3).trans e4
      have fin := fin (by decide)
      have hl : (smallM st).length = 4 * (Si20.halved st).length := by rw [small_eq st wf, bytes_len]
      have hh : (Si20.halved st).length = st.w / 2 * (st.h / 2) := by
        unfold Si20.halved
        rw [List.length_map, List.length_range]
      have hb : (smallM st).length ≤ 1000000 := by
        have := Nat.mul_le_mul (show st.w / 2 ≤ 64 by omega) (show st.h / 2 ≤ 64 by omega)
        rw [hl, hh]
        omega
      refine s_retL (el_call1 (x := smallM st) (el_ints (el_meth0 (by decide +kernel) (er_var rfl (mo e r0)) trivial)) hb) fun p H5 hp e5 h5 => fin p H5 (fresh_back e hp) (at0.ex (e.trans e5)) ?_
      rw [h5, hl, small_eq st wf]
      show _ = some (HO.lst (vI (((4 * (Si20.halved st).length : Nat) : Int) :: (Si20.bytes (Si20.halved st) ++ []))))
      rw [List.append_nil]
    | give =>
      refine q_skip rfl (by decide) fun H3 e3 => q_skip rfl (by decide) fun H4 e4 => q_take rfl rfl fun H5 e5 => ?_
      have e := ((e02.trans e3).trans e4).trans e5
      have fin := fin (by decide)
      have hl : (giveM st).length = st.w * st.h := by rw [give_eq st, List.length_map, List.length_range]
      have hb : (giveM st).length ≤ 1000000 := by
        have := Nat.mul_le_mul w2 h2'
        rw [hl]
        omega
      refine s_retL (el_call1 (x := giveM st) (el_ints (el_meth0 (by decide +kernel) (er_var rfl (mo e r0)) trivial)) hb) fun p H6 hp e6 h6 => fin p H6 (fresh_back e hp) (at0.ex (e.trans e6)) ?_
      rw [h6, hl, give_eq st]
      show _ = some (HO.lst (vI (((st.w * st.h : Nat) : Int) :: ((List.range (st.w * st.h)).map (fun (i : Nat) => ((Si20.cut st i : Nat) : Int)) ++ []))))
      rw [List.append_nil]
    | apart _ x0 =>
      refine q_skip rfl (by decide) fun H3 e3 => q_skip rfl (by decide) fun H4 e4 => q_skip rfl (by decide) fun H5 e5 => q_take rfl rfl fun H6 e6 => ?_
      have e := (((e02.trans e3).trans e4).trans e5).trans e6
      obtain ⟨hx, st2, hg2⟩ := h12 rfl
      have hx : x0 = 0 ∨ x0 = 1 := hx
      have hg2 : Si20Neutral.get S x0 = some st2 := hg2
      obtain ⟨d2, a2, D2, hd2, hv2, dr2⟩ := dk.get hx hg2
      have r2 : RD K (dC K) H (.ref a2) st2 := ⟨tg, d2, a2, D2, rfl, dr2⟩
      rw [step_apart hg hg2] at k
      have sp1 : (Si20.spec st st2 .apart).1 = st := by
        show (if st.w = st2.w ∧ st.h = st2.h then _ else _ : Si20.St × Si20.Ans).1 = st
        split <;> rfl
      rw [sp1] at k
      have rl6 := mo e rl
      have rg6 := mo e rg.ril
      refine s_retL (el_call2 (er_var rfl (mo e r0)) (er_ixO (j := d2) (er_var rfl rl6) (er_at 1 rfl rfl rg6 (by simp)) hd2.symm hv2 (mo e r2)) trivial) fun p H7 hp e7 h7 => ?_
      obtain ⟨tg', g1, g2⟩ := dk.put hk hd hv (at0.ex (e.trans e7))
      exact k p tg' v0 v1 H7 (fresh_back e hp) g1 g2 h7
    | matrix _ _ hl hb =>
      refine q_skip rfl (by decide) fun H3 e3 => q_skip rfl (by decide) fun H4 e4 => q_skip rfl (by decide) fun H5 e5 => q_skip rfl (by decide) fun H6 e6 => q_take rfl rfl fun H7 e7 => ?_
      have e := ((((e02.trans e3).trans e4).trans e5).trans e6).trans e7
      exact s_callR (x := ⟨_, _, _⟩) rfl rfl (dk.ok.mono e) (dr.mono e) (mo e rr) ask' (liftK e (fin (by decide)))
    | light _ _ hl hb =>
      refine q_skip rfl (by decide) fun H3 e3 => q_skip rfl (by decide) fun H4 e4 => q_skip rfl (by decide) fun H5 e5 => q_skip rfl (by decide) fun H6 e6 => q_skip rfl (by decide) fun H7 e7 => q_take rfl rfl fun H8 e8 => ?_
      have e := (((((e02.trans e3).trans e4).trans e5).trans e6).trans e7).trans e8
      exact s_callR (x := ⟨_, _, _⟩) rfl rfl (dk.ok.mono e) (dr.mono e) (mo e rr) ask' (liftK e (fin (by decide)))
    | move _ x0 _ hl hb =>
      refine q_skip rfl (by decide) fun H3 e3 => q_skip rfl (by decide) fun H4 e4 => q_skip rfl (by decide) fun H5 e5 => q_skip rfl (by decide) fun H6 e6 => q_skip rfl (by decide) fun H7 e7 => q_skip rfl (by decide) fun H8 e8 => ?_
      have e := (((((e02.trans e3).trans e4).trans e5).trans e6).trans e7).trans e8
      exact s_callNGR (x := ⟨_, _, _⟩) rfl rfl rfl rfl (dk.ok.mono e) (dr.mono e) (mo e rg) (mo e rr) ⟨ask', .inl rfl⟩ (liftK e (fin (by decide)))
    | place _ x0 _ hl hb =>
      refine q_skip rfl (by decide) fun H3 e3 => q_skip rfl (by decide) fun H4 e4 => q_skip rfl (by decide) fun H5 e5 => q_skip rfl (by decide) fun H6 e6 => q_skip rfl (by decide) fun H7 e7 => q_skip rfl (by decide) fun H8 e8 => ?_
      have e := (((((e02.trans e3).trans e4).trans e5).trans e6).trans e7).trans e8
      exact s_callNGR (x := ⟨_, _, _⟩) rfl rfl rfl rfl (dk.ok.mono e) (dr.mono e) (mo e rg) (mo e rr) ⟨ask', .inr (.inl rfl)⟩ (liftK e (fin (by decide)))
    | lights _ x0 _ hl hb =>
      refine q_skip rfl (by decide) fun H3 e3 => q_skip rfl (by decide) fun H4 e4 => q_skip rfl (by decide) fun H5 e5 => q_skip rfl (by decide) fun H6 e6 => q_skip rfl (by decide) fun H7 e7 => q_skip rfl (by decide) fun H8 e8 => ?_
      have e := (((((e02.trans e3).trans e4).trans e5).trans e6).trans e7).trans e8
      exact s_callNGR (x := ⟨_, _, _⟩) rfl rfl rfl rfl (dk.ok.mono e) (dr.mono e) (mo e rg) (mo e rr) ⟨ask', .inr (.inr rfl)⟩ (liftK e (fin (by decide)))
    | _ => exact absurd (by decide) b
theorem ok_answer (T : Tx K mg) (G_D_give : GM P w K mg base (He.ga K "Drawer") "give" 3 ["self"] (sp_D_give K)) (G_D_small : GM P w K mg base (He.ga K "Drawer") "small" 4 ["self"] (sp_D_small K)) (G_apart : GF P w K mg base "apart" 5 ["drawer", "other"] (sp_apart K)) (G_counted : GF P w K mg base "counted" 1 ["row"] sp_counted) (G_drawn : GF P w K mg base "drawn" 8 ["drawer", "number", "given", "row"] (sp_drawn K)) (G_get : GF P w K mg base "get" 3 ["drawer", "given"] (sp_get K)) (G_light : GF P w K mg base "light" 3 ["drawer", "row"] (sp_light K)) (G_matrix : GF P w K mg base "matrix" 3 ["drawer", "row"] (sp_matrix K)) (G_on_points : GF P w K mg base "on_points" 9 ["drawer", "number", "given", "row"] (sp_on_points K)) : GF P w K mg base "answer" 10 ["drawers", "number", "given", "row"] (sp_answer K) := by
  refine ⟨fn_keep (k := 9) (tt := (t_answer K)) T.d_answer sc_answer len_answer (fun _ _ _ _ _ _ us hl => match us, hl with | [_, _, _, _], _ => rfl) (fun cdv A outer s H E hr => ?_) (pure_answer T), T.d_answer.kp, T.g_answer⟩
  exact (pss_cons (ps_set (i := 4) sc_answer.nd rfl (.inl rfl) (pe_ix ix_list (pv 0) (pe_ix ix_list (pv 2) pe_int (fun _ _ => rfl)) (fun _ _ => rfl)))
    (pss_cons (ps_if (pt_cmpR op_lt (pv 1) pe_int (nomark _)) (pss_one (ps_ret (pe_gf G_drawn (hr.mono (by decide)) rfl (pa_cons (pv 4) (pa_cons (pv 1) (pa_cons (pv 2) (pa_cons (pv 3) pa_nil))))))) pss_nil)
    (pss_cons (ps_if (pt_cmpR op_eq (pv 1) pe_int (nomark _)) (pss_one (ps_ret (pe_gf G_get (hr.mono (by decide)) rfl (pa_cons (pv 4) (pa_cons (pv 2) pa_nil))))) pss_nil)
    (pss_cons (ps_if (pt_cmpR op_eq (pv 1) pe_int (nomark _)) (pss_one (ps_ret (pe_gf G_counted (hr.mono (by decide)) rfl (pa_cons (pe_gm0 (pv 4) T.cl G_D_small (hr.mono (by decide))) pa_nil)))) pss_nil)
    (pss_cons (ps_if (pt_cmpR op_eq (pv 1) pe_int (nomark _)) (pss_one (ps_ret (pe_gf G_counted (hr.mono (by decide)) rfl (pa_cons (pe_gm0 (pv 4) T.cl G_D_give (hr.mono (by decide))) pa_nil)))) pss_nil)
    (pss_cons (ps_if (pt_cmpR op_eq (pv 1) pe_int (nomark _)) (pss_one (ps_ret (pe_gf G_apart (hr.mono (by decide)) rfl (pa_cons (pv 4) (pa_cons (pe_ix ix_list (pv 0) (pe_ix ix_list (pv 2) pe_int (fun _ _ => rfl)) (fun _ _ => rfl)) pa_nil))))) pss_nil)
    (pss_cons (ps_if (pt_cmpR op_eq (pv 1) pe_int (nomark _)) (pss_one (ps_ret (pe_gf G_matrix (hr.mono (by decide)) rfl (pa_cons (pv 4) (pa_cons (pv 3) pa_nil))))) pss_nil)
    (pss_cons (ps_if (pt_cmpR op_eq (pv 1) pe_int (nomark _)) (pss_one (ps_ret (pe_gf G_light (hr.mono (by decide)) rfl (pa_cons (pv 4) (pa_cons (pv 3) pa_nil))))) pss_nil)
    (pss_one (ps_ret (pe_gf G_on_points (hr.mono (by decide)) rfl (pa_cons (pv 4) (pa_cons (pv 1) (pa_cons (pv 2) (pa_cons (pv 3) pa_nil)))))))))))))))
theorem ex_made {H : Hp} {x dx : Addr} {C : Addr} (hx : H x = none) (hdx : H dx = none) (ndx : dx ≠ x) : Ex H (upd (upd H dx (.own x)) x (.ins C dx [])) := (Ex.new hdx).trans (Ex.new (by rw [upd_ne ndx.symm]; exact hx))
theorem pure_opened (T : Tx K mg) (vs : List V) (H : Hp) (Q : VK) (E : XK) (h : sp_opened K vs H Q E) : t_opened K { nx := fun _ H' => Q .non H', rt := Q } (start ["drawers", "given"] vs) H := by
  obtain ⟨pd, vg, tg, v0, v1, S, kk, x0, x1, rfl, dk, rg, hk, k⟩ := h
  show t_opened K { nx := fun _ H' => Q .non H', rt := Q } [some (.ref pd), some vg] H
  have rg0 := rg.ril
  rw [step_open] at k
  refine q_when (b := !(sideB x0 && sideB x1)) (Evl.et_not (et_b (er_call2 (er_at 1 rfl rfl rg0 (by simp)) (er_at 2 rfl rfl rg0 (by simp)) trivial))) (fun b H1 e1 => ?_) fun b H1 e1 => ?_
  · rw [if_neg (by rw [not_false' b]; intro z; cases z)] at k
    exact s_one fun p H2 hp e2 h2 => k p tg v0 v1 H2 (fresh_back e1 hp) (StpG.ofEx (e1.trans e2)) (dk.mono (e1.trans e2)) h2
  · have b := not_true b
    rw [if_pos b] at k
    rw [Bool.and_eq_true, sideB_iff, sideB_iff] at b
    obtain ⟨⟨c1, c2, c3⟩, c4, c5, c6⟩ := b
    have rg1 := mo e1 rg0
    obtain ⟨d, hd⟩ : ∃ d : Nat, (d : Int) = kk := ⟨kk.toNat, by omega⟩
    refine er_at (K := K) (i := 1) 1 rfl rfl rg1 (by simp) H1 (Ex.refl _) _ fun u1 H2 e2 q1 => er_at (K := K) (i := 1) 2 rfl rfl rg1 (by simp) H2 e2 _ fun u2 H3 e3 q2 => fun x dx hx hdx ndx => ?_
    have q1 : u1 = .int x0 := q1
    have q2 : u2 = .int x1 := q2
    subst q1 q2
    have e03 : Ex H H3 := (e1.trans e2).trans e3
    have em := ex_made (C := dC K) hx hdx ndx
    have tk3 := dk.ok.mono e03
    refine ⟨x, dx, x0.toNat, x1.toNat, tg, d, ?_, upd_same, tk3.mono em, ⟨by omega, by omega, by omega, by omega, by omega, by omega⟩, fun tg' D H4 sx tk4 dr4 => ⟨rfl, ?_⟩⟩
    · show [V.ref x, .int x0, .int x1] = [.ref x, .int ((x0.toNat : Nat) : Int), .int ((x1.toNat : Nat) : Int)]
      rw [show ((x0.toNat : Nat) : Int) = x0 by omega, show ((x1.toNat : Nat) : Int) = x1 by omega]
    have ne : ∀ {b o}, H3 b = some o → b ≠ x := fun h z => by rw [z, hx] at h; cases h
    have e34 : Ex H3 H4 := fun b o h => sx.fr b o (ne h) (em b o h)
    have e04 : Ex H H4 := e03.trans e34
    have s4 : Stp 7 tg H tg' H4 := ⟨fun b o h _ => e04 b o h, fun b o h => sx.tk b o (ne (e03 b o h)) (em b o (e03 b o h)), fun b o h => ⟨o, e04 b o h⟩⟩
    have dk4 := dk.other s4 tk4 (by omega)
    have g4 : StpG tg H tg' H4 := ⟨fun b o h _ => e04 b o h, s4.tk, s4.al⟩
    have rg4 := mo e04 rg0
    refine ⟨.ref pd, rfl, er_at (K := K) (i := 1) 0 rfl rfl rg4 (by simp) H4 (Ex.refl _) _ fun u3 H5 e5 q3 => ?_⟩
    have q3 : u3 = .int kk := q3
    subst q3
    have dk5 := dk4.mono e5
    have dr5 := dr4.mono e5
    refine ⟨pd, [v0, v1], kk, d, rfl, rfl, dk5.ls, by rw [← hd]; exact ixN_nat (by show d < 2; omega), ?_⟩
    -- the list of drawers
    have s6 : Stp 2 tg' H5 tg' (upd H5 pd (.lst ([v0, v1].set d (.ref x)))) := stp_upd (Ex.refl H5) dk5.tl dk5.ls fun _ _ _ => rfl
    have tk6 : TagOk tg' (upd H5 pd (.lst ([v0, v1].set d (.ref x)))) := fun b y h => by
      by_cases hb : b = pd
      · rw [hb]
        exact .inl ⟨_, upd_same⟩
      · rw [upd_ne hb]
        exact dk5.ok b y h
    have g6 : StpG tg H tg' (upd H5 pd (.lst ([v0, v1].set d (.ref x)))) := g4.trans ((StpG.ofEx e5).trans (s6.g (by decide)))
    have dr6 := dr5.other s6 dk5.ok (by omega)
    have dk6 : ∃ v0' v1', Desk K tg' (upd H5 pd (.lst ([v0, v1].set d (.ref x)))) pd v0' v1' (Si20Neutral.put S kk (Si20.opened x0.toNat x1.toNat)) := by
      rcases hk with rfl | rfl
      · have : d = 0 := by omega
        subst this
        rw [put_0]
        exact ⟨.ref x, v1, tk6, upd_same, dk5.tl, ⟨x, D, rfl, dr6⟩, dk5.s1.other s6 dk5.ok (by decide)⟩
      · have : d = 1 := by omega
        subst this
        rw [put_1]
        exact ⟨v0, .ref x, tk6, upd_same, dk5.tl, dk5.s0.other s6 dk5.ok (by decide), ⟨x, D, rfl, dr6⟩⟩
    obtain ⟨v0', v1', dk6⟩ := dk6
    exact s_one (s := []) fun p H7 hp e7 h7 => k p tg' v0' v1' H7 (g6.back hp) (g6.trans (StpG.ofEx e7)) (dk6.mono e7) h7
theorem ok_opened (T : Tx K mg) (G_D_init : ∃ fd, FnOk P w K mg base CX0 3 (He.ma K (He.ga K "Drawer") "__init__") fd ["self", "wide", "high"] (sp_D_init K) ∧ Binds K fd ["self", "wide", "high"] []) (G_are_sides : GF P w K mg base "are_sides" 1 ["w", "h"] sp_are_sides) : GF P w K mg base "opened" 5 ["drawers", "given"] (sp_opened K) := by
  refine ⟨fn_keep (k := 4) (tt := (t_opened K)) T.d_opened sc_opened len_opened (fun _ _ _ _ _ _ us hl => match us, hl with | [_, _], _ => rfl) (fun cdv A outer s H E hr => ?_) (pure_opened T), T.d_opened.kp, T.g_opened⟩
  exact (pss_cons (ps_if (pt_not (pt_val (pe_gf G_are_sides (hr.mono (by decide)) rfl (pa_cons (pe_ix ix_list (pv 1) pe_int (fun _ _ => rfl)) (pa_cons (pe_ix ix_list (pv 1) pe_int (fun _ _ => rfl)) pa_nil))))) (pss_one (ps_ret (pe_lst (pa_cons (pe_gi rfl T.i_OUT) pa_nil)))) pss_nil)
    (pss_cons (ps_asg (pe_gk T.mkr G_D_init (hr.mono (by decide)) rfl T.g_Drawer (pa_cons (pe_ix ix_list (pv 1) pe_int (fun _ _ => rfl)) (pa_cons (pe_ix ix_list (pv 1) pe_int (fun _ _ => rfl)) pa_nil))) (pg_sub (pv 0) (pe_ix ix_list (pv 1) pe_int (fun _ _ => rfl)) set_list))
    (pss_one (ps_ret (pe_lst (pa_cons pe_int pa_nil))))))
end
end Sd
end

section
set_option Elab.async false
set_option linter.all false
set_option maxRecDepth 100000
set_option maxHeartbeats 400000
/-! ## 31. desk.py: the list of calls read -/
namespace Sd
open PySem PySem.Spec PyProof.Rows L2 Evl
open Si20 (Px)
open Si20Neutral (natsOf listOf)
local macro_rules | `(tactic| walk_at "ev") => `(tactic| first
  | with_reducible exact er_cI
  | focus ((with_reducible apply er_varI); with_unfolding_all rfl)
  | focus ((with_reducible apply er_var); all_goals first | with_unfolding_all rfl | assumption)
  | focus ((with_reducible apply er_op0); all_goals walk_at "ev")
  | focus ((with_reducible apply er_op); all_goals walk_at "ev")
  | focus ((with_reducible apply er_neg); all_goals walk_at "ev")
  | focus ((with_reducible apply er_max); all_goals walk_at "ev")
  | focus ((with_reducible apply er_min); all_goals walk_at "ev")
  | focus ((with_reducible apply er_abs); all_goals walk_at "ev")
  | focus ((with_reducible apply er_intB); all_goals walk_at "ev")
  | focus ((with_reducible apply er_bits); all_goals walk_at "ev")
  | focus ((with_reducible apply er_ixD); all_goals walk_at "ev")
  | focus ((with_reducible apply er_call1); all_goals walk_at "ev")
  | focus ((with_reducible apply er_call2); all_goals walk_at "ev")
  | focus ((with_reducible apply er_call3); all_goals walk_at "ev")
  | focus ((with_reducible apply er_call4); all_goals walk_at "ev")
  | focus ((with_reducible apply er_eq); all_goals walk_at "ev")
  | focus ((with_reducible apply er_ne); all_goals walk_at "ev")
  | focus ((with_reducible apply er_cmp); all_goals walk_at "ev")
  | focus ((with_reducible apply er_chain); all_goals walk_at "ev")
  | focus ((with_reducible apply er_andU); all_goals walk_at "ev")
  | focus ((with_reducible apply er_orU); all_goals walk_at "ev")
  | focus ((with_reducible apply et_t); all_goals walk_at "ev")
  | focus ((with_reducible apply et_b); all_goals walk_at "ev")
  | focus ((with_reducible apply et_andU); all_goals walk_at "ev")
  | focus ((with_reducible apply et_orU); all_goals walk_at "ev")
  | focus ((with_reducible apply Evl.et_not); all_goals walk_at "ev")
  | walk_at "side")
local macro_rules | `(tactic| walk_at "evr") => `(tactic| (refine er_is (by walk_at "ev") (by with_unfolding_all rfl)))
local macro_rules | `(tactic| walk_at "side") => `(tactic| first
  | assumption
  | exact True.intro
  | exact cdiv_ok (by decide) (by decide)
  | exact cmul_l (by omega) (by omega)
  | exact cmul_r (by omega) (by omega)
  | omega
  | decide
  | (dsimp only; done)
  | (dsimp only; first | assumption | omega | decide)
  | (constructor <;> assumption))
local macro_rules | `(tactic| walk_at "ev") => `(tactic| first
  | focus ((with_reducible apply er_s0); all_goals walk_at "ev")
  | focus ((with_reducible apply er_s1); all_goals walk_at "ev")
  | focus ((with_reducible apply er_s2); all_goals walk_at "ev")
  | focus ((with_reducible apply er_tupS); all_goals walk_at "ev")
  | focus ((with_reducible apply er_tupI2); all_goals walk_at "ev")
  | focus ((with_reducible apply er_divmod); all_goals walk_at "ev"))
local macro_rules | `(tactic| walk_at "side") => `(tactic| exact cshl_ok (by omega) (by omega))
local macro_rules | `(tactic| walk_at "ev") => `(tactic| first
  | focus ((with_reducible apply er_wide); all_goals walk_at "ev")
  | focus ((with_reducible apply er_high); all_goals walk_at "ev")
  | focus ((with_reducible apply er_meth1); all_goals walk_at "ev")
  | focus ((with_reducible apply er_meth2); all_goals walk_at "ev")
  | focus ((with_reducible apply er_meth3); all_goals walk_at "ev"))
local macro_rules | `(tactic| walk_at "side") => `(tactic| (focus (decide +kernel)))
/-- a list that was handed in: nobody changes it -/
def SqF (K : PySem.W.Frag) (H : Hp) (p : Addr) (xs : List V) : Prop := (∃ o, H p = some (.frz o (.lst xs))) ∨ SqL K (fun _ => none) p xs
def RC (K : PySem.W.Frag) : Rel (List Int) := fun H v l => ∃ p, v = .ref p ∧ SqF K H p (vI l)
section
variable {K : PySem.W.Frag} {H H' : Hp} {p : Addr} {xs : List V} {v : V} {l : List Int} {tg tg' : Tags} {s : L2.St} {ta tb tc te tl th : TE} {n : Int} {D : Ends} {tz : TS}
theorem SqF.sq (h : SqF K H p xs) : SqL K H p xs := by
  rcases h with ⟨o, h⟩ | h
  · exact .inl (.inr ⟨o, h⟩)
  · exact ex_l (fun _ _ z => by cases z) h
theorem SqF.of (hO : OnlyF H) (h : SqL K H p xs) : SqF K H p xs := by
  rcases h with (h | ⟨o, h⟩) | h
  · rcases hO p with z | ⟨o, u, z⟩
    · rw [h] at z
      cases z
    · rw [h] at z
      cases z
  · exact .inl ⟨o, h⟩
  · exact .inr (.inr h)
theorem SqF.mono (e : Ex H H') (h : SqF K H p xs) : SqF K H' p xs := by
  rcases h with ⟨o, h⟩ | h
  · exact .inl ⟨o, e _ _ h⟩
  · exact .inr h
instance : Mo (RC K) := ⟨fun e ⟨p, h1, h2⟩ => ⟨p, h1, h2.mono e⟩⟩
theorem SqF.un (t : TagOk tg H) {o : Obj} (h : H p = some (.frz o (.lst xs))) : tg p = none := by
  cases e : tg p with
  | none => rfl
  | some y =>
    rcases t p y e with ⟨ys, z⟩ | ⟨C, dx, fs, z⟩
    · rw [h] at z
      cases z
    · rw [h] at z
      cases z
theorem RC.stepG (x : StpG tg H tg' H') (t : TagOk tg H) (h : RC K H v l) : RC K H' v l := by
  obtain ⟨p, h1, ⟨o, h⟩ | h⟩ := h
  · exact ⟨p, h1, .inl ⟨o, x.fr _ _ h fun d j z => by rw [SqF.un t h] at z; cases z⟩⟩
  · exact ⟨p, h1, .inr h⟩
theorem RC.step {d : Nat} (x : Stp d tg H tg' H') (t : TagOk tg H) (h : RC K H v l) : RC K H' v l := by
  obtain ⟨p, h1, ⟨o, h⟩ | h⟩ := h
  · exact ⟨p, h1, .inl ⟨o, x.fr _ _ h fun j z => by rw [SqF.un t h] at z; cases z⟩⟩
  · exact ⟨p, h1, .inr h⟩
theorem er_lenC (ha : EvR (RC K) ta s H l) : EvR RI (tCB (rLenS K) (tCons ta tNil)) s H (l.length : Int) := fun H1 e Q q =>
  ha H1 e _ fun w H2 e2 ⟨p, r1, r2⟩ => ⟨p, _, by rw [r1], .inl r2.sq, by rw [List.length_map]; exact q _ H2 e2 rfl⟩
theorem er_ixC {j : Nat} {z : Int} (ha : EvR (RC K) ta s H l) (hb : EvR RI tb s H n) (hj : n = (j : Int)) (h : l[j]? = some z) : EvR RI (tOp (rIxL K) ta tb) s H z := fun H1 e Q q =>
  ha H1 e _ fun w H2 e2 ⟨p, r1, r2⟩ => hb H2 (e.trans e2) _ fun u H3 e3 r4 => ⟨p, _, n, .int z, r1, r4, (r2.mono e3).sq, by rw [hj]; exact atI_nat (by rw [List.getElem?_map, h]; rfl), q _ H3 (e2.trans e3) rfl⟩
theorem el_cutC {i k : Nat} (h : EvR (RC K) te s H l) (h1 : EvR RI tl s H ((i : Nat) : Int)) (h2 : EvR RI th s H ((i + k : Nat) : Int)) : EvL (tSl (rSlL K) te (tPart tl) (tPart th)) s H (vI ((l.drop i).take k)) := fun H1 e Q q =>
  h H1 e _ fun v H2 e2 ⟨p, r1, r2⟩ => h1 H2 (e.trans e2) _ fun v1 H3 e3 q1 => ⟨_, q1, h2 H3 ((e.trans e2).trans e3) _ fun v2 H4 e4 q2 => ⟨_, q2, p, _, r1, (r2.mono (e3.trans e4)).sq, fun d hd => by
    rw [cutV_nat]
    refine q d _ (fresh_back ((e2.trans e3).trans e4) hd) (((e2.trans e3).trans e4).trans (Ex.new hd)) ?_
    show _ = some (HO.lst (((l.drop i).take k).map V.int))
    rw [upd_same, List.map_take, List.map_drop]⟩⟩
/-- found.append(n) -/
theorem q_appI {i : Nat} {acc : List Int} (hf : s[i]? = some (some (.ref p))) (hp : H p = some (.lst (vI acc))) (hz : acc.length < 16777216) (he : EvR RI te s H n) (k : ∀ H1, Ex H H1 → tz D s (upd H1 p (.lst (vI (acc ++ [n]))))) : tSeq (tDrop (tBM K "list" rAppend (tVar i) (tCons te tNil))) tz D s H :=
  ⟨.ref p, hf, Or.inl ⟨rfl, _, sq_of hp⟩, he H (Ex.refl _) _ fun w H2 e2 r => ⟨p, _, w, rfl, rfl, e2 _ _ hp, by rw [List.length_map, sizeLine_eq]; exact hz, by
    have r : w = .int n := r
    rw [r]
    have := k H2 e2
    rw [vI, List.map_append] at this
    exact this⟩⟩
theorem q_extI {i : Nat} {acc zs : List Int} (hf : s[i]? = some (some (.ref p))) (hp : H p = some (.lst (vI acc))) (hz : acc.length + zs.length ≤ 16777216) (he : EvR RIL te s H zs) (k : ∀ H1, Ex H H1 → tz D s (upd H1 p (.lst (vI (acc ++ zs))))) : tSeq (tDrop (tBM K "list" rExtend (tVar i) (tCons te tNil))) tz D s H :=
  ⟨.ref p, hf, Or.inl ⟨rfl, _, sq_of hp⟩, he H (Ex.refl _) _ fun w H2 e2 ⟨q, r1, r2⟩ => ⟨p, q, _, _, rfl, by rw [r1], e2 _ _ hp, r2, by rw [List.length_map, List.length_map, sizeLine_eq]; exact hz, by
    have := k H2 e2
    rw [vI, List.map_append] at this
    exact this⟩⟩
theorem tagok_upd (t : TagOk tg H) : TagOk tg (upd H p (.lst xs)) := fun b y h => by
  by_cases hb : b = p
  · rw [hb]
    exact .inl ⟨_, upd_same⟩
  · rw [upd_ne hb]
    exact t b y h
end
theorem drop_at {l : List Int} {i : Nat} {x : Int} {r : List Int} (h : l.drop i = x :: r) : l[i]? = some x ∧ l.drop (i + 1) = r := by
  constructor
  · have : (l.drop i)[0]? = some x := by rw [h]; rfl
    rw [List.getElem?_drop] at this
    exact this
  · rw [← List.drop_drop, h]
    rfl
theorem drop_app {l : List Int} {i : Nat} {x r : List Int} (h : l.drop i = x ++ r) : (l.drop i).take x.length = x ∧ l.drop (i + x.length) = r := by
  constructor
  · rw [h, List.take_left']
    rfl
  · rw [← List.drop_drop, h, List.drop_left']
    rfl
def sp_row_at (K : PySem.W.Frag) : Sp := fun vs H Q _ => ∃ v l at_ r t, vs = [v, .int ((at_ : Nat) : Int)] ∧ RC K H v l ∧ l.drop at_ = (1 : Int) :: ((r : List Int).length : Int) :: (r ++ t) ∧ ∀ p pr H', Ex H H' → H pr = none → H' pr = some (.lst (vI r)) → SqT K H' p [.ref pr, .int ((at_ + 2 + r.length : Nat) : Int)] → Q (.ref p) H'
/-- row_at: 0 calls, 1 at, 2 row, 3 end, 4 k, 5 begin -/
def t_row_at (K : PySem.W.Frag) : TS :=
  (tSeq (tAsg (tLst tNil) (gName 2))
    (tSeq (tAsg (tOp rAddI (tVar 1) (tC (.int 1))) (gName 3))
    (tSeq (tFor (iRng1 (tCons (tOp (rIxL K) (tVar 0) (tVar 1)) tNil)) (gName 4) (tSeq (tAsg (tOp rAddI (tVar 3) (tC (.int 1))) (gName 5))
    (tSeq (tAsg (tOp rAddI (tVar 5) (tOp (rIxL K) (tVar 0) (tVar 3))) (gName 3))
    (tIfS (tTest (tOp rEq (tVar 4) (tC (.int 0)))) (tAsg (tSl (rSlL K) (tVar 0) (tPart (tVar 5)) (tPart (tVar 3))) (gName 2)) tNext))))
    (tRet (tTup (tCons (tVar 2) (tCons (tVar 3) tNil)))))))
section
variable {P : Program} {w : World} {K : PySem.W.Frag} {mg : Str → Option Value} {base : Heap}
theorem len_row_at : ∀ vs H Q E, sp_row_at K vs H Q E → vs.length = 2 := by
  rintro vs H Q E ⟨_, _, _, _, _, rfl, _⟩
  rfl
theorem pure_row_at (T : Tx K mg) (vs : List V) (H : Hp) (Q : VK) (E : XK) (h : sp_row_at K vs H Q E) : t_row_at K { nx := fun _ H' => Q .non H', rt := Q } (start ["calls", "at", "row", "end", "k", "begin"] vs) H := by
  obtain ⟨v, l, at_, r, t, rfl, rc, hl, k⟩ := h
  show t_row_at K { nx := fun _ H' => Q .non H', rt := Q } [some v, some (.int (at_ : Int)), none, none, none, none] H
  obtain ⟨g0, hl1⟩ := drop_at hl
  obtain ⟨g1, hl2⟩ := drop_at hl1
  obtain ⟨g2, hl3⟩ := drop_app hl2
  refine ⟨by rw [sizeLine_eq]; simp, fun p0 hp0 => ?_⟩
  have e0 : Ex H (upd H p0 (.lst [])) := Ex.new hp0
  show tSeq _ _ _ [some v, some (.int (at_ : Int)), some (.ref p0), none, none, none] (upd H p0 (.lst []))
  refine qr_asgI (n := ((at_ + 1 : Nat) : Int)) (er_is (er_op0 (er_varI rfl) er_cI) (by omega)) fun H1 e1 => ?_
  have e01 := e0.trans e1
  show tSeq _ _ _ [some v, some (.int (at_ : Int)), some (.ref p0), some (.int ((at_ + 1 : Nat) : Int)), none, none] H1
  have rc1 := mo e01 rc
  refine s_forR1 (D := { nx := _, rt := _, ct := _, bk := _ }) (n := 1) (ea_1 (er_ixC (er_var rfl rc1) (er_varI rfl) rfl g0)) (by decide) (fun i σ H' => Ex H H' ∧ (i = 0 → σ = [some v, some (.int (at_ : Int)), some (.ref p0), some (.int ((at_ + 1 : Nat) : Int)), none, none]) ∧ (i = 1 → ∃ pr o4 o5, σ = [some v, some (.int (at_ : Int)), some (.ref pr), some (.int ((at_ + 2 + r.length : Nat) : Int)), o4, o5] ∧ H pr = none ∧ H' pr = some (.lst (vI r)))) (fun H2 e2 => ⟨e01.trans e2, fun _ => rfl, by omega⟩) ?_ ?_
  · rintro i σ H2 hi ⟨e2, h0, -⟩
    have hi : i = 0 := by omega
    subst hi
    rw [h0 rfl]
    show tSeq _ _ _ [some v, some (.int (at_ : Int)), some (.ref p0), some (.int ((at_ + 1 : Nat) : Int)), some (.int ((0 : Nat) : Int)), none] H2
    refine qr_asgI (n := ((at_ + 2 : Nat) : Int)) (er_is (er_op0 (er_varI rfl) er_cI) (by omega)) fun H3 e3 => ?_
    have e03 := e2.trans e3
    have rc3 := mo e03 rc
    show tSeq _ _ _ [some v, some (.int (at_ : Int)), some (.ref p0), some (.int ((at_ + 1 : Nat) : Int)), some (.int ((0 : Nat) : Int)), some (.int ((at_ + 2 : Nat) : Int))] H3
    refine qr_asgI (n := ((at_ + 2 + r.length : Nat) : Int)) (er_is (er_op0 (er_varI rfl) (er_ixC (er_var rfl rc3) (er_varI rfl) rfl g1)) (by omega)) fun H4 e4 => ?_
    have e04 := e03.trans e4
    have rc4 := mo e04 rc
    show tIfS _ _ _ _ [some v, some (.int (at_ : Int)), some (.ref p0), some (.int ((at_ + 2 + r.length : Nat) : Int)), some (.int ((0 : Nat) : Int)), some (.int ((at_ + 2 : Nat) : Int))] H4
    refine s_if (b := decide (((0 : Nat) : Int) = 0)) (et_t (er_eq (er_varI rfl) er_cI)) (fun b H5 e5 => ?_) fun b => by cases b
    have rc5 := mo e5 rc4
    have ev : EvL (tSl (rSlL K) (tVar 0) (tPart (tVar 5)) (tPart (tVar 3))) [some v, some (.int (at_ : Int)), some (.ref p0), some (.int ((at_ + 2 + r.length : Nat) : Int)), some (.int ((0 : Nat) : Int)), some (.int ((at_ + 2 : Nat) : Int))] H5 (vI ((l.drop (at_ + 2)).take r.length)) := el_cutC (er_var rfl rc5) (er_varI rfl) (er_varI rfl)
    refine ev H5 (Ex.refl _) _ fun pr H6 hpr e6 h6 => ⟨(e04.trans e5).trans e6, by omega, fun _ => ⟨pr, _, _, rfl, fresh_back (e04.trans e5) hpr, ?_⟩⟩
    rw [h6, g2]
  · rintro σ H2 ⟨e2, -, h1⟩
    obtain ⟨pr, o4, o5, rfl, hpr, h2⟩ := h1 rfl
    refine ⟨_, rfl, _, rfl, by rw [sizeLine_eq]; simp, fun b hb => k b pr _ (e2.trans (Ex.new hb)) hpr ?_ (st_of upd_same)⟩
    exact Ex.new hb _ _ h2
theorem ok_row_at (T : Tx K mg)  : GF P w K mg base "row_at" 1 ["calls", "at"] (sp_row_at K) := by
  refine ⟨fn_keep (k := 0) (tt := (t_row_at K)) T.d_row_at sc_row_at len_row_at (fun _ _ _ _ _ _ us hl => match us, hl with | [_, _], _ => rfl) (fun cdv A outer s H E hr => ?_) (pure_row_at T), T.d_row_at.kp, T.g_row_at⟩
  exact (pss_cons (ps_set (i := 2) sc_row_at.nd rfl (.inl rfl) (pe_lst pa_nil))
    (pss_cons (ps_set (i := 3) sc_row_at.nd rfl (.inl rfl) (pe_op op_add (pv 1) pe_int))
    (pss_cons (ps_for PassesOwn.never rfl (pi_range1 rfl T.f_range (pa_cons (pe_ix ix_list (pv 0) (pv 1) (fun _ _ => rfl)) pa_nil)) (pg_name (i := 4) sc_row_at.nd rfl (.inl rfl)) (pss_cons (ps_set (i := 5) sc_row_at.nd rfl (.inl rfl) (pe_op op_add (pv 3) pe_int))
    (pss_cons (ps_set (i := 3) sc_row_at.nd rfl (.inl rfl) (pe_op op_add (pv 5) (pe_ix ix_list (pv 0) (pv 3) (fun _ _ => rfl))))
    (pss_one (ps_if (pt_cmpR op_eq (pv 4) pe_int (nomark _)) (pss_one (ps_set (i := 2) sc_row_at.nd rfl (.inl rfl) (pe_slice sl_list (pv 0) (po_some (pv 5)) (po_some (pv 3))))) pss_nil)))))
    (pss_one (ps_ret (pe_tup (pa_cons (pv 2) (pa_cons (pv 3) pa_nil))))))))
end
end Sd
end

section
set_option Elab.async false
set_option linter.all false
set_option maxRecDepth 100000
set_option maxHeartbeats 400000
/-! ## 32. desk.py: all calls -/
namespace Sd
open PySem PySem.Spec PyProof.Rows L2 Evl
open Si20 (Px)
open Si20Neutral (natsOf listOf)
local macro_rules | `(tactic| walk_at "ev") => `(tactic| first
  | with_reducible exact er_cI
  | focus ((with_reducible apply er_varI); with_unfolding_all rfl)
  | focus ((with_reducible apply er_var); all_goals first | with_unfolding_all rfl | assumption)
  | focus ((with_reducible apply er_op0); all_goals walk_at "ev")
  | focus ((with_reducible apply er_op); all_goals walk_at "ev")
  | focus ((with_reducible apply er_neg); all_goals walk_at "ev")
  | focus ((with_reducible apply er_max); all_goals walk_at "ev")
  | focus ((with_reducible apply er_min); all_goals walk_at "ev")
  | focus ((with_reducible apply er_abs); all_goals walk_at "ev")
  | focus ((with_reducible apply er_intB); all_goals walk_at "ev")
  | focus ((with_reducible apply er_bits); all_goals walk_at "ev")
  | focus ((with_reducible apply er_ixD); all_goals walk_at "ev")
  | focus ((with_reducible apply er_call1); all_goals walk_at "ev")
  | focus ((with_reducible apply er_call2); all_goals walk_at "ev")
  | focus ((with_reducible apply er_call3); all_goals walk_at "ev")
  | focus ((with_reducible apply er_call4); all_goals walk_at "ev")
  | focus ((with_reducible apply er_eq); all_goals walk_at "ev")
  | focus ((with_reducible apply er_ne); all_goals walk_at "ev")
  | focus ((with_reducible apply er_cmp); all_goals walk_at "ev")
  | focus ((with_reducible apply er_chain); all_goals walk_at "ev")
  | focus ((with_reducible apply er_andU); all_goals walk_at "ev")
  | focus ((with_reducible apply er_orU); all_goals walk_at "ev")
  | focus ((with_reducible apply et_t); all_goals walk_at "ev")
  | focus ((with_reducible apply et_b); all_goals walk_at "ev")
  | focus ((with_reducible apply et_andU); all_goals walk_at "ev")
  | focus ((with_reducible apply et_orU); all_goals walk_at "ev")
  | focus ((with_reducible apply Evl.et_not); all_goals walk_at "ev")
  | walk_at "side")
local macro_rules | `(tactic| walk_at "evr") => `(tactic| (refine er_is (by walk_at "ev") (by with_unfolding_all rfl)))
local macro_rules | `(tactic| walk_at "side") => `(tactic| first
  | assumption
  | exact True.intro
  | exact cdiv_ok (by decide) (by decide)
  | exact cmul_l (by omega) (by omega)
  | exact cmul_r (by omega) (by omega)
  | omega
  | decide
  | (dsimp only; done)
  | (dsimp only; first | assumption | omega | decide)
  | (constructor <;> assumption))
local macro_rules | `(tactic| walk_at "ev") => `(tactic| first
  | focus ((with_reducible apply er_s0); all_goals walk_at "ev")
  | focus ((with_reducible apply er_s1); all_goals walk_at "ev")
  | focus ((with_reducible apply er_s2); all_goals walk_at "ev")
  | focus ((with_reducible apply er_tupS); all_goals walk_at "ev")
  | focus ((with_reducible apply er_tupI2); all_goals walk_at "ev")
  | focus ((with_reducible apply er_divmod); all_goals walk_at "ev"))
local macro_rules | `(tactic| walk_at "side") => `(tactic| exact cshl_ok (by omega) (by omega))
local macro_rules | `(tactic| walk_at "ev") => `(tactic| first
  | focus ((with_reducible apply er_wide); all_goals walk_at "ev")
  | focus ((with_reducible apply er_high); all_goals walk_at "ev")
  | focus ((with_reducible apply er_meth1); all_goals walk_at "ev")
  | focus ((with_reducible apply er_meth2); all_goals walk_at "ev")
  | focus ((with_reducible apply er_meth3); all_goals walk_at "ev"))
local macro_rules | `(tactic| walk_at "side") => `(tactic| (focus (decide +kernel)))
def sp_answers (K : PySem.W.Frag) : Sp := fun vs H Q _ => ∃ v l, vs = [v] ∧ RC K H v l ∧ PySi20.answers_asked l = true ∧ ∀ p H', H' p = some (.lst (vI (PySi20.answers l))) → Q (.ref p) H'
/-- between two calls; m: how many are left -/
def Lp (K : PySem.W.Frag) (v : V) (l : List Int) (m : Nat) (σ : L2.St) (H : Hp) : Prop := ∃ pd pf pos tg v0 v1 S acc f cs o4 o5 o6 o7 o8 o9, σ = [some v, some (.ref pd), some (.ref pf), some (.int ((pos : Nat) : Int)), o4, o5, o6, o7, o8, o9] ∧ RC K H v l ∧ Desk K tg H pd v0 v1 S ∧ tg pf = some (3, 0) ∧ H pf = some (.lst (vI acc)) ∧ PyWide.calls f (l.drop pos) = some cs ∧ cs.all Si20Neutral.asked1 = true ∧ Si20Neutral.opened S cs = true ∧ acc ++ PyFlat.told (PyFlat.played Si20Neutral.step S cs) = PySi20.answers l ∧ cs.length = m
/-- answers: 0 calls, 1 drawers, 2 found, 3 at, 4 number, 5 behind, 6 given, 7 row, 8 end, 9 one -/
def t_answers (K : PySem.W.Frag) : TS :=
  (tSeq (tAsg (tOp rRep (tLst (tCons (tC .non) tNil)) (tC (.int (2)))) (gName 1))
    (tSeq (tAsg (tLst tNil) (gName 2))
    (tSeq (tAsg (tC (.int 0)) (gName 3))
    (tSeq (tWhile (tTest (tOp rLtI (tVar 3) (tCB (rLenS K) (tCons (tVar 0) tNil)))) (tSeq (tAsg (tOp (rIxL K) (tVar 0) (tVar 3)) (gName 4))
    (tSeq (tAsg (tOp rAddI (tOp rAddI (tVar 3) (tC (.int 2))) (tOp (rIxL K) (tVar 0) (tOp rAddI (tVar 3) (tC (.int 1))))) (gName 5))
    (tSeq (tAsg (tSl (rSlL K) (tVar 0) (tPart (tOp rAddI (tVar 3) (tC (.int 2)))) (tPart (tVar 5))) (gName 6))
    (tSeq (tAsg (tCall (sp_row_at K) [] E0 (tCons (tVar 0) (tCons (tVar 5) tNil))) (gTup K 2 (gCons (gName 7) (gCons (gName 8) gNil))))
    (tSeq (tIfS (tTest (tOp rEq (tVar 4) (tC (.int (0))))) (tAsg (tCall (sp_opened K) [] E0 (tCons (tVar 1) (tCons (tVar 6) tNil))) (gName 9)) (tAsg (tCall (sp_answer K) [] E0 (tCons (tVar 1) (tCons (tVar 4) (tCons (tVar 6) (tCons (tVar 7) tNil))))) (gName 9)))
    (tSeq (tDrop (tBM K "list" rAppend (tVar 2) (tCons (tCB (rLenS K) (tCons (tVar 9) tNil)) tNil)))
    (tSeq (tDrop (tBM K "list" rExtend (tVar 2) (tCons (tVar 9) tNil)))
    (tAsg (tVar 8) (gName 3))))))))))
    (tRet (tVar 2))))))
theorem ask_pos {n : Int} {g r : List Int} {q : Si20.Call} (h : Ask n g r q) : 1 ≤ n := by
  cases h <;> decide
theorem opened_ask {S : Si20Neutral.S} {n k : Int} {t r : List Int} {q : Si20.Call} {ds : List (List (List Int))} (h : Si20Neutral.opened S ([n :: k :: t, r] :: ds) = true) (a : Ask n (k :: t) r q) : (∃ st, Si20Neutral.get S k = some st) ∧ (n = 12 → ∃ st2, Si20Neutral.get S (t.getD 0 0) = some st2) := by
  unfold Si20Neutral.opened at h
  rw [Bool.and_eq_true, Bool.or_eq_true] at h
  have hn := ask_pos a
  have h0 : ¬ ((Si20Neutral.place [n :: k :: t, r] == 0) = true) := by
    rw [beq_iff_eq]
    show ¬ n.toNat = 0
    omega
  have h1 := h.1.resolve_left h0
  rw [Bool.and_eq_true, Bool.or_eq_true] at h1
  refine ⟨Option.isSome_iff_exists.mp h1.1, fun hn => ?_⟩
  have h2 : ¬ ((Si20Neutral.place [n :: k :: t, r] != 12) = true) := by
    rw [bne_iff_ne]
    show ¬ (n.toNat ≠ 12)
    omega
  exact Option.isSome_iff_exists.mp (h1.2.resolve_left h2)
theorem opened_next {S : Si20Neutral.S} {c : List (List Int)} {ds : List (List (List Int))} (h : Si20Neutral.opened S (c :: ds) = true) : Si20Neutral.opened (Si20Neutral.step S c).1 ds = true := by
  unfold Si20Neutral.opened at h
  rw [Bool.and_eq_true] at h
  exact h.2
theorem asked_calls {l : List Int} (h : PySi20.answers_asked l = true) : ∃ cs, PyWide.calls l.length l = some cs ∧ cs.all Si20Neutral.asked1 = true ∧ Si20Neutral.opened Si20Neutral.start cs = true ∧ PyFlat.told (PyFlat.played Si20Neutral.step Si20Neutral.start cs) = PySi20.answers l ∧ (PySi20.answers l).length ≤ 10000000 := by
  unfold PySi20.answers_asked at h
  cases e : PySi20.calls l with
  | none =>
    rw [e] at h
    cases h
  | some cs =>
    rw [e] at h
    simp only at h
    rw [Bool.and_eq_true, Bool.and_eq_true] at h
    obtain ⟨⟨-, h1⟩, h2⟩ := h
    unfold Si20Neutral.asked at h1
    rw [Bool.and_eq_true, Bool.and_eq_true] at h1
    refine ⟨cs, e, h1.1.2, h1.2, ?_, of_decide_eq_true h2⟩
    unfold PySi20.answers
    rw [e]
section
variable {P : Program} {w : World} {K : PySem.W.Frag} {mg : Str → Option Value} {base : Heap}
theorem len_answers : ∀ vs H Q E, sp_answers K vs H Q E → vs.length = 1 := by
  rintro vs H Q E ⟨_, _, rfl, _⟩
  rfl
theorem pure_answers (T : Tx K mg) (vs : List V) (H : Hp) (Q : VK) (E : XK) (h : sp_answers K vs H Q E) : t_answers K { nx := fun _ H' => Q .non H', rt := Q } (start ["calls", "drawers", "found", "at", "number", "behind", "given", "row", "end", "one"] vs) H := by
  obtain ⟨v, l, rfl, rc, hask, k⟩ := h
  obtain ⟨cs, hcs, hall, hop, htold, hlen⟩ := asked_calls hask
  show t_answers K { nx := fun _ H' => Q .non H', rt := Q } [some v, none, none, none, none, none, none, none, none, none] H
  -- the drawers, what is found, the place
  have ev1 : EvL (tOp rRep (tLst (tCons (tC .non) tNil)) (tC (.int (2)))) [some v, none, none, none, none, none, none, none, none, none] H (List.replicate (2 : Int).toNat .non) :=
    el_rep (elv (el_lstI (xs := [.non]) (ers_cons (R := RV) (x := .non) (er_c rfl) ers_nil) (by rintro H' vs ⟨v, r, rfl, r1, rfl⟩; rw [r1]) (by simp))) er_cI (by omega) (by omega)
  refine q_asgL ev1 fun pd H1 hpd e1 h1 => ?_
  refine ⟨by rw [sizeLine_eq]; simp, fun pf hpf => ?_⟩
  have e2 : Ex H1 (upd H1 pf (.lst [])) := Ex.new hpf
  generalize hH2 : upd H1 pf (.lst []) = H2 at e2
  have h2f : H2 pf = some (.lst (vI [])) := by rw [← hH2]; exact upd_same
  have h2d : H2 pd = some (.lst [.non, .non]) := e2 _ _ h1
  show tSeq _ _ _ [some v, some (.ref pd), some (.ref pf), none, none, none, none, none, none, none] H2
  refine qr_asgI (n := ((0 : Nat) : Int)) er_cI fun H3 e3 => ?_
  show tSeq _ _ _ [some v, some (.ref pd), some (.ref pf), some (.int ((0 : Nat) : Int)), none, none, none, none, none, none] H3
  have npf : pf ≠ pd := fun z => by rw [z, h1] at hpf; cases hpf
  let tg0 : Tags := fun b => if b = pd then some (2, 0) else if b = pf then some (3, 0) else none
  have tk0 : TagOk tg0 H3 := fun b y h => by
    have h : (if b = pd then some (2, 0) else if b = pf then some (3, 0) else none) = some y := h
    by_cases hb : b = pd
    · rw [hb]
      exact .inl ⟨_, e3 _ _ h2d⟩
    · rw [if_neg hb] at h
      by_cases hb2 : b = pf
      · rw [hb2]
        exact .inl ⟨_, e3 _ _ h2f⟩
      · rw [if_neg hb2] at h
        cases h
  have start0 : Lp K v l cs.length [some v, some (.ref pd), some (.ref pf), some (.int ((0 : Nat) : Int)), none, none, none, none, none, none] H3 :=
    ⟨pd, pf, 0, tg0, .non, .non, Si20Neutral.start, [], l.length, cs, none, none, none, none, none, none, rfl, mo ((e1.trans e2).trans e3) rc, ⟨tk0, e3 _ _ h2d, if_pos rfl, rfl, rfl⟩, (if_neg npf).trans (if_pos rfl), e3 _ _ h2f, hcs, hall, hop, htold, rfl⟩
  -- the calls
  refine ⟨Lp K v l, ⟨_, start0⟩, ?_⟩
  rintro m σ H4 ⟨pd, pf, pos, tg, v0, v1, S, acc, f, cs, o4, o5, o6, o7, o8, o9, rfl, rc4, dk4, tpf, hf4, hcs, hall, hop, htold, rfl⟩
  have ev : EvT (tTest (tOp rLtI (tVar 3) (tCB (rLenS K) (tCons (tVar 0) tNil)))) [some v, some (.ref pd), some (.ref pf), some (.int ((pos : Nat) : Int)), o4, o5, o6, o7, o8, o9] H4 (decide ((pos : Int) < (l.length : Int))) := et_t (er_cmp (er_varI rfl) (er_lenC (er_var rfl rc4)))
  refine ev H4 (Ex.refl _) _ fun H5 e5 => ?_
  cases hd : l.drop pos with
  | nil =>
    have hle : l.length ≤ pos := List.drop_eq_nil_iff.mp hd
    rw [decide_eq_false (by omega)]
    rw [hd] at hcs
    have := calls_nil hcs
    subst this
    have htold : acc ++ [] = PySi20.answers l := htold
    rw [List.append_nil] at htold
    refine ⟨.ref pf, rfl, k pf H5 ?_⟩
    rw [← htold]
    exact e5 _ _ hf4
  | cons p rest =>
    have hlt : pos < l.length := by
      by_cases z : pos < l.length
      · exact z
      · rw [List.drop_of_length_le (by omega)] at hd
        cases hd
    rw [decide_eq_true (by omega)]
    rw [hd] at hcs
    obtain ⟨f', c, t', ds, hc1, hc2, rfl⟩ := calls_cons hcs
    rw [List.all_cons, Bool.and_eq_true] at hall
    obtain ⟨n, kk, t, r, rfl, hk, hcase⟩ := asked1_of hall.1
    have hl := call_one hc1
    rw [← hd] at hl
    obtain ⟨g0, hl1⟩ := drop_at hl
    obtain ⟨g1, hl2⟩ := drop_at hl1
    obtain ⟨g2, hl3⟩ := drop_app hl2
    have hl5 : l.drop (pos + 1 + 1 + (kk :: t).length + 2 + r.length) = t' := by
      obtain ⟨-, z1⟩ := drop_at hl3
      obtain ⟨-, z2⟩ := drop_at z1
      exact (drop_app z2).2
    -- what is due behind this call
    have htold : acc ++ (((Si20Neutral.step S [n :: kk :: t, r]).2.length : Int) :: (Si20Neutral.step S [n :: kk :: t, r]).2 ++ PyFlat.told (PyFlat.played Si20Neutral.step (Si20Neutral.step S [n :: kk :: t, r]).1 ds)) = PySi20.answers l := htold
    have hop2 := opened_next hop
    generalize hone : (Si20Neutral.step S [n :: kk :: t, r]).2 = one at htold
    generalize hS' : (Si20Neutral.step S [n :: kk :: t, r]).1 = S' at htold hop2
    have hlen2 : acc.length + 1 + one.length ≤ 10000000 := by
      have := congrArg List.length htold
      rw [List.length_append, List.length_append, List.length_cons] at this
      omega
    have e45 := e5
    have rc5 := mo e5 rc4
    refine ⟨fun σ' H' => ∃ m', m' < ([n :: kk :: t, r] :: ds).length ∧ Lp K v l m' σ' H', fun _ _ h => h, ?_⟩
    -- number, behind, given
    refine qr_asgI (n := n) (er_ixC (er_var rfl rc5) (er_varI rfl) rfl g0) fun H6 e6 => ?_
    have rc6 := mo e6 rc5
    refine qr_asgI (n := ((pos + 2 + (kk :: t).length : Nat) : Int)) (er_is (er_op0 (er_op0 (er_varI rfl) er_cI) (er_ixC (er_var rfl rc6) (er_is (er_op0 (er_varI rfl) er_cI) rfl) (by omega) g1)) (by omega)) fun H7 e7 => ?_
    have rc7 := mo e7 rc6
    show tSeq _ _ _ [some v, some (.ref pd), some (.ref pf), some (.int ((pos : Nat) : Int)), some (.int n), some (.int ((pos + 2 + (kk :: t).length : Nat) : Int)), o6, o7, o8, o9] H7
    have evg : EvL (tSl (rSlL K) (tVar 0) (tPart (tOp rAddI (tVar 3) (tC (.int 2)))) (tPart (tVar 5))) [some v, some (.ref pd), some (.ref pf), some (.int ((pos : Nat) : Int)), some (.int n), some (.int ((pos + 2 + (kk :: t).length : Nat) : Int)), o6, o7, o8, o9] H7 (vI ((l.drop (pos + 2)).take (kk :: t).length)) := el_cutC (er_var rfl rc7) (er_is (er_op0 (er_varI rfl) er_cI) (by omega)) (er_varI rfl)
    rw [show pos + 2 = pos + 1 + 1 from rfl, g2] at evg
    refine q_asgL evg fun pg H8 hpg e8 h8 => ?_
    have rc8 := mo e8 rc7
    show tSeq _ _ _ [some v, some (.ref pd), some (.ref pf), some (.int ((pos : Nat) : Int)), some (.int n), some (.int ((pos + 2 + (kk :: t).length : Nat) : Int)), some (.ref pg), o7, o8, o9] H8
    -- row, end
    refine ⟨v, rfl, _, rfl, v, l, pos + 2 + (kk :: t).length, r, t', rfl, rc8, hl3, fun pt pr H9 e9 hpr h9 hT => ⟨pt, _, rfl, hT, rfl, .ref pr, _, rfl, .int ((pos + 2 + (kk :: t).length + 2 + r.length : Nat) : Int), _, rfl, rfl, ?_⟩⟩
    show tSeq _ _ _ [some v, some (.ref pd), some (.ref pf), some (.int ((pos : Nat) : Int)), some (.int n), some (.int ((pos + 2 + (kk :: t).length : Nat) : Int)), some (.ref pg), some (.ref pr), some (.int ((pos + 2 + (kk :: t).length + 2 + r.length : Nat) : Int)), o9] H9
    have e49 : Ex H4 H9 := (((e5.trans e6).trans e7).trans e8).trans e9
    have dk9 := dk4.mono e49
    have rc9 := mo e9 rc8
    have hf9 := e49 _ _ hf4
    have ung : Un_ tg pg := (dk4.ok.mono ((e5.trans e6).trans e7)).fresh hpg
    have unr : Un_ tg pr := (dk4.ok.mono (((e5.trans e6).trans e7).trans e8)).fresh hpr
    have rg9 : RIu (Un_ tg) H9 (.ref pg) (kk :: t) := ⟨pg, rfl, ung, e9 _ _ h8⟩
    have rr9 : RIu (Un_ tg) H9 (.ref pr) r := ⟨pr, rfl, unr, h9⟩
    -- behind the call's answer
    have fin : ∀ Ha, Ex H9 Ha → ∀ p tg' v0' v1' Hb, Ha p = none → StpG tg Ha tg' Hb → Desk K tg' Hb pd v0' v1' S' → Hb p = some (.lst (vI one)) →
        tSeq (tDrop (tBM K "list" rAppend (tVar 2) (tCons (tCB (rLenS K) (tCons (tVar 9) tNil)) tNil)))
          (tSeq (tDrop (tBM K "list" rExtend (tVar 2) (tCons (tVar 9) tNil))) (tAsg (tVar 8) (gName 3)))
          { nx := fun σ' H' => ∃ m', m' < ([n :: kk :: t, r] :: ds).length ∧ Lp K v l m' σ' H', ct := fun σ' H' => ∃ m', m' < ([n :: kk :: t, r] :: ds).length ∧ Lp K v l m' σ' H', bk := fun σ H' => tRet (tVar 2) { nx := fun _ H' => Q .non H', rt := Q } σ H', rt := Q }
          [some v, some (.ref pd), some (.ref pf), some (.int ((pos : Nat) : Int)), some (.int n), some (.int ((pos + 2 + (kk :: t).length : Nat) : Int)), some (.ref pg), some (.ref pr), some (.int ((pos + 2 + (kk :: t).length + 2 + r.length : Nat) : Int)), some (.ref p)] Hb := by
      intro Ha ea p tg' v0' v1' Hb hp gs dkb hpb
      have hfa := ea _ _ hf9
      have hfb : Hb pf = some (.lst (vI acc)) := gs.fr _ _ hfa fun d j z => by
        rw [tpf] at z
        cases z
        omega
      have tpb : tg' pf = some (3, 0) := (gs.tk _ _ hfa).trans tpf
      have npp : p ≠ pf := fun z => by rw [z, hfa] at hp; cases hp
      have rcb := (mo ea rc9).stepG gs (dk9.ok.mono ea)
      have ril : RIL Hb (.ref p) one := ⟨p, rfl, hpb⟩
      refine q_appI (n := (one.length : Int)) rfl hfb (by omega) (er_lenI (er_var rfl ril)) fun Hc ec => ?_
      have s1 : Stp 3 tg' Hb tg' (upd Hc pf (.lst (vI (acc ++ [(one.length : Int)])))) := stp_upd ec tpb hfb fun _ _ _ => rfl
      have tk1 : TagOk tg' (upd Hc pf (.lst (vI (acc ++ [(one.length : Int)])))) := tagok_upd (dkb.ok.mono ec)
      have hp1 : (upd Hc pf (.lst (vI (acc ++ [(one.length : Int)])))) p = some (.lst (vI one)) := by
        rw [upd_ne npp]
        exact ec _ _ hpb
      refine q_extI (acc := acc ++ [(one.length : Int)]) (zs := one) rfl upd_same (by rw [List.length_append, List.length_singleton]; omega) (er_var rfl ⟨p, rfl, hp1⟩) fun Hd ed => ?_
      have s2 : Stp 3 tg' (upd Hc pf (.lst (vI (acc ++ [(one.length : Int)])))) tg' (upd Hd pf (.lst (vI (acc ++ [(one.length : Int)] ++ one)))) := stp_upd ed tpb upd_same fun _ _ _ => rfl
      have tk2 : TagOk tg' (upd Hd pf (.lst (vI (acc ++ [(one.length : Int)] ++ one)))) := tagok_upd (tk1.mono ed)
      have s3 := s1.trans s2
      refine ⟨.int ((pos + 2 + (kk :: t).length + 2 + r.length : Nat) : Int), rfl, ds.length, by rw [List.length_cons]; omega, pd, pf, pos + 2 + (kk :: t).length + 2 + r.length, tg', v0', v1', S', acc ++ [(one.length : Int)] ++ one, f', ds, _, _, _, _, _, _, rfl, rcb.step s3 dkb.ok, dkb.other s3 tk2 (by decide), tpb, upd_same, ?_, hall.2, hop2, ?_, rfl⟩
      · rw [← hc2]
        congr 1
      · rw [← htold, List.append_assoc, List.append_assoc]
        rfl
    refine q_if (b := decide (n = 0)) (et_t (er_eq (er_varI rfl) er_cI)) (fun b Ha ea => ?_) fun b Ha ea => ?_
    · have b := of_decide_eq_true b
      rcases hcase with ⟨-, ⟨x0, x1, rfl⟩, rfl⟩ | ⟨z, _⟩
      · subst b
        refine ⟨.ref pd, rfl, .ref pg, rfl, pd, .ref pg, tg, v0, v1, S, kk, x0, x1, rfl, dk9.mono ea, mo ea rg9, hk, fun p tg' v0' v1' Hb hp gs dkb hpb => ?_⟩
        rw [hS'] at dkb
        rw [hone] at hpb
        exact fin Ha ea p tg' v0' v1' Hb hp gs dkb hpb
      · exact absurd b z
    · have b := of_decide_eq_false b
      rcases hcase with ⟨z, _⟩ | ⟨-, ⟨q, ask⟩, h12⟩
      · exact absurd z b
      · obtain ⟨⟨st, hg⟩, hg2⟩ := opened_ask hop ask
        refine ⟨.ref pd, rfl, .int n, rfl, .ref pg, rfl, .ref pr, rfl, pd, .ref pg, .ref pr, tg, v0, v1, S, n, kk, t, r, q, st, rfl, dk9.mono ea, mo ea rg9, mo ea rr9, ask, hk, hg, fun z => ⟨h12 z, hg2 z⟩, fun p tg' v0' v1' Hb hp gs dkb hpb => ?_⟩
        rw [hS'] at dkb
        rw [hone] at hpb
        exact fin Ha ea p tg' v0' v1' Hb hp gs dkb hpb
theorem okF_answers (T : Tx K mg) (G_answer : GF P w K mg base "answer" 10 ["drawers", "number", "given", "row"] (sp_answer K)) (G_opened : GF P w K mg base "opened" 5 ["drawers", "given"] (sp_opened K)) (G_row_at : GF P w K mg base "row_at" 1 ["calls", "at"] (sp_row_at K)) {fd : FuncData} (F : FunD K "answers" "answers" (defArgs s_answers) (defBody s_answers) (defScope s_answers) [] [] (He.ga K "answers") fd) : FnOk P w K mg base CX0 11 (He.ga K "answers") fd ["calls"] (sp_answers K) := by
  refine FunD.ok F sc_answers len_answers fun cdv A outer s H vs Q E hr h => ⟨(t_answers K), PSs.nox ?_, pure_answers T vs H Q E h⟩
  exact (pss_cons (ps_set (i := 1) sc_answers.nd rfl (.inl rfl) (pe_op op_rep (pe_lst (pa_cons pe_non pa_nil)) (pe_gi rfl T.i_DRAWERS)))
    (pss_cons (ps_set (i := 2) sc_answers.nd rfl (.inl rfl) (pe_lst pa_nil))
    (pss_cons (ps_set (i := 3) sc_answers.nd rfl (.inl rfl) pe_int)
    (pss_cons (ps_while PassesOwn.never (pt_cmpR op_lt (pv 3) (pe_callB call_len_seq rfl T.f_len (by decide +kernel) (pa_cons (pv 0) pa_nil)) (nomark _)) (pss_cons (ps_set (i := 4) sc_answers.nd rfl (.inl rfl) (pe_ix ix_list (pv 0) (pv 3) (fun _ _ => rfl)))
    (pss_cons (ps_set (i := 5) sc_answers.nd rfl (.inl rfl) (pe_op op_add (pe_op op_add (pv 3) pe_int) (pe_ix ix_list (pv 0) (pe_op op_add (pv 3) pe_int) (fun _ _ => rfl))))
    (pss_cons (ps_set (i := 6) sc_answers.nd rfl (.inl rfl) (pe_slice sl_list (pv 0) (po_some (pe_op op_add (pv 3) pe_int)) (po_some (pv 5))))
    (pss_cons (ps_asg (pe_gf G_row_at (hr.mono (by decide)) rfl (pa_cons (pv 0) (pa_cons (pv 5) pa_nil))) (pg_tup rfl (pgs_cons (pg_name (i := 7) sc_answers.nd rfl (.inl rfl)) (pgs_cons (pg_name (i := 8) sc_answers.nd rfl (.inl rfl)) pgs_nil))))
    (pss_cons (ps_if (pt_cmpR op_eq (pv 4) (pe_gi rfl T.i_OPEN) (nomark _)) (pss_one (ps_set (i := 9) sc_answers.nd rfl (.inl rfl) (pe_gf G_opened (hr.mono (by decide)) rfl (pa_cons (pv 1) (pa_cons (pv 6) pa_nil))))) (pss_one (ps_set (i := 9) sc_answers.nd rfl (.inl rfl) (pe_gf G_answer (hr.mono (by decide)) rfl (pa_cons (pv 1) (pa_cons (pv 4) (pa_cons (pv 6) (pa_cons (pv 7) pa_nil))))))))
    (pss_cons (ps_expr (pe_bm PySem.F.plainAttrs_list PySem.F.slot_list_append PySem.F.type_list_append mt_append (pv 2) (pa_cons (pe_callB call_len_seq rfl T.f_len (by decide +kernel) (pa_cons (pv 9) pa_nil)) pa_nil)))
    (pss_cons (ps_expr (pe_bm PySem.F.plainAttrs_list PySem.F.slot_list_extend PySem.F.type_list_extend mt_extend (pv 2) (pa_cons (pv 9) pa_nil)))
    (pss_one (ps_set (i := 3) sc_answers.nd rfl (.inl rfl) (pv 8)))))))))))
    (pss_one (ps_ret (pv 2)))))))
end
end Sd
end

section
set_option Elab.async false
set_option linter.all false
set_option maxRecDepth 100000
set_option maxHeartbeats 4000000
/-! ## 33. The end -/
namespace Sd
open PySem PySem.Spec PyProof.Rows L2 Evl
section
variable {P : Program} {w : World} {K : PySem.W.Frag} {mg : Str → Option Value} {base : Heap}
theorem all_ok (T : Tx K mg) {fd : FuncData} (F : FunD K "answers" "answers" (defArgs s_answers) (defBody s_answers) (defScope s_answers) [] [] (He.ga K "answers") fd) : FnOk P w K mg base CX0 11 (He.ga K "answers") fd ["calls"] (sp_answers K) := by
  have G_held := ok_held (P := P) (w := w) (base := base) T 
  have G_byte_times := ok_byte_times (P := P) (w := w) (base := base) T 
  have G_mean_of := ok_mean_of (P := P) (w := w) (base := base) T 
  have G_pixel_of := ok_pixel_of (P := P) (w := w) (base := base) T 
  have G_number_of := ok_number_of (P := P) (w := w) (base := base) T 
  have G_is_calm := ok_is_calm (P := P) (w := w) (base := base) T 
  have G_single_of := ok_single_of (P := P) (w := w) (base := base) T 
  have G_bits_of := ok_bits_of (P := P) (w := w) (base := base) T 
  have G_is_one_more := ok_is_one_more (P := P) (w := w) (base := base) T 
  have G_lowered := ok_lowered (P := P) (w := w) (base := base) T 
  have G_signed := ok_signed (P := P) (w := w) (base := base) T 
  have G_opposite := ok_opposite (P := P) (w := w) (base := base) T 
  have G_fitting := ok_fitting (P := P) (w := w) (base := base) T 
  have G_D_is_on := ok_D_is_on (P := P) (w := w) (base := base) T 
  have G_D_place := ok_D_place (P := P) (w := w) (base := base) T 
  have G_D_set_texture := ok_D_set_texture (P := P) (w := w) (base := base) T 
  have G_D_texel := ok_D_texel (P := P) (w := w) (base := base) T 
  have G_D_has_texture := ok_D_has_texture (P := P) (w := w) (base := base) T 
  have G_D_columns := ok_D_columns (P := P) (w := w) (base := base) T 
  have G_D_rows := ok_D_rows (P := P) (w := w) (base := base) T 
  have G_upper_of := ok_upper_of (P := P) (w := w) (base := base) T 
  have G_is_near_enough := ok_is_near_enough (P := P) (w := w) (base := base) T 
  have G_spans_of := ok_spans_of (P := P) (w := w) (base := base) T 
  have G_are_sides := ok_are_sides (P := P) (w := w) (base := base) T 
  have G_is_sprite := ok_is_sprite (P := P) (w := w) (base := base) T 
  have G_counted := ok_counted (P := P) (w := w) (base := base) T 
  have G_row_at := ok_row_at (P := P) (w := w) (base := base) T 
  have G_laid_byte := ok_laid_byte (P := P) (w := w) (base := base) T G_byte_times G_held G_mean_of
  have G_both_times := ok_both_times (P := P) (w := w) (base := base) T G_byte_times
  have G_fogged := ok_fogged (P := P) (w := w) (base := base) T G_byte_times G_held
  have G_near_by := ok_near_by (P := P) (w := w) (base := base) T G_is_one_more
  have G_is_below := ok_is_below (P := P) (w := w) (base := base) T G_signed
  have G_points_of := ok_points_of (P := P) (w := w) (base := base) T G_single_of
  have G_first_matrix := ok_first_matrix (P := P) (w := w) (base := base) T G_single_of
  have G_D_pixel_at := ok_D_pixel_at (P := P) (w := w) (base := base) T G_D_is_on G_D_place
  have G_D_clear := ok_D_clear (P := P) (w := w) (base := base) T G_pixel_of
  have G_D_set_fog := ok_D_set_fog (P := P) (w := w) (base := base) T G_pixel_of
  have G_D_keep_depth := ok_D_keep_depth (P := P) (w := w) (base := base) T G_D_place
  have G_D_depth_at := ok_D_depth_at (P := P) (w := w) (base := base) T G_D_place
  have G_D_fade := ok_D_fade (P := P) (w := w) (base := base) T G_held
  have G_D_rectangle := ok_D_rectangle (P := P) (w := w) (base := base) T G_D_place
  have G_D_given := ok_D_given (P := P) (w := w) (base := base) T G_D_place G_held
  have G_byte_of := ok_byte_of (P := P) (w := w) (base := base) T G_held
  have G_may_be_drawn := ok_may_be_drawn (P := P) (w := w) (base := base) T G_D_has_texture
  have G_texture := ok_texture (P := P) (w := w) (base := base) T G_D_set_texture
  have G_are_calm := ok_are_calm (P := P) (w := w) (base := base) T G_is_calm
  have G_laid := ok_laid (P := P) (w := w) (base := base) T G_laid_byte
  have G_shifted := ok_shifted (P := P) (w := w) (base := base) T G_near_by
  have G_sides_of := ok_sides_of (P := P) (w := w) (base := base) T G_is_below G_opposite
  have G_D_init := ok_D_init (P := P) (w := w) (base := base) T G_first_matrix
  have G_D_grab := ok_D_grab (P := P) (w := w) (base := base) T G_D_pixel_at
  have G_D_mean_at := ok_D_mean_at (P := P) (w := w) (base := base) T G_D_pixel_at G_mean_of
  have G_D_give := ok_D_give (P := P) (w := w) (base := base) T G_D_given
  have G_D_tile := ok_D_tile (P := P) (w := w) (base := base) T G_D_rectangle
  have G_colour_at := ok_colour_at (P := P) (w := w) (base := base) T G_byte_of
  have G_clear := ok_clear (P := P) (w := w) (base := base) T G_D_clear
  have G_fog := ok_fog (P := P) (w := w) (base := base) T G_D_set_fog
  have G_fade := ok_fade (P := P) (w := w) (base := base) T G_D_fade
  have G_get := ok_get (P := P) (w := w) (base := base) T G_D_rectangle
  have G_matrix := ok_matrix (P := P) (w := w) (base := base) T G_are_calm G_points_of
  have G_light := ok_light (P := P) (w := w) (base := base) T G_are_calm G_points_of
  have G_rounded := ok_rounded (P := P) (w := w) (base := base) T G_lowered G_shifted
  have G_nearest := ok_nearest (P := P) (w := w) (base := base) T G_shifted
  have G_D_lay := ok_D_lay (P := P) (w := w) (base := base) T G_D_place G_laid
  have G_D_small := ok_D_small (P := P) (w := w) (base := base) T G_D_mean_at
  have G_D_apart := ok_D_apart (P := P) (w := w) (base := base) T G_D_tile
  have G_grab := ok_grab (P := P) (w := w) (base := base) T G_D_grab
  have G_added := ok_added (P := P) (w := w) (base := base) T G_rounded G_signed
  have G_times := ok_times (P := P) (w := w) (base := base) T G_rounded
  have G_turned := ok_turned (P := P) (w := w) (base := base) T G_rounded
  have G_lit_byte := ok_lit_byte (P := P) (w := w) (base := base) T G_held G_nearest
  have G_D_fill := ok_D_fill (P := P) (w := w) (base := base) T G_D_columns G_D_lay G_D_rows
  have G_D_draw_sprite := ok_D_draw_sprite (P := P) (w := w) (base := base) T G_D_columns G_D_lay G_D_rows G_D_texel G_number_of
  have G_draw_place := ok_draw_place (P := P) (w := w) (base := base) T G_D_depth_at G_D_keep_depth G_D_lay G_D_texel G_both_times G_byte_of G_colour_at G_fogged G_is_near_enough G_upper_of
  have G_apart := ok_apart (P := P) (w := w) (base := base) T G_D_apart G_counted
  have G_opened := ok_opened (P := P) (w := w) (base := base) T G_D_init G_are_sides
  have G_products := ok_products (P := P) (w := w) (base := base) T G_added G_times
  have G_placed := ok_placed (P := P) (w := w) (base := base) T G_added G_fitting G_is_below G_nearest G_opposite G_times G_turned
  have G_draw_span := ok_draw_span (P := P) (w := w) (base := base) T G_D_columns G_draw_place
  have G_sprite := ok_sprite (P := P) (w := w) (base := base) T G_D_draw_sprite G_D_has_texture G_is_sprite
  have G_fill := ok_fill (P := P) (w := w) (base := base) T G_D_fill G_pixel_of
  have G_moved := ok_moved (P := P) (w := w) (base := base) T G_products
  have G_place_all := ok_place_all (P := P) (w := w) (base := base) T G_placed G_points_of
  have G_lit := ok_lit (P := P) (w := w) (base := base) T G_added G_is_below G_lit_byte G_products G_times
  have G_spans := ok_spans (P := P) (w := w) (base := base) T G_draw_span G_may_be_drawn G_spans_of
  have G_move_all := ok_move_all (P := P) (w := w) (base := base) T G_bits_of G_moved G_points_of G_sides_of
  have G_light_all := ok_light_all (P := P) (w := w) (base := base) T G_lit G_points_of
  have G_drawn := ok_drawn (P := P) (w := w) (base := base) T G_clear G_fade G_fill G_fog G_grab G_spans G_sprite G_texture
  have G_on_points := ok_on_points (P := P) (w := w) (base := base) T G_are_calm G_light_all G_move_all G_place_all
  have G_answer := ok_answer (P := P) (w := w) (base := base) T G_D_give G_D_small G_apart G_counted G_drawn G_get G_light G_matrix G_on_points
  exact okF_answers T G_answer G_opened G_row_at F
end
theorem room11 : Room 11 callerA := ⟨rfl, by decide, by decide⟩
theorem walked {d : DefRec} (hdf : d.params.defaults = []) (hn : d.name = "answers") : PySem.W.WalkOS qv loose (PySem.W.XL qv []) hk.says Rw d [] (fun f vs => PySem.call f vs) := by
  intro w s0 s1 mg mb G Y
  obtain ⟨K, hK, c, ex⟩ := Y
  refine L2.walk_specK (r := Rw) (k := 11) (K := fun _ => K) (YP := fun _ h => K.In h) (CX := CX0) (ps := ["calls"]) (sp := sp_answers) said hdf rfl room11 (fun _ _ Y => Y) ?F ?S (fun _ _ _ _ z => z) w s0 s1 mg mb G hK
  case F =>
    intro w mg f h _ KX G hmg
    have T : Tx K mg := tx_of KX G c ex
    rw [hn] at hmg
    have e := hmg.symm.trans T.g_answers
    cases e
    obtain ⟨fd, F⟩ := T.d_answers
    exact ⟨fd, F.bindsA fun _ _ _ _ _ _ us hl => match us, hl with | [_], _ => rfl, fun base _ _ => all_ok T F⟩
  case S =>
    intro K' H xs a hO _ hask hx
    cases hx with
    | cons h1 h2 =>
      cases h2
      cases h1 with
      | lst hs ha =>
        have e := L2.ints_dw a.1 _ ha
        subst e
        exact ⟨_, a.1, rfl, ⟨_, rfl, SqF.of hO hs⟩, hask, fun p H' hp => .lst (L2.SqL.of hp) (L2.dw_ints _)⟩
end Sd
end
open PySem PySem.W PyProof.Rows
set_option maxRecDepth 100000 in
set_option maxHeartbeats 8000000 in
theorem PySem.Challenge.cw_spandraw_s01_answers_holds : PySem.Challenge.rw_spandraw_s01_answers.Holds := by
  refine HeadRun.head_spec (q := Sd.qv) (H := Sd.hk) (ob := Sd.ob) (M := 6000) (loose := Sd.loose) (kwd := []) Sd.ob_eq (by rfl) (fun s => by rfl) Sd.run (by rfl) (by rfl) (by rfl) os_shapes Sd.said (by decide +kernel) Sd.bare_text ⟨[.list []], by decide +kernel, by decide +kernel⟩ ?_
  exact Sd.walked rfl rfl
#print axioms PySem.Challenge.cw_spandraw_s01_answers_holds
