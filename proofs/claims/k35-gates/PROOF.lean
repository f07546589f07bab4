import PyProof.Rows.All
import Wide.All
import OpenK.AllK
import Wide.FinOn
import HandS.ForMost
import HandS.IsInst
import KE.DataMinMax
import PySem.Challenge.RW_brimful_k35_whole_gates_do_what_programs
set_option Elab.async false
set_option linter.all false
set_option maxRecDepth 100000
namespace Bf
inductive Fac where
  | cell (i : Nat) | inp (i : Nat)
  deriving DecidableEq
inductive Stp where
  | swap (a b : Nat) | scale (t : Nat) | add (t : Nat) (c : Bool) (fs : List Fac)
structure Gate where
  t : Nat
  cs : List Nat
def i01 (b : Bool) : Int := if b then 1 else 0
def facVal (gs ms : List Bool) : Fac → Bool
  | .cell i => ms.getD i false
  | .inp i => gs.getD i false
def facsVal (gs ms : List Bool) (fs : List Fac) : Bool := fs.all (facVal gs ms)
def stepB (gs ms : List Bool) : Stp → List Bool
  | .swap a b => (ms.set a (ms.getD b false)).set b (ms.getD a false)
  | .scale _ => ms
  | .add t c fs => ms.set t (xor (ms.getD t false) (c && facsVal gs ms fs))
def runB (gs ms : List Bool) (sts : List Stp) : List Bool := sts.foldl (stepB gs) ms
def FacOk (n k t : Nat) : Fac → Prop
  | .cell i => i < n ∧ i ≠ t
  | .inp i => i < k
def StpOk (n k : Nat) : Stp → Prop
  | .swap a b => a < n ∧ b < n ∧ a ≠ b
  | .scale t => t < n
  | .add t _ fs => t < n ∧ fs.length ≤ 3 ∧ ∀ f ∈ fs, FacOk n k t f
def facBit (k : Nat) : Fac → Nat
  | .cell i => k + i
  | .inp i => i
def gateB (bs : List Bool) (g : Gate) : List Bool := if g.cs.all (fun c => bs.getD c false) = true then bs.set g.t (!bs.getD g.t false) else bs
def performB (gts : List Gate) (bs : List Bool) : List Bool := gts.foldl gateB bs
structure GateOk (N : Nat) (g : Gate) : Prop where
  tlt : g.t < N
  clt : ∀ c ∈ g.cs, c < N
  srt : g.cs.Pairwise (· < ·)
  nt : g.t ∉ g.cs

theorem i01_add (x y : Bool) : (i01 x + i01 y) % 2 = i01 (xor x y) := by cases x <;> cases y <;> decide
theorem i01_mul (x y : Bool) : i01 x * i01 y % 2 = i01 (x && y) := by cases x <;> cases y <;> decide
theorem i01_acc (m c w : Bool) : (i01 m + i01 c * i01 w) % 2 = i01 (xor m (c && w)) := by cases m <;> cases c <;> cases w <;> decide
theorem i01_one (x : Bool) : i01 x * 1 % 2 = i01 x := by cases x <;> decide
theorem i01_eq (x : Bool) : decide (i01 x = 1) = x := by cases x <;> decide
theorem i01_lo (x : Bool) : 0 ≤ i01 x := by cases x <;> decide
theorem i01_hi (x : Bool) : i01 x < 2 := by cases x <;> decide
theorem i01_of {z : Int} : i01 (decide (z % 2 = 1)) = z % 2 := by
  have h : z % 2 = 0 ∨ z % 2 = 1 := by omega
  rcases h with h | h <;> rw [h] <;> decide

theorem stepB_len (gs ms : List Bool) (st : Stp) : (stepB gs ms st).length = ms.length := by
  cases st <;> simp [stepB]
theorem runB_len (gs : List Bool) : ∀ (sts : List Stp) (ms : List Bool), (runB gs ms sts).length = ms.length
  | [], _ => rfl
  | st :: r, ms => by
    show (runB gs (stepB gs ms st) r).length = _
    rw [runB_len gs r, stepB_len]
theorem gateB_len (bs : List Bool) (g : Gate) : (gateB bs g).length = bs.length := by
  unfold gateB; split <;> simp
theorem performB_len : ∀ (gts : List Gate) (bs : List Bool), (performB gts bs).length = bs.length
  | [], _ => rfl
  | g :: r, bs => by
    show (performB r (gateB bs g)).length = _
    rw [performB_len r, gateB_len]
theorem performB_append (g1 g2 : List Gate) (bs : List Bool) : performB (g1 ++ g2) bs = performB g2 (performB g1 bs) := by
  unfold performB; rw [List.foldl_append]
theorem performB_take {gts : List Gate} {i : Nat} {g : Gate} (bs : List Bool) (h : gts[i]? = some g) : performB (gts.take (i + 1)) bs = gateB (performB (gts.take i) bs) g := by
  rw [List.take_add_one, h, performB_append]; rfl
theorem runB_take {sts : List Stp} {i : Nat} {st : Stp} (gs ms : List Bool) (h : sts[i]? = some st) : runB gs ms (sts.take (i + 1)) = stepB gs (runB gs ms (sts.take i)) st := by
  unfold runB
  rw [List.take_add_one, h, List.foldl_append]; rfl

theorem gateB_inv {bs : List Bool} {g : Gate} (h : g.t < bs.length) (hn : g.t ∉ g.cs) : gateB (gateB bs g) g = bs := by
  by_cases c : g.cs.all (fun c => bs.getD c false) = true
  · have e1 : gateB bs g = bs.set g.t (!bs.getD g.t false) := by unfold gateB; rw [if_pos c]
    rw [e1]
    have c2 : g.cs.all (fun c => (bs.set g.t (!bs.getD g.t false)).getD c false) = true := by
      rw [List.all_eq_true] at c ⊢
      intro x hx
      have ne : g.t ≠ x := fun e => hn (by rw [e]; exact hx)
      have := c x hx
      rw [List.getD_eq_getElem?_getD] at this ⊢
      rw [List.getElem?_set_ne ne]
      exact this
    unfold gateB
    rw [if_pos c2, List.set_set]
    have e2 : (bs.set g.t (!bs.getD g.t false)).getD g.t false = !bs.getD g.t false := by
      rw [List.getD_eq_getElem?_getD, List.getElem?_set_self h]; rfl
    rw [e2, Bool.not_not]
    apply List.ext_getElem?
    intro i
    by_cases hi : g.t = i
    · subst hi
      rw [List.getElem?_set_self h, List.getD_eq_getElem?_getD, List.getElem?_eq_getElem h]; rfl
    · rw [List.getElem?_set_ne hi]
  · have e1 : gateB bs g = bs := by unfold gateB; rw [if_neg c]
    rw [e1, e1]
theorem performB_rev : ∀ (gts : List Gate) (bs : List Bool), (∀ g ∈ gts, GateOk bs.length g) → performB gts.reverse (performB gts bs) = bs
  | [], _, _ => rfl
  | g :: r, bs, h => by
    rw [List.reverse_cons, performB_append]
    show performB [g] (performB r.reverse (performB r (gateB bs g))) = bs
    have ok := h g List.mem_cons_self
    rw [performB_rev r (gateB bs g) fun g' hg => by rw [gateB_len]; exact h g' (List.mem_cons_of_mem _ hg)]
    exact gateB_inv ok.tlt ok.nt

section
variable {gs ms : List Bool} {k n : Nat}
theorem get_lo (hk : gs.length = k) {i : Nat} (hi : i < k) : (gs ++ ms).getD i false = gs.getD i false := by
  rw [List.getD_eq_getElem?_getD, List.getD_eq_getElem?_getD, List.getElem?_append_left (by omega)]
theorem get_hi (hk : gs.length = k) (i : Nat) : (gs ++ ms).getD (k + i) false = ms.getD i false := by
  rw [List.getD_eq_getElem?_getD, List.getD_eq_getElem?_getD, List.getElem?_append_right (by omega)]
  congr 2; omega
theorem set_hi (hk : gs.length = k) (i : Nat) (v : Bool) : (gs ++ ms).set (k + i) v = gs ++ ms.set i v := by
  rw [List.set_append_right _ _ (by omega)]
  congr 2; omega
theorem get_set_self {l : List Bool} {i : Nat} {v : Bool} (h : i < l.length) : (l.set i v).getD i false = v := by
  rw [List.getD_eq_getElem?_getD, List.getElem?_set_self h]; rfl
theorem get_set_ne {l : List Bool} {i j : Nat} {v : Bool} (h : i ≠ j) : (l.set i v).getD j false = l.getD j false := by
  rw [List.getD_eq_getElem?_getD, List.getD_eq_getElem?_getD, List.getElem?_set_ne h]
theorem set_get {l : List Bool} {i : Nat} : l.set i (l.getD i false) = l := by
  apply List.ext_getElem?
  intro j
  by_cases hi : i = j
  · subst hi
    by_cases h : i < l.length
    · rw [List.getElem?_set_self h, List.getD_eq_getElem?_getD, List.getElem?_eq_getElem h]; rfl
    · rw [List.getElem?_eq_none (by simp; omega), List.getElem?_eq_none (by omega)]
  · rw [List.getElem?_set_ne hi]
/-- a gate with one control -/
theorem gateB_one {bs : List Bool} {t c : Nat} : gateB bs ⟨t, [c]⟩ = bs.set t (xor (bs.getD t false) (bs.getD c false)) := by
  unfold gateB
  simp only [List.all_cons, List.all_nil, Bool.and_true]
  by_cases h : bs.getD c false = true
  · rw [if_pos h, h, Bool.xor_true]
  · rw [if_neg h]
    have h' : bs.getD c false = false := by simpa using h
    rw [h', Bool.xor_false, set_get]
theorem ext_getD {l l' : List Bool} (h : l.length = l'.length) (e : ∀ i, i < l.length → l.getD i false = l'.getD i false) : l = l' := by
  apply List.ext_getElem h
  intro i h1 h2
  have := e i h1
  rw [List.getD_eq_getElem?_getD, List.getD_eq_getElem?_getD, List.getElem?_eq_getElem h1, List.getElem?_eq_getElem h2] at this
  exact this
theorem swap_bits {l : List Bool} {a b : Nat} (ha : a < l.length) (hb : b < l.length) (hne : a ≠ b) :
    performB [⟨a, [b]⟩, ⟨b, [a]⟩, ⟨a, [b]⟩] l = (l.set a (l.getD b false)).set b (l.getD a false) := by
  show gateB (gateB (gateB l ⟨a, [b]⟩) ⟨b, [a]⟩) ⟨a, [b]⟩ = _
  rw [gateB_one, gateB_one, gateB_one]
  generalize hx : l.getD a false = x
  generalize hy : l.getD b false = y
  have e1 : (l.set a (xor x y)).getD b false = y := by rw [get_set_ne hne, hy]
  have e2 : (l.set a (xor x y)).getD a false = xor x y := get_set_self ha
  rw [e1, e2]
  have e3 : ((l.set a (xor x y)).set b (xor y (xor x y))).getD a false = xor x y := by rw [get_set_ne (Ne.symm hne), e2]
  have e4 : ((l.set a (xor x y)).set b (xor y (xor x y))).getD b false = xor y (xor x y) := get_set_self (by simpa using hb)
  rw [e3, e4]
  have e5 : xor y (xor x y) = x := by cases x <;> cases y <;> rfl
  have e6 : xor (xor x y) x = y := by cases x <;> cases y <;> rfl
  rw [e5, e6]
  apply ext_getD (by simp)
  intro i hi
  by_cases h1 : i = a
  · subst h1
    rw [get_set_self (by simpa using ha), get_set_ne (Ne.symm hne), get_set_self ha]
  · by_cases h2 : i = b
    · subst h2
      rw [get_set_ne (Ne.symm h1), get_set_self (by simpa using hb), get_set_self (by simpa using hb)]
    · rw [get_set_ne (Ne.symm h1), get_set_ne (Ne.symm h2), get_set_ne (Ne.symm h1), get_set_ne (Ne.symm h2), get_set_ne (Ne.symm h1)]
theorem swap_gates (hk : gs.length = k) {a b : Nat} (ha : a < ms.length) (hb : b < ms.length) (hne : a ≠ b) :
    performB [⟨k + a, [k + b]⟩, ⟨k + b, [k + a]⟩, ⟨k + a, [k + b]⟩] (gs ++ ms) = gs ++ stepB gs ms (.swap a b) := by
  have hl : (gs ++ ms).length = k + ms.length := by rw [List.length_append, hk]
  rw [swap_bits (by omega) (by omega) (by omega), get_hi hk, get_hi hk, set_hi hk, set_hi hk]
  rfl
theorem fac_bit (hk : gs.length = k) {t : Nat} {f : Fac} (ok : FacOk n k t f) : (gs ++ ms).getD (facBit k f) false = facVal gs ms f := by
  cases f with
  | cell i => exact get_hi hk i
  | inp i => exact get_lo hk ok
theorem add_gate (hk : gs.length = k) {t : Nat} {fs : List Fac} {cs : List Nat} (ok : ∀ f ∈ fs, FacOk n k t f) (hcs : ∀ c, c ∈ cs ↔ ∃ f ∈ fs, facBit k f = c) :
    performB [⟨k + t, cs⟩] (gs ++ ms) = gs ++ stepB gs ms (.add t true fs) := by
  have e : cs.all (fun c => (gs ++ ms).getD c false) = facsVal gs ms fs := by
    unfold facsVal
    rw [Bool.eq_iff_iff, List.all_eq_true, List.all_eq_true]
    constructor
    · intro h f hf
      rw [← fac_bit hk (ok f hf)]
      exact h _ ((hcs _).mpr ⟨f, hf, rfl⟩)
    · intro h c hc
      obtain ⟨f, hf, rfl⟩ := (hcs c).mp hc
      rw [fac_bit hk (ok f hf)]
      exact h f hf
  show gateB (gs ++ ms) ⟨k + t, cs⟩ = _
  unfold gateB
  simp only [e]
  show (if facsVal gs ms fs = true then _ else _) = gs ++ ms.set t (xor (ms.getD t false) (true && facsVal gs ms fs))
  by_cases h : facsVal gs ms fs = true
  · rw [if_pos h, get_hi hk, set_hi hk, h]; simp
  · have h' : facsVal gs ms fs = false := by simpa using h
    rw [if_neg h, h', Bool.and_false, Bool.xor_false, set_get]
theorem add_none {t : Nat} {fs : List Fac} : stepB gs ms (.add t false fs) = ms := by
  show ms.set t (xor (ms.getD t false) (false && _)) = ms
  rw [Bool.false_and, Bool.xor_false, set_get]
theorem bit_ok {t : Nat} {f : Fac} (ht : t < n) (ok : FacOk n k t f) : facBit k f < k + n ∧ facBit k f ≠ k + t := by
  cases f with
  | cell i =>
    obtain ⟨h1, h2⟩ := ok
    show k + i < k + n ∧ k + i ≠ k + t
    omega
  | inp i =>
    have h : i < k := ok
    show i < k + n ∧ i ≠ k + t
    omega
end
/-- gates do what steps do, on every bits of inputs and cells -/
def Does (k n : Nat) (gts : List Gate) (f : List Bool → List Bool → List Bool) : Prop := ∀ gs ms : List Bool, gs.length = k → ms.length = n → performB gts (gs ++ ms) = gs ++ f gs ms
end Bf

namespace Bf
open PySem PySem.Spec PyProof.Rows L2
def topS (i : Nat) : Stmt := PySem.Challenge.pw_brimful_k35_whole_gates_do_what_programs.main.body.getD i (.Pass ⟨0, 0, 0, 0⟩)

/-- tuples stand -/
def Tups (H H' : Hp) : Prop := ∀ b xs, H b = some (.tup xs) → H' b = some (.tup xs)
/-- all but d stands -/
def Keep (d : Addr) (H H' : Hp) : Prop := ∀ b o, b ≠ d → H b = some o → H' b = some o
theorem Tups.refl (H : Hp) : Tups H H := fun _ _ h => h
theorem Tups.trans {H H1 H2 : Hp} (a : Tups H H1) (b : Tups H1 H2) : Tups H H2 := fun c o h => b c o (a c o h)
theorem tups_of {H H' : Hp} (a : Same H H') : Tups H H' := fun c o h => a c _ h
theorem Keep.tups {d : Addr} {H H' : Hp} (a : Keep d H H') {xs : List V} (h : H d = some (.lst xs)) : Tups H H' := fun b ys e => a b _ (ne_of e h (by intro q; cases q)) e
theorem Keep.refl (d : Addr) (H : Hp) : Keep d H H := fun _ _ _ h => h
theorem Keep.trans {d : Addr} {H H1 H2 : Hp} (a : Keep d H H1) (b : Keep d H1 H2) : Keep d H H2 := fun c o n h => b c o n (a c o n h)
theorem Keep.of {d : Addr} {H H' : Hp} (a : Same H H') : Keep d H H' := fun c o _ h => a c o h
theorem keep_upd {d : Addr} {H : Hp} {o : HO} : Keep d H (upd H d o) := fun b u n e => by
  rw [upd_ne n]
  exact e
theorem same_new {H : Hp} {p : Addr} {o : HO} (h : H p = none) : Same H (upd H p o) := fun b x e => by
  rw [upd_ne (ne_of_none e h)]
  exact e
/-- a list that was made behind H0 changes -/
theorem same_late {H0 H : Hp} {p : Addr} {o : HO} (s : Same H0 H) (h : H0 p = none) : Same H0 (upd H p o) := fun b x e => by
  rw [upd_ne (ne_of_none e h)]
  exact s b x e
theorem keep_late {d : Addr} {H0 H : Hp} {p : Addr} {o : HO} (s : Keep d H0 H) (h : H0 p = none) : Keep d H0 (upd H p o) := fun b x n e => by
  rw [upd_ne (ne_of_none e h)]
  exact s b x n e
theorem keep_free {d : Addr} {H0 H : Hp} (s : Keep d H0 H) {p : Addr} (n : p ≠ d) (h : H p = none) : H0 p = none := by
  cases q : H0 p with
  | none => rfl
  | some o =>
    rw [s p o n q] at h
    cases h

def Are {α : Type} (R : Addr → α → Prop) (ps : List Addr) (xs : List α) : Prop := ps.length = xs.length ∧ ∀ (i : Nat) (p : Addr) (x : α), ps[i]? = some p → xs[i]? = some x → R p x
theorem Are.nil {α : Type} {R : Addr → α → Prop} : Are R [] [] := ⟨rfl, fun i p x h _ => by simp at h⟩
theorem Are.mono {α : Type} {R R' : Addr → α → Prop} {ps : List Addr} {xs : List α} (a : Are R ps xs) (h : ∀ p x, R p x → R' p x) : Are R' ps xs := ⟨a.1, fun i p x e1 e2 => h p x (a.2 i p x e1 e2)⟩
theorem Are.at {α : Type} {R : Addr → α → Prop} {ps : List Addr} {xs : List α} (a : Are R ps xs) {i : Nat} {y : V} (h : (ps.map V.ref)[i]? = some y) : ∃ p x, y = V.ref p ∧ ps[i]? = some p ∧ xs[i]? = some x ∧ R p x := by
  rw [List.getElem?_map] at h
  cases e : ps[i]? with
  | none =>
    rw [e] at h
    cases h
  | some p =>
    rw [e] at h
    have hi : i < ps.length := (List.getElem?_eq_some_iff.mp e).1
    have hx : i < xs.length := by rw [← a.1]; exact hi
    exact ⟨p, xs[i], (Option.some.inj h).symm, rfl, List.getElem?_eq_getElem hx, a.2 i p _ e (List.getElem?_eq_getElem hx)⟩
theorem Are.get {α : Type} {R : Addr → α → Prop} {ps : List Addr} {xs : List α} (a : Are R ps xs) {i : Nat} {x : α} (h : xs[i]? = some x) : ∃ p, ps[i]? = some p ∧ (ps.map V.ref)[i]? = some (V.ref p) ∧ R p x := by
  have hx : i < xs.length := (List.getElem?_eq_some_iff.mp h).1
  have hi : i < ps.length := by rw [a.1]; exact hx
  exact ⟨ps[i], List.getElem?_eq_getElem hi, by rw [List.getElem?_map, List.getElem?_eq_getElem hi]; rfl, a.2 i _ x (List.getElem?_eq_getElem hi) h⟩
theorem Are.append {α : Type} {R : Addr → α → Prop} {ps qs : List Addr} {xs ys : List α} (a : Are R ps xs) (b : Are R qs ys) : Are R (ps ++ qs) (xs ++ ys) := by
  refine ⟨by rw [List.length_append, List.length_append, a.1, b.1], fun i p x e1 e2 => ?_⟩
  by_cases hi : i < ps.length
  · rw [List.getElem?_append_left hi] at e1
    rw [List.getElem?_append_left (by rw [← a.1]; exact hi)] at e2
    exact a.2 i p x e1 e2
  · rw [List.getElem?_append_right (by omega)] at e1
    rw [List.getElem?_append_right (by rw [← a.1]; omega), ← a.1] at e2
    exact b.2 _ p x e1 e2
theorem Are.one {α : Type} {R : Addr → α → Prop} {p : Addr} {x : α} (h : R p x) : Are R [p] [x] := by
  refine ⟨rfl, fun i q y e1 e2 => ?_⟩
  cases i with
  | zero =>
    have h1 : p = q := Option.some.inj e1
    have h2 : x = y := Option.some.inj e2
    rw [← h1, ← h2]
    exact h
  | succ i => simp at e1

def bi (b : Bool) : V := .int (i01 b)
def facV : Fac → List V
  | .cell i => [.str "cell", .int (i : Int)]
  | .inp i => [.str "input", .int (i : Int)]
def FacAt (H : Hp) (p : Addr) (f : Fac) : Prop := H p = some (.tup (facV f))
def FacsAt (H : Hp) (q : Addr) (fs : List Fac) : Prop := ∃ ps : List Addr, H q = some (.tup (ps.map V.ref)) ∧ Are (FacAt H) ps fs
def StpAt (H : Hp) (p : Addr) : Stp → Prop
  | .swap a b => H p = some (.tup [.str "swap", .int (a : Int), .int (b : Int)])
  | .scale t => H p = some (.tup [.str "scale", .int (t : Int), .int 1])
  | .add t c fs => ∃ q, H p = some (.tup [.str "add", .int (t : Int), bi c, .ref q]) ∧ FacsAt H q fs
def natV (c : Nat) : V := .int (c : Int)
def GateAt (H : Hp) (p : Addr) (g : Gate) : Prop := ∃ q, H p = some (.tup [natV g.t, .ref q]) ∧ H q = some (.tup (g.cs.map natV))
theorem FacsAt.tups {H H' : Hp} (t : Tups H H') {q : Addr} {fs : List Fac} (h : FacsAt H q fs) : FacsAt H' q fs := by
  obtain ⟨ps, h1, h2⟩ := h
  exact ⟨ps, t _ _ h1, h2.mono fun p f e => t _ _ e⟩
theorem StpAt.tups {H H' : Hp} (t : Tups H H') {p : Addr} {st : Stp} (h : StpAt H p st) : StpAt H' p st := by
  cases st with
  | swap a b => exact t _ _ h
  | scale u => exact t _ _ h
  | add u c fs =>
    obtain ⟨q, h1, h2⟩ := h
    exact ⟨q, t _ _ h1, h2.tups t⟩
theorem GateAt.tups {H H' : Hp} (t : Tups H H') {p : Addr} {g : Gate} (h : GateAt H p g) : GateAt H' p g := by
  obtain ⟨q, h1, h2⟩ := h
  exact ⟨q, t _ _ h1, t _ _ h2⟩
abbrev StpsAt (H : Hp) (ps : List Addr) (sts : List Stp) : Prop := Are (StpAt H) ps sts
abbrev GatesAt (H : Hp) (ps : List Addr) (gts : List Gate) : Prop := Are (GateAt H) ps gts
theorem bis_get {ms : List Bool} {i : Nat} (h : i < ms.length) : (ms.map bi)[i]? = some (bi (ms.getD i false)) := by
  rw [List.getElem?_map, List.getElem?_eq_getElem h, List.getD_eq_getElem?_getD, List.getElem?_eq_getElem h]
  rfl
theorem bls_get {ms : List Bool} {i : Nat} (h : i < ms.length) : (ms.map V.bl)[i]? = some (.bl (ms.getD i false)) := by
  rw [List.getElem?_map, List.getElem?_eq_getElem h, List.getD_eq_getElem?_getD, List.getElem?_eq_getElem h]
  rfl
theorem at_nat {xs : List V} {j : Nat} {v : V} (h : xs[j]? = some v) : atI xs (j : Int) = some v := atI_nat h
theorem ixN_nat {n j : Nat} (h : j < n) : ixN n (j : Int) = some j := by
  unfold ixN
  rw [if_pos (by omega), if_pos (by omega)]
  rfl
theorem step_len {H : Hp} {p : Addr} {st : Stp} (h : StpAt H p st) : ∃ xs : List V, H p = some (.tup xs) ∧ 3 ≤ xs.length := by
  cases st with
  | swap a b => exact ⟨_, h, Nat.le_refl 3⟩
  | scale u => exact ⟨_, h, Nat.le_refl 3⟩
  | add u c fs =>
    obtain ⟨q, h1, _⟩ := h
    exact ⟨_, h1, (by show 3 ≤ 4; decide)⟩

structure Txt (mg : Str → Option Value) : Prop where
  isinstance : mg "isinstance" = none
  int : mg "int" = none
  bool : mg "bool" = none
  list : mg "list" = none
  tuple : mg "tuple" = none
  str : mg "str" = none
  len : mg "len" = none
  range : mg "range" = none
  sorted : mg "sorted" = none
  max : mg "max" = none
  all : mg "all" = none
  cBITS : ∃ t, mg "BITS" = some (.int 120 t)
  cMOST : ∃ t, mg "MOST" = some (.int 60000 t)
  cFACTORS : ∃ t, mg "FACTORS" = some (.int 3 t)
  cMODULUS : ∃ t, mg "MODULUS" = some (.int 1000000000 t)
  cCELLS : ∃ t, mg "CELLS" = some (.int 60 t)
  cINPUTS : ∃ t, mg "INPUTS" = some (.int 60 t)
  cSTEPS : ∃ t, mg "STEPS" = some (.int 20000 t)
/-- a def that keeps its promise, under the module's name nm -/
def Good (P : Program) (w : World) (K : PySem.W.Frag) (mg : Str → Option Value) (base : Heap) (nm : Str) (k : Nat) (ps : List Str) (sp : Sp) : Prop :=
  ∃ f fd, mg nm = some (.ref f) ∧ PySem.W.keepIn K (.ref f) = true ∧ Binds K fd ps [] ∧ FnOk P w K mg base CX0 k f fd ps sp
section
variable {X : Cx} {nm : Str} {k : Nat} {ps : List Str} {sp : Sp} {p pos : Pos} {e : Expr} {es : List Expr} {t : TA}
theorem pe_callG {j : Nat} (G : Good X.prog X.w X.K X.mg X.base nm k ps sp) (hr : Room j X.A) (ha : PA X (e :: es) t) (hj : k ≤ j := by decide) (hg : Gl X nm := by rfl) (hdb : (nm == ("__debug__" : Str)) = false := by decide)
    (hpl : (backTo pos (starEach es X.env)).any (·.1) = false := by rfl) (he : starEach (e :: es) X.env = (false, eval e X.env) :: starEach es X.env := by rfl) :
    PE X (.Call (.Name nm p) (e :: es) [] pos) (tCall sp [] E0 t) := by
  obtain ⟨f, fd, gm, kp, b, F⟩ := G
  exact pe_call F (hr.mono hj) hg gm kp b .nil pass0 ha hdb he hpl
theorem pe_gint {x : Str} {i : Int} (h : ∃ t, X.mg x = some (.int i t)) (hg : Gl X x := by rfl) (hd : (x == ("__debug__" : Str)) = false := by decide) : PE X (.Name x pos) (tC (.int i)) := by
  obtain ⟨t, h⟩ := h
  exact pe_glob hg h ⟨t, rfl⟩ hd
theorem pt_nev {e : Expr} : PT X e (fun _ _ _ => False) := ⟨fun _ _ _ _ _ _ h => h.elim⟩
theorem pe_nev {e : Expr} : PE X e (fun _ _ _ => False) := ⟨fun _ _ _ _ _ _ h => h.elim⟩
/-- isinstance(e, T), T a built-in type -/
def tIsi (K : PySem.W.Frag) (T : String) (te : TE) : TE := fun σ H Q => te σ H fun x H1 => rIsi K [x, .ty T] H1 Q
theorem pe_isi {T : String} {x : Expr} {te : TE} {tn : Str} {p1 p2 p3 : Pos} (hT : X.mg tn = none) (hi : X.mg "isinstance" = none) (he : PE X x te) (hg : Gl X "isinstance" := by rfl) (hg2 : Gl X tn := by rfl) (hv : bootBuiltins tn = some (.type T) := by decide +kernel)
    (hn : tn ≠ "__name__" := by decide) (hd : (tn == ("__debug__" : Str)) = false := by decide)
    (hs : starEach [x, .Name tn p2] X.env = (false, eval x X.env) :: starEach [.Name tn p2] X.env := by rfl) (hs2 : starEach [.Name tn p2] X.env = (false, eval (.Name tn p2) X.env) :: starEach [] X.env := by rfl)
    (hpl : (backTo p3 (starEach [.Name tn p2] X.env)).any (·.1) = false := by rfl) :
    PE X (.Call (.Name "isinstance" p1) [x, .Name tn p2] [] p3) (tIsi X.K T te) :=
  pe_callB call_isi hg hi (by decide +kernel) (pa_cons he (pa_cons (pe_bltn (v := .ty T) hg2 hT hv rfl hn hd) pa_nil hs2) hs) (by decide) (by decide) hs hpl
end
section
variable {K : PySem.W.Frag} {H : Hp} {Q : VK}
theorem isi_bl_bool {b : Bool} (q : Q (.bl true) H) : rIsi K [.bl b, .ty "bool"] H Q := ⟨_, _, _, _, true, rfl, .ty _, .base (.bl b), kit_ty (by decide +kernel), q⟩
theorem isi_bl_int {b : Bool} (q : Q (.bl true) H) : rIsi K [.bl b, .ty "int"] H Q := ⟨_, _, _, _, true, rfl, .ty _, .base (.bl b), kit_ty (by decide +kernel), q⟩
theorem isi_bl_list {b : Bool} (q : Q (.bl false) H) : rIsi K [.bl b, .ty "list"] H Q := ⟨_, _, _, _, false, rfl, .ty _, .base (.bl b), kit_ty (by decide +kernel), q⟩
theorem isi_bl_tuple {b : Bool} (q : Q (.bl false) H) : rIsi K [.bl b, .ty "tuple"] H Q := ⟨_, _, _, _, false, rfl, .ty _, .base (.bl b), kit_ty (by decide +kernel), q⟩
theorem isi_int_int {i : Int} (q : Q (.bl true) H) : rIsi K [.int i, .ty "int"] H Q := ⟨_, _, _, _, true, rfl, .ty _, .base (.int i), kit_ty (by decide +kernel), q⟩
theorem isi_int_bool {i : Int} (q : Q (.bl false) H) : rIsi K [.int i, .ty "bool"] H Q := ⟨_, _, _, _, false, rfl, .ty _, .base (.int i), kit_ty (by decide +kernel), q⟩
theorem isi_int_list {i : Int} (q : Q (.bl false) H) : rIsi K [.int i, .ty "list"] H Q := ⟨_, _, _, _, false, rfl, .ty _, .base (.int i), kit_ty (by decide +kernel), q⟩
theorem isi_int_tuple {i : Int} (q : Q (.bl false) H) : rIsi K [.int i, .ty "tuple"] H Q := ⟨_, _, _, _, false, rfl, .ty _, .base (.int i), kit_ty (by decide +kernel), q⟩
theorem isi_lst_list {a : Addr} {xs : List V} (h : H a = some (.lst xs)) (q : Q (.bl true) H) : rIsi K [.ref a, .ty "list"] H Q := ⟨_, _, _, _, true, rfl, .ty _, .base (.lst h), kit_ty (by decide +kernel), q⟩
theorem isi_tup_tuple {a : Addr} {xs : List V} (h : H a = some (.tup xs)) (q : Q (.bl true) H) : rIsi K [.ref a, .ty "tuple"] H Q := ⟨_, _, _, _, true, rfl, .ty _, .base (.tup h), kit_ty (by decide +kernel), q⟩
end

theorem reads_ints {h : Heap} : ∀ {ns : List Int} {us : List Value}, Vals (ns.map V.int) us → ReadsAll h us (ns.map PyData.int) [] := by
  intro ns
  induction ns with
  | nil =>
    intro us r
    cases r
    exact .nil
  | cons n ns ih =>
    intro us r
    cases r with
    | cons a b =>
      obtain ⟨t, rfl⟩ := a
      exact .cons (as := []) (bs := []) (.int n t) (ih b)
def rMaxT (K : PySem.W.Frag) : List V → Hp → VK → Prop := fun vs H Q => ∃ (a : Addr) (n : Int) (ns : List Int), vs = [V.ref a] ∧ SqT K H a ((n :: ns).map V.int) ∧ ∀ m, m ∈ n :: ns → Q (.int m) H
theorem depth_ints : ∀ ns : List Int, PyData.depthAll (ns.map PyData.int) ≤ 1
  | [] => by rw [List.map_nil, PyData.depthAll]; omega
  | n :: ns => by
    have h := depth_ints ns
    rw [List.map_cons, PyData.depthAll, PyData.depth]
    omega
theorem alike_ints (ns : List Int) : PySem.W.AlikeAll (ns.map PyData.int) := by
  refine ⟨fun x hx y hy => ?_, fun x hx e => ?_⟩
  · obtain ⟨i, _, rfl⟩ := List.mem_map.mp hx
    obtain ⟨j, _, rfl⟩ := List.mem_map.mp hy
    simp only [PySem.W.alike]
  · obtain ⟨i, _, rfl⟩ := List.mem_map.mp hx
    cases e
theorem cr_maxT {X : Cx} {k : Nat} (hc : X.calm = true) (hr : Room k X.A) : CallR X (.builtin "max") (rMaxT X.K) := by
  intro pins s σ H vs us Q I r h
  obtain ⟨a, n, ns, rfl, hs, q⟩ := h
  obtain ⟨its, rv, ht, _⟩ := I.tuple hs
  rw [Vals.ref1 r]
  have hu := hr.units
  have hd := depth_ints (n :: ns)
  refine PySem.W.max_tuple_data (l := a) (vs := its.toArray) (x := .int n) (xs := ns.map PyData.int) (as := []) (I.ok.hd hc) (show s.heap.IsTuple a its.toArray from ht) (by exact reads_ints (ns := n :: ns) rv) (alike_ints (n :: ns)) (by
    have e : PyData.depthAll (PyData.int n :: ns.map PyData.int) ≤ 1 := hd
    omega) fun i v h' tk bs hi _ hk => ?_
  have hi' : its[i]? = some v := by simpa using hi
  obtain ⟨m, hm, rvm⟩ : ∃ m, (n :: ns)[i]? = some m ∧ RelV (.int m) v := by
    have hl := rv.length
    have hil : i < its.length := (List.getElem?_eq_some_iff.mp hi').1
    rw [List.length_map] at hl
    have hin : i < (n :: ns).length := by omega
    have e1 : ((n :: ns).map V.int)[i]? = some (.int (n :: ns)[i]) := by
      rw [List.getElem?_map, List.getElem?_eq_getElem hin]
      rfl
    obtain ⟨u, hu1, hu2⟩ := rv.get e1
    rw [hi'] at hu1
    cases hu1
    exact ⟨_, List.getElem?_eq_getElem hin, hu2⟩
  exact ⟨.int m, H, I.kept hk, rvm, q m (List.mem_of_getElem? hm)⟩
end Bf

namespace Bf
open PySem PySem.Spec PyProof.Rows L2
theorem iteDT {c : Prop} [Decidable c] {A B : Prop} (h : c) (x : A) : if decide c = true then A else B := by
  rw [decide_eq_true h]
  exact iteT x
theorem iteDF {c : Prop} [Decidable c] {A B : Prop} (h : ¬ c) (x : B) : if decide c = true then A else B := by
  rw [decide_eq_false h]
  exact iteF x
theorem iteNT {c : Prop} [Decidable c] {A B : Prop} (h : ¬ c) (x : A) : if (!decide c) = true then A else B := by
  rw [decide_eq_false h]
  exact iteT x
section
variable {P : Program} {w : World} {K : PySem.W.Frag} {mg : Str → Option Value} {base : Heap}

abbrev s_is_integer : Stmt := topS 7
theorem sc_is_integer : FnScope ["value"] ["value"] (defScope s_is_integer) := ⟨rfl, rfl, rfl, by decide +kernel, rfl, by decide +kernel, by decide +kernel⟩
def spIsInt : Sp := fun vs H Q _ => ∃ i : Int, vs = [.int i] ∧ Q (.bl true) H
theorem ok_is_integer {f : Addr} {fd : FuncData} (F : Fun K "is_integer" "is_integer" s_is_integer f fd) (T : Txt mg) : FnOk P w K mg base CX0 1 f fd ["value"] spIsInt := by
  refine F.ok sc_is_integer (fun vs H Q E h => ?_) (fun cdv A outer s H vs Q E hr h => ?_)
  · obtain ⟨i, rfl, _⟩ := h
    rfl
  · obtain ⟨i, rfl, q⟩ := h
    refine ⟨_, (pss_one (ps_ret (pe_and (pe_isi (T := "int") T.int T.isinstance (pv 0)) (pe_one (pe_not (pe_isi (T := "bool") T.bool T.isinstance (pv 0))))))), ?_⟩
    exact ⟨_, rfl, isi_int_int ⟨true, rfl, iteT ⟨_, rfl, isi_int_bool ⟨false, rfl, q⟩⟩⟩⟩
abbrev s_is_number : Stmt := topS 8
theorem sc_is_number : FnScope ["value", "modulus"] ["value", "modulus"] (defScope s_is_number) := ⟨rfl, rfl, rfl, by decide +kernel, rfl, by decide +kernel, by decide +kernel⟩
def spIsNum : Sp := fun vs H Q _ => ∃ i m : Int, vs = [.int i, .int m] ∧ 0 ≤ i ∧ i < m ∧ Q (.bl true) H
theorem ok_is_number {f : Addr} {fd : FuncData} (F : Fun K "is_number" "is_number" s_is_number f fd) (T : Txt mg) (G_is_integer : Good P w K mg base "is_integer" 1 ["value"] spIsInt) : FnOk P w K mg base CX0 2 f fd ["value", "modulus"] spIsNum := by
  refine F.ok sc_is_number (fun vs H Q E h => ?_) (fun cdv A outer s H vs Q E hr h => ?_)
  · obtain ⟨i, m, rfl, _⟩ := h
    rfl
  · obtain ⟨i, m, rfl, h0, h1, q⟩ := h
    refine ⟨_, (pss_one (ps_ret (pe_and (pe_callG G_is_integer hr (pa_cons (pv 0) pa_nil)) (pe_one (pe_chain op_le op_lt pe_int (pv 0) (pv 1)))))), ?_⟩
    refine ⟨_, rfl, i, rfl, true, rfl, iteT ⟨_, rfl, 0, i, rfl, rfl, _, rfl, iteDT h0 ⟨_, rfl, i, m, rfl, rfl, ?_⟩⟩⟩
    show Q (.bl (decide (i < m))) H
    rw [decide_eq_true h1]
    exact q

abbrev s_inverse_of : Stmt := topS 10
theorem sc_inverse_of : FnScope ["n", "modulus", "rest", "other", "mine", "yours", "times"] ["n", "modulus"] (defScope s_inverse_of) := ⟨rfl, rfl, rfl, by decide +kernel, rfl, by decide +kernel, by decide +kernel⟩
def spInv : Sp := fun vs H Q _ => vs = [.int 1, .int 2] ∧ ∀ H', Same H H' → Q (.int 1) H'
theorem ok_inverse_of {f : Addr} {fd : FuncData} (F : Fun K "inverse_of" "inverse_of" s_inverse_of f fd) : FnOk P w K mg base CX0 1 f fd ["n", "modulus"] spInv := by
  refine F.ok sc_inverse_of (fun vs H Q E h => ?_) (fun cdv A outer s H vs Q E hr h => ?_)
  · obtain ⟨rfl, _⟩ := h
    rfl
  · obtain ⟨rfl, q⟩ := h
    refine ⟨_, (pss_cons (ps_par (i := 2) (j := 3) (by rfl) sc_inverse_of.nd rfl rfl (by decide) rfl rfl (pa_cons (pe_op op_mod (pv 0) (pv 1)) (pa_cons (pv 1) pa_nil)) (by rfl))
      (pss_cons (ps_asg (pe_tup (pa_cons pe_int (pa_cons pe_int pa_nil))) (pg_tup rfl (pgs_cons (pg_name (i := 4) sc_inverse_of.nd rfl (Or.inl rfl)) (pgs_cons (pg_name (i := 5) sc_inverse_of.nd rfl (Or.inl rfl)) pgs_nil))))
      (pss_cons (ps_while PassesOwn.never (pt_cmpR op_gt (pv 3) pe_int (nomark _))
        (pss_cons (ps_set (i := 6) sc_inverse_of.nd rfl (Or.inl rfl) (pe_op op_fdiv (pv 2) (pv 3)))
        (pss_cons (ps_par (i := 2) (j := 3) (by rfl) sc_inverse_of.nd rfl rfl (by decide) rfl rfl (pa_cons (pv 3) (pa_cons (pe_op op_sub (pv 2) (pe_op op_mul (pv 6) (pv 3))) pa_nil)) (by rfl))
        (pss_one (ps_par (i := 4) (j := 5) (by rfl) sc_inverse_of.nd rfl rfl (by decide) rfl rfl (pa_cons (pv 5) (pa_cons (pe_op op_sub (pv 4) (pe_op op_mul (pv 6) (pv 5))) pa_nil)) (by rfl))))))
      (pss_cons (ps_if (pt_cmpR op_ne (pv 2) pe_int (nomark _))
        (pss_one (ps_ret pe_non))
        pss_nil)
      (pss_one (ps_ret (pe_op op_mod (pv 4) (pv 1)))))))), ?_⟩
    refine ⟨_, rfl, _, rfl, 1, 2, rfl, rfl, (by show (0 : Int) < 2; decide), _, rfl, _, _, rfl, (by show 2 ≤ sizeLine; decide), fun p np => ?_⟩
    refine ⟨p, _, rfl, SqT.of upd_same, rfl, _, _, rfl, _, _, rfl, rfl, ?_⟩
    have sm : Same H (upd H p (.tup [.int 1, .int 0])) := same_new np
    generalize upd H p (.tup [.int 1, .int 0]) = H1 at sm ⊢
    refine ⟨fun m σ H' => H' = H1 ∧ ((m = 2 ∧ ∃ v, σ = [some (.int 1), some (.int 2), some (.int 1), some (.int 2), some (.int 1), some (.int 0), v]) ∨
      (m = 1 ∧ ∃ v, σ = [some (.int 1), some (.int 2), some (.int 2), some (.int 1), some (.int 0), some (.int 1), v]) ∨
      (m = 0 ∧ ∃ v, σ = [some (.int 1), some (.int 2), some (.int 1), some (.int 0), some (.int 1), some (.int (-2)), v])), ⟨2, rfl, .inl ⟨rfl, none, rfl⟩⟩, ?_⟩
    rintro m σ H' ⟨rfl, ⟨rfl, v, rfl⟩ | ⟨rfl, v, rfl⟩ | ⟨rfl, v, rfl⟩⟩
    · refine ⟨_, rfl, 2, 0, rfl, rfl, _, rfl, ?_⟩
      refine iteDT (by decide) ⟨fun σ' H'' => H'' = H' ∧ ∃ v, σ' = [some (.int 1), some (.int 2), some (.int 2), some (.int 1), some (.int 0), some (.int 1), v], fun σ' H'' n => ⟨1, by decide, n.1, .inr (.inl ⟨rfl, n.2⟩)⟩, ?_⟩
      exact ⟨_, rfl, _, rfl, 1, 2, rfl, rfl, ⟨by decide, by decide⟩, _, rfl, _, rfl, _, rfl, _, rfl, 0, 2, rfl, rfl, .inl ⟨by decide, by decide⟩, 1, _, rfl, rfl, _, _, rfl, _, rfl, _, rfl, _, rfl, _, rfl, 0, 0, rfl, rfl, .inl ⟨by decide, by decide⟩, 1, _, rfl, rfl, _, _, rfl, rfl, _, rfl⟩
    · refine ⟨_, rfl, 1, 0, rfl, rfl, _, rfl, ?_⟩
      refine iteDT (by decide) ⟨fun σ' H'' => H'' = H' ∧ ∃ v, σ' = [some (.int 1), some (.int 2), some (.int 1), some (.int 0), some (.int 1), some (.int (-2)), v], fun σ' H'' n => ⟨0, by decide, n.1, .inr (.inr ⟨rfl, n.2⟩)⟩, ?_⟩
      exact ⟨_, rfl, _, rfl, 2, 1, rfl, rfl, ⟨by decide, by decide⟩, _, rfl, _, rfl, _, rfl, _, rfl, 2, 1, rfl, rfl, .inl ⟨by decide, by decide⟩, 2, _, rfl, rfl, _, _, rfl, _, rfl, _, rfl, _, rfl, _, rfl, 2, 1, rfl, rfl, .inl ⟨by decide, by decide⟩, 0, _, rfl, rfl, _, _, rfl, rfl, _, rfl⟩
    · refine ⟨_, rfl, 0, 0, rfl, rfl, _, rfl, ?_⟩
      refine iteDF (by decide) ?_
      refine ⟨_, rfl, rfl, _, rfl, ?_⟩
      show if (!decide (V.int 1 = V.int 1)) = true then _ else _
      refine iteNS rfl ?_
      exact ⟨_, rfl, _, rfl, 1, 2, rfl, rfl, (by show (0 : Int) < 2; decide), q _ sm⟩
end
end Bf

namespace Bf
open PySem PySem.Spec PyProof.Rows L2
theorem small_line {n : Nat} (h : n ≤ 1000) : n ≤ sizeLine := Nat.le_of_lt (small1000 h)
section
variable {P : Program} {w : World} {K : PySem.W.Frag} {mg : Str → Option Value} {base : Heap}
theorem nats_at {cs : List Nat} {i : Nat} {x : V} (h : (cs.map natV)[i]? = some x) : ∃ c, cs[i]? = some c ∧ x = natV c := by
  rw [List.getElem?_map] at h
  cases e : cs[i]? with
  | none =>
    rw [e] at h
    cases h
  | some c =>
    rw [e] at h
    exact ⟨c, rfl, (Option.some.inj h).symm⟩
theorem srt_at {cs : List Nat} (s : cs.Pairwise (· < ·)) {i j a b : Nat} (h : i < j) (ha : cs[i]? = some a) (hb : cs[j]? = some b) : a < b := by
  obtain ⟨h1, e1⟩ := List.getElem?_eq_some_iff.mp ha
  obtain ⟨h2, e2⟩ := List.getElem?_eq_some_iff.mp hb
  have := List.pairwise_iff_getElem.mp s i j h1 h2 h
  rw [e1, e2] at this
  exact this

abbrev s_check_gate : Stmt := topS 16
theorem sc_check_gate : FnScope ["gate", "bits", "target", "controls", "last", "control"] ["gate", "bits"] (defScope s_check_gate) := ⟨rfl, rfl, rfl, by decide +kernel, rfl, by decide +kernel, by decide +kernel⟩
def spCheckGate : Sp := fun vs H Q _ => ∃ (p : Addr) (g : Gate) (N : Nat), vs = [.ref p, .int 120] ∧ GateAt H p g ∧ GateOk N g ∧ N ≤ 120 ∧ Q .non H
theorem ok_check_gate {f : Addr} {fd : FuncData} (F : Fun K "check_gate" "check_gate" s_check_gate f fd) (T : Txt mg) (G_is_number : Good P w K mg base "is_number" 2 ["value", "modulus"] spIsNum) : FnOk P w K mg base CX0 3 f fd ["gate", "bits"] spCheckGate := by
  refine F.ok sc_check_gate (fun vs H Q E h => ?_) (fun cdv A outer s H vs Q E hr h => ?_)
  · obtain ⟨p, g, N, rfl, _⟩ := h
    rfl
  · obtain ⟨p, g, N, rfl, ⟨q, h1, h2⟩, ok, hN, qq⟩ := h
    have ht := ok.tlt
    refine ⟨_, (pss_cons (ps_if (PW.pt (pw_or (pt_not (pt_val (pe_isi (T := "tuple") T.tuple T.isinstance (pv 0)))) (pw_or1 (pt_cmpR op_ne (pe_callB call_len_seq (by rfl) T.len PySem.boot_len (pa_cons (pv 0) pa_nil)) pe_int (nomark _)))))
        (pss_one ps_never)
        pss_nil)
      (pss_cons (ps_asg (pv 0) (pg_tup rfl (pgs_cons (pg_name (i := 2) sc_check_gate.nd rfl (Or.inl rfl)) (pgs_cons (pg_name (i := 3) sc_check_gate.nd rfl (Or.inl rfl)) pgs_nil))))
      (pss_cons (ps_if (PW.pt (pw_or (pt_not (pt_val (pe_callG G_is_number hr (pa_cons (pv 2) (pa_cons (pv 1) pa_nil))))) (pw_or1 (pt_not (pt_val (pe_isi (T := "tuple") T.tuple T.isinstance (pv 3)))))))
        (pss_one ps_never)
        pss_nil)
      (pss_cons (ps_set (i := 4) sc_check_gate.nd rfl (Or.inl rfl) (pe_un un_neg pe_int))
      (pss_one (ps_for PassesOwn.never rfl (pi_tup (pv 3)) (pg_name (i := 5) sc_check_gate.nd rfl (Or.inl rfl))
        (pss_cons (ps_if (PW.pt (pw_or (pt_not (pt_val (pe_callG G_is_number hr (pa_cons (pv 5) (pa_cons (pv 1) pa_nil))))) (pw_or (pt_cmpR op_le (pv 5) (pv 4) (nomark _)) (pw_or1 (pt_cmpR op_eq (pv 5) (pv 2) (nomark _))))))
          (pss_one ps_never)
          pss_nil)
        (pss_one (ps_set (i := 4) sc_check_gate.nd rfl (Or.inl rfl) (pv 5)))))))))), ?_⟩
    refine ⟨_, rfl, isi_tup_tuple h1 ⟨true, rfl, iteF ⟨_, rfl, p, _, rfl, .inr (SqT.of h1), rfl, _, rfl, iteNS rfl ?_⟩⟩⟩
    refine ⟨_, rfl, p, _, rfl, SqT.of h1, rfl, _, _, rfl, _, _, rfl, rfl, ?_⟩
    refine ⟨_, rfl, _, rfl, (g.t : Int), 120, rfl, by omega, by omega, true, rfl, iteF ⟨_, rfl, isi_tup_tuple h2 ⟨true, rfl, iteF ?_⟩⟩⟩
    refine ⟨1, rfl, ?_⟩
    refine ⟨_, rfl, q, rfl, ⟨_, SqT.of h2⟩, for_tup (K := K) (a := q) (xs := g.cs.map natV) (fun i σ H' => H' = H ∧ ∃ (l : Int) (v : Option V), σ = [some (.ref p), some (.int 120), some (natV g.t), some (.ref q), some (.int l), v] ∧ ∀ (j c : Nat), i ≤ j → g.cs[j]? = some c → l < (c : Int))
      ⟨rfl, -1, none, rfl, fun j c _ _ => by omega⟩ (fun i σ H' _ e => by rw [e.1]; exact SqT.of h2) ?_ ?_⟩
    · rintro i x σ H' hx ⟨rfl, l, v, rfl, hl⟩
      obtain ⟨c, hc, rfl⟩ := nats_at hx
      have cm : c ∈ g.cs := List.mem_of_getElem? hc
      have c1 := ok.clt c cm
      have c2 := hl i c (Nat.le_refl _) hc
      have c3 : c ≠ g.t := fun e => ok.nt (by rw [← e]; exact cm)
      refine ⟨_, rfl, _, rfl, (c : Int), 120, rfl, by omega, by omega, true, rfl, iteF ⟨_, rfl, _, rfl, (c : Int), l, rfl, rfl, _, rfl, iteDF (by omega) ⟨_, rfl, _, rfl, rfl, _, rfl, iteDF ?_ ?_⟩⟩⟩
      · intro e
        have e' : (c : Int) = (g.t : Int) := V.int.inj e
        omega
      · refine ⟨_, rfl, rfl, (c : Int), _, rfl, fun j d hj hd => ?_⟩
        have := srt_at ok.srt (show i < j by omega) hc hd
        omega
    · rintro σ H' ⟨rfl, _⟩
      exact qq

abbrev s_check_bits : Stmt := topS 17
theorem sc_check_bits : FnScope ["bits", "bit"] ["bits"] (defScope s_check_bits) := ⟨rfl, rfl, rfl, by decide +kernel, rfl, by decide +kernel, by decide +kernel⟩
def spCheckBits : Sp := fun vs H Q _ => ∃ (B : Addr) (bs : List Bool), vs = [.ref B] ∧ H B = some (.lst (bs.map V.bl)) ∧ Q .non H
theorem ok_check_bits {f : Addr} {fd : FuncData} (F : Fun K "check_bits" "check_bits" s_check_bits f fd) (T : Txt mg) : FnOk P w K mg base CX0 1 f fd ["bits"] spCheckBits := by
  refine F.ok sc_check_bits (fun vs H Q E h => ?_) (fun cdv A outer s H vs Q E hr h => ?_)
  · obtain ⟨B, bs, rfl, _⟩ := h
    rfl
  · obtain ⟨B, bs, rfl, hB, q⟩ := h
    refine ⟨_, (pss_cons (ps_if (pt_not (pt_val (pe_isi (T := "list") T.list T.isinstance (pv 0))))
        (pss_one ps_never)
        pss_nil)
      (pss_one (ps_for PassesOwn.never rfl (pi_list (pv 0)) (pg_name (i := 1) sc_check_bits.nd rfl (Or.inl rfl))
        (pss_one (ps_if (pt_not (pt_val (pe_isi (T := "bool") T.bool T.isinstance (pv 1))))
          (pss_one ps_never)
          pss_nil))))), ?_⟩
    refine ⟨_, rfl, isi_lst_list hB ⟨true, rfl, iteF ?_⟩⟩
    refine ⟨_, rfl, B, rfl, ⟨_, SqL.of hB⟩, for_list (K := K) (a := B) (xs := bs.map V.bl) (fun i σ H' => H' = H ∧ ∃ v : Option V, σ = [some (.ref B), v]) ⟨rfl, none, rfl⟩ (fun i σ H' _ e => by rw [e.1]; exact SqL.of hB) ?_ ?_⟩
    · rintro i x σ H' hx ⟨rfl, v, rfl⟩
      obtain ⟨b, rfl⟩ : ∃ b, x = V.bl b := by
        rw [List.getElem?_map] at hx
        cases e : bs[i]? with
        | none =>
          rw [e] at hx
          cases hx
        | some b =>
          rw [e] at hx
          exact ⟨b, (Option.some.inj hx).symm⟩
      exact ⟨_, rfl, isi_bl_bool ⟨true, rfl, iteF ⟨rfl, _, rfl⟩⟩⟩
    · rintro σ H' ⟨rfl, _⟩
      exact q

abbrev s_performG : Stmt := topS 18
theorem sc_performG : FnScope ["gates", "bits", "gate", "found", "target", "controls", "control"] ["gates", "bits"] (defScope s_performG) := ⟨rfl, rfl, rfl, by decide +kernel, rfl, by decide +kernel, by decide +kernel⟩
def spPerformG : Sp := fun vs H Q _ => ∃ (G B : Addr) (ps : List Addr) (gts : List Gate) (bs : List Bool), vs = [.ref G, .ref B] ∧ H G = some (.lst (ps.map V.ref)) ∧ GatesAt H ps gts ∧ (∀ g ∈ gts, GateOk bs.length g) ∧ gts.length ≤ 60 ∧
  H B = some (.lst (bs.map V.bl)) ∧ bs.length ≤ 120 ∧ ∀ H' p, Same H H' → H p = none → H' p = some (.lst ((performB gts bs).map V.bl)) → Q (.ref p) H'
theorem ok_performG {f : Addr} {fd : FuncData} (F : Fun K "perform" "perform" s_performG f fd) (T : Txt mg) (G_check_gate : Good P w K mg base "check_gate" 3 ["gate", "bits"] spCheckGate) (G_check_bits : Good P w K mg base "check_bits" 1 ["bits"] spCheckBits) :
    FnOk P w K mg base CX0 4 f fd ["gates", "bits"] spPerformG := by
  refine F.ok sc_performG (fun vs H Q E h => ?_) (fun cdv A outer s H vs Q E hr h => ?_)
  · obtain ⟨G, B, ps, gts, bs, rfl, _⟩ := h
    rfl
  · obtain ⟨G, B, ps, gts, bs, rfl, hG, hA, hok, hlen, hB, hN, q⟩ := h
    have lps : (ps.map V.ref).length = gts.length := by rw [List.length_map]; exact hA.1
    refine ⟨_, (pss_cons (ps_if (PW.pt (pw_or (pt_not (pt_val (pe_isi (T := "list") T.list T.isinstance (pv 0)))) (pw_or1 (pt_cmpR op_gt (pe_callB call_len_seq (by rfl) T.len PySem.boot_len (pa_cons (pv 0) pa_nil)) (pe_gint T.cMOST) (nomark _)))))
        (pss_one ps_never)
        pss_nil)
      (pss_cons (ps_for PassesOwn.never rfl (pi_list (pv 0)) (pg_name (i := 2) sc_performG.nd rfl (Or.inl rfl))
        (pss_one (ps_expr (pe_callG G_check_gate hr (pa_cons (pv 2) (pa_cons (pe_gint T.cBITS) pa_nil))))))
      (pss_cons (ps_expr (pe_callG G_check_bits hr (pa_cons (pv 1) pa_nil)))
      (pss_cons (ps_set (i := 3) sc_performG.nd rfl (Or.inr rfl) (pe_callTy call_list_of (by rfl) T.list (by decide +kernel) (pa_cons (pv 1) pa_nil)))
      (pss_cons (ps_for PassesOwn.never rfl (pi_list (pv 0)) (pg_tup rfl (pgs_cons (pg_name (i := 4) sc_performG.nd rfl (Or.inl rfl)) (pgs_cons (pg_name (i := 5) sc_performG.nd rfl (Or.inl rfl)) pgs_nil)))
        (pss_one (ps_if (pt_cmpR op_ge (pe_callB (cr_maxT rfl hr) (by rfl) T.max (by decide +kernel) (pa_cons (pe_op op_catT (pe_tup (pa_cons (pv 4) pa_nil)) (pv 5)) pa_nil)) (pe_callB call_len_seq (by rfl) T.len PySem.boot_len (pa_cons (pv 3) pa_nil)) (nomark _))
          (pss_one ps_never)
          pss_nil)))
      (pss_cons (ps_for PassesOwn.never rfl (pi_list (pv 0)) (pg_tup rfl (pgs_cons (pg_name (i := 4) sc_performG.nd rfl (Or.inl rfl)) (pgs_cons (pg_name (i := 5) sc_performG.nd rfl (Or.inl rfl)) pgs_nil)))
        (pss_one (ps_if (pt_val (pe_callB (cr_all rfl) (by rfl) T.all (by decide +kernel) (pa_cons (pe_lc (te := (tOp (rIxL K) (tVar 3) (tVar 6))) (own := [("control", 6)]) (g := gName 6) (tt := tYes) rfl sc_performG.nd (pi_tup (pv 5)) (blkOk_by (own := [("control", 6)]) (N := ["gates", "bits", "gate", "found", "target", "controls", "control"]) (sc := defScope s_performG) (by decide +kernel)) (fun _ _ _ _ _ => pg_name (i := 6) sc_performG.nd rfl (Or.inl rfl)) (fun _ _ _ _ _ => pts_nil) (fun _ _ _ _ _ => (pe_ix ix_list (pv 3) (pv 6) (fun _ _ => rfl)))) pa_nil)))
          (pss_one (ps_asg (pe_not (pe_ix ix_list (pv 3) (pv 4) (fun _ _ => rfl))) (pg_sub (pv 3) (pv 4) set_list)))
          pss_nil)))
      (pss_one (ps_ret (pv 3))))))))), ?_⟩
    refine ⟨_, rfl, isi_lst_list hG ⟨true, rfl, iteF ⟨_, rfl, G, _, rfl, .inl (SqL.of hG), _, 60000, rfl, rfl, _, rfl, iteDF (by rw [lps]; omega) ?_⟩⟩⟩
    refine ⟨_, rfl, G, rfl, ⟨_, SqL.of hG⟩, for_list (K := K) (a := G) (xs := ps.map V.ref) (fun i σ H' => H' = H ∧ ∃ v : Option V, σ = [some (.ref G), some (.ref B), v, none, none, none, none]) ⟨rfl, none, rfl⟩ (fun i σ H' _ e => by rw [e.1]; exact SqL.of hG) ?_ ?_⟩
    · rintro i x σ H' hx ⟨rfl, v, rfl⟩
      obtain ⟨p, g, rfl, _, hg, ga⟩ := hA.at hx
      exact ⟨_, rfl, p, g, bs.length, rfl, ga, hok g (List.mem_of_getElem? hg), hN, rfl, _, rfl⟩
    · rintro σ H' ⟨rfl, y2, rfl⟩
      refine ⟨_, rfl, B, bs, rfl, hB, ?_⟩
      refine ⟨_, rfl, B, _, rfl, .inl (SqL.of hB), fun L nL => ?_⟩
      have s1 : Same H' (upd H' L (.lst (bs.map V.bl))) := same_new nL
      have eL : (upd H' L (.lst (bs.map V.bl))) L = some (.lst (bs.map V.bl)) := upd_same
      generalize upd H' L (.lst (bs.map V.bl)) = H1 at s1 eL ⊢
      refine ⟨_, rfl, G, rfl, ⟨_, SqL.of (s1 _ _ hG)⟩, for_list (K := K) (a := G) (xs := ps.map V.ref) (fun i σ H2 => Same H1 H2 ∧ ∃ y4 y5 : Option V, σ = [some (.ref G), some (.ref B), y2, some (.ref L), y4, y5, none]) ⟨Same.refl _, none, none, rfl⟩
        (fun i σ H2 _ e => SqL.of (e.1 _ _ (s1 _ _ hG))) ?_ ?_⟩
      · rintro i x σ H2 hx ⟨s2, y4, y5, rfl⟩
        obtain ⟨p, g, rfl, _, hg, c, ga1, ga2⟩ := hA.at hx
        have ok := hok g (List.mem_of_getElem? hg)
        have gp := s2 _ _ (s1 _ _ ga1)
        have gc := s2 _ _ (s1 _ _ ga2)
        have hlt : ∀ m, m ∈ (g.t : Int) :: g.cs.map (fun c : Nat => (c : Int)) → ¬ ((bs.map V.bl).length : Int) ≤ m := by
          intro m hm
          rw [List.length_map]
          rcases List.mem_cons.mp hm with rfl | hm
          · have := ok.tlt
            omega
          · obtain ⟨d, hd, rfl⟩ := List.mem_map.mp hm
            have := ok.clt d hd
            omega
        have csl : g.cs.length ≤ 120 := by
          have hle : ∀ (cs : List Nat) (lo : Nat), (∀ c ∈ cs, lo ≤ c ∧ c < bs.length) → cs.Pairwise (· < ·) → lo + cs.length ≤ bs.length ∨ cs = [] := by
            intro cs
            induction cs with
            | nil => intro _ _ _; exact .inr rfl
            | cons a r ih =>
              intro lo hb hs
              have ha := hb a List.mem_cons_self
              rcases ih (a + 1) (fun c hc => ⟨(List.pairwise_cons.mp hs).1 c hc, (hb c (List.mem_cons_of_mem _ hc)).2⟩) (List.pairwise_cons.mp hs).2 with h | h
              · left
                rw [List.length_cons]
                omega
              · subst h
                left
                rw [List.length_cons, List.length_nil]
                omega
          rcases hle g.cs 0 (fun c hc => ⟨Nat.zero_le _, ok.clt c hc⟩) ok.srt with h | h
          · omega
          · rw [h]
            exact Nat.zero_le _
        refine ⟨p, _, rfl, SqT.of gp, rfl, _, _, rfl, _, _, rfl, rfl, ?_⟩
        refine ⟨_, rfl, (by show 1 ≤ sizeLine; decide), fun p1 n1 => ⟨_, rfl, p1, c, [natV g.t], g.cs.map natV, rfl, rfl, SqT.of upd_same, SqT.of (by rw [upd_ne (ne_of_none gc n1)]; exact gc), fun z => (nomatch z), small_line (by rw [List.length_map]; show 1 + g.cs.length ≤ 1000; omega), fun e => ?_, fun ne p2 n2 => ?_⟩⟩
        · have ec : g.cs = [] := List.map_eq_nil_iff.mp e
          refine ⟨p1, (g.t : Int), [], rfl, SqT.of upd_same, fun m hm => ?_⟩
          have := hlt m (by rcases List.mem_cons.mp hm with rfl | hm; exact List.mem_cons_self; cases hm)
          have s3 : Same H2 (upd H2 p1 (.tup [natV g.t])) := same_new n1
          refine ⟨_, rfl, L, _, rfl, .inl (SqL.of (s3 _ _ (s2 _ _ eL))), m, _, rfl, rfl, _, rfl, iteDF this ?_⟩
          exact ⟨s2.trans s3, _, _, rfl⟩
        · refine ⟨p2, (g.t : Int), g.cs.map (fun c : Nat => (c : Int)), rfl, SqT.of (by rw [upd_same, List.map_cons, List.map_map]; rfl), fun m hm => ?_⟩
          have := hlt m hm
          have s3 : Same H2 (upd H2 p1 (.tup [natV g.t])) := same_new n1
          have s4 := s3.trans (same_new (o := .tup ([natV g.t] ++ g.cs.map natV)) n2)
          refine ⟨_, rfl, L, _, rfl, .inl (SqL.of (s4 _ _ (s2 _ _ eL))), m, _, rfl, rfl, _, rfl, iteDF this ?_⟩
          exact ⟨s2.trans s4, _, _, rfl⟩
      · rintro σ H2 ⟨s2, y4, y5, rfl⟩
        have hG2 := s2 _ _ (s1 _ _ hG)
        have sm2 : Same H' H2 := s1.trans s2
        have eL2 := s2 _ _ eL
        clear s2 s1 eL
        refine ⟨_, rfl, G, rfl, ⟨_, SqL.of hG2⟩, for_list (K := K) (a := G) (xs := ps.map V.ref) (fun i σ H3 => Same H' H3 ∧ H3 L = some (.lst ((performB (gts.take i) bs).map V.bl)) ∧ ∃ y4 y5 : Option V, σ = [some (.ref G), some (.ref B), y2, some (.ref L), y4, y5, none]) ⟨sm2, eL2, _, _, rfl⟩
          (fun i σ H3 _ e => SqL.of (e.1 _ _ hG)) ?_ ?_⟩
        · rintro i x σ H3 hx ⟨s3, eL3, z4, z5, rfl⟩
          obtain ⟨p, g, rfl, _, hg, c, ga1, ga2⟩ := hA.at hx
          have ok := hok g (List.mem_of_getElem? hg)
          have gp := s3 _ _ ga1
          have gc := s3 _ _ ga2
          have step := performB_take bs hg
          have hcur : (performB (gts.take i) bs).length = bs.length := performB_len _ _
          generalize performB (gts.take i) bs = cur at eL3 step hcur
          refine ⟨p, _, rfl, SqT.of gp, rfl, _, _, rfl, _, _, rfl, rfl, ?_⟩
          refine ⟨_, rfl, c, rfl, ⟨_, SqT.of gc⟩, fun D nD => lc_tup (K := K) (a := c) (xs := g.cs.map natV) (fun j H4 => Same H3 H4 ∧ H4 D = some (.lst ((g.cs.take j).map fun c => V.bl (cur.getD c false)))) ⟨same_new nD, upd_same⟩ (fun j H4 _ e => SqT.of (e.1 _ _ gc)) ?_ ?_⟩
          · rintro j x H4 hx ⟨s4, eD⟩
            obtain ⟨d, hd, rfl⟩ := nats_at hx
            have dl := ok.clt d (List.mem_of_getElem? hd)
            refine ⟨rfl, _, rfl, _, rfl, L, _, (d : Int), _, rfl, rfl, SqL.of (s4 _ _ eL3), at_nat (bls_get (by rw [hcur]; exact dl)), _, eD, ?_, same_late s4 nD, ?_⟩
            · rw [List.length_map, List.length_take]
              have jl : j < g.cs.length := (List.getElem?_eq_some_iff.mp hd).1
              refine small1000 (Nat.le_trans (Nat.min_le_left _ _) ?_)
              have hle : ∀ (cs : List Nat) (lo : Nat), (∀ c ∈ cs, lo ≤ c ∧ c < bs.length) → cs.Pairwise (· < ·) → lo + cs.length ≤ bs.length ∨ cs = [] := by
                intro cs
                induction cs with
                | nil => intro _ _ _; exact .inr rfl
                | cons a r ih =>
                  intro lo hb hs
                  have ha := hb a List.mem_cons_self
                  rcases ih (a + 1) (fun c hc => ⟨(List.pairwise_cons.mp hs).1 c hc, (hb c (List.mem_cons_of_mem _ hc)).2⟩) (List.pairwise_cons.mp hs).2 with h | h
                  · left
                    rw [List.length_cons]
                    omega
                  · subst h
                    left
                    rw [List.length_cons, List.length_nil]
                    omega
              rcases hle g.cs 0 (fun c hc => ⟨Nat.zero_le _, ok.clt c hc⟩) ok.srt with h | h
              · omega
              · rw [h] at jl
                cases jl
            · rw [upd_same, List.take_add_one, hd, List.map_append]
              rfl
          · rintro H4 ⟨s4, eD⟩
            rw [List.length_map, List.take_length] at eD
            have eL4 := s4 _ _ eL3
            have sm4 : Same H' H4 := s3.trans s4
            have eAll : (g.cs.map fun c => cur.getD c false).all id = g.cs.all (fun c => cur.getD c false) := by
              rw [List.all_map]
              rfl
            refine ⟨D, g.cs.map fun c => cur.getD c false, rfl, SqL.of (by rw [eD, List.map_map]; rfl), _, rfl, ?_⟩
            show if ((g.cs.map fun c => cur.getD c false).all id) = true then _ else _
            refine ite2 (fun ht => ?_) (fun hf => ?_)
            · rw [eAll] at ht
              have e1 : gateB cur g = cur.set g.t (!cur.getD g.t false) := by
                unfold gateB
                rw [if_pos ht]
              have htl : g.t < cur.length := by rw [hcur]; exact ok.tlt
              refine ⟨_, rfl, _, rfl, L, _, (g.t : Int), _, rfl, rfl, SqL.of eL4, at_nat (bls_get htl), _, rfl, _, rfl, _, rfl, L, _, (g.t : Int), g.t, rfl, rfl, eL4, ixN_nat (by rw [List.length_map]; exact htl), ?_⟩
              refine ⟨same_late sm4 nL, ?_, _, _, rfl⟩
              rw [upd_same, step, e1, List.map_set]
            · rw [eAll] at hf
              have e1 : gateB cur g = cur := by
                unfold gateB
                rw [if_neg hf]
              exact ⟨sm4, by rw [step, e1]; exact eL4, _, _, rfl⟩
        · rintro σ H3 ⟨s3, eL3, z4, z5, rfl⟩
          rw [lps, List.take_length] at eL3
          exact ⟨_, rfl, q H3 L s3 nL eL3⟩
end
end Bf

namespace Bf
open PySem PySem.Spec PyProof.Rows L2
theorem tups_lst {H : Hp} {L : Addr} {xs : List V} {o : HO} (h : H L = some (.lst xs)) : Tups H (upd H L o) := fun b ys e => by
  rw [upd_ne (ne_of e h (by intro q; cases q))]
  exact e
theorem tups_new {H : Hp} {p : Addr} {o : HO} (h : H p = none) : Tups H (upd H p o) := tups_of (same_new h)
theorem ne_add_swap : ¬ (V.str "add" = V.str "swap") := by decide +kernel
theorem ne_add_scale : ¬ (V.str "add" = V.str "scale") := by decide +kernel
theorem ne_scale_swap : ¬ (V.str "scale" = V.str "swap") := by decide +kernel
theorem ne_scale_add : ¬ (V.str "scale" = V.str "add") := by decide +kernel
theorem ne_swap_add : ¬ (V.str "swap" = V.str "add") := by decide +kernel
theorem ne_swap_scale : ¬ (V.str "swap" = V.str "scale") := by decide +kernel
theorem ne_add_table : ¬ (V.str "add" = V.str "table") := by decide +kernel
theorem ne_scale_table : ¬ (V.str "scale" = V.str "table") := by decide +kernel
theorem ne_swap_table : ¬ (V.str "swap" = V.str "table") := by decide +kernel
theorem ne_input_cell : ¬ (V.str "input" = V.str "cell") := by decide +kernel
theorem inV_nat (c : Nat) : ∀ cs : List Nat, inV (natV c) (cs.map natV) = decide (c ∈ cs)
  | [] => by simp [inV]
  | d :: r => by
    have ih := inV_nat c r
    have e : inV (natV c) ((d :: r).map natV) = (eqV (natV d) (natV c) || inV (natV c) (r.map natV)) := rfl
    rw [e, ih]
    have e2 : eqV (natV d) (natV c) = ((d : Int) == (c : Int)) := rfl
    rw [e2, Bool.eq_iff_iff]
    simp only [Bool.or_eq_true, beq_iff_eq, decide_eq_true_eq, List.mem_cons]
    constructor
    · rintro (h | h)
      · left; omega
      · exact .inr h
    · rintro (h | h)
      · left; omega
      · exact .inr h
theorem flat_nats (cs : List Nat) : (cs.map natV).all flatV = true := by
  rw [List.all_eq_true]
  intro x hx
  obtain ⟨c, _, rfl⟩ := List.mem_map.mp hx
  rfl
theorem nats_ints (cs : List Nat) : cs.map natV = (cs.map (fun c : Nat => (c : Int))).map V.int := by
  rw [List.map_map]
  rfl
/-- the sorted list of different numbers -/
theorem sorted_nats {cs : List Nat} {ns : List Int} (nd : cs.Nodup) (p : ns.Perm (cs.map (fun c : Nat => (c : Int)))) (s : ns.Pairwise (· ≤ ·)) :
    ∃ ds : List Nat, ns = ds.map (fun c : Nat => (c : Int)) ∧ ds.Pairwise (· < ·) ∧ ∀ c, c ∈ ds ↔ c ∈ cs := by
  have hm : ∀ x ∈ ns, ∃ c ∈ cs, (c : Int) = x := fun x hx => List.mem_map.mp (p.mem_iff.mp hx)
  have e : ns = (ns.map Int.toNat).map (fun c : Nat => (c : Int)) := by
    rw [List.map_map]
    refine (List.map_id ns).symm.trans (List.map_congr_left fun x hx => ?_)
    obtain ⟨c, _, rfl⟩ := hm x hx
    rfl
  have nd2 : ns.Nodup := by
    refine p.nodup_iff.mpr ?_
    rw [List.nodup_iff_pairwise_ne, List.pairwise_map]
    exact (List.nodup_iff_pairwise_ne.mp nd).imp fun {a b} h q => h (by have : (a : Int) = (b : Int) := q; omega)
  have s2 : ns.Pairwise (· < ·) := (s.and (List.nodup_iff_pairwise_ne.mp nd2)).imp fun {a b} h => by
    have h1 := h.1
    have h2 : a ≠ b := h.2
    omega
  refine ⟨ns.map Int.toNat, e, ?_, fun c => ⟨fun h => ?_, fun h => ?_⟩⟩
  · rw [List.pairwise_map]
    refine s2.imp_of_mem fun {a b} ha hb h => ?_
    obtain ⟨c, _, rfl⟩ := hm a ha
    obtain ⟨d, _, rfl⟩ := hm b hb
    show c < d
    omega
  · obtain ⟨x, hx, rfl⟩ := List.mem_map.mp h
    obtain ⟨d, hd, rfl⟩ := hm x hx
    exact hd
  · exact List.mem_map.mpr ⟨(c : Int), p.mem_iff.mpr (List.mem_map.mpr ⟨c, h, rfl⟩), rfl⟩
theorem one_ok {p : Addr} {H : Hp} {g : Gate} (h : GateAt H p g) : GatesAt H [p] [g] := Are.one h

section
variable {P : Program} {w : World} {K : PySem.W.Frag} {mg : Str → Option Value} {base : Heap}
abbrev s_gates_of_step : Stmt := topS 20
theorem sc_gates_of_step : FnScope ["step", "inputs", "a", "b", "controls", "kind", "index", "bit"] ["step", "inputs"] (defScope s_gates_of_step) := ⟨rfl, rfl, rfl, by decide +kernel, rfl, by decide +kernel, by decide +kernel⟩
def spGatesStep : Sp := fun vs H Q _ => ∃ (p : Addr) (k n : Nat) (st : Stp), vs = [.ref p, .int (k : Int)] ∧ StpAt H p st ∧ StpOk n k st ∧ k + n ≤ 120 ∧
  ∀ H' G ps gts, Same H H' → H G = none → H' G = some (.lst (ps.map V.ref)) → GatesAt H' ps gts → (∀ g ∈ gts, GateOk (k + n) g) → gts.length ≤ 3 → Does k n gts (fun gs ms => stepB gs ms st) → Q (.ref G) H'
theorem ok_gates_of_step {f : Addr} {fd : FuncData} (F : Fun K "gates_of_step" "gates_of_step" s_gates_of_step f fd) (T : Txt mg) : FnOk P w K mg base CX0 1 f fd ["step", "inputs"] spGatesStep := by
  refine F.ok sc_gates_of_step (fun vs H Q E h => ?_) (fun cdv A outer s H vs Q E hr h => ?_)
  · obtain ⟨p, k, n, st, rfl, _⟩ := h
    rfl
  · obtain ⟨p, k, n, st, rfl, hp, hok, hkn, q⟩ := h
    refine ⟨_, (pss_cons (ps_if (pt_cmpR op_eq (pe_ix ix_tup (pv 0) pe_int (fun _ _ => rfl)) pe_str (nomark _))
        (pss_cons (ps_par (i := 2) (j := 3) (by rfl) sc_gates_of_step.nd rfl rfl (by decide) rfl rfl (pa_cons (pe_op op_add (pv 1) (pe_ix ix_tup (pv 0) pe_int (fun _ _ => rfl))) (pa_cons (pe_op op_add (pv 1) (pe_ix ix_tup (pv 0) pe_int (fun _ _ => rfl))) pa_nil)) (by rfl))
        (pss_one (ps_ret (pe_lst (pa_cons (pe_tup (pa_cons (pv 2) (pa_cons (pe_tup (pa_cons (pv 3) pa_nil)) pa_nil))) (pa_cons (pe_tup (pa_cons (pv 3) (pa_cons (pe_tup (pa_cons (pv 2) pa_nil)) pa_nil))) (pa_cons (pe_tup (pa_cons (pv 2) (pa_cons (pe_tup (pa_cons (pv 3) pa_nil)) pa_nil))) pa_nil)))))))
        pss_nil)
      (pss_cons (ps_if (PW.pt (pw_or (pt_cmpR op_ne (pe_ix ix_tup (pv 0) pe_int (fun _ _ => rfl)) pe_str (nomark _)) (pw_or1 (pt_cmpR op_eq (pe_ix ix_tup (pv 0) pe_int (fun _ _ => rfl)) pe_int (nomark _)))))
        (pss_one (ps_ret (pe_lst pa_nil)))
        pss_nil)
      (pss_cons (ps_set (i := 4) sc_gates_of_step.nd rfl (Or.inl rfl) (pe_lst pa_nil))
      (pss_cons (ps_for PassesOwn.never rfl (pi_tup (pe_ix ix_tup (pv 0) pe_int (fun _ _ => rfl))) (pg_tup rfl (pgs_cons (pg_name (i := 5) sc_gates_of_step.nd rfl (Or.inl rfl)) (pgs_cons (pg_name (i := 6) sc_gates_of_step.nd rfl (Or.inl rfl)) pgs_nil)))
        (pss_cons (ps_set (i := 7) sc_gates_of_step.nd rfl (Or.inl rfl) (pe_ifExp (pt_cmpR op_eq (pv 5) pe_str (nomark _)) (pe_op op_add (pv 1) (pv 6)) (pv 6)))
        (pss_one (ps_if (pt_cmpR op_notIn_seq (pv 7) (pv 4) (by rfl))
          (pss_one (ps_expr (pe_bm PySem.F.plainAttrs_list PySem.F.slot_list_append PySem.F.type_list_append mt_append (pv 4) (pa_cons (pv 7) pa_nil))))
          pss_nil))))
      (pss_one (ps_ret (pe_lst (pa_cons (pe_tup (pa_cons (pe_op op_add (pv 1) (pe_ix ix_tup (pv 0) pe_int (fun _ _ => rfl))) (pa_cons (pe_callTy call_tuple_of (by rfl) T.tuple (by decide +kernel) (pa_cons (pe_callB cr_sorted (by rfl) T.sorted (by decide +kernel) (pa_cons (pv 4) pa_nil)) pa_nil)) pa_nil))) pa_nil)))))))), ?_⟩
    cases st with
    | swap a b =>
      obtain ⟨ha, hb, hne⟩ := hok
      have hp : H p = some (.tup [.str "swap", .int (a : Int), .int (b : Int)]) := hp
      refine ⟨_, rfl, p, _, 0, _, rfl, rfl, SqT.of hp, at_nat (j := 0) rfl, rfl, _, rfl, iteDT rfl ?_⟩
      refine ⟨_, rfl, _, rfl, p, _, 1, _, rfl, rfl, SqT.of hp, at_nat (j := 1) rfl, (k : Int), (a : Int), rfl, rfl, _, rfl, _, rfl, p, _, 2, _, rfl, rfl, SqT.of hp, at_nat (j := 2) rfl, (k : Int), (b : Int), rfl, rfl, _, _, rfl, ?_⟩
      refine ⟨natV (k + a), rfl, natV (k + b), rfl, (by show 1 ≤ sizeLine; decide), fun q1 n1 => ?_⟩
      have s1 : Same H (upd H q1 (.tup [natV (k + b)])) := same_new n1
      have e1 : (upd H q1 (.tup [natV (k + b)])) q1 = _ := upd_same
      generalize upd H q1 (.tup [natV (k + b)]) = H1 at s1 e1 ⊢
      refine ⟨(by show 2 ≤ sizeLine; decide), fun p1 m1 => ?_⟩
      have t1 : Same H1 (upd H1 p1 (.tup [natV (k + a), .ref q1])) := same_new m1
      have g1 : (upd H1 p1 (.tup [natV (k + a), .ref q1])) p1 = _ := upd_same
      generalize upd H1 p1 (.tup [natV (k + a), .ref q1]) = H2 at t1 g1 ⊢
      refine ⟨natV (k + b), rfl, natV (k + a), rfl, (by show 1 ≤ sizeLine; decide), fun q2 n2 => ?_⟩
      have s2 : Same H2 (upd H2 q2 (.tup [natV (k + a)])) := same_new n2
      have e2 : (upd H2 q2 (.tup [natV (k + a)])) q2 = _ := upd_same
      generalize upd H2 q2 (.tup [natV (k + a)]) = H3 at s2 e2 ⊢
      refine ⟨(by show 2 ≤ sizeLine; decide), fun p2 m2 => ?_⟩
      have t2 : Same H3 (upd H3 p2 (.tup [natV (k + b), .ref q2])) := same_new m2
      have g2 : (upd H3 p2 (.tup [natV (k + b), .ref q2])) p2 = _ := upd_same
      generalize upd H3 p2 (.tup [natV (k + b), .ref q2]) = H4 at t2 g2 ⊢
      refine ⟨natV (k + a), rfl, natV (k + b), rfl, (by show 1 ≤ sizeLine; decide), fun q3 n3 => ?_⟩
      have s3 : Same H4 (upd H4 q3 (.tup [natV (k + b)])) := same_new n3
      have e3 : (upd H4 q3 (.tup [natV (k + b)])) q3 = _ := upd_same
      generalize upd H4 q3 (.tup [natV (k + b)]) = H5 at s3 e3 ⊢
      refine ⟨(by show 2 ≤ sizeLine; decide), fun p3 m3 => ?_⟩
      have t3 : Same H5 (upd H5 p3 (.tup [natV (k + a), .ref q3])) := same_new m3
      have g3 : (upd H5 p3 (.tup [natV (k + a), .ref q3])) p3 = _ := upd_same
      generalize upd H5 p3 (.tup [natV (k + a), .ref q3]) = H6 at t3 g3 ⊢
      refine ⟨(by show 3 ≤ sizeLine; decide), fun G nG => ?_⟩
      have sG : Same H6 (upd H6 G (.lst [.ref p1, .ref p2, .ref p3])) := same_new nG
      have c6 := sG
      have c5 := t3.trans c6
      have c4 := s3.trans c5
      have c3 := t2.trans c4
      have c2 := s2.trans c3
      have c1 := t1.trans c2
      have c0 := s1.trans c1
      have nG0 : H G = none := (s1.trans (t1.trans (s2.trans (t2.trans (s3.trans t3))))).free nG
      have one : ∀ {t c : Nat}, t < n → c < n → c ≠ t → GateOk (k + n) ⟨k + t, [k + c]⟩ := fun {t c} ht hc hn => ⟨by show k + t < k + n; omega, fun d hd => by rw [List.mem_singleton.mp hd]; omega, List.pairwise_singleton _ _, fun hd => by have : k + t = k + c := List.mem_singleton.mp hd; omega⟩
      refine q _ G [p1, p2, p3] [⟨k + a, [k + b]⟩, ⟨k + b, [k + a]⟩, ⟨k + a, [k + b]⟩] c0 nG0 upd_same (Are.append (Are.one ⟨q1, c2 _ _ g1, c1 _ _ e1⟩) (Are.append (Are.one ⟨q2, c4 _ _ g2, c3 _ _ e2⟩) (Are.one ⟨q3, c6 _ _ g3, c5 _ _ e3⟩))) ?_ (Nat.le_refl 3) ?_
      · intro g hg
        rcases List.mem_cons.mp hg with rfl | hg
        · exact one ha hb (Ne.symm hne)
        · rcases List.mem_cons.mp hg with rfl | hg
          · exact one hb ha hne
          · rw [List.mem_singleton.mp hg]
            exact one ha hb (Ne.symm hne)
      · intro gs ms hg hm
        exact swap_gates hg (by rw [hm]; exact ha) (by rw [hm]; exact hb) hne
    | scale t =>
      have hp : H p = some (.tup [.str "scale", .int (t : Int), .int 1]) := hp
      refine ⟨_, rfl, p, _, 0, _, rfl, rfl, SqT.of hp, at_nat (j := 0) rfl, rfl, _, rfl, iteDF ne_scale_swap ?_⟩
      refine ⟨_, rfl, p, _, 0, _, rfl, rfl, SqT.of hp, at_nat (j := 0) rfl, rfl, _, rfl, iteNT ne_scale_add (iteT ?_)⟩
      refine ⟨Nat.zero_le _, fun G nG => ?_⟩
      exact q _ G [] [] (same_new nG) nG upd_same Are.nil (fun g hg => nomatch hg) (Nat.zero_le _) fun gs ms _ _ => rfl
    | add t c fs =>
      obtain ⟨ht, hfl, hfs⟩ := hok
      obtain ⟨fq, hp, fps, hq, hA⟩ := hp
      refine ⟨_, rfl, p, _, 0, _, rfl, rfl, SqT.of hp, at_nat (j := 0) rfl, rfl, _, rfl, iteDF ne_add_swap ?_⟩
      refine ⟨_, rfl, p, _, 0, _, rfl, rfl, SqT.of hp, at_nat (j := 0) rfl, rfl, _, rfl, iteNS rfl ?_⟩
      cases c with
      | false =>
        refine ⟨_, rfl, p, _, 2, _, rfl, rfl, SqT.of hp, at_nat (j := 2) rfl, rfl, _, rfl, iteDT rfl ?_⟩
        refine ⟨Nat.zero_le _, fun G nG => ?_⟩
        exact q _ G [] [] (same_new nG) nG upd_same Are.nil (fun g hg => nomatch hg) (Nat.zero_le _) fun gs ms _ _ => by
          show gs ++ ms = gs ++ stepB gs ms (.add t false fs)
          rw [add_none]
      | true =>
        refine ⟨_, rfl, p, _, 2, _, rfl, rfl, SqT.of hp, at_nat (j := 2) rfl, rfl, _, rfl, iteDF (by decide) ?_⟩
        refine ⟨Nat.zero_le _, fun L nL => ?_⟩
        have s1 : Same H (upd H L (.lst [])) := same_new nL
        refine ⟨_, rfl, p, _, 3, _, rfl, rfl, SqT.of (s1 _ _ hp), at_nat (j := 3) rfl, fq, rfl, ⟨_, SqT.of (s1 _ _ hq)⟩, for_tup (K := K) (a := fq) (xs := fps.map V.ref) (fun i σ H' => Same H H' ∧ ∃ (cs : List Nat) (y5 y6 y7 : Option V),
          σ = [some (.ref p), some (.int (k : Int)), none, none, some (.ref L), y5, y6, y7] ∧ H' L = some (.lst (cs.map natV)) ∧ cs.Nodup ∧ cs.length ≤ i ∧ ∀ c, c ∈ cs ↔ ∃ f ∈ fs.take i, facBit k f = c)
          ⟨s1, [], none, none, none, rfl, upd_same, List.nodup_nil, Nat.le_refl _, fun c => ⟨fun h => (nomatch h), fun ⟨f, h, _⟩ => (nomatch h)⟩⟩ (fun i σ H' _ e => SqT.of (e.1 _ _ hq)) ?_ ?_⟩
        · rintro i x σ H' hx ⟨s2, cs, y5, y6, y7, rfl, eL, nd, hl, hcs⟩
          obtain ⟨fp, f, rfl, _, hf, fa⟩ := hA.at hx
          have il : i < fs.length := (List.getElem?_eq_some_iff.mp hf).1
          have fa' : H' fp = some (.tup (facV f)) := s2 _ _ fa
          have tail : ∀ (D : Ends) (z5 z6 : V), (∀ (H'' : Hp) (cs : List Nat), Same H H'' → H'' L = some (.lst (cs.map natV)) → cs.Nodup → cs.length ≤ i + 1 → (∀ c, c ∈ cs ↔ ∃ f ∈ fs.take (i + 1), facBit k f = c) → D.nx [some (.ref p), some (.int (k : Int)), none, none, some (.ref L), some z5, some z6, some (natV (facBit k f))] H'') →
              tIfS (tTest (tOp (rIn K true) (tVar 7) (tVar 4))) (tDrop (tBM K "list" rAppend (tVar 4) (tCons (tVar 7) tNil))) tNext D [some (.ref p), some (.int (k : Int)), none, none, some (.ref L), some z5, some z6, some (natV (facBit k f))] H' := by
            intro D z5 z6 hD
            have mem1 : ∀ c, (∃ f ∈ fs.take (i + 1), facBit k f = c) ↔ (∃ f ∈ fs.take i, facBit k f = c) ∨ c = facBit k f := fun c => by
              rw [List.take_add_one, hf]
              constructor
              · rintro ⟨g, hg, rfl⟩
                rcases List.mem_append.mp hg with hg | hg
                · exact .inl ⟨g, hg, rfl⟩
                · have e : g = f := List.mem_singleton.mp hg
                  rw [e]
                  exact .inr rfl
              · rintro (⟨g, hg, rfl⟩ | rfl)
                · exact ⟨g, List.mem_append_left _ hg, rfl⟩
                · exact ⟨f, List.mem_append_right _ (List.mem_singleton.mpr rfl), rfl⟩
            refine ⟨_, rfl, _, rfl, L, _, rfl, .inl (SqL.of eL), rfl, flat_nats cs, _, rfl, ?_⟩
            show if (!inV (natV (facBit k f)) (cs.map natV)) = true then _ else _
            rw [inV_nat]
            by_cases hm : facBit k f ∈ cs
            · refine iteNS hm ?_
              refine hD H' cs s2 eL nd (by omega) fun c => ?_
              rw [mem1, ← hcs]
              exact ⟨.inl, fun h => h.elim id fun e => by rw [e]; exact hm⟩
            · refine iteNT hm ?_
              refine ⟨_, rfl, .inl ⟨rfl, _, SqL.of eL⟩, _, rfl, L, _, _, rfl, rfl, eL, small1000 (by rw [List.length_map]; omega), ?_⟩
              refine hD _ (cs ++ [facBit k f]) (same_late s2 nL) (by rw [upd_same, List.map_append]; rfl) ?_ (by rw [List.length_append, List.length_singleton]; omega) fun c => ?_
              · rw [List.nodup_append]
                exact ⟨nd, by simp, fun a ha b hb => by
                  rw [List.mem_singleton.mp hb]
                  exact fun e => hm (by rw [← e]; exact ha)⟩
              · rw [mem1, List.mem_append, List.mem_singleton, hcs]
          have fin : ∀ (z5 z6 : V) (H'' : Hp) (cs : List Nat), Same H H'' → H'' L = some (.lst (cs.map natV)) → cs.Nodup → cs.length ≤ i + 1 → (∀ c, c ∈ cs ↔ ∃ f ∈ fs.take (i + 1), facBit k f = c) → Same H H'' ∧ ∃ (cs : List Nat) (y5 y6 y7 : Option V),
              [some (.ref p), some (.int (k : Int)), none, none, some (.ref L), some z5, some z6, some (natV (facBit k f))] = [some (.ref p), some (.int (k : Int)), none, none, some (.ref L), y5, y6, y7] ∧ H'' L = some (.lst (cs.map natV)) ∧ cs.Nodup ∧ cs.length ≤ i + 1 ∧ ∀ c, c ∈ cs ↔ ∃ f ∈ fs.take (i + 1), facBit k f = c :=
            fun z5 z6 H'' cs h1 h2 h3 h4 h5 => ⟨h1, cs, _, _, _, rfl, h2, h3, h4, h5⟩
          cases f with
          | cell j =>
            refine ⟨fp, _, rfl, SqT.of fa', rfl, _, _, rfl, _, _, rfl, rfl, ?_⟩
            refine ⟨_, rfl, rfl, _, rfl, iteDT rfl ⟨_, rfl, _, rfl, (k : Int), (j : Int), rfl, rfl, ?_⟩⟩
            exact tail _ _ _ (fin _ _)
          | inp j =>
            refine ⟨fp, _, rfl, SqT.of fa', rfl, _, _, rfl, _, _, rfl, rfl, ?_⟩
            refine ⟨_, rfl, rfl, _, rfl, iteDF ne_input_cell ⟨_, rfl, ?_⟩⟩
            exact tail _ _ _ (fin _ _)
        · rintro σ H' ⟨s2, cs, y5, y6, y7, rfl, eL, nd, hl, hcs⟩
          have hfl2 : (fps.map V.ref).length = fs.length := by rw [List.length_map]; exact hA.1
          rw [hfl2] at hl hcs
          rw [List.take_length] at hcs
          have hp2 := s2 _ _ hp
          refine ⟨_, rfl, _, rfl, p, _, 1, _, rfl, rfl, SqT.of hp2, at_nat (j := 1) rfl, (k : Int), (t : Int), rfl, rfl, _, rfl, L, cs.map (fun c : Nat => (c : Int)), rfl, SqL.of (by rw [eL, nats_ints]), by rw [List.length_map]; omega, fun ns sp perm srt nsp => ?_⟩
          obtain ⟨ds, rfl, hds, hmem⟩ := sorted_nats nd perm srt
          refine ⟨sp, _, rfl, .inl ⟨SqL.of upd_same, fun cq ncq => ?_⟩⟩
          rw [← nats_ints] at ncq ⊢
          have s3 : Same H' (upd H' sp (.lst (ds.map natV))) := same_new nsp
          generalize upd H' sp (.lst (ds.map natV)) = H3 at s3 ncq ⊢
          have s4 : Same H3 (upd H3 cq (.tup (ds.map natV))) := same_new ncq
          have ec : (upd H3 cq (.tup (ds.map natV))) cq = _ := upd_same
          generalize upd H3 cq (.tup (ds.map natV)) = H4 at s4 ec ⊢
          refine ⟨(by show 2 ≤ sizeLine; decide), fun gp ngp => ?_⟩
          have s5 : Same H4 (upd H4 gp (.tup [natV (k + t), .ref cq])) := same_new ngp
          have eg : (upd H4 gp (.tup [natV (k + t), .ref cq])) gp = _ := upd_same
          have ngp' := ngp
          refine ⟨(by show 1 ≤ sizeLine; decide), fun G nG => ?_⟩
          have nG' : (upd H4 gp (.tup [natV (k + t), .ref cq])) G = none := nG
          have s6 : Same (upd H4 gp (.tup [natV (k + t), .ref cq])) (upd (upd H4 gp (.tup [natV (k + t), .ref cq])) G (.lst [.ref gp])) := same_new nG'
          have sA := s2.trans (s3.trans (s4.trans s5))
          have ok : GateOk (k + n) ⟨k + t, ds⟩ := by
            refine ⟨by show k + t < k + n; omega, fun c hc => ?_, hds, fun hc => ?_⟩
            · obtain ⟨f, hf, rfl⟩ := (hcs c).mp ((hmem c).mp hc)
              exact (bit_ok ht (hfs f hf)).1
            · obtain ⟨f, hf, e⟩ := (hcs _).mp ((hmem _).mp hc)
              exact (bit_ok ht (hfs f hf)).2 e
          refine q _ G [gp] [⟨k + t, ds⟩] (sA.trans s6) (sA.free nG') upd_same (Are.one ⟨cq, s6 _ _ eg, s6 _ _ (s5 _ _ ec)⟩) (fun g hg => by rw [List.mem_singleton.mp hg]; exact ok) (by show 1 ≤ 3; decide) ?_
          intro gs ms hg hm
          exact add_gate (n := n) hg hfs fun c => by rw [hmem, hcs]
end
end Bf

namespace Bf
open PySem PySem.Spec PyProof.Rows L2
section
variable {P : Program} {w : World} {K : PySem.W.Frag} {mg : Str → Option Value} {base : Heap}
abbrev s_is_factor : Stmt := topS 24
theorem sc_is_factor : FnScope ["factor", "target", "cells", "inputs"] ["factor", "target", "cells", "inputs"] (defScope s_is_factor) := ⟨rfl, rfl, rfl, by decide +kernel, rfl, by decide +kernel, by decide +kernel⟩
def spIsFactor : Sp := fun vs H Q _ => ∃ (p : Addr) (f : Fac) (t n k : Nat), vs = [.ref p, .int (t : Int), .int (n : Int), .int (k : Int)] ∧ FacAt H p f ∧ FacOk n k t f ∧ Q (.bl true) H
theorem ok_is_factor {f : Addr} {fd : FuncData} (F : Fun K "is_factor" "is_factor" s_is_factor f fd) (T : Txt mg) (G_is_number : Good P w K mg base "is_number" 2 ["value", "modulus"] spIsNum) : FnOk P w K mg base CX0 3 f fd ["factor", "target", "cells", "inputs"] spIsFactor := by
  refine F.ok sc_is_factor (fun vs H Q E h => ?_) (fun cdv A outer s H vs Q E hr h => ?_)
  · obtain ⟨p, f, t, n, k, rfl, _⟩ := h
    rfl
  · obtain ⟨p, f, t, n, k, rfl, hp, hok, q⟩ := h
    refine ⟨_, (pss_cons (ps_if (PW.pt (pw_or (pt_not (pt_val (pe_isi (T := "tuple") T.tuple T.isinstance (pv 0)))) (pw_or1 (pt_cmpR op_ne (pe_callB call_len_seq (by rfl) T.len PySem.boot_len (pa_cons (pv 0) pa_nil)) pe_int (nomark _)))))
        (pss_one (ps_ret pe_bl))
        pss_nil)
      (pss_cons (ps_if (pt_cmpR op_eq (pe_ix ix_tup (pv 0) pe_int (fun _ _ => rfl)) pe_str (nomark _))
        (pss_one (ps_ret (pe_and (pe_callG G_is_number hr (pa_cons (pe_ix ix_tup (pv 0) pe_int (fun _ _ => rfl)) (pa_cons (pv 2) pa_nil))) (pe_one (pe_cmpR op_ne (pe_ix ix_tup (pv 0) pe_int (fun _ _ => rfl)) (pv 1) (nomark _))))))
        pss_nil)
      (pss_one (ps_ret (pe_and (pe_cmpR op_eq (pe_ix ix_tup (pv 0) pe_int (fun _ _ => rfl)) pe_str (nomark _)) (pe_one (pe_callG G_is_number hr (pa_cons (pe_ix ix_tup (pv 0) pe_int (fun _ _ => rfl)) (pa_cons (pv 3) pa_nil))))))))), ?_⟩
    cases f with
    | cell i =>
      obtain ⟨h1, h2⟩ := hok
      have hp : H p = some (.tup [.str "cell", .int (i : Int)]) := hp
      refine ⟨_, rfl, isi_tup_tuple hp ⟨true, rfl, iteF ⟨_, rfl, p, _, rfl, .inr (SqT.of hp), rfl, _, rfl, iteNS rfl ?_⟩⟩⟩
      refine ⟨_, rfl, p, _, 0, _, rfl, rfl, SqT.of hp, at_nat (j := 0) rfl, rfl, _, rfl, iteDT rfl ?_⟩
      refine ⟨_, rfl, p, _, 1, _, rfl, rfl, SqT.of hp, at_nat (j := 1) rfl, _, rfl, (i : Int), (n : Int), rfl, by omega, by omega, true, rfl, iteT ?_⟩
      refine ⟨_, rfl, p, _, 1, _, rfl, rfl, SqT.of hp, at_nat (j := 1) rfl, _, rfl, rfl, ?_⟩
      show Q (.bl (!decide (V.int (i : Int) = V.int (t : Int)))) H
      rw [decide_eq_false (show ¬ (V.int (i : Int) = V.int (t : Int)) from fun e => h2 (by have : (i : Int) = (t : Int) := V.int.inj e; omega))]
      exact q
    | inp i =>
      have h1 : i < k := hok
      have hp : H p = some (.tup [.str "input", .int (i : Int)]) := hp
      refine ⟨_, rfl, isi_tup_tuple hp ⟨true, rfl, iteF ⟨_, rfl, p, _, rfl, .inr (SqT.of hp), rfl, _, rfl, iteNS rfl ?_⟩⟩⟩
      refine ⟨_, rfl, p, _, 0, _, rfl, rfl, SqT.of hp, at_nat (j := 0) rfl, rfl, _, rfl, iteDF ne_input_cell ?_⟩
      refine ⟨_, rfl, p, _, 0, _, rfl, rfl, SqT.of hp, at_nat (j := 0) rfl, rfl, _, rfl, iteDT rfl ?_⟩
      exact ⟨_, rfl, p, _, 1, _, rfl, rfl, SqT.of hp, at_nat (j := 1) rfl, _, rfl, (i : Int), (k : Int), rfl, by omega, by omega, q⟩

abbrev s_is_add : Stmt := topS 26
theorem sc_is_add : FnScope ["step", "modulus", "cells", "inputs", "_", "target", "coefficient", "factors", "factor"] ["step", "modulus", "cells", "inputs"] (defScope s_is_add) := ⟨rfl, rfl, rfl, by decide +kernel, rfl, by decide +kernel, by decide +kernel⟩
def spIsAdd : Sp := fun vs H Q _ => ∃ (p : Addr) (t : Nat) (c : Bool) (fs : List Fac) (n k : Nat), vs = [.ref p, .int 2, .int (n : Int), .int (k : Int)] ∧ StpAt H p (.add t c fs) ∧ StpOk n k (.add t c fs) ∧ Q (.bl true) H
theorem ok_is_add {f : Addr} {fd : FuncData} (F : Fun K "is_add" "is_add" s_is_add f fd) (T : Txt mg) (G_is_number : Good P w K mg base "is_number" 2 ["value", "modulus"] spIsNum) (G_is_factor : Good P w K mg base "is_factor" 3 ["factor", "target", "cells", "inputs"] spIsFactor) :
    FnOk P w K mg base CX0 4 f fd ["step", "modulus", "cells", "inputs"] spIsAdd := by
  refine F.ok sc_is_add (fun vs H Q E h => ?_) (fun cdv A outer s H vs Q E hr h => ?_)
  · obtain ⟨p, t, c, fs, n, k, rfl, _⟩ := h
    rfl
  · obtain ⟨p, t, c, fs, n, k, rfl, ⟨fq, hp, fps, hq, hA⟩, ⟨ht, hfl, hfs⟩, q⟩ := h
    have lo := i01_lo c
    have hi := i01_hi c
    refine ⟨_, (pss_cons (ps_asg (pv 0) (pg_tup rfl (pgs_cons (pg_name (i := 4) sc_is_add.nd rfl (Or.inl rfl)) (pgs_cons (pg_name (i := 5) sc_is_add.nd rfl (Or.inl rfl)) (pgs_cons (pg_name (i := 6) sc_is_add.nd rfl (Or.inl rfl)) (pgs_cons (pg_name (i := 7) sc_is_add.nd rfl (Or.inl rfl)) pgs_nil))))))
      (pss_cons (ps_if (PW.pt (pw_or (pt_not (pt_val (pe_callG G_is_number hr (pa_cons (pv 5) (pa_cons (pv 2) pa_nil))))) (pw_or1 (pt_not (pt_val (pe_callG G_is_number hr (pa_cons (pv 6) (pa_cons (pv 1) pa_nil))))))))
        (pss_one (ps_ret pe_bl))
        pss_nil)
      (pss_cons (ps_if (PW.pt (pw_or (pt_not (pt_val (pe_isi (T := "tuple") T.tuple T.isinstance (pv 7)))) (pw_or1 (pt_cmpR op_gt (pe_callB call_len_seq (by rfl) T.len PySem.boot_len (pa_cons (pv 7) pa_nil)) (pe_gint T.cFACTORS) (nomark _)))))
        (pss_one (ps_ret pe_bl))
        pss_nil)
      (pss_cons (ps_for PassesOwn.never rfl (pi_tup (pv 7)) (pg_name (i := 8) sc_is_add.nd rfl (Or.inl rfl))
        (pss_one (ps_if (pt_not (pt_val (pe_callG G_is_factor hr (pa_cons (pv 8) (pa_cons (pv 5) (pa_cons (pv 2) (pa_cons (pv 3) pa_nil)))))))
          (pss_one (ps_ret pe_bl))
          pss_nil)))
      (pss_one (ps_ret pe_bl)))))), ?_⟩
    refine ⟨_, rfl, p, _, rfl, SqT.of hp, rfl, _, _, rfl, _, _, rfl, _, _, rfl, _, _, rfl, rfl, ?_⟩
    refine ⟨_, rfl, _, rfl, (t : Int), (n : Int), rfl, by omega, by omega, true, rfl, iteF ⟨_, rfl, _, rfl, i01 c, 2, rfl, lo, hi, true, rfl, iteF ?_⟩⟩
    refine ⟨_, rfl, isi_tup_tuple hq ⟨true, rfl, iteF ⟨_, rfl, fq, _, rfl, .inr (SqT.of hq), _, 3, rfl, rfl, _, rfl, iteDF (by rw [List.length_map, hA.1]; omega) ?_⟩⟩⟩
    refine ⟨_, rfl, fq, rfl, ⟨_, SqT.of hq⟩, for_tup (K := K) (a := fq) (xs := fps.map V.ref) (fun i σ H' => H' = H ∧ ∃ v : Option V, σ = [some (.ref p), some (.int 2), some (.int (n : Int)), some (.int (k : Int)), some (.str "add"), some (.int (t : Int)), some (bi c), some (.ref fq), v])
      ⟨rfl, none, rfl⟩ (fun i σ H' _ e => by rw [e.1]; exact SqT.of hq) ?_ ?_⟩
    · rintro i x σ H' hx ⟨rfl, v, rfl⟩
      obtain ⟨fp, f, rfl, _, hf, fa⟩ := hA.at hx
      exact ⟨_, rfl, _, rfl, _, rfl, _, rfl, fp, f, t, n, k, rfl, fa, hfs f (List.mem_of_getElem? hf), true, rfl, iteF ⟨rfl, _, rfl⟩⟩
    · rintro σ H' ⟨rfl, _⟩
      exact q

abbrev s_is_step : Stmt := topS 28
theorem sc_is_step : FnScope ["step", "modulus", "cells", "inputs"] ["step", "modulus", "cells", "inputs"] (defScope s_is_step) := ⟨rfl, rfl, rfl, by decide +kernel, rfl, by decide +kernel, by decide +kernel⟩
def spIsStep : Sp := fun vs H Q _ => ∃ (p : Addr) (st : Stp) (n k : Nat), vs = [.ref p, .int 2, .int (n : Int), .int (k : Int)] ∧ StpAt H p st ∧ StpOk n k st ∧ ∀ H', Same H H' → Q (.bl true) H'
theorem ok_is_step {f : Addr} {fd : FuncData} (F : Fun K "is_step" "is_step" s_is_step f fd) (T : Txt mg) (G_is_number : Good P w K mg base "is_number" 2 ["value", "modulus"] spIsNum) (G_inverse_of : Good P w K mg base "inverse_of" 1 ["n", "modulus"] spInv)
    (G_is_add : Good P w K mg base "is_add" 4 ["step", "modulus", "cells", "inputs"] spIsAdd) : FnOk P w K mg base CX0 5 f fd ["step", "modulus", "cells", "inputs"] spIsStep := by
  refine F.ok sc_is_step (fun vs H Q E h => ?_) (fun cdv A outer s H vs Q E hr h => ?_)
  · obtain ⟨p, st, n, k, rfl, _⟩ := h
    rfl
  · obtain ⟨p, st, n, k, rfl, hp, hok, q⟩ := h
    refine ⟨_, (pss_cons (ps_if (PW.pt (pw_or (pt_not (pt_val (pe_isi (T := "tuple") T.tuple T.isinstance (pv 0)))) (pw_or1 (pt_cmpR op_lt (pe_callB call_len_seq (by rfl) T.len PySem.boot_len (pa_cons (pv 0) pa_nil)) pe_int (nomark _)))))
        (pss_one (ps_ret pe_bl))
        pss_nil)
      (pss_cons (ps_if (PW.pt (pw_and (pt_cmpR op_eq (pe_ix ix_tup (pv 0) pe_int (fun _ _ => rfl)) pe_str (nomark _)) (pw_and1 (pt_cmpR op_eq (pe_callB call_len_seq (by rfl) T.len PySem.boot_len (pa_cons (pv 0) pa_nil)) pe_int (nomark _)))))
        (pss_one (ps_ret (pe_callG G_is_add hr (pa_cons (pv 0) (pa_cons (pv 1) (pa_cons (pv 2) (pa_cons (pv 3) pa_nil)))))))
        pss_nil)
      (pss_cons (ps_if (PW.pt (pw_and (pt_cmpR op_eq (pe_ix ix_tup (pv 0) pe_int (fun _ _ => rfl)) pe_str (nomark _)) (pw_and1 (pt_cmpR op_eq (pe_callB call_len_seq (by rfl) T.len PySem.boot_len (pa_cons (pv 0) pa_nil)) pe_int (nomark _)))))
        (pss_cons (ps_if (PW.pt (pw_or (pt_not (pt_val (pe_callG G_is_number hr (pa_cons (pe_ix ix_tup (pv 0) pe_int (fun _ _ => rfl)) (pa_cons (pv 2) pa_nil))))) (pw_or1 (pt_not (pt_val (pe_callG G_is_number hr (pa_cons (pe_ix ix_tup (pv 0) pe_int (fun _ _ => rfl)) (pa_cons (pv 1) pa_nil))))))))
          (pss_one (ps_ret pe_bl))
          pss_nil)
        (pss_one (ps_ret (pe_cmpR op_notN (pe_callG G_inverse_of hr (pa_cons (pe_ix ix_tup (pv 0) pe_int (fun _ _ => rfl)) (pa_cons (pv 1) pa_nil))) pe_non (nomark _)))))
        pss_nil)
      (pss_cons (ps_if (PW.pt (pw_and (pt_cmpR op_eq (pe_ix ix_tup (pv 0) pe_int (fun _ _ => rfl)) pe_str (nomark _)) (pw_and1 (pt_cmpR op_eq (pe_callB call_len_seq (by rfl) T.len PySem.boot_len (pa_cons (pv 0) pa_nil)) pe_int (nomark _)))))
        (pss_cons (ps_if (PW.pt (pw_or (pt_not (pt_val (pe_callG G_is_number hr (pa_cons (pe_ix ix_tup (pv 0) pe_int (fun _ _ => rfl)) (pa_cons (pv 2) pa_nil))))) (pw_or1 (pt_not (pt_val (pe_callG G_is_number hr (pa_cons (pe_ix ix_tup (pv 0) pe_int (fun _ _ => rfl)) (pa_cons (pv 2) pa_nil))))))))
          (pss_one (ps_ret pe_bl))
          pss_nil)
        (pss_one (ps_ret (pe_cmpR op_ne (pe_ix ix_tup (pv 0) pe_int (fun _ _ => rfl)) (pe_ix ix_tup (pv 0) pe_int (fun _ _ => rfl)) (nomark _)))))
        pss_nil)
      (pss_one (ps_ret (pe_and (pe_cmpR op_eq (pe_ix ix_tup (pv 0) pe_int (fun _ _ => rfl)) pe_str (nomark _)) (pe_and (pe_cmpR op_eq (pe_callB call_len_seq (by rfl) T.len PySem.boot_len (pa_cons (pv 0) pa_nil)) pe_int (nomark _)) (pe_one pe_nev))))))))), ?_⟩
    cases st with
    | swap a b =>
      obtain ⟨ha, hb, hne⟩ := hok
      have hp : H p = some (.tup [.str "swap", .int (a : Int), .int (b : Int)]) := hp
      refine ⟨_, rfl, isi_tup_tuple hp ⟨true, rfl, iteF ⟨_, rfl, p, _, rfl, .inr (SqT.of hp), _, 3, rfl, rfl, _, rfl, iteDF (by show ¬ ((3 : Nat) : Int) < 3; omega) ?_⟩⟩⟩
      refine ⟨_, rfl, p, _, 0, _, rfl, rfl, SqT.of hp, at_nat (j := 0) rfl, rfl, _, rfl, iteDF ne_swap_add (iteF ?_)⟩
      refine ⟨_, rfl, p, _, 0, _, rfl, rfl, SqT.of hp, at_nat (j := 0) rfl, rfl, _, rfl, iteDF ne_swap_scale (iteF ?_)⟩
      refine ⟨_, rfl, p, _, 0, _, rfl, rfl, SqT.of hp, at_nat (j := 0) rfl, rfl, _, rfl, iteDT rfl ⟨_, rfl, p, _, rfl, .inr (SqT.of hp), rfl, _, rfl, iteDT rfl ?_⟩⟩
      refine ⟨_, rfl, p, _, 1, _, rfl, rfl, SqT.of hp, at_nat (j := 1) rfl, _, rfl, (a : Int), (n : Int), rfl, by omega, by omega, true, rfl, iteF ⟨_, rfl, p, _, 2, _, rfl, rfl, SqT.of hp, at_nat (j := 2) rfl, _, rfl, (b : Int), (n : Int), rfl, by omega, by omega, true, rfl, iteF ?_⟩⟩
      refine ⟨_, rfl, p, _, 1, _, rfl, rfl, SqT.of hp, at_nat (j := 1) rfl, _, rfl, p, _, 2, _, rfl, rfl, SqT.of hp, at_nat (j := 2) rfl, rfl, ?_⟩
      show Q (.bl (!decide (V.int (a : Int) = V.int (b : Int)))) H
      rw [decide_eq_false (show ¬ (V.int (a : Int) = V.int (b : Int)) from fun e => hne (by have : (a : Int) = (b : Int) := V.int.inj e; omega))]
      exact q H (Same.refl H)
    | scale t =>
      have ht : t < n := hok
      have hp : H p = some (.tup [.str "scale", .int (t : Int), .int 1]) := hp
      refine ⟨_, rfl, isi_tup_tuple hp ⟨true, rfl, iteF ⟨_, rfl, p, _, rfl, .inr (SqT.of hp), _, 3, rfl, rfl, _, rfl, iteDF (by show ¬ ((3 : Nat) : Int) < 3; omega) ?_⟩⟩⟩
      refine ⟨_, rfl, p, _, 0, _, rfl, rfl, SqT.of hp, at_nat (j := 0) rfl, rfl, _, rfl, iteDF ne_scale_add (iteF ?_)⟩
      refine ⟨_, rfl, p, _, 0, _, rfl, rfl, SqT.of hp, at_nat (j := 0) rfl, rfl, _, rfl, iteDT rfl ⟨_, rfl, p, _, rfl, .inr (SqT.of hp), rfl, _, rfl, iteDT rfl ?_⟩⟩
      refine ⟨_, rfl, p, _, 1, _, rfl, rfl, SqT.of hp, at_nat (j := 1) rfl, _, rfl, (t : Int), (n : Int), rfl, by omega, by omega, true, rfl, iteF ⟨_, rfl, p, _, 2, _, rfl, rfl, SqT.of hp, at_nat (j := 2) rfl, _, rfl, 1, 2, rfl, by decide, by decide, true, rfl, iteF ?_⟩⟩
      refine ⟨_, rfl, p, _, 2, _, rfl, rfl, SqT.of hp, at_nat (j := 2) rfl, _, rfl, rfl, fun H' sm => ⟨rfl, ?_⟩⟩
      show Q (.bl (!decide (V.int 1 = V.non))) H'
      rw [decide_eq_false (show ¬ (V.int 1 = V.non) from fun e => by cases e)]
      exact q H' sm
    | add t c fs =>
      obtain ⟨fq, hp', hfa⟩ := id hp
      refine ⟨_, rfl, isi_tup_tuple hp' ⟨true, rfl, iteF ⟨_, rfl, p, _, rfl, .inr (SqT.of hp'), _, 3, rfl, rfl, _, rfl, iteDF (by show ¬ ((4 : Nat) : Int) < 3; omega) ?_⟩⟩⟩
      refine ⟨_, rfl, p, _, 0, _, rfl, rfl, SqT.of hp', at_nat (j := 0) rfl, rfl, _, rfl, iteDT rfl ⟨_, rfl, p, _, rfl, .inr (SqT.of hp'), rfl, _, rfl, iteDT rfl ?_⟩⟩
      exact ⟨_, rfl, _, rfl, _, rfl, _, rfl, p, t, c, fs, n, k, rfl, hp, hok, q H (Same.refl H)⟩

theorem stp_head {H : Hp} {p : Addr} {st : Stp} (h : StpAt H p st) : ∃ (s : Str) (xs : List V), H p = some (.tup (.str s :: xs)) ∧ ¬ (V.str s = V.str "table") := by
  cases st with
  | swap a b => exact ⟨_, _, h, ne_swap_table⟩
  | scale t => exact ⟨_, _, h, ne_scale_table⟩
  | add t c fs =>
    obtain ⟨q, h1, _⟩ := h
    exact ⟨_, _, h1, ne_add_table⟩
abbrev s_check_steps : Stmt := topS 32
theorem sc_check_steps : FnScope ["steps", "modulus", "cells", "inputs", "most", "looks", "step"] ["steps", "modulus", "cells", "inputs", "most"] (defScope s_check_steps) := ⟨rfl, rfl, rfl, by decide +kernel, rfl, by decide +kernel, by decide +kernel⟩
def spCheckSteps : Sp := fun vs H Q _ => ∃ (S : Addr) (ps : List Addr) (sts : List Stp) (n k : Nat), vs = [.ref S, .int 2, .int (n : Int), .int (k : Int), .int 20000] ∧ H S = some (.lst (ps.map V.ref)) ∧ StpsAt H ps sts ∧ (∀ st ∈ sts, StpOk n k st) ∧ sts.length ≤ 20 ∧
  ∀ H', Same H H' → Q .non H'
theorem ok_check_steps {f : Addr} {fd : FuncData} (F : Fun K "check_steps" "check_steps" s_check_steps f fd) (T : Txt mg) (G_is_step : Good P w K mg base "is_step" 5 ["step", "modulus", "cells", "inputs"] spIsStep) : FnOk P w K mg base CX0 6 f fd ["steps", "modulus", "cells", "inputs", "most"] spCheckSteps := by
  refine F.ok sc_check_steps (fun vs H Q E h => ?_) (fun cdv A outer s H vs Q E hr h => ?_)
  · obtain ⟨S, ps, sts, n, k, rfl, _⟩ := h
    rfl
  · obtain ⟨S, ps, sts, n, k, rfl, hS, hA, hok, hlen, q⟩ := h
    refine ⟨_, (pss_cons (ps_if (PW.pt (pw_or (pt_not (pt_val (pe_isi (T := "list") T.list T.isinstance (pv 0)))) (pw_or1 (pt_cmpR op_gt (pe_callB call_len_seq (by rfl) T.len PySem.boot_len (pa_cons (pv 0) pa_nil)) (pv 4) (nomark _)))))
        (pss_one ps_never)
        pss_nil)
      (pss_cons (ps_set (i := 5) sc_check_steps.nd rfl (Or.inl rfl) pe_bl)
      (pss_cons (ps_for PassesOwn.never rfl (pi_list (pv 0)) (pg_name (i := 6) sc_check_steps.nd rfl (Or.inl rfl))
        (pss_cons (ps_if (pt_not (pt_val (pe_callG G_is_step hr (pa_cons (pv 6) (pa_cons (pv 1) (pa_cons (pv 2) (pa_cons (pv 3) pa_nil)))))))
          (pss_one ps_never)
          pss_nil)
        (pss_one (ps_set (i := 5) sc_check_steps.nd rfl (Or.inl rfl) (pe_or (pv 5) (pe_one (pe_cmpR op_eq (pe_ix ix_tup (pv 6) pe_int (fun _ _ => rfl)) pe_str (nomark _))))))))
      (pss_one (ps_if (PW.pt (pw_and (pt_val (pv 5)) (pw_and1 (pt_not (pt_val pe_nev)))))
        (pss_one ps_never)
        pss_nil))))), ?_⟩
    refine ⟨_, rfl, isi_lst_list hS ⟨true, rfl, iteF ⟨_, rfl, S, _, rfl, .inl (SqL.of hS), _, rfl, _, 20000, rfl, rfl, _, rfl, iteDF (by rw [List.length_map, hA.1]; omega) ?_⟩⟩⟩
    refine ⟨_, rfl, S, rfl, ⟨_, SqL.of hS⟩, for_list (K := K) (a := S) (xs := ps.map V.ref) (fun i σ H' => Same H H' ∧ ∃ v : Option V, σ = [some (.ref S), some (.int 2), some (.int (n : Int)), some (.int (k : Int)), some (.int 20000), some (.bl false), v])
      ⟨Same.refl H, none, rfl⟩ (fun i σ H' _ e => SqL.of (e.1 _ _ hS)) ?_ ?_⟩
    · rintro i x σ H' hx ⟨sm, v, rfl⟩
      obtain ⟨p, st, rfl, _, hst, sa⟩ := hA.at hx
      refine ⟨_, rfl, _, rfl, _, rfl, _, rfl, p, st, n, k, rfl, sa.tups (tups_of sm), hok st (List.mem_of_getElem? hst), fun H2 s2 => ⟨true, rfl, iteF ?_⟩⟩
      obtain ⟨s, xs, hp, hne⟩ := stp_head (sa.tups (tups_of (sm.trans s2)))
      refine ⟨_, rfl, false, rfl, iteF ⟨_, rfl, p, _, 0, _, rfl, rfl, SqT.of hp, at_nat (j := 0) rfl, rfl, sm.trans s2, some (.ref p), ?_⟩⟩
      rw [decide_eq_false hne]
      rfl
    · rintro σ H' ⟨sm, v, rfl⟩
      exact ⟨_, rfl, false, rfl, iteF (iteF (q H' sm))⟩

abbrev s_check_numbers : Stmt := topS 38
theorem sc_check_numbers : FnScope ["values", "many", "modulus", "value"] ["values", "many", "modulus"] (defScope s_check_numbers) := ⟨rfl, rfl, rfl, by decide +kernel, rfl, by decide +kernel, by decide +kernel⟩
def spCheckNums : Sp := fun vs H Q _ => ∃ (L : Addr) (bs : List Bool) (z : Int), vs = [.ref L, .int z, .int 2] ∧ H L = some (.lst (bs.map bi)) ∧ z = (bs.length : Int) ∧ Q .non H
theorem bis_at {bs : List Bool} {i : Nat} {x : V} (h : (bs.map bi)[i]? = some x) : ∃ b, x = bi b := by
  rw [List.getElem?_map] at h
  cases e : bs[i]? with
  | none =>
    rw [e] at h
    cases h
  | some b =>
    rw [e] at h
    exact ⟨b, (Option.some.inj h).symm⟩
theorem ok_check_numbers {f : Addr} {fd : FuncData} (F : Fun K "check_numbers" "check_numbers" s_check_numbers f fd) (T : Txt mg) (G_is_number : Good P w K mg base "is_number" 2 ["value", "modulus"] spIsNum) : FnOk P w K mg base CX0 3 f fd ["values", "many", "modulus"] spCheckNums := by
  refine F.ok sc_check_numbers (fun vs H Q E h => ?_) (fun cdv A outer s H vs Q E hr h => ?_)
  · obtain ⟨L, bs, z, rfl, _⟩ := h
    rfl
  · obtain ⟨L, bs, z, rfl, hL, hz, q⟩ := h
    refine ⟨_, (pss_cons (ps_if (PW.pt (pw_or (pt_not (pt_val (pe_isi (T := "list") T.list T.isinstance (pv 0)))) (pw_or1 (pt_cmpR op_ne (pe_callB call_len_seq (by rfl) T.len PySem.boot_len (pa_cons (pv 0) pa_nil)) (pv 1) (nomark _)))))
        (pss_one ps_never)
        pss_nil)
      (pss_one (ps_for PassesOwn.never rfl (pi_list (pv 0)) (pg_name (i := 3) sc_check_numbers.nd rfl (Or.inl rfl))
        (pss_one (ps_if (pt_not (pt_val (pe_callG G_is_number hr (pa_cons (pv 3) (pa_cons (pv 2) pa_nil)))))
          (pss_one ps_never)
          pss_nil))))), ?_⟩
    refine ⟨_, rfl, isi_lst_list hL ⟨true, rfl, iteF ⟨_, rfl, L, _, rfl, .inl (SqL.of hL), _, rfl, rfl, _, rfl, iteNS (by rw [List.length_map, hz]) ?_⟩⟩⟩
    refine ⟨_, rfl, L, rfl, ⟨_, SqL.of hL⟩, for_list (K := K) (a := L) (xs := bs.map bi) (fun i σ H' => H' = H ∧ ∃ v : Option V, σ = [some (.ref L), some (.int z), some (.int 2), v])
      ⟨rfl, none, rfl⟩ (fun i σ H' _ e => by rw [e.1]; exact SqL.of hL) ?_ ?_⟩
    · rintro i x σ H' hx ⟨rfl, v, rfl⟩
      obtain ⟨b, rfl⟩ := bis_at hx
      exact ⟨_, rfl, _, rfl, i01 b, 2, rfl, i01_lo b, i01_hi b, true, rfl, iteF ⟨rfl, _, rfl⟩⟩
    · rintro σ H' ⟨rfl, _⟩
      exact q
end
end Bf

namespace Bf
open PySem PySem.Spec PyProof.Rows L2
def pf (n k : Nat) (S : Addr) : List (Str × V) := putF "steps" (.ref S) (putF "inputs" (.int (k : Int)) (putF "cells" (.int (n : Int)) (putF "modulus" (.int 2) [])))
theorem pf_modulus (n k : Nat) (S : Addr) : (pf n k S).lookup ("modulus" : Str) = some (.int 2) := by
  unfold pf
  rw [lookup_putF, if_neg (by decide +kernel), lookup_putF, if_neg (by decide +kernel), lookup_putF, if_neg (by decide +kernel), lookup_putF, if_pos rfl]
theorem pf_cells (n k : Nat) (S : Addr) : (pf n k S).lookup ("cells" : Str) = some (.int (n : Int)) := by
  unfold pf
  rw [lookup_putF, if_neg (by decide +kernel), lookup_putF, if_neg (by decide +kernel), lookup_putF, if_pos rfl]
theorem pf_inputs (n k : Nat) (S : Addr) : (pf n k S).lookup ("inputs" : Str) = some (.int (k : Int)) := by
  unfold pf
  rw [lookup_putF, if_neg (by decide +kernel), lookup_putF, if_pos rfl]
theorem pf_steps (n k : Nat) (S : Addr) : (pf n k S).lookup ("steps" : Str) = some (.ref S) := by
  unfold pf
  rw [lookup_putF, if_pos rfl]
theorem pf_run (n k : Nat) (S : Addr) : (pf n k S).lookup ("run" : Str) = none := by
  unfold pf
  rw [lookup_putF, if_neg (by decide +kernel), lookup_putF, if_neg (by decide +kernel), lookup_putF, if_neg (by decide +kernel), lookup_putF, if_neg (by decide +kernel)]
  rfl
/-- what of the text the class must have -/
structure PrT (K : PySem.W.Frag) (C : Addr) : Prop where
  cl : Cls K C
  nM : NoAttr K C "modulus"
  nC : NoAttr K C "cells"
  nI : NoAttr K C "inputs"
  nS : NoAttr K C "steps"
/-- a program of n cells and k inputs with the steps sts stands at x -/
structure PrAt (C : Addr) (H : Hp) (x : Addr) (n k : Nat) (sts : List Stp) : Prop where
  at_ : ∃ (dx S : Addr) (ps : List Addr), H x = some (.ins C dx (pf n k S)) ∧ H S = some (.lst (ps.map V.ref)) ∧ StpsAt H ps sts
  ok : ∀ st ∈ sts, StpOk n k st
theorem PrAt.same {C : Addr} {H H' : Hp} {x : Addr} {n k : Nat} {sts : List Stp} (h : PrAt C H x n k sts) (s : Same H H') : PrAt C H' x n k sts := by
  obtain ⟨⟨dx, S, ps, h1, h2, h3⟩, ok⟩ := h
  exact ⟨⟨dx, S, ps, s _ _ h1, s _ _ h2, h3.mono fun p st e => e.tups (tups_of s)⟩, ok⟩
theorem PrAt.keep {C : Addr} {H H' : Hp} {x d : Addr} {n k : Nat} {sts : List Stp} {a : Addr} {z : Int} (h : PrAt C H x n k sts) (s : Keep d H H') (hd : H d = some (.lst [.ref a, .int z])) : PrAt C H' x n k sts := by
  obtain ⟨⟨dx, S, ps, h1, h2, h3⟩, ok⟩ := h
  refine ⟨⟨dx, S, ps, s _ _ (ne_of h1 hd (by intro q; cases q)) h1, s _ _ (fun e => ?_) h2, h3.mono fun p st e => e.tups (s.tups hd)⟩, ok⟩
  rw [e, hd] at h2
  have e2 : [V.ref a, V.int z] = ps.map V.ref := HO.lst.inj (Option.some.inj h2)
  cases ps with
  | nil => cases e2
  | cons b r =>
    cases r with
    | nil => cases e2
    | cons c r =>
      have e3 : V.int z = V.ref c := (List.cons.inj (List.cons.inj e2).2).1
      cases e3
section
variable {P : Program} {w : World} {K : PySem.W.Frag} {mg : Str → Option Value} {base : Heap}

abbrev s_init : Stmt := inClass (topS 39) 0
theorem sc_init : FnScope ["self", "modulus", "cells", "inputs", "steps"] ["self", "modulus", "cells", "inputs", "steps"] (defScope s_init) := ⟨rfl, rfl, rfl, by decide +kernel, rfl, by decide +kernel, by decide +kernel⟩
def spInit (C : Addr) : Sp := fun vs H Q _ => ∃ (x dx S : Addr) (ps : List Addr) (sts : List Stp) (n k : Nat), vs = [.ref x, .int 2, .int (n : Int), .int (k : Int), .ref S] ∧ H x = some (.ins C dx []) ∧ 1 ≤ n ∧ n ≤ 60 ∧ k ≤ 60 ∧ H S = some (.lst (ps.map V.ref)) ∧ StpsAt H ps sts ∧
  (∀ st ∈ sts, StpOk n k st) ∧ sts.length ≤ 20 ∧ ∀ H', Keep x H H' → PrAt C H' x n k sts → Q .non H'
theorem ok_init {f C : Addr} {fd : FuncData} (F : Fun K "__init__" "Program.__init__" s_init f fd) (T : Txt mg) (TC : PrT K C) (G_is_integer : Good P w K mg base "is_integer" 1 ["value"] spIsInt)
    (G_check_steps : Good P w K mg base "check_steps" 6 ["steps", "modulus", "cells", "inputs", "most"] spCheckSteps) : FnOk P w K mg base CX0 7 f fd ["self", "modulus", "cells", "inputs", "steps"] (spInit C) := by
  refine F.ok sc_init (fun vs H Q E h => ?_) (fun cdv A outer s H vs Q E hr h => ?_)
  · obtain ⟨x, dx, S, ps, sts, n, k, rfl, _⟩ := h
    rfl
  · obtain ⟨x, dx, S, ps, sts, n, k, rfl, hx, h1, h2, h3, hS, hA, hok, hlen, q⟩ := h
    refine ⟨_, (pss_cons (ps_if (PW.pt (pw_or (pt_not (pt_val (pe_callG G_is_integer hr (pa_cons (pv 1) pa_nil)))) (pw_or1 (pt_not (pt_chain op_le op_le pe_int (pv 1) (pe_gint T.cMODULUS))))))
        (pss_one ps_never)
        pss_nil)
      (pss_cons (ps_if (PW.pt (pw_or (pt_not (pt_val (pe_callG G_is_integer hr (pa_cons (pv 2) pa_nil)))) (pw_or1 (pt_not (pt_chain op_le op_le pe_int (pv 2) (pe_gint T.cCELLS))))))
        (pss_one ps_never)
        pss_nil)
      (pss_cons (ps_if (PW.pt (pw_or (pt_not (pt_val (pe_callG G_is_integer hr (pa_cons (pv 3) pa_nil)))) (pw_or1 (pt_not (pt_chain op_le op_le pe_int (pv 3) (pe_gint T.cINPUTS))))))
        (pss_one ps_never)
        pss_nil)
      (pss_cons (ps_expr (pe_callG G_check_steps hr (pa_cons (pv 4) (pa_cons (pv 1) (pa_cons (pv 2) (pa_cons (pv 3) (pa_cons (pe_gint T.cSTEPS) pa_nil)))))))
      (pss_cons (ps_fld (pv 0) (pv 1) rfl)
      (pss_cons (ps_fld (pv 0) (pv 2) rfl)
      (pss_cons (ps_fld (pv 0) (pv 3) rfl)
      (pss_one (ps_fld (pv 0) (pe_callTy call_list_of (by rfl) T.list (by decide +kernel) (pa_cons (pv 4) pa_nil)) rfl))))))))), ?_⟩
    refine ⟨_, rfl, 2, rfl, true, rfl, iteF ⟨_, rfl, 2, 2, rfl, rfl, _, rfl, iteDT (by decide) ⟨2, 1000000000, rfl, rfl, _, rfl, iteNS (by decide) ?_⟩⟩⟩
    refine ⟨_, rfl, (n : Int), rfl, true, rfl, iteF ⟨_, rfl, 1, (n : Int), rfl, rfl, _, rfl, iteDT (by omega) ⟨(n : Int), 60, rfl, rfl, _, rfl, iteNS (by omega) ?_⟩⟩⟩
    refine ⟨_, rfl, (k : Int), rfl, true, rfl, iteF ⟨_, rfl, 0, (k : Int), rfl, rfl, _, rfl, iteDT (by omega) ⟨(k : Int), 60, rfl, rfl, _, rfl, iteNS (by omega) ?_⟩⟩⟩
    refine ⟨_, rfl, _, rfl, _, rfl, _, rfl, S, ps, sts, n, k, rfl, hS, hA, hok, hlen, fun H1 s1 => ?_⟩
    have hx1 := s1 _ _ hx
    have hS1 := s1 _ _ hS
    have nSx : S ≠ x := ne_of hS hx (by intro z; cases z)
    have l1 : (putF "modulus" (V.int 2) []).length ≤ 1 := length_putF "modulus" (V.int 2) []
    have l2 := length_putF "cells" (V.int (n : Int)) (putF "modulus" (V.int 2) [])
    have l3 := length_putF "inputs" (V.int (k : Int)) (putF "cells" (V.int (n : Int)) (putF "modulus" (V.int 2) []))
    refine ⟨_, rfl, _, rfl, x, C, dx, _, rfl, hx1, TC.cl, TC.nM, (by show 0 < 1000; decide), ?_⟩
    refine ⟨_, rfl, _, rfl, x, C, dx, _, rfl, upd_same, TC.cl, TC.nC, (by omega), ?_⟩
    rw [upd_upd]
    refine ⟨_, rfl, _, rfl, x, C, dx, _, rfl, upd_same, TC.cl, TC.nI, (by omega), ?_⟩
    rw [upd_upd]
    have hS2 : (upd H1 x (.ins C dx (putF "inputs" (V.int (k : Int)) (putF "cells" (V.int (n : Int)) (putF "modulus" (V.int 2) []))))) S = some (.lst (ps.map V.ref)) := by rw [upd_ne nSx]; exact hS1
    refine ⟨_, rfl, S, _, rfl, .inl (SqL.of hS2), fun L nL => ?_⟩
    have nLx : x ≠ L := fun e => by
      rw [← e, upd_same] at nL
      cases nL
    have nL1 : H1 L = none := by
      rw [upd_ne (Ne.symm nLx)] at nL
      exact nL
    refine ⟨_, rfl, x, C, dx, _, rfl, Eq.trans (upd_ne nLx) upd_same, TC.cl, TC.nS, (by omega), ?_⟩
    have kp : Keep x H1 (upd (upd (upd H1 x (.ins C dx (putF "inputs" (V.int (k : Int)) (putF "cells" (V.int (n : Int)) (putF "modulus" (V.int 2) []))))) L (.lst (ps.map V.ref))) x (.ins C dx (pf n k L))) := fun b o nb e => by
      rw [upd_ne nb, upd_ne (ne_of_none e nL1), upd_ne nb]
      exact e
    have tp : Tups H1 (upd (upd (upd H1 x (.ins C dx (putF "inputs" (V.int (k : Int)) (putF "cells" (V.int (n : Int)) (putF "modulus" (V.int 2) []))))) L (.lst (ps.map V.ref))) x (.ins C dx (pf n k L))) := fun b xs e => kp b _ (ne_of e hx1 (by intro z; cases z)) e
    refine q _ ((Keep.of s1).trans kp) ⟨⟨dx, L, ps, upd_same, ?_, hA.mono fun p st e => (e.tups (tups_of s1)).tups tp⟩, hok⟩
    rw [upd_ne (Ne.symm nLx), upd_same]

abbrev s_performS : Stmt := topS 30
theorem sc_performS : FnScope ["step", "memory", "given", "modulus", "total", "kind", "index", "kept", "value"] ["step", "memory", "given", "modulus"] (defScope s_performS) := ⟨rfl, rfl, rfl, by decide +kernel, rfl, by decide +kernel, by decide +kernel⟩
def spPerformS : Sp := fun vs H Q _ => ∃ (p : Addr) (st : Stp) (m g : Addr) (ms gs : List Bool), vs = [.ref p, .ref m, .ref g, .int 2] ∧ StpAt H p st ∧ StpOk ms.length gs.length st ∧ H m = some (.lst (ms.map bi)) ∧ H g = some (.lst (gs.map bi)) ∧
  Q .non (upd H m (.lst ((stepB gs ms st).map bi)))
theorem facs_take {gs ms : List Bool} {fs : List Fac} {i : Nat} {f : Fac} (h : fs[i]? = some f) : facsVal gs ms (fs.take (i + 1)) = (facsVal gs ms (fs.take i) && facVal gs ms f) := by
  unfold facsVal
  rw [List.take_add_one, h, List.all_append]
  simp
theorem ok_performS {f : Addr} {fd : FuncData} (F : Fun K "perform" "perform" s_performS f fd) (T : Txt mg) : FnOk P w K mg base CX0 1 f fd ["step", "memory", "given", "modulus"] spPerformS := by
  refine F.ok sc_performS (fun vs H Q E h => ?_) (fun cdv A outer s H vs Q E hr h => ?_)
  · obtain ⟨p, st, m, g, ms, gs, rfl, _⟩ := h
    rfl
  · obtain ⟨p, st, m, g, ms, gs, rfl, hp, hok, hm, hg, q⟩ := h
    refine ⟨_, (pss_one (ps_if (pt_cmpR op_eq (pe_ix ix_tup (pv 0) pe_int (fun _ _ => rfl)) pe_str (nomark _))
        (pss_cons (ps_set (i := 4) sc_performS.nd rfl (Or.inl rfl) (pe_ix ix_tup (pv 0) pe_int (fun _ _ => rfl)))
        (pss_cons (ps_for PassesOwn.never rfl (pi_tup (pe_ix ix_tup (pv 0) pe_int (fun _ _ => rfl))) (pg_tup rfl (pgs_cons (pg_name (i := 5) sc_performS.nd rfl (Or.inl rfl)) (pgs_cons (pg_name (i := 6) sc_performS.nd rfl (Or.inl rfl)) pgs_nil)))
          (pss_one (ps_set (i := 4) sc_performS.nd rfl (Or.inl rfl) (pe_op op_mod (pe_op op_mul (pv 4) (pe_ifExp (pt_cmpR op_eq (pv 5) pe_str (nomark _)) (pe_ix ix_list (pv 1) (pv 6) (fun _ _ => rfl)) (pe_ix ix_list (pv 2) (pv 6) (fun _ _ => rfl)))) (pv 3)))))
        (pss_one (ps_asg (pe_op op_mod (pe_op op_add (pe_ix ix_list (pv 1) (pe_ix ix_tup (pv 0) pe_int (fun _ _ => rfl)) (fun _ _ => rfl)) (pv 4)) (pv 3)) (pg_sub (pv 1) (pe_ix ix_tup (pv 0) pe_int (fun _ _ => rfl)) set_list)))))
        (pss_one (ps_if (pt_cmpR op_eq (pe_ix ix_tup (pv 0) pe_int (fun _ _ => rfl)) pe_str (nomark _))
          (pss_one (ps_asg (pe_op op_mod (pe_op op_mul (pe_ix ix_list (pv 1) (pe_ix ix_tup (pv 0) pe_int (fun _ _ => rfl)) (fun _ _ => rfl)) (pe_ix ix_tup (pv 0) pe_int (fun _ _ => rfl))) (pv 3)) (pg_sub (pv 1) (pe_ix ix_tup (pv 0) pe_int (fun _ _ => rfl)) set_list)))
          (pss_one (ps_if (pt_cmpR op_eq (pe_ix ix_tup (pv 0) pe_int (fun _ _ => rfl)) pe_str (nomark _))
            (pss_cons (ps_set (i := 7) sc_performS.nd rfl (Or.inl rfl) (pe_ix ix_list (pv 1) (pe_ix ix_tup (pv 0) pe_int (fun _ _ => rfl)) (fun _ _ => rfl)))
            (pss_cons (ps_asg (pe_ix ix_list (pv 1) (pe_ix ix_tup (pv 0) pe_int (fun _ _ => rfl)) (fun _ _ => rfl)) (pg_sub (pv 1) (pe_ix ix_tup (pv 0) pe_int (fun _ _ => rfl)) set_list))
            (pss_one (ps_asg (pv 7) (pg_sub (pv 1) (pe_ix ix_tup (pv 0) pe_int (fun _ _ => rfl)) set_list)))))
            (pss_cons (ps_set (i := 8) sc_performS.nd rfl (Or.inl rfl) pe_nev)
            (pss_one (ps_asg (pe_op op_mod (pe_op op_add (pe_ix ix_list (pv 1) (pe_ix ix_tup (pv 0) pe_int (fun _ _ => rfl)) (fun _ _ => rfl)) (pe_op op_mul (pe_ix ix_tup (pv 0) pe_int (fun _ _ => rfl)) (pv 8))) (pv 3)) (pg_sub (pv 1) (pe_ix ix_tup (pv 0) pe_int (fun _ _ => rfl)) set_list)))))))))), ?_⟩
    cases st with
    | add t c fs =>
      obtain ⟨ht, hfl, hfs⟩ := hok
      obtain ⟨fq, hp, fps, hq, hA⟩ := hp
      refine ⟨_, rfl, p, _, 0, _, rfl, rfl, SqT.of hp, at_nat (j := 0) rfl, rfl, _, rfl, iteDT rfl ?_⟩
      refine ⟨_, rfl, p, _, 2, _, rfl, rfl, SqT.of hp, at_nat (j := 2) rfl, ?_⟩
      have hfl2 : (fps.map V.ref).length = fs.length := by rw [List.length_map]; exact hA.1
      refine ⟨_, rfl, p, _, 3, _, rfl, rfl, SqT.of hp, at_nat (j := 3) rfl, fq, rfl, ⟨_, SqT.of hq⟩, for_tup (K := K) (a := fq) (xs := fps.map V.ref) (fun i σ H' => H' = H ∧ ∃ y5 y6 : Option V,
        σ = [some (.ref p), some (.ref m), some (.ref g), some (.int 2), some (bi (c && facsVal gs ms (fs.take i))), y5, y6, none, none]) ⟨rfl, none, none, by rw [List.take_zero]; cases c <;> rfl⟩ (fun i σ H' _ e => by rw [e.1]; exact SqT.of hq) ?_ ?_⟩
      · rintro i x σ H' hx ⟨rfl, y5, y6, rfl⟩
        obtain ⟨fp, f, rfl, _, hf, fa⟩ := hA.at hx
        have fok := hfs f (List.mem_of_getElem? hf)
        have e1 := facs_take (gs := gs) (ms := ms) hf
        generalize facsVal gs ms (fs.take i) = u at e1 ⊢
        have lo := i01_lo (c && u)
        have hi := i01_hi (c && u)
        cases f with
        | cell j =>
          have fa : H' fp = some (.tup [.str "cell", .int (j : Int)]) := fa
          refine ⟨fp, _, rfl, SqT.of fa, rfl, _, _, rfl, _, _, rfl, rfl, ?_⟩
          refine ⟨_, rfl, _, rfl, rfl, _, rfl, iteDT rfl ⟨_, rfl, _, rfl, m, _, (j : Int), _, rfl, rfl, SqL.of hm, at_nat (bis_get fok.1), i01 (c && u), _, rfl, rfl, .inl ⟨by omega, by omega⟩, _, rfl, _, 2, rfl, rfl, (by show (0 : Int) < 2; decide), ?_⟩⟩
          have e2 : V.int (i01 (c && u) * i01 (ms.getD j false) % 2) = bi (c && facsVal gs ms (fs.take (i + 1))) := by
            rw [i01_mul, e1, ← Bool.and_assoc]
            rfl
          refine ⟨rfl, some (.str "cell"), some (.int (j : Int)), ?_⟩
          rw [← e2]
          rfl
        | inp j =>
          have fa : H' fp = some (.tup [.str "input", .int (j : Int)]) := fa
          refine ⟨fp, _, rfl, SqT.of fa, rfl, _, _, rfl, _, _, rfl, rfl, ?_⟩
          refine ⟨_, rfl, _, rfl, rfl, _, rfl, iteDF ne_input_cell ⟨_, rfl, _, rfl, g, _, (j : Int), _, rfl, rfl, SqL.of hg, at_nat (bis_get fok), i01 (c && u), _, rfl, rfl, .inl ⟨by omega, by omega⟩, _, rfl, _, 2, rfl, rfl, (by show (0 : Int) < 2; decide), ?_⟩⟩
          have e2 : V.int (i01 (c && u) * i01 (gs.getD j false) % 2) = bi (c && facsVal gs ms (fs.take (i + 1))) := by
            rw [i01_mul, e1, ← Bool.and_assoc]
            rfl
          refine ⟨rfl, some (.str "input"), some (.int (j : Int)), ?_⟩
          rw [← e2]
          rfl
      · rintro σ H' ⟨rfl, y5, y6, rfl⟩
        rw [hfl2, List.take_length]
        refine ⟨_, rfl, _, rfl, p, _, 1, _, rfl, rfl, SqT.of hp, at_nat (j := 1) rfl, m, _, (t : Int), _, rfl, rfl, SqL.of hm, at_nat (bis_get ht), _, rfl, i01 (ms.getD t false), i01 (c && facsVal gs ms fs), rfl, rfl, _, rfl, _, 2, rfl, rfl, (by show (0 : Int) < 2; decide),
          _, rfl, _, rfl, p, _, 1, _, rfl, rfl, SqT.of hp, at_nat (j := 1) rfl, m, _, (t : Int), t, rfl, rfl, hm, ixN_nat (by rw [List.length_map]; exact ht), ?_⟩
        have e : (ms.map bi).set t (V.int ((i01 (ms.getD t false) + i01 (c && facsVal gs ms fs)) % 2)) = (stepB gs ms (.add t c fs)).map bi := by
          rw [i01_add]
          exact List.map_set.symm
        show Q .non (upd H' m (.lst ((ms.map bi).set t (V.int ((i01 (ms.getD t false) + i01 (c && facsVal gs ms fs)) % 2)))))
        rw [e]
        exact q
    | scale t =>
      have ht : t < ms.length := hok
      have hp : H p = some (.tup [.str "scale", .int (t : Int), .int 1]) := hp
      refine ⟨_, rfl, p, _, 0, _, rfl, rfl, SqT.of hp, at_nat (j := 0) rfl, rfl, _, rfl, iteDF ne_scale_add ?_⟩
      refine ⟨_, rfl, p, _, 0, _, rfl, rfl, SqT.of hp, at_nat (j := 0) rfl, rfl, _, rfl, iteDT rfl ?_⟩
      refine ⟨_, rfl, _, rfl, p, _, 1, _, rfl, rfl, SqT.of hp, at_nat (j := 1) rfl, m, _, (t : Int), _, rfl, rfl, SqL.of hm, at_nat (bis_get ht), _, rfl, p, _, 2, _, rfl, rfl, SqT.of hp, at_nat (j := 2) rfl, i01 (ms.getD t false), 1, rfl, rfl, .inr ⟨by decide, by decide⟩, _, rfl, _, 2, rfl, rfl, (by show (0 : Int) < 2; decide),
        _, rfl, _, rfl, p, _, 1, _, rfl, rfl, SqT.of hp, at_nat (j := 1) rfl, m, _, (t : Int), t, rfl, rfl, hm, ixN_nat (by rw [List.length_map]; exact ht), ?_⟩
      have e : (ms.map bi).set t (V.int (i01 (ms.getD t false) * 1 % 2)) = (stepB gs ms (.scale t)).map bi := by
        rw [i01_one]
        show (ms.map bi).set t (bi (ms.getD t false)) = ms.map bi
        rw [← List.map_set, set_get]
      show Q .non (upd H m (.lst ((ms.map bi).set t (V.int (i01 (ms.getD t false) * 1 % 2)))))
      rw [e]
      exact q
    | swap a b =>
      obtain ⟨ha, hb, hne⟩ := hok
      have hp : H p = some (.tup [.str "swap", .int (a : Int), .int (b : Int)]) := hp
      have npm : p ≠ m := ne_of hp hm (by intro z; cases z)
      refine ⟨_, rfl, p, _, 0, _, rfl, rfl, SqT.of hp, at_nat (j := 0) rfl, rfl, _, rfl, iteDF ne_swap_add ?_⟩
      refine ⟨_, rfl, p, _, 0, _, rfl, rfl, SqT.of hp, at_nat (j := 0) rfl, rfl, _, rfl, iteDF ne_swap_scale ?_⟩
      refine ⟨_, rfl, p, _, 0, _, rfl, rfl, SqT.of hp, at_nat (j := 0) rfl, rfl, _, rfl, iteDT rfl ?_⟩
      refine ⟨_, rfl, _, rfl, p, _, 1, _, rfl, rfl, SqT.of hp, at_nat (j := 1) rfl, m, _, (a : Int), _, rfl, rfl, SqL.of hm, at_nat (bis_get ha), ?_⟩
      refine ⟨_, rfl, _, rfl, p, _, 2, _, rfl, rfl, SqT.of hp, at_nat (j := 2) rfl, m, _, (b : Int), _, rfl, rfl, SqL.of hm, at_nat (bis_get hb),
        _, rfl, _, rfl, p, _, 1, _, rfl, rfl, SqT.of hp, at_nat (j := 1) rfl, m, _, (a : Int), a, rfl, rfl, hm, ixN_nat (by rw [List.length_map]; exact ha), ?_⟩
      refine ⟨_, rfl, _, rfl, _, rfl, p, _, 2, _, rfl, rfl, SqT.of (by rw [upd_ne npm]; exact hp), at_nat (j := 2) rfl, m, _, (b : Int), b, rfl, rfl, upd_same, ixN_nat (by rw [List.length_set, List.length_map]; exact hb), ?_⟩
      have e : ((ms.map bi).set a (bi (ms.getD b false))).set b (bi (ms.getD a false)) = (stepB gs ms (.swap a b)).map bi := by
        rw [← List.map_set, ← List.map_set]
        rfl
      show Q .non (upd (upd H m (.lst ((ms.map bi).set a (bi (ms.getD b false))))) m (.lst (((ms.map bi).set a (bi (ms.getD b false))).set b (bi (ms.getD a false)))))
      rw [upd_upd, e]
      exact q

abbrev s_run : Stmt := inClass (topS 39) 4
theorem sc_run : FnScope ["self", "memory", "given", "cells", "step"] ["self", "memory", "given"] (defScope s_run) := ⟨rfl, rfl, rfl, by decide +kernel, rfl, by decide +kernel, by decide +kernel⟩
def spRun (C : Addr) : Sp := fun vs H Q _ => ∃ (x m g : Addr) (sts : List Stp) (ms gs : List Bool), vs = [.ref x, .ref m, .ref g] ∧ PrAt C H x ms.length gs.length sts ∧ H m = some (.lst (ms.map bi)) ∧ H g = some (.lst (gs.map bi)) ∧
  ∀ H' p, Same H H' → H p = none → H' p = some (.lst ((runB gs ms sts).map bi)) → Q (.ref p) H'
theorem ok_run {f C : Addr} {fd : FuncData} (F : Fun K "run" "Program.run" s_run f fd) (T : Txt mg) (TC : PrT K C) (G_check_numbers : Good P w K mg base "check_numbers" 3 ["values", "many", "modulus"] spCheckNums)
    (G_perform_steps : Good P w K mg base "perform_steps" 1 ["step", "memory", "given", "modulus"] spPerformS) : FnOk P w K mg base CX0 4 f fd ["self", "memory", "given"] (spRun C) := by
  refine F.ok sc_run (fun vs H Q E h => ?_) (fun cdv A outer s H vs Q E hr h => ?_)
  · obtain ⟨x, m, g, sts, ms, gs, rfl, _⟩ := h
    rfl
  · obtain ⟨x, m, g, sts, ms, gs, rfl, ⟨⟨dx, S, ps, hx, hS, hA⟩, hok⟩, hm, hg, q⟩ := h
    refine ⟨_, (pss_cons (ps_expr (pe_callG G_check_numbers hr (pa_cons (pv 1) (pa_cons (pe_fld (pv 0) rfl) (pa_cons (pe_fld (pv 0) rfl) pa_nil)))))
      (pss_cons (ps_expr (pe_callG G_check_numbers hr (pa_cons (pv 2) (pa_cons (pe_fld (pv 0) rfl) (pa_cons (pe_fld (pv 0) rfl) pa_nil)))))
      (pss_cons (ps_set (i := 3) sc_run.nd rfl (Or.inl rfl) (pe_callTy call_list_of (by rfl) T.list (by decide +kernel) (pa_cons (pv 1) pa_nil)))
      (pss_cons (ps_for PassesOwn.never rfl (pi_list (pe_fld (pv 0) rfl)) (pg_name (i := 4) sc_run.nd rfl (Or.inl rfl))
        (pss_one (ps_expr (pe_callG G_perform_steps hr (pa_cons (pv 4) (pa_cons (pv 3) (pa_cons (pv 2) (pa_cons (pe_fld (pv 0) rfl) pa_nil))))))))
      (pss_one (ps_ret (pv 3))))))), ?_⟩
    refine ⟨_, rfl, _, rfl, x, C, dx, _, _, rfl, hx, TC.cl, TC.nC, pf_cells _ _ _, _, rfl, x, C, dx, _, _, rfl, hx, TC.cl, TC.nM, pf_modulus _ _ _, m, ms, _, rfl, hm, rfl, ?_⟩
    refine ⟨_, rfl, _, rfl, x, C, dx, _, _, rfl, hx, TC.cl, TC.nI, pf_inputs _ _ _, _, rfl, x, C, dx, _, _, rfl, hx, TC.cl, TC.nM, pf_modulus _ _ _, g, gs, _, rfl, hg, rfl, ?_⟩
    refine ⟨_, rfl, m, _, rfl, .inl (SqL.of hm), fun L nL => ?_⟩
    have s1 : Same H (upd H L (.lst (ms.map bi))) := same_new nL
    have eL : (upd H L (.lst (ms.map bi))) L = some (.lst (ms.map bi)) := upd_same
    refine ⟨_, rfl, x, C, dx, _, _, rfl, s1 _ _ hx, TC.cl, TC.nS, pf_steps _ _ _, S, rfl, ⟨_, SqL.of (s1 _ _ hS)⟩, for_list (K := K) (a := S) (xs := ps.map V.ref) (fun i σ H' => Same H H' ∧ H' L = some (.lst ((runB gs ms (sts.take i)).map bi)) ∧ ∃ v : Option V, σ = [some (.ref x), some (.ref m), some (.ref g), some (.ref L), v])
      ⟨s1, eL, none, rfl⟩ (fun i σ H' _ e => SqL.of (e.1 _ _ hS)) ?_ ?_⟩
    · rintro i y σ H' hy ⟨s2, eL2, v, rfl⟩
      obtain ⟨p, st, rfl, _, hst, sa⟩ := hA.at hy
      have e1 := runB_take gs ms hst
      have hl := runB_len gs (sts.take i) ms
      generalize runB gs ms (sts.take i) = cur at eL2 e1 hl
      have h2 : StpOk cur.length gs.length st := by rw [hl]; exact hok st (List.mem_of_getElem? hst)
      refine ⟨_, rfl, _, rfl, _, rfl, _, rfl, x, C, dx, _, _, rfl, s2 _ _ hx, TC.cl, TC.nM, pf_modulus _ _ _, p, st, L, g, cur, gs, rfl, sa.tups (tups_of s2), h2, eL2, s2 _ _ hg, ?_⟩
      exact ⟨same_late s2 nL, by rw [upd_same, e1], _, rfl⟩
    · rintro σ H' ⟨s2, eL2, v, rfl⟩
      rw [List.length_map, hA.1, List.take_length] at eL2
      exact ⟨_, rfl, q H' L s2 nL eL2⟩

abbrev s_gates_of : Stmt := topS 21
theorem sc_gates_of : FnScope ["program", "gates", "step"] ["program"] (defScope s_gates_of) := ⟨rfl, rfl, rfl, by decide +kernel, rfl, by decide +kernel, by decide +kernel⟩
def spGatesOf (C : Addr) : Sp := fun vs H Q _ => ∃ (x : Addr) (n k : Nat) (sts : List Stp), vs = [.ref x] ∧ PrAt C H x n k sts ∧ k + n ≤ 120 ∧ sts.length ≤ 20 ∧
  ∀ H' G qs gts, Same H H' → H G = none → H' G = some (.lst (qs.map V.ref)) → GatesAt H' qs gts → (∀ g ∈ gts, GateOk (k + n) g) → gts.length ≤ 60 → Does k n gts (fun gs ms => runB gs ms sts) → Q (.ref G) H'
theorem ok_gates_of {f C : Addr} {fd : FuncData} (F : Fun K "gates_of" "gates_of" s_gates_of f fd) (T : Txt mg) (TC : PrT K C) (G_gates_of_step : Good P w K mg base "gates_of_step" 1 ["step", "inputs"] spGatesStep) : FnOk P w K mg base CX0 2 f fd ["program"] (spGatesOf C) := by
  refine F.ok sc_gates_of (fun vs H Q E h => ?_) (fun cdv A outer s H vs Q E hr h => ?_)
  · obtain ⟨x, n, k, sts, rfl, _⟩ := h
    rfl
  · obtain ⟨x, n, k, sts, rfl, ⟨⟨dx, S, ps, hx, hS, hA⟩, hok⟩, hkn, hlen, q⟩ := h
    refine ⟨_, (pss_cons (ps_if (PW.pt (pw_or (pt_cmpR op_ne (pe_fld (pv 0) rfl) pe_int (nomark _)) (pw_or1 (pt_cmpR op_gt (pe_op op_add (pe_fld (pv 0) rfl) (pe_fld (pv 0) rfl)) (pe_gint T.cBITS) (nomark _)))))
        (pss_one ps_never)
        pss_nil)
      (pss_cons (ps_set (i := 1) sc_gates_of.nd rfl (Or.inl rfl) (pe_lst pa_nil))
      (pss_cons (ps_for PassesOwn.never rfl (pi_list (pe_fld (pv 0) rfl)) (pg_name (i := 2) sc_gates_of.nd rfl (Or.inl rfl))
        (pss_cons (ps_if (pt_cmpR op_eq (pe_ix ix_tup (pv 2) pe_int (fun _ _ => rfl)) pe_str (nomark _))
          (pss_one ps_never)
          pss_nil)
        (pss_one (ps_expr (pe_bm PySem.F.plainAttrs_list PySem.F.slot_list_extend PySem.F.type_list_extend mt_extend (pv 1) (pa_cons (pe_callG G_gates_of_step hr (pa_cons (pv 2) (pa_cons (pe_fld (pv 0) rfl) pa_nil))) pa_nil))))))
      (pss_one (ps_ret (pv 1)))))), ?_⟩
    refine ⟨_, rfl, x, C, dx, _, _, rfl, hx, TC.cl, TC.nM, pf_modulus _ _ _, rfl, _, rfl, iteNS rfl ?_⟩
    refine ⟨_, rfl, x, C, dx, _, _, rfl, hx, TC.cl, TC.nI, pf_inputs _ _ _, _, rfl, x, C, dx, _, _, rfl, hx, TC.cl, TC.nC, pf_cells _ _ _, (k : Int), (n : Int), rfl, rfl, _, 120, rfl, rfl, _, rfl, iteDF (by omega) ?_⟩
    refine ⟨Nat.zero_le _, fun L nL => ?_⟩
    have s1 : Same H (upd H L (.lst [])) := same_new nL
    refine ⟨_, rfl, x, C, dx, _, _, rfl, s1 _ _ hx, TC.cl, TC.nS, pf_steps _ _ _, S, rfl, ⟨_, SqL.of (s1 _ _ hS)⟩, for_list (K := K) (a := S) (xs := ps.map V.ref) (fun i σ H' => Same H H' ∧ ∃ (qs : List Addr) (gts : List Gate) (v : Option V), σ = [some (.ref x), some (.ref L), v] ∧
      H' L = some (.lst (qs.map V.ref)) ∧ GatesAt H' qs gts ∧ (∀ g ∈ gts, GateOk (k + n) g) ∧ gts.length ≤ 3 * i ∧ Does k n gts (fun gs ms => runB gs ms (sts.take i)))
      ⟨s1, [], [], none, rfl, upd_same, Are.nil, fun g hg => (nomatch hg), Nat.zero_le _, fun gs ms _ _ => rfl⟩ (fun i σ H' _ e => SqL.of (e.1 _ _ hS)) ?_ ?_⟩
    · rintro i y σ H' hy ⟨s2, qs, gts, v, rfl, eL, gA, gok, glen, gd⟩
      obtain ⟨p, st, rfl, _, hst, sa⟩ := hA.at hy
      have il : i < sts.length := (List.getElem?_eq_some_iff.mp hst).1
      have sa2 := sa.tups (tups_of s2)
      obtain ⟨s, xs, hp, hne⟩ := stp_head sa2
      refine ⟨_, rfl, p, _, 0, _, rfl, rfl, SqT.of hp, at_nat (j := 0) rfl, rfl, _, rfl, iteDF hne ?_⟩
      refine ⟨_, rfl, .inl ⟨rfl, _, SqL.of eL⟩, _, rfl, _, rfl, x, C, dx, _, _, rfl, s2 _ _ hx, TC.cl, TC.nI, pf_inputs _ _ _, p, k, n, st, rfl, sa2, hok st (List.mem_of_getElem? hst), hkn, fun H3 G qs2 gts2 s3 nG eG gA2 gok2 glen2 gd2 => ?_⟩
      have eL3 := s3 _ _ eL
      refine ⟨L, G, _, _, rfl, rfl, eL3, eG, ?_, ?_⟩
      · rw [List.length_map, List.length_map, gA.1, gA2.1]
        exact small_line (by omega)
      · have tp : Tups H3 (upd H3 L (.lst (qs.map V.ref ++ qs2.map V.ref))) := tups_lst eL3
        refine ⟨same_late (s2.trans s3) nL, qs ++ qs2, gts ++ gts2, _, rfl, by rw [upd_same, List.map_append], Are.append (gA.mono fun p g e => (e.tups (tups_of s3)).tups tp) (gA2.mono fun p g e => e.tups tp), fun g hg => (List.mem_append.mp hg).elim (gok g) (gok2 g), by rw [List.length_append]; omega, fun gs ms hgs hms => ?_⟩
        rw [performB_append, gd gs ms hgs hms, gd2 gs _ hgs (by rw [runB_len]; exact hms)]
        show _ = gs ++ runB gs ms (sts.take (i + 1))
        rw [runB_take gs ms hst]
    · rintro σ H' ⟨s2, qs, gts, v, rfl, eL, gA, gok, glen, gd⟩
      rw [List.length_map, hA.1] at glen gd
      rw [List.take_length] at gd
      exact ⟨_, rfl, q H' L qs gts s2 nL eL gA gok (by omega) gd⟩
end
end Bf

namespace Bf
open PySem PySem.Spec PyProof.Rows L2
abbrev rModI : R2 := rI (fun _ j => 0 < j) fun i j => V.int (i % j)
abbrev rAddI : R2 := rI0 fun i j => V.int (i + j)
abbrev rSubI : R2 := rI0 fun i j => V.int (i - j)
/-- another cell than the target -/
theorem other_cell {t n : Nat} (v : Int) (ht : t < n) (hn : 1 < n) : ∃ j : Nat, ((t : Int) + 1 + v % ((n : Int) - 1)) % (n : Int) = (j : Int) ∧ j < n ∧ j ≠ t := by
  have lo := Int.emod_nonneg v (show (n : Int) - 1 ≠ 0 by omega)
  have hi := Int.emod_lt_of_pos v (show (0 : Int) < (n : Int) - 1 by omega)
  generalize v % ((n : Int) - 1) = r at lo hi ⊢
  by_cases h : (t : Int) + 1 + r < (n : Int)
  · rw [Int.emod_eq_of_lt (by omega) h]
    exact ⟨((t : Int) + 1 + r).toNat, by omega, by omega, by omega⟩
  · have e : (t : Int) + 1 + r = ((t : Int) + 1 + r - n) + n := by omega
    rw [e, Int.add_emod_right, Int.emod_eq_of_lt (by omega) (by omega)]
    exact ⟨((t : Int) + 1 + r - n).toNat, by omega, by omega, by omega⟩
/-- the draws: a list of the numbers' list and the place -/
def Dr (H : Hp) (d n : Addr) (ns : List Int) : Prop := ∃ z : Int, H d = some (.lst [.ref n, .int z]) ∧ 0 ≤ z ∧ H n = some (.lst (ns.map V.int))
theorem Dr.same {H H' : Hp} {d n : Addr} {ns : List Int} (h : Dr H d n ns) (s : Same H H') : Dr H' d n ns := by
  obtain ⟨z, h1, h2, h3⟩ := h
  exact ⟨z, s _ _ h1, h2, s _ _ h3⟩
theorem Dr.ne {H : Hp} {d n p : Addr} {ns : List Int} (h : Dr H d n ns) (hp : H p = none) : p ≠ d ∧ p ≠ n := by
  obtain ⟨z, h1, _, h3⟩ := h
  refine ⟨fun e => ?_, fun e => ?_⟩
  · rw [e, h1] at hp
    cases hp
  · rw [e, h3] at hp
    cases hp
theorem Dr.tups {H H' : Hp} {d n : Addr} {ns : List Int} (h : Dr H d n ns) (s : Keep d H H') : Tups H H' := by
  obtain ⟨z, h1, _⟩ := h
  exact s.tups h1
theorem Dr.late {H : Hp} {d n L : Addr} {ns : List Int} {o : HO} (h : Dr H d n ns) (hn : L ≠ d ∧ L ≠ n) : Dr (upd H L o) d n ns := by
  obtain ⟨z, h1, h2, h3⟩ := h
  exact ⟨z, by rw [upd_ne hn.1.symm]; exact h1, h2, by rw [upd_ne hn.2.symm]; exact h3⟩
section
variable {P : Program} {w : World} {K : PySem.W.Frag} {mg : Str → Option Value} {base : Heap}
abbrev s_mixed : Stmt := topS 41
theorem sc_mixed : FnScope ["_law_number_here", "_law_k", "_law_step_here"] ["_law_number_here", "_law_k"] (defScope s_mixed) := ⟨rfl, rfl, rfl, by decide +kernel, rfl, by decide +kernel, by decide +kernel⟩
def spMixed : Sp := fun vs H Q _ => ∃ a b : Int, vs = [.int a, .int b] ∧ ∀ v : Int, Q (.int v) H
theorem ok_mixed {f : Addr} {fd : FuncData} (F : Fun K "_law_mixed" "_law_mixed" s_mixed f fd) : FnOk P w K mg base CX0 1 f fd ["_law_number_here", "_law_k"] spMixed := by
  refine F.ok sc_mixed (fun vs H Q E h => ?_) (fun cdv A outer s H vs Q E hr h => ?_)
  · obtain ⟨a, b, rfl, _⟩ := h
    rfl
  · obtain ⟨a, b, rfl, q⟩ := h
    refine ⟨_, (pss_cons (ps_set (i := 2) sc_mixed.nd rfl (Or.inl rfl) (pe_op op_mod (pe_op op_add (pe_op op_add (pe_op op_mul (pv 0) pe_int) (pe_op op_mul (pv 1) pe_int)) pe_int) pe_int))
      (pss_one (ps_ret (pe_op op_mod (pe_op op_add (pe_op op_mul (pv 2) (pe_op op_add (pe_op op_fdiv (pv 2) pe_int) pe_int)) (pv 1)) pe_int)))), ?_⟩
    have lo := Int.emod_nonneg (a * 48271 + b * 69621 + 12345) (show (2147483647 : Int) ≠ 0 by decide)
    have hi := Int.emod_lt_of_pos (a * 48271 + b * 69621 + 12345) (show (0 : Int) < 2147483647 by decide)
    generalize hz : (a * 48271 + b * 69621 + 12345) % 2147483647 = z at lo hi
    refine ⟨_, rfl, a, 48271, rfl, rfl, .inr ⟨by decide, by decide⟩, _, rfl, b, 69621, rfl, rfl, .inr ⟨by decide, by decide⟩, _, _, rfl, rfl, _, 12345, rfl, rfl, _, 2147483647, rfl, rfl, (by show (0 : Int) < 2147483647; decide), ?_⟩
    refine ⟨.int z, by rw [← hz]; rfl, .int z, by rw [← hz]; rfl, z, 65536, rfl, rfl, ⟨by decide, by decide⟩, _, 3, rfl, rfl, z, _, rfl, rfl, .inl ⟨by omega, by omega⟩, _, rfl, _, b, rfl, rfl, _, 2147483647, rfl, rfl, (by show (0 : Int) < 2147483647; decide), q _⟩

abbrev s_numbers : Stmt := topS 42
theorem sc_numbers : FnScope ["_law_script", "_law_numbers_here", "_law_cell", "_law_rest", "_law_k"] ["_law_script"] (defScope s_numbers) := ⟨rfl, rfl, rfl, by decide +kernel, rfl, by decide +kernel, by decide +kernel⟩
def spNumbers (K : PySem.W.Frag) : Sp := fun vs H Q _ => ∃ (a : Addr) (ns : List Int), vs = [.ref a] ∧ SqL K H a (ns.map V.int) ∧ ns.length ≤ 63 ∧ ∀ (H' : Hp) (p : Addr) (ms : List Int), Same H H' → H p = none → H' p = some (.lst (ms.map V.int)) → Q (.ref p) H'
theorem ints_get {ns : List Int} {i : Nat} {x : V} (h : (ns.map V.int)[i]? = some x) : ∃ z, x = V.int z := by
  rw [List.getElem?_map] at h
  cases e : ns[i]? with
  | none =>
    rw [e] at h
    cases h
  | some z =>
    rw [e] at h
    exact ⟨z, (Option.some.inj h).symm⟩
theorem line4000 {n : Nat} (h : n ≤ 4000) : n < sizeLine := Nat.lt_of_le_of_lt h (by decide)
theorem ok_numbers {f : Addr} {fd : FuncData} (F : Fun K "_law_numbers" "_law_numbers" s_numbers f fd) (T : Txt mg) (G__law_mixed : Good P w K mg base "_law_mixed" 1 ["_law_number_here", "_law_k"] spMixed) : FnOk P w K mg base CX0 2 f fd ["_law_script"] (spNumbers K) := by
  refine F.ok sc_numbers (fun vs H Q E h => ?_) (fun cdv A outer s H vs Q E hr h => ?_)
  · obtain ⟨a, ns, rfl, _⟩ := h
    rfl
  · obtain ⟨a, ns, rfl, hS, hlen, q⟩ := h
    refine ⟨_, (pss_cons (ps_set (i := 1) sc_numbers.nd rfl (Or.inl rfl) (pe_lst pa_nil))
      (pss_cons (ps_for PassesOwn.never rfl (pi_list (pv 0)) (pg_name (i := 2) sc_numbers.nd rfl (Or.inl rfl))
        (pss_one (ps_if (pt_cmpR op_ge (pv 2) (pe_op op_pow pe_int pe_int) (nomark _))
          (pss_cons (ps_set (i := 3) sc_numbers.nd rfl (Or.inl rfl) (pv 2))
          (pss_one (ps_for PassesOwn.never rfl (pi_range1 (by rfl) T.range (pa_cons pe_int pa_nil)) (pg_name (i := 4) sc_numbers.nd rfl (Or.inl rfl))
            (pss_one (ps_if (pt_cmpR op_gt (pv 3) pe_int (nomark _))
              (pss_cons (ps_expr (pe_bm PySem.F.plainAttrs_list PySem.F.slot_list_append PySem.F.type_list_append mt_append (pv 1) (pa_cons (pe_op op_mod (pv 3) pe_int) pa_nil)))
              (pss_one (ps_set (i := 3) sc_numbers.nd rfl (Or.inl rfl) (pe_op op_fdiv (pv 3) pe_int))))
              pss_nil)))))
          (pss_cons (ps_expr (pe_bm PySem.F.plainAttrs_list PySem.F.slot_list_append PySem.F.type_list_append mt_append (pv 1) (pa_cons (pe_op op_mod (pv 2) pe_int) pa_nil)))
          (pss_one (ps_for PassesOwn.never rfl (pi_range1 (by rfl) T.range (pa_cons pe_int pa_nil)) (pg_name (i := 4) sc_numbers.nd rfl (Or.inl rfl))
            (pss_one (ps_expr (pe_bm PySem.F.plainAttrs_list PySem.F.slot_list_append PySem.F.type_list_append mt_append (pv 1) (pa_cons (pe_op op_mod (pe_callG G__law_mixed hr (pa_cons (pe_callG G__law_mixed hr (pa_cons (pe_op op_mod (pv 2) pe_int) (pa_cons (pv 4) pa_nil))) (pa_cons (pe_op op_add (pv 4) pe_int) pa_nil))) pe_int) pa_nil))))))))))
      (pss_one (ps_ret (pv 1))))), ?_⟩
    refine ⟨Nat.zero_le _, fun L nL => ?_⟩
    have s1 : Same H (upd H L (.lst [])) := same_new nL
    refine ⟨_, rfl, a, rfl, ⟨_, s1.seq hS⟩, for_list (K := K) (a := a) (xs := ns.map V.int) (fun i σ H' => Same H H' ∧ ∃ (ms : List Int) (y2 y3 y4 : Option V), σ = [some (.ref a), some (.ref L), y2, y3, y4] ∧ H' L = some (.lst (ms.map V.int)) ∧ ms.length ≤ 60 * i)
      ⟨s1, [], none, none, none, rfl, upd_same, Nat.zero_le _⟩ (fun i σ H' _ e => e.1.seq hS) ?_ ?_⟩
    · rintro i x σ H' hx ⟨s2, ms, y2, y3, y4, rfl, eL, hl⟩
      have il : i < ns.length := by
        have := (List.getElem?_eq_some_iff.mp hx).1
        rw [List.length_map] at this
        exact this
      obtain ⟨c, rfl⟩ := ints_get hx
      refine ⟨_, rfl, 10, 18, rfl, rfl, ⟨by decide, by decide, by decide⟩, c, _, rfl, rfl, _, rfl, ite2 (fun _ => ?_) (fun _ => ?_)⟩
      · -- a great number, digit by digit
        refine ⟨_, rfl, ?_⟩
        refine ⟨60, rfl, by decide, by decide, for_range (lo := 0) (n := 60) (fun j σ H'' => Same H H'' ∧ ∃ (ms : List Int) (r : Int) (y4 : Option V), σ = [some (.ref a), some (.ref L), some (.int c), some (.int r), y4] ∧ H'' L = some (.lst (ms.map V.int)) ∧ ms.length ≤ 60 * i + j)
          ⟨s2, ms, c, y4, rfl, eL, hl⟩ ?_ ?_⟩
        · rintro j σ H'' hj ⟨s3, ms, r, y4, rfl, eL, hl⟩
          refine ⟨_, rfl, r, 0, rfl, rfl, _, rfl, ite2 (fun _ => ?_) (fun _ => ?_)⟩
          · refine ⟨_, rfl, .inl ⟨rfl, _, SqL.of eL⟩, _, rfl, r, 1000000, rfl, rfl, (by show (0 : Int) < 1000000; decide), L, _, _, rfl, rfl, eL, line4000 (by rw [List.length_map]; omega), ?_⟩
            refine ⟨_, rfl, r, 1000000, rfl, rfl, ⟨by decide, by decide⟩, ?_⟩
            exact ⟨same_late s3 nL, ms ++ [r % 1000000], _, _, rfl, by rw [upd_same, List.map_append]; rfl, by rw [List.length_append, List.length_singleton]; omega⟩
          · exact ⟨s3, ms, r, _, rfl, eL, by omega⟩
        · rintro σ H'' ⟨s3, ms, r, y4, rfl, eL, hl⟩
          exact ⟨s3, ms, _, _, _, rfl, eL, by omega⟩
      · refine ⟨_, rfl, .inl ⟨rfl, _, SqL.of eL⟩, _, rfl, c, 1000000, rfl, rfl, (by show (0 : Int) < 1000000; decide), L, _, _, rfl, rfl, eL, line4000 (by rw [List.length_map]; omega), ?_⟩
        refine ⟨5, rfl, by decide, by decide, for_range (lo := 0) (n := 5) (fun j σ H'' => Same H H'' ∧ ∃ (ms : List Int) (y3 y4 : Option V), σ = [some (.ref a), some (.ref L), some (.int c), y3, y4] ∧ H'' L = some (.lst (ms.map V.int)) ∧ ms.length ≤ 60 * i + 1 + j)
          ⟨same_late s2 nL, ms ++ [c % 1000000], y3, y4, rfl, by rw [upd_same, List.map_append]; rfl, by rw [List.length_append, List.length_singleton]; omega⟩ ?_ ?_⟩
        · rintro j σ H'' hj ⟨s3, ms, y3, y4, rfl, eL, hl⟩
          refine ⟨_, rfl, .inl ⟨rfl, _, SqL.of eL⟩, _, rfl, c, 2147483647, rfl, rfl, (by show (0 : Int) < 2147483647; decide), _, rfl, _, _, rfl, fun v => ⟨_, rfl, _, 7, rfl, rfl, v, _, rfl, fun v2 => ⟨v2, 1000000, rfl, rfl, (by show (0 : Int) < 1000000; decide), L, _, _, rfl, rfl, eL, line4000 (by rw [List.length_map]; omega), ?_⟩⟩⟩
          exact ⟨same_late s3 nL, ms ++ [v2 % 1000000], _, _, rfl, by rw [upd_same, List.map_append]; rfl, by rw [List.length_append, List.length_singleton]; omega⟩
        · rintro σ H'' ⟨s3, ms, y3, y4, rfl, eL, hl⟩
          exact ⟨s3, ms, _, _, _, rfl, eL, by omega⟩
    · rintro σ H' ⟨s2, ms, y2, y3, y4, rfl, eL, hl⟩
      exact ⟨_, rfl, q H' L ms s2 nL eL⟩

abbrev s_draw : Stmt := topS 43
theorem sc_draw : FnScope ["_law_draws", "_law_at", "_law_first"] ["_law_draws"] (defScope s_draw) := ⟨rfl, rfl, rfl, by decide +kernel, rfl, by decide +kernel, by decide +kernel⟩
def spDraw : Sp := fun vs H Q _ => ∃ (d n : Addr) (ns : List Int), vs = [.ref d] ∧ Dr H d n ns ∧ ∀ (v : Int) H', Keep d H H' → Dr H' d n ns → Q (.int v) H'
theorem ok_draw {f : Addr} {fd : FuncData} (F : Fun K "_law_draw" "_law_draw" s_draw f fd) (T : Txt mg) (G__law_mixed : Good P w K mg base "_law_mixed" 1 ["_law_number_here", "_law_k"] spMixed) : FnOk P w K mg base CX0 2 f fd ["_law_draws"] spDraw := by
  refine F.ok sc_draw (fun vs H Q E h => ?_) (fun cdv A outer s H vs Q E hr h => ?_)
  · obtain ⟨d, n, ns, rfl, _⟩ := h
    rfl
  · obtain ⟨d, n, ns, rfl, ⟨z, hd, hz, hn⟩, q⟩ := h
    have nd : n ≠ d := fun e => by
      rw [e, hd] at hn
      have e2 : [V.ref n, V.int z] = ns.map V.int := HO.lst.inj (Option.some.inj hn)
      cases ns with
      | nil => cases e2
      | cons i r =>
        have e3 : V.ref n = V.int i := (List.cons.inj e2).1
        cases e3
    refine ⟨_, (pss_cons (ps_set (i := 1) sc_draw.nd rfl (Or.inl rfl) (pe_ix ix_list (pv 0) pe_int (fun _ _ => rfl)))
      (pss_cons (ps_asg (pe_op op_add (pv 1) pe_int) (pg_sub (pv 0) pe_int set_list))
      (pss_cons (ps_if (pt_cmpR op_lt (pv 1) (pe_callB call_len_seq (by rfl) T.len PySem.boot_len (pa_cons (pe_ix ix_list (pv 0) pe_int (fun _ _ => rfl)) pa_nil)) (nomark _))
        (pss_one (ps_ret (pe_ix ix_list (pe_ix ix_list (pv 0) pe_int (fun _ _ => rfl)) (pv 1) (fun _ _ => rfl))))
        pss_nil)
      (pss_cons (ps_set (i := 2) sc_draw.nd rfl (Or.inl rfl) (pe_op op_add pe_int (pv 1)))
      (pss_cons (ps_if (pt_cmpR op_gt (pe_callB call_len_seq (by rfl) T.len PySem.boot_len (pa_cons (pe_ix ix_list (pv 0) pe_int (fun _ _ => rfl)) pa_nil)) pe_int (nomark _))
        (pss_one (ps_set (i := 2) sc_draw.nd rfl (Or.inl rfl) (pe_op op_add (pv 2) (pe_op op_mul pe_int (pe_ix ix_list (pe_ix ix_list (pv 0) pe_int (fun _ _ => rfl)) pe_int (fun _ _ => rfl))))))
        pss_nil)
      (pss_one (ps_ret (pe_op op_mod (pe_callG G__law_mixed hr (pa_cons (pe_callG G__law_mixed hr (pa_cons (pv 2) (pa_cons (pv 1) pa_nil))) (pa_cons pe_int pa_nil))) pe_int)))))))), ?_⟩
    refine ⟨_, rfl, d, _, 1, _, rfl, rfl, SqL.of hd, at_nat (j := 1) rfl, ?_⟩
    refine ⟨_, rfl, z, 1, rfl, rfl, _, rfl, d, _, 1, 1, rfl, rfl, hd, rfl, ?_⟩
    have hd2 : (upd H d (.lst ([V.ref n, V.int z].set 1 (V.int (z + 1))))) d = some (.lst [.ref n, .int (z + 1)]) := upd_same
    have hn2 : (upd H d (.lst ([V.ref n, V.int z].set 1 (V.int (z + 1))))) n = some (.lst (ns.map V.int)) := by rw [upd_ne nd]; exact hn
    have kp : Keep d H (upd H d (.lst ([V.ref n, V.int z].set 1 (V.int (z + 1))))) := keep_upd
    have q2 : ∀ v : Int, Q (.int v) (upd H d (.lst ([V.ref n, V.int z].set 1 (V.int (z + 1))))) := fun v => q v _ kp ⟨z + 1, hd2, by omega, hn2⟩
    refine ⟨_, rfl, _, rfl, d, _, 0, _, rfl, rfl, SqL.of hd2, at_nat (j := 0) rfl, n, _, rfl, .inl (SqL.of hn2), z, _, rfl, rfl, _, rfl, ite2 (fun hlt => ?_) (fun _ => ?_)⟩
    · have hlt' : z < ((ns.map V.int).length : Int) := of_decide_eq_true hlt
      obtain ⟨j, rfl⟩ := Int.eq_ofNat_of_zero_le hz
      have jl : j < ns.length := by
        rw [List.length_map] at hlt'
        omega
      have ej : (ns.map V.int)[j]? = some (.int ns[j]) := by
        rw [List.getElem?_map, List.getElem?_eq_getElem jl]
        rfl
      exact ⟨_, rfl, d, _, 0, _, rfl, rfl, SqL.of hd2, at_nat (j := 0) rfl, _, rfl, n, _, (j : Int), _, rfl, rfl, SqL.of hn2, at_nat ej, q2 _⟩
    · refine ⟨_, rfl, 1, z, rfl, rfl, ?_⟩
      refine ⟨_, rfl, d, _, 0, _, rfl, rfl, SqL.of hd2, at_nat (j := 0) rfl, n, _, rfl, .inl (SqL.of hn2), _, 0, rfl, rfl, _, rfl, ite2 (fun hlt => ?_) (fun _ => ?_)⟩
      · have hlt' : (0 : Int) < ((ns.map V.int).length : Int) := of_decide_eq_true hlt
        have jl : 0 < ns.length := by
          rw [List.length_map] at hlt'
          omega
        have ej : (ns.map V.int)[0]? = some (.int ns[0]) := by
          rw [List.getElem?_map, List.getElem?_eq_getElem jl]
          rfl
        refine ⟨_, rfl, _, rfl, d, _, 0, _, rfl, rfl, SqL.of hd2, at_nat (j := 0) rfl, n, _, 0, _, rfl, rfl, SqL.of hn2, at_nat (j := 0) ej, 1009, _, rfl, rfl, .inl ⟨by decide, by decide⟩, _, _, rfl, rfl, ?_⟩
        exact ⟨_, rfl, _, rfl, _, _, rfl, fun v => ⟨_, _, rfl, fun v2 => ⟨v2, 1000000, rfl, rfl, (by show (0 : Int) < 1000000; decide), q2 _⟩⟩⟩
      · exact ⟨_, rfl, _, rfl, _, _, rfl, fun v => ⟨_, _, rfl, fun v2 => ⟨v2, 1000000, rfl, rfl, (by show (0 : Int) < 1000000; decide), q2 _⟩⟩⟩

abbrev s_gcd : Stmt := topS 46
theorem sc_gcd : FnScope ["_law_a", "_law_b", "_law_k", "_law_c"] ["_law_a", "_law_b"] (defScope s_gcd) := ⟨rfl, rfl, rfl, by decide +kernel, rfl, by decide +kernel, by decide +kernel⟩
def spGcd : Sp := fun vs H Q _ => ∃ u : Bool, vs = [.int 2, bi u] ∧ Q (.int (if u then 1 else 2)) H
theorem ok_gcd {f : Addr} {fd : FuncData} (F : Fun K "_law_gcd" "_law_gcd" s_gcd f fd) (T : Txt mg) : FnOk P w K mg base CX0 1 f fd ["_law_a", "_law_b"] spGcd := by
  refine F.ok sc_gcd (fun vs H Q E h => ?_) (fun cdv A outer s H vs Q E hr h => ?_)
  · obtain ⟨u, rfl, _⟩ := h
    rfl
  · obtain ⟨u, rfl, q⟩ := h
    refine ⟨_, (pss_cons (ps_for PassesOwn.never rfl (pi_range1 (by rfl) T.range (pa_cons pe_int pa_nil)) (pg_name (i := 2) sc_gcd.nd rfl (Or.inl rfl))
        (pss_cons (ps_if (pt_cmpR op_eq (pv 1) pe_int (nomark _))
          (pss_one (ps_ret (pv 0)))
          pss_nil)
        (pss_cons (ps_set (i := 3) sc_gcd.nd rfl (Or.inl rfl) (pe_op op_mod (pv 0) (pv 1)))
        (pss_cons (ps_set (i := 0) sc_gcd.nd rfl (Or.inl rfl) (pv 1))
        (pss_one (ps_set (i := 1) sc_gcd.nd rfl (Or.inl rfl) (pv 3)))))))
      (pss_one (ps_ret (pv 0)))), ?_⟩
    refine ⟨120, rfl, by decide, by decide, for_range (lo := 0) (n := 120) (fun i σ H' => H' = H ∧ ((i = 0 ∧ ∃ y2 y3 : Option V, σ = [some (.int 2), some (bi u), y2, y3]) ∨ (i = 1 ∧ u = true ∧ ∃ y2 y3 : Option V, σ = [some (.int 1), some (.int 0), y2, y3])))
      ⟨rfl, .inl ⟨rfl, none, none, rfl⟩⟩ ?_ ?_⟩
    · rintro i σ H' hi ⟨rfl, ⟨rfl, y2, y3, rfl⟩ | ⟨rfl, rfl, y2, y3, rfl⟩⟩
      · cases u with
        | false =>
          refine ⟨_, rfl, rfl, _, rfl, iteDT rfl ?_⟩
          exact ⟨_, rfl, q⟩
        | true =>
          refine ⟨_, rfl, rfl, _, rfl, iteDF (by decide) ?_⟩
          exact ⟨_, rfl, _, rfl, 2, 1, rfl, rfl, (by show (0 : Int) < 1; decide), _, rfl, _, rfl, rfl, .inr ⟨rfl, rfl, _, _, rfl⟩⟩
      · refine ⟨_, rfl, rfl, _, rfl, iteDT rfl ?_⟩
        exact ⟨_, rfl, q⟩
    · rintro σ H' ⟨_, ⟨h, _⟩ | ⟨h, _⟩⟩
      · cases h
      · cases h

abbrev s_number : Stmt := topS 48
theorem sc_number : FnScope ["_law_draws", "_law_modulus", "_law_pick"] ["_law_draws", "_law_modulus"] (defScope s_number) := ⟨rfl, rfl, rfl, by decide +kernel, rfl, by decide +kernel, by decide +kernel⟩
def spNumber : Sp := fun vs H Q _ => ∃ (d n : Addr) (ns : List Int), vs = [.ref d, .int 2] ∧ Dr H d n ns ∧ ∀ (b : Bool) H', Keep d H H' → Dr H' d n ns → Q (bi b) H'
theorem ok_number {f : Addr} {fd : FuncData} (F : Fun K "_law_number" "_law_number" s_number f fd) (G__law_draw : Good P w K mg base "_law_draw" 2 ["_law_draws"] spDraw) : FnOk P w K mg base CX0 3 f fd ["_law_draws", "_law_modulus"] spNumber := by
  refine F.ok sc_number (fun vs H Q E h => ?_) (fun cdv A outer s H vs Q E hr h => ?_)
  · obtain ⟨d, n, ns, rfl, _⟩ := h
    rfl
  · obtain ⟨d, n, ns, rfl, hD, q⟩ := h
    refine ⟨_, (pss_cons (ps_set (i := 2) sc_number.nd rfl (Or.inl rfl) (pe_op op_mod (pe_callG G__law_draw hr (pa_cons (pv 0) pa_nil)) pe_int))
      (pss_cons (ps_if (pt_cmpR op_eq (pv 2) pe_int (nomark _))
        (pss_one (ps_ret (pe_op op_sub (pv 1) pe_int)))
        pss_nil)
      (pss_cons (ps_if (pt_cmpR op_eq (pv 2) pe_int (nomark _))
        (pss_one (ps_ret pe_int))
        pss_nil)
      (pss_cons (ps_if (pt_cmpR op_eq (pv 2) pe_int (nomark _))
        (pss_one (ps_ret pe_int))
        pss_nil)
      (pss_one (ps_ret (pe_op op_mod (pe_op op_add (pe_callG G__law_draw hr (pa_cons (pv 0) pa_nil)) (pe_op op_mul pe_int (pe_callG G__law_draw hr (pa_cons (pv 0) pa_nil)))) (pv 1)))))))), ?_⟩
    refine ⟨_, rfl, d, n, ns, rfl, hD, fun v H1 k1 d1 => ⟨v, 6, rfl, rfl, (by show (0 : Int) < 6; decide), ?_⟩⟩
    refine ⟨_, rfl, rfl, _, rfl, ite2 (fun _ => ?_) (fun _ => ?_)⟩
    · exact ⟨_, rfl, 2, 1, rfl, rfl, q true H1 k1 d1⟩
    · refine ⟨_, rfl, rfl, _, rfl, ite2 (fun _ => ?_) (fun _ => ?_)⟩
      · exact q false H1 k1 d1
      · refine ⟨_, rfl, rfl, _, rfl, ite2 (fun _ => ?_) (fun _ => ?_)⟩
        · exact q true H1 k1 d1
        · refine ⟨_, rfl, d, n, ns, rfl, d1, fun v2 H2 k2 d2 => ⟨_, rfl, d, n, ns, rfl, d2, fun v3 H3 k3 d3 => ⟨1000000, v3, rfl, rfl, .inl ⟨by decide, by decide⟩, v2, _, rfl, rfl, _, rfl, _, 2, rfl, rfl, (by show (0 : Int) < 2; decide), ?_⟩⟩⟩
          have e := q (decide ((v2 + 1000000 * v3) % 2 = 1)) H3 ((k1.trans k2).trans k3) d3
          unfold bi at e
          rw [i01_of] at e
          exact e
end
end Bf

namespace Bf
open PySem PySem.Spec PyProof.Rows L2
theorem keep_at {d p : Addr} {H H' : Hp} {o : HO} (k : Keep d H H') (h : H p = some o) (hn : p ≠ d) : H' p = some o := k p o hn h
section
variable {P : Program} {w : World} {K : PySem.W.Frag} {mg : Str → Option Value} {base : Heap}
abbrev s_factors : Stmt := topS 47
theorem sc_factors : FnScope ["_law_draws", "_law_cells", "_law_inputs", "_law_target", "_law_factors_here", "_law_k"] ["_law_draws", "_law_cells", "_law_inputs", "_law_target"] (defScope s_factors) := ⟨rfl, rfl, rfl, by decide +kernel, rfl, by decide +kernel, by decide +kernel⟩
def spFactors : Sp := fun vs H Q _ => ∃ (d a : Addr) (ns : List Int) (n k t : Nat), vs = [.ref d, .int (n : Int), .int (k : Int), .int (t : Int)] ∧ Dr H d a ns ∧ t < n ∧
  ∀ (H' : Hp) (q : Addr) (fs : List Fac), Keep d H H' → Dr H' d a ns → FacsAt H' q fs → fs.length ≤ 3 → (∀ f ∈ fs, FacOk n k t f) → Q (.ref q) H'
theorem ok_factors {f : Addr} {fd : FuncData} (F : Fun K "_law_factors" "_law_factors" s_factors f fd) (T : Txt mg) (G__law_draw : Good P w K mg base "_law_draw" 2 ["_law_draws"] spDraw) : FnOk P w K mg base CX0 3 f fd ["_law_draws", "_law_cells", "_law_inputs", "_law_target"] spFactors := by
  refine F.ok sc_factors (fun vs H Q E h => ?_) (fun cdv A outer s H vs Q E hr h => ?_)
  · obtain ⟨d, a, ns, n, k, t, rfl, _⟩ := h
    rfl
  · obtain ⟨d, a, ns, n, k, t, rfl, hD, ht, q⟩ := h
    refine ⟨_, (pss_cons (ps_set (i := 4) sc_factors.nd rfl (Or.inl rfl) (pe_lst pa_nil))
      (pss_cons (ps_for PassesOwn.never rfl (pi_range1 (by rfl) T.range (pa_cons (pe_op op_mod (pe_callG G__law_draw hr (pa_cons (pv 0) pa_nil)) pe_int) pa_nil)) (pg_name (i := 5) sc_factors.nd rfl (Or.inl rfl))
        (pss_one (ps_if (PW.pt (pw_and (pt_cmpR op_gt (pv 2) pe_int (nomark _)) (pw_and1 (pt_cmpR op_eq (pe_op op_mod (pe_callG G__law_draw hr (pa_cons (pv 0) pa_nil)) pe_int) pe_int (nomark _)))))
          (pss_one (ps_expr (pe_bm PySem.F.plainAttrs_list PySem.F.slot_list_append PySem.F.type_list_append mt_append (pv 4) (pa_cons (pe_tup (pa_cons pe_str (pa_cons (pe_op op_mod (pe_callG G__law_draw hr (pa_cons (pv 0) pa_nil)) (pv 2)) pa_nil))) pa_nil))))
          (pss_one (ps_if (pt_cmpR op_gt (pv 1) pe_int (nomark _))
            (pss_one (ps_expr (pe_bm PySem.F.plainAttrs_list PySem.F.slot_list_append PySem.F.type_list_append mt_append (pv 4) (pa_cons (pe_tup (pa_cons pe_str (pa_cons (pe_op op_mod (pe_op op_add (pe_op op_add (pv 3) pe_int) (pe_op op_mod (pe_callG G__law_draw hr (pa_cons (pv 0) pa_nil)) (pe_op op_sub (pv 1) pe_int))) (pv 1)) pa_nil))) pa_nil))))
            pss_nil)))))
      (pss_one (ps_ret (pe_callTy call_tuple_of (by rfl) T.tuple (by decide +kernel) (pa_cons (pv 4) pa_nil)))))), ?_⟩
    refine ⟨Nat.zero_le _, fun L nL => ?_⟩
    have nLd := hD.ne nL
    have D1 : Dr (upd H L (.lst [])) d a ns := hD.late nLd
    refine ⟨_, rfl, d, a, ns, rfl, D1, fun v H1 k1 d1 => ⟨v, 4, rfl, rfl, (by show (0 : Int) < 4; decide), ?_⟩⟩
    have lo := Int.emod_nonneg v (show (4 : Int) ≠ 0 by decide)
    have hi := Int.emod_lt_of_pos v (show (0 : Int) < 4 by decide)
    have eL1 : H1 L = some (.lst []) := k1 L _ nLd.1 upd_same
    have kp1 : Keep d H H1 := (keep_late (Keep.refl d H) nL).trans k1
    refine ⟨v % 4, rfl, by omega, by omega, for_range (lo := 0) (n := (v % 4).toNat) (fun i σ H' => Keep d H H' ∧ Dr H' d a ns ∧ ∃ (ps : List Addr) (fs : List Fac) (y5 : Option V), σ = [some (.ref d), some (.int (n : Int)), some (.int (k : Int)), some (.int (t : Int)), some (.ref L), y5] ∧
      H' L = some (.lst (ps.map V.ref)) ∧ Are (FacAt H') ps fs ∧ fs.length ≤ i ∧ ∀ f ∈ fs, FacOk n k t f) ⟨kp1, d1, [], [], none, rfl, eL1, Are.nil, Nat.le_refl _, fun f hf => (nomatch hf)⟩ ?_ ?_⟩
    · rintro i σ H' hi' ⟨kp, dr, ps, fs, y5, rfl, eL, hA, hl, hok⟩
      have lps : ps.length = fs.length := hA.1
      have app : ∀ (H2 : Hp) (p : Addr) (f : Fac), Keep d H' H2 → Dr H2 d a ns → H2 p = none → FacOk n k t f → ∀ y5 : Option V,
          Keep d H (upd (upd H2 p (.tup (facV f))) L (.lst (ps.map V.ref ++ [.ref p]))) ∧ Dr (upd (upd H2 p (.tup (facV f))) L (.lst (ps.map V.ref ++ [.ref p]))) d a ns ∧ ∃ (ps' : List Addr) (fs : List Fac) (y5' : Option V), [some (.ref d), some (.int (n : Int)), some (.int (k : Int)), some (.int (t : Int)), some (.ref L), y5] = [some (.ref d), some (.int (n : Int)), some (.int (k : Int)), some (.int (t : Int)), some (.ref L), y5'] ∧
          (upd (upd H2 p (.tup (facV f))) L (.lst (ps.map V.ref ++ [.ref p]))) L = some (.lst (ps'.map V.ref)) ∧ Are (FacAt (upd (upd H2 p (.tup (facV f))) L (.lst (ps.map V.ref ++ [.ref p])))) ps' fs ∧ fs.length ≤ i + 1 ∧ ∀ f ∈ fs, FacOk n k t f := by
        intro H2 p f k2 d2 np fok y5
        have eL2 : H2 L = some (.lst (ps.map V.ref)) := k2 L _ nLd.1 eL
        have s3 : Same H2 (upd H2 p (.tup (facV f))) := same_new np
        have nLp : L ≠ p := ne_of_none eL2 np
        have eL3 : (upd H2 p (.tup (facV f))) L = some (.lst (ps.map V.ref)) := s3 _ _ eL2
        have tp : Tups (upd H2 p (.tup (facV f))) (upd (upd H2 p (.tup (facV f))) L (.lst (ps.map V.ref ++ [.ref p]))) := tups_lst eL3
        refine ⟨keep_late ((kp.trans k2).trans (Keep.of s3)) nL, (d2.late (d2.ne np)).late nLd, ps ++ [p], fs ++ [f], y5, rfl, by rw [upd_same, List.map_append]; rfl, Are.append (hA.mono fun q g e => tp _ _ (s3 _ _ (dr.tups k2 _ _ e))) (Are.one ?_), by rw [List.length_append, List.length_singleton]; omega, fun g hg => ?_⟩
        · exact tp _ _ upd_same
        · rcases List.mem_append.mp hg with hg | hg
          · exact hok g hg
          · rw [List.mem_singleton.mp hg]
            exact fok
      have cellb : ∀ (H2 : Hp) (D : Ends), Keep d H' H2 → Dr H2 d a ns → (∀ H3 : Hp, (Keep d H H3 ∧ Dr H3 d a ns ∧ ∃ (ps : List Addr) (fs : List Fac) (y5 : Option V), [some (.ref d), some (.int (n : Int)), some (.int (k : Int)), some (.int (t : Int)), some (.ref L), some (.int (0 + (i : Int)))] = [some (.ref d), some (.int (n : Int)), some (.int (k : Int)), some (.int (t : Int)), some (.ref L), y5] ∧
          H3 L = some (.lst (ps.map V.ref)) ∧ Are (FacAt H3) ps fs ∧ fs.length ≤ i + 1 ∧ ∀ f ∈ fs, FacOk n k t f) → D.nx [some (.ref d), some (.int (n : Int)), some (.int (k : Int)), some (.int (t : Int)), some (.ref L), some (.int (0 + (i : Int)))] H3) →
          tIfS (tTest (tOp (rI0 fun i j => V.bl (decide (j < i))) (tVar 1) (tC (.int 1)))) (tDrop (tBM K "list" rAppend (tVar 4) (tCons (tTup (tCons (tC (.str "cell")) (tCons (tOp rModI (tOp rAddI (tOp rAddI (tVar 3) (tC (.int 1))) (tOp rModI (tCall spDraw [] E0 (tCons (tVar 0) tNil)) (tOp rSubI (tVar 1) (tC (.int 1))))) (tVar 1)) tNil))) tNil))) tNext
            D [some (.ref d), some (.int (n : Int)), some (.int (k : Int)), some (.int (t : Int)), some (.ref L), some (.int (0 + (i : Int)))] H2 := by
        intro H2 D k2 d2 hD
        have eL2 : H2 L = some (.lst (ps.map V.ref)) := k2 L _ nLd.1 eL
        refine ⟨_, rfl, (n : Int), 1, rfl, rfl, _, rfl, ite2 (fun hn => ?_) (fun _ => ?_)⟩
        · have hn' : (1 : Int) < (n : Int) := of_decide_eq_true hn
          refine ⟨_, rfl, .inl ⟨rfl, _, SqL.of eL2⟩, _, rfl, (t : Int), 1, rfl, rfl, _, rfl, d, a, ns, rfl, d2, fun v2 H3 k3 d3 => ?_⟩
          obtain ⟨j, hj, jn, jt⟩ := other_cell v2 ht (by omega)
          refine ⟨_, rfl, (n : Int), 1, rfl, rfl, v2, (n : Int) - 1, rfl, rfl, (by show (0 : Int) < (n : Int) - 1; omega), (t : Int) + 1, v2 % ((n : Int) - 1), rfl, rfl, _, rfl, (t : Int) + 1 + v2 % ((n : Int) - 1), (n : Int), rfl, rfl, (by show (0 : Int) < (n : Int); omega), (by show 2 ≤ sizeLine; decide), fun p np => ?_⟩
          have eL3 : H3 L = some (.lst (ps.map V.ref)) := k3 L _ nLd.1 eL2
          have nLp : L ≠ p := ne_of_none eL3 np
          refine ⟨L, _, _, rfl, rfl, Eq.trans (upd_ne nLp) eL3, small1000 (by rw [List.length_map, lps]; omega), ?_⟩
          refine hD _ ?_
          have := app H3 p (.cell j) (k2.trans k3) d3 np ⟨jn, jt⟩ (some (.int (0 + (i : Int))))
          have e : facV (.cell j) = [.str "cell", .int (((t : Int) + 1 + v2 % ((n : Int) - 1)) % (n : Int))] := by
            rw [hj]
            rfl
          rw [e] at this
          exact this
        · exact hD _ ⟨kp.trans k2, d2, ps, fs, _, rfl, eL2, hA.mono fun q g e => dr.tups k2 _ _ e, by omega, hok⟩
      refine ⟨_, rfl, (k : Int), 0, rfl, rfl, _, rfl, ite2 (fun hk => ?_) (fun _ => ?_)⟩
      · have hk' : (0 : Int) < (k : Int) := of_decide_eq_true hk
        refine ⟨_, rfl, d, a, ns, rfl, dr, fun v2 H2 k2 d2 => ⟨v2, 2, rfl, rfl, (by show (0 : Int) < 2; decide), rfl, _, rfl, ite2 (fun _ => ?_) (fun _ => ?_)⟩⟩
        · have eL2 : H2 L = some (.lst (ps.map V.ref)) := k2 L _ nLd.1 eL
          refine ⟨_, rfl, .inl ⟨rfl, _, SqL.of eL2⟩, _, rfl, d, a, ns, rfl, d2, fun v3 H3 k3 d3 => ?_⟩
          have lo3 := Int.emod_nonneg v3 (show (k : Int) ≠ 0 by omega)
          have hi3 := Int.emod_lt_of_pos v3 (show (0 : Int) < (k : Int) by omega)
          obtain ⟨j, hj⟩ := Int.eq_ofNat_of_zero_le lo3
          refine ⟨_, rfl, v3, (k : Int), rfl, rfl, (by show (0 : Int) < (k : Int); omega), (by show 2 ≤ sizeLine; decide), fun p np => ?_⟩
          have eL3 : H3 L = some (.lst (ps.map V.ref)) := k3 L _ nLd.1 eL2
          have nLp : L ≠ p := ne_of_none eL3 np
          refine ⟨L, _, _, rfl, rfl, Eq.trans (upd_ne nLp) eL3, small1000 (by rw [List.length_map, lps]; omega), ?_⟩
          have := app H3 p (.inp j) (k2.trans k3) d3 np (by show j < k; omega) (some (.int (0 + (i : Int))))
          have e : facV (.inp j) = [.str "input", .int (v3 % (k : Int))] := by
            rw [hj]
            rfl
          rw [e] at this
          exact this
        · exact cellb H2 _ k2 d2 fun H3 h => h
      · exact cellb H' _ (Keep.refl d H') dr fun H3 h => h
    · rintro σ H' ⟨kp, dr, ps, fs, y5, rfl, eL, hA, hl, hok⟩
      refine ⟨_, rfl, L, _, rfl, .inl ⟨SqL.of eL, fun p np => ?_⟩⟩
      have s3 : Same H' (upd H' p (.tup (ps.map V.ref))) := same_new np
      exact q _ p fs (kp.trans (Keep.of s3)) (dr.late (dr.ne np)) ⟨ps, upd_same, hA.mono fun q g e => s3 _ _ e⟩ (by omega) hok

abbrev s_stepD : Stmt := topS 49
theorem sc_stepD : FnScope ["_law_draws", "_law_modulus", "_law_cells", "_law_inputs", "_law_target", "_law_pick", "_law_unit"] ["_law_draws", "_law_modulus", "_law_cells", "_law_inputs"] (defScope s_stepD) := ⟨rfl, rfl, rfl, by decide +kernel, rfl, by decide +kernel, by decide +kernel⟩
def spStepD : Sp := fun vs H Q _ => ∃ (d a : Addr) (ns : List Int) (n k : Nat), vs = [.ref d, .int 2, .int (n : Int), .int (k : Int)] ∧ Dr H d a ns ∧ 1 ≤ n ∧
  ∀ (H' : Hp) (p : Addr) (st : Stp), Keep d H H' → Dr H' d a ns → StpAt H' p st → StpOk n k st → Q (.ref p) H'
theorem ok_stepD {f : Addr} {fd : FuncData} (F : Fun K "_law_step" "_law_step" s_stepD f fd) (G__law_draw : Good P w K mg base "_law_draw" 2 ["_law_draws"] spDraw) (G__law_number : Good P w K mg base "_law_number" 3 ["_law_draws", "_law_modulus"] spNumber)
    (G__law_gcd : Good P w K mg base "_law_gcd" 1 ["_law_a", "_law_b"] spGcd) (G__law_factors : Good P w K mg base "_law_factors" 3 ["_law_draws", "_law_cells", "_law_inputs", "_law_target"] spFactors) : FnOk P w K mg base CX0 4 f fd ["_law_draws", "_law_modulus", "_law_cells", "_law_inputs"] spStepD := by
  refine F.ok sc_stepD (fun vs H Q E h => ?_) (fun cdv A outer s H vs Q E hr h => ?_)
  · obtain ⟨d, a, ns, n, k, rfl, _⟩ := h
    rfl
  · obtain ⟨d, a, ns, n, k, rfl, hD, hn, q⟩ := h
    refine ⟨_, (pss_cons (ps_set (i := 4) sc_stepD.nd rfl (Or.inl rfl) (pe_op op_mod (pe_callG G__law_draw hr (pa_cons (pv 0) pa_nil)) (pv 2)))
      (pss_cons (ps_set (i := 5) sc_stepD.nd rfl (Or.inl rfl) (pe_op op_mod (pe_callG G__law_draw hr (pa_cons (pv 0) pa_nil)) pe_int))
      (pss_cons (ps_if (PW.pt (pw_and (pt_cmpR op_eq (pv 5) pe_int (nomark _)) (pw_and1 (pt_cmpR op_gt (pv 2) pe_int (nomark _)))))
        (pss_one (ps_ret (pe_tup (pa_cons pe_str (pa_cons (pv 4) (pa_cons (pe_op op_mod (pe_op op_add (pe_op op_add (pv 4) pe_int) (pe_op op_mod (pe_callG G__law_draw hr (pa_cons (pv 0) pa_nil)) (pe_op op_sub (pv 2) pe_int))) (pv 2)) pa_nil))))))
        pss_nil)
      (pss_cons (ps_if (pt_cmpR op_eq (pv 5) pe_int (nomark _))
        (pss_cons (ps_set (i := 6) sc_stepD.nd rfl (Or.inl rfl) (pe_callG G__law_number hr (pa_cons (pv 0) (pa_cons (pv 1) pa_nil))))
        (pss_one (ps_if (pt_cmpR op_eq (pe_callG G__law_gcd hr (pa_cons (pv 1) (pa_cons (pv 6) pa_nil))) pe_int (nomark _))
          (pss_one (ps_ret (pe_tup (pa_cons pe_str (pa_cons (pv 4) (pa_cons (pv 6) pa_nil))))))
          pss_nil)))
        pss_nil)
      (pss_one (ps_ret (pe_tup (pa_cons pe_str (pa_cons (pv 4) (pa_cons (pe_callG G__law_number hr (pa_cons (pv 0) (pa_cons (pv 1) pa_nil))) (pa_cons (pe_callG G__law_factors hr (pa_cons (pv 0) (pa_cons (pv 2) (pa_cons (pv 3) (pa_cons (pv 4) pa_nil))))) pa_nil))))))))))), ?_⟩
    refine ⟨_, rfl, d, a, ns, rfl, hD, fun v H1 k1 d1 => ⟨_, rfl, v, (n : Int), rfl, rfl, (by show (0 : Int) < (n : Int); omega), ?_⟩⟩
    have lo := Int.emod_nonneg v (show (n : Int) ≠ 0 by omega)
    have hi := Int.emod_lt_of_pos v (show (0 : Int) < (n : Int) by omega)
    obtain ⟨t, ht⟩ := Int.eq_ofNat_of_zero_le lo
    have tn : t < n := by omega
    refine ⟨_, rfl, d, a, ns, rfl, d1, fun v2 H2 k2 d2 => ⟨v2, 8, rfl, rfl, (by show (0 : Int) < 8; decide), ?_⟩⟩
    have k02 := k1.trans k2
    have tail : ∀ (H3 : Hp) (D : Ends) (y6 : Option V), D.rt = Q → Keep d H H3 → Dr H3 d a ns → tRet (tTup (tCons (tC (.str "add")) (tCons (tVar 4) (tCons (tCall spNumber [] E0 (tCons (tVar 0) (tCons (tVar 1) tNil))) (tCons (tCall spFactors [] E0 (tCons (tVar 0) (tCons (tVar 2) (tCons (tVar 3) (tCons (tVar 4) tNil))))) tNil)))))
        D [some (.ref d), some (.int 2), some (.int (n : Int)), some (.int (k : Int)), some (.int (t : Int)), some (.int (v2 % 8)), y6] H3 := by
      intro H3 D y6 hQ k3 d3
      refine ⟨_, rfl, _, rfl, _, rfl, d, a, ns, rfl, d3, fun c H4 k4 d4 => ?_⟩
      refine ⟨_, rfl, _, rfl, _, rfl, _, rfl, d, a, ns, n, k, t, rfl, d4, tn, fun H5 fq fs k5 d5 fa fl fok => ⟨(by show 4 ≤ sizeLine; decide), fun p np => ?_⟩⟩
      rw [hQ]
      have s6 : Same H5 (upd H5 p (.tup [.str "add", .int (t : Int), bi c, .ref fq])) := same_new np
      exact q _ p (.add t c fs) (((k3.trans k4).trans k5).trans (Keep.of s6)) (d5.late (d5.ne np)) ⟨fq, upd_same, fa.tups (tups_of s6)⟩ ⟨tn, fl, fok⟩
    have et : V.int (v % (n : Int)) = V.int (t : Int) := by rw [ht]
    refine ⟨_, rfl, rfl, _, rfl, ite2 (fun _ => ?_) (fun _ => ?_)⟩
    · refine ⟨_, rfl, (n : Int), 1, rfl, rfl, _, rfl, ite2 (fun hn1 => ?_) (fun _ => ?_)⟩
      · -- swap
        have hn' : (1 : Int) < (n : Int) := of_decide_eq_true hn1
        refine ⟨.int (t : Int), by rw [← et]; rfl, .int (t : Int), by rw [← et]; rfl, (t : Int), 1, rfl, rfl, _, rfl, d, a, ns, rfl, d2, fun v3 H3 k3 d3 => ?_⟩
        obtain ⟨j, hj, jn, jt⟩ := other_cell v3 tn (by omega)
        refine ⟨_, rfl, (n : Int), 1, rfl, rfl, v3, (n : Int) - 1, rfl, rfl, (by show (0 : Int) < (n : Int) - 1; omega), (t : Int) + 1, v3 % ((n : Int) - 1), rfl, rfl, _, rfl, (t : Int) + 1 + v3 % ((n : Int) - 1), (n : Int), rfl, rfl, (by show (0 : Int) < (n : Int); omega), (by show 3 ≤ sizeLine; decide), fun p np => ?_⟩
        have e : ([.str "swap", .int (t : Int), .int (((t : Int) + 1 + v3 % ((n : Int) - 1)) % (n : Int))] : List V) = [.str "swap", .int (t : Int), .int (j : Int)] := by rw [hj]
        show Q (.ref p) (upd H3 p (.tup [.str "swap", .int (t : Int), .int (((t : Int) + 1 + v3 % ((n : Int) - 1)) % (n : Int))]))
        rw [e]
        exact q _ p (.swap t j) ((k02.trans k3).trans (Keep.of (same_new np))) (d3.late (d3.ne np)) upd_same ⟨tn, jn, fun e => jt e.symm⟩
      · refine ⟨_, rfl, rfl, _, rfl, ite2 (fun _ => ?_) (fun _ => ?_)⟩
        · refine ⟨_, rfl, _, rfl, d, a, ns, rfl, d2, fun u H3 k3 d3 => ?_⟩
          refine ⟨_, rfl, _, rfl, u, rfl, rfl, _, rfl, ite2 (fun hu => ?_) (fun _ => ?_)⟩
          · have hu' : V.int (if u then 1 else 2) = V.int 1 := of_decide_eq_true hu
            have u1 : u = true := by
              cases u with
              | true => rfl
              | false => exact absurd hu' (by decide)
            subst u1
            refine ⟨.int (t : Int), by rw [← et]; rfl, _, rfl, (by show 3 ≤ sizeLine; decide), fun p np => ?_⟩
            exact q _ p (.scale t) ((k02.trans k3).trans (Keep.of (same_new np))) (d3.late (d3.ne np)) upd_same tn
          · rw [← ht] at tail
            exact tail H3 _ _ rfl (k02.trans k3) d3
        · rw [← ht] at tail
          exact tail H2 _ _ rfl k02 d2
    · refine iteF ?_
      refine ⟨_, rfl, rfl, _, rfl, ite2 (fun _ => ?_) (fun _ => ?_)⟩
      · refine ⟨_, rfl, _, rfl, d, a, ns, rfl, d2, fun u H3 k3 d3 => ?_⟩
        refine ⟨_, rfl, _, rfl, u, rfl, rfl, _, rfl, ite2 (fun hu => ?_) (fun _ => ?_)⟩
        · have hu' : V.int (if u then 1 else 2) = V.int 1 := of_decide_eq_true hu
          have u1 : u = true := by
            cases u with
            | true => rfl
            | false => exact absurd hu' (by decide)
          subst u1
          refine ⟨.int (t : Int), by rw [← et]; rfl, _, rfl, (by show 3 ≤ sizeLine; decide), fun p np => ?_⟩
          exact q _ p (.scale t) ((k02.trans k3).trans (Keep.of (same_new np))) (d3.late (d3.ne np)) upd_same tn
        · rw [← ht] at tail
          exact tail H3 _ _ rfl (k02.trans k3) d3
      · rw [← ht] at tail
        exact tail H2 _ _ rfl k02 d2
end
end Bf

namespace Bf
open PySem PySem.Spec PyProof.Rows L2
section
variable {P : Program} {w : World} {K : PySem.W.Frag} {mg : Str → Option Value} {base : Heap}
abbrev s_worth : Stmt := topS 50
theorem sc_worth : FnScope ["_law_factors_here", "_law_memory", "_law_given", "_law_modulus", "_law_worth_here", "_law_kind", "_law_at"] ["_law_factors_here", "_law_memory", "_law_given", "_law_modulus"] (defScope s_worth) := ⟨rfl, rfl, rfl, by decide +kernel, rfl, by decide +kernel, by decide +kernel⟩
def spWorth : Sp := fun vs H Q _ => ∃ (q m g : Addr) (fs : List Fac) (ms gs : List Bool) (t : Nat), vs = [.ref q, .ref m, .ref g, .int 2] ∧ FacsAt H q fs ∧ (∀ f ∈ fs, FacOk ms.length gs.length t f) ∧ H m = some (.lst (ms.map bi)) ∧ H g = some (.lst (gs.map bi)) ∧ Q (bi (facsVal gs ms fs)) H
theorem ok_worth {f : Addr} {fd : FuncData} (F : Fun K "_law_worth" "_law_worth" s_worth f fd) : FnOk P w K mg base CX0 1 f fd ["_law_factors_here", "_law_memory", "_law_given", "_law_modulus"] spWorth := by
  refine F.ok sc_worth (fun vs H Q E h => ?_) (fun cdv A outer s H vs Q E hr h => ?_)
  · obtain ⟨q, m, g, fs, ms, gs, t, rfl, _⟩ := h
    rfl
  · obtain ⟨fq, m, g, fs, ms, gs, t, rfl, ⟨fps, hq, hA⟩, hfs, hm, hg, q⟩ := h
    have hfl2 : (fps.map V.ref).length = fs.length := by rw [List.length_map]; exact hA.1
    refine ⟨_, (pss_cons (ps_set (i := 4) sc_worth.nd rfl (Or.inl rfl) pe_int)
      (pss_cons (ps_for PassesOwn.never rfl (pi_tup (pv 0)) (pg_tup rfl (pgs_cons (pg_name (i := 5) sc_worth.nd rfl (Or.inl rfl)) (pgs_cons (pg_name (i := 6) sc_worth.nd rfl (Or.inl rfl)) pgs_nil)))
        (pss_one (ps_if (pt_cmpR op_eq (pv 5) pe_str (nomark _))
          (pss_one (ps_set (i := 4) sc_worth.nd rfl (Or.inl rfl) (pe_op op_mod (pe_op op_mul (pv 4) (pe_ix ix_list (pv 1) (pv 6) (fun _ _ => rfl))) (pv 3))))
          (pss_one (ps_set (i := 4) sc_worth.nd rfl (Or.inl rfl) (pe_op op_mod (pe_op op_mul (pv 4) (pe_ix ix_list (pv 2) (pv 6) (fun _ _ => rfl))) (pv 3)))))))
      (pss_one (ps_ret (pv 4))))), ?_⟩
    refine ⟨_, rfl, fq, rfl, ⟨_, SqT.of hq⟩, for_tup (K := K) (a := fq) (xs := fps.map V.ref) (fun i σ H' => H' = H ∧ ∃ y5 y6 : Option V,
        σ = [some (.ref fq), some (.ref m), some (.ref g), some (.int 2), some (bi (facsVal gs ms (fs.take i))), y5, y6]) ⟨rfl, none, none, rfl⟩ (fun i σ H' _ e => by rw [e.1]; exact SqT.of hq) ?_ ?_⟩
    · rintro i x σ H' hx ⟨rfl, y5, y6, rfl⟩
      obtain ⟨fp, f, rfl, _, hf, fa⟩ := hA.at hx
      have fok := hfs f (List.mem_of_getElem? hf)
      have e1 := facs_take (gs := gs) (ms := ms) hf
      generalize facsVal gs ms (fs.take i) = u at e1 ⊢
      have lo := i01_lo u
      have hi := i01_hi u
      cases f with
      | cell j =>
        have fa : H' fp = some (.tup [.str "cell", .int (j : Int)]) := fa
        refine ⟨fp, _, rfl, SqT.of fa, rfl, _, _, rfl, _, _, rfl, rfl, ?_⟩
        refine ⟨_, rfl, rfl, _, rfl, iteDT rfl ⟨_, rfl, _, rfl, _, rfl, m, _, (j : Int), _, rfl, rfl, SqL.of hm, at_nat (bis_get fok.1), i01 u, _, rfl, rfl, .inl ⟨by omega, by omega⟩, _, rfl, _, 2, rfl, rfl, (by show (0 : Int) < 2; decide), ?_⟩⟩
        have e2 : V.int (i01 u * i01 (ms.getD j false) % 2) = bi (facsVal gs ms (fs.take (i + 1))) := by
          rw [i01_mul, e1]
          rfl
        refine ⟨rfl, some (.str "cell"), some (.int (j : Int)), ?_⟩
        rw [← e2]
        rfl
      | inp j =>
        have fa : H' fp = some (.tup [.str "input", .int (j : Int)]) := fa
        refine ⟨fp, _, rfl, SqT.of fa, rfl, _, _, rfl, _, _, rfl, rfl, ?_⟩
        refine ⟨_, rfl, rfl, _, rfl, iteDF ne_input_cell ⟨_, rfl, _, rfl, _, rfl, g, _, (j : Int), _, rfl, rfl, SqL.of hg, at_nat (bis_get fok), i01 u, _, rfl, rfl, .inl ⟨by omega, by omega⟩, _, rfl, _, 2, rfl, rfl, (by show (0 : Int) < 2; decide), ?_⟩⟩
        have e2 : V.int (i01 u * i01 (gs.getD j false) % 2) = bi (facsVal gs ms (fs.take (i + 1))) := by
          rw [i01_mul, e1]
          rfl
        refine ⟨rfl, some (.str "input"), some (.int (j : Int)), ?_⟩
        rw [← e2]
        rfl
    · rintro σ H' ⟨rfl, y5, y6, rfl⟩
      rw [hfl2, List.take_length]
      exact ⟨_, rfl, q⟩

abbrev s_lawrun : Stmt := topS 51
theorem sc_lawrun : FnScope ["_law_steps", "_law_modulus", "_law_memory", "_law_given", "_law_after", "_law_step_here", "_law_worth_here", "_law_held"] ["_law_steps", "_law_modulus", "_law_memory", "_law_given"] (defScope s_lawrun) := ⟨rfl, rfl, rfl, by decide +kernel, rfl, by decide +kernel, by decide +kernel⟩
def spLawRun : Sp := fun vs H Q _ => ∃ (S m g : Addr) (ps : List Addr) (sts : List Stp) (ms gs : List Bool), vs = [.ref S, .int 2, .ref m, .ref g] ∧ H S = some (.lst (ps.map V.ref)) ∧ StpsAt H ps sts ∧ (∀ st ∈ sts, StpOk ms.length gs.length st) ∧ H m = some (.lst (ms.map bi)) ∧ H g = some (.lst (gs.map bi)) ∧
  ∀ H' p, Same H H' → H p = none → H' p = some (.lst ((runB gs ms sts).map bi)) → Q (.ref p) H'
theorem ok_lawrun {f : Addr} {fd : FuncData} (F : Fun K "_law_run" "_law_run" s_lawrun f fd) (T : Txt mg) (G__law_worth : Good P w K mg base "_law_worth" 1 ["_law_factors_here", "_law_memory", "_law_given", "_law_modulus"] spWorth) : FnOk P w K mg base CX0 2 f fd ["_law_steps", "_law_modulus", "_law_memory", "_law_given"] spLawRun := by
  refine F.ok sc_lawrun (fun vs H Q E h => ?_) (fun cdv A outer s H vs Q E hr h => ?_)
  · obtain ⟨S, m, g, ps, sts, ms, gs, rfl, _⟩ := h
    rfl
  · obtain ⟨S, m, g, ps, sts, ms, gs, rfl, hS, hA, hok, hm, hg, q⟩ := h
    refine ⟨_, (pss_cons (ps_set (i := 4) sc_lawrun.nd rfl (Or.inl rfl) (pe_callTy call_list_of (by rfl) T.list (by decide +kernel) (pa_cons (pv 2) pa_nil)))
      (pss_cons (ps_for PassesOwn.never rfl (pi_list (pv 0)) (pg_name (i := 5) sc_lawrun.nd rfl (Or.inl rfl))
        (pss_one (ps_if (pt_cmpR op_eq (pe_ix ix_tup (pv 5) pe_int (fun _ _ => rfl)) pe_str (nomark _))
          (pss_cons (ps_set (i := 6) sc_lawrun.nd rfl (Or.inl rfl) (pe_callG G__law_worth hr (pa_cons (pe_ix ix_tup (pv 5) pe_int (fun _ _ => rfl)) (pa_cons (pv 4) (pa_cons (pv 3) (pa_cons (pv 1) pa_nil))))))
          (pss_one (ps_asg (pe_op op_mod (pe_op op_add (pe_ix ix_list (pv 4) (pe_ix ix_tup (pv 5) pe_int (fun _ _ => rfl)) (fun _ _ => rfl)) (pe_op op_mul (pe_ix ix_tup (pv 5) pe_int (fun _ _ => rfl)) (pv 6))) (pv 1)) (pg_sub (pv 4) (pe_ix ix_tup (pv 5) pe_int (fun _ _ => rfl)) set_list))))
          (pss_one (ps_if (pt_cmpR op_eq (pe_ix ix_tup (pv 5) pe_int (fun _ _ => rfl)) pe_str (nomark _))
            (pss_one (ps_asg (pe_op op_mod (pe_op op_mul (pe_ix ix_list (pv 4) (pe_ix ix_tup (pv 5) pe_int (fun _ _ => rfl)) (fun _ _ => rfl)) (pe_ix ix_tup (pv 5) pe_int (fun _ _ => rfl))) (pv 1)) (pg_sub (pv 4) (pe_ix ix_tup (pv 5) pe_int (fun _ _ => rfl)) set_list)))
            (pss_cons (ps_set (i := 7) sc_lawrun.nd rfl (Or.inl rfl) (pe_ix ix_list (pv 4) (pe_ix ix_tup (pv 5) pe_int (fun _ _ => rfl)) (fun _ _ => rfl)))
            (pss_cons (ps_asg (pe_ix ix_list (pv 4) (pe_ix ix_tup (pv 5) pe_int (fun _ _ => rfl)) (fun _ _ => rfl)) (pg_sub (pv 4) (pe_ix ix_tup (pv 5) pe_int (fun _ _ => rfl)) set_list))
            (pss_one (ps_asg (pv 7) (pg_sub (pv 4) (pe_ix ix_tup (pv 5) pe_int (fun _ _ => rfl)) set_list))))))))))
      (pss_one (ps_ret (pv 4))))), ?_⟩
    refine ⟨_, rfl, m, _, rfl, .inl (SqL.of hm), fun L nL => ?_⟩
    have s1 : Same H (upd H L (.lst (ms.map bi))) := same_new nL
    have eL : (upd H L (.lst (ms.map bi))) L = some (.lst (ms.map bi)) := upd_same
    refine ⟨_, rfl, S, rfl, ⟨_, SqL.of (s1 _ _ hS)⟩, for_list (K := K) (a := S) (xs := ps.map V.ref) (fun i σ H' => Same H H' ∧ H' L = some (.lst ((runB gs ms (sts.take i)).map bi)) ∧ ∃ y5 y6 y7 : Option V, σ = [some (.ref S), some (.int 2), some (.ref m), some (.ref g), some (.ref L), y5, y6, y7])
      ⟨s1, eL, none, none, none, rfl⟩ (fun i σ H' _ e => SqL.of (e.1 _ _ hS)) ?_ ?_⟩
    · rintro i y σ H' hy ⟨s2, eL2, y5, y6, y7, rfl⟩
      obtain ⟨p, st, rfl, _, hst, sa⟩ := hA.at hy
      have e1 := runB_take gs ms hst
      have hl := runB_len gs (sts.take i) ms
      have hok2 := hok st (List.mem_of_getElem? hst)
      rw [← hl] at hok2
      generalize runB gs ms (sts.take i) = cur at eL2 e1 hok2
      have hp := sa.tups (tups_of s2)
      have hg2 := s2 _ _ hg
      cases st with
      | add t c fs =>
        obtain ⟨ht, hfl, hfs⟩ := hok2
        obtain ⟨fq, hp, hfa⟩ := hp
        refine ⟨_, rfl, p, _, 0, _, rfl, rfl, SqT.of hp, at_nat (j := 0) rfl, rfl, _, rfl, iteDT rfl ?_⟩
        refine ⟨_, rfl, p, _, 3, _, rfl, rfl, SqT.of hp, at_nat (j := 3) rfl, _, rfl, _, rfl, _, rfl, fq, L, g, fs, cur, gs, t, rfl, hfa, hfs, eL2, hg2, ?_⟩
        have loc := i01_lo c
        have hic := i01_hi c
        refine ⟨_, rfl, _, rfl, p, _, 1, _, rfl, rfl, SqT.of hp, at_nat (j := 1) rfl, L, _, (t : Int), _, rfl, rfl, SqL.of eL2, at_nat (bis_get ht), _, rfl, p, _, 2, _, rfl, rfl, SqT.of hp, at_nat (j := 2) rfl, _, rfl, i01 c, i01 (facsVal gs cur fs), rfl, rfl, .inl ⟨by omega, by omega⟩, i01 (cur.getD t false), _, rfl, rfl, _, rfl, _, 2, rfl, rfl, (by show (0 : Int) < 2; decide),
          _, rfl, _, rfl, p, _, 1, _, rfl, rfl, SqT.of hp, at_nat (j := 1) rfl, L, _, (t : Int), t, rfl, rfl, eL2, ixN_nat (by rw [List.length_map]; exact ht), ?_⟩
        have e : (cur.map bi).set t (V.int ((i01 (cur.getD t false) + i01 c * i01 (facsVal gs cur fs)) % 2)) = (stepB gs cur (.add t c fs)).map bi := by
          rw [i01_acc]
          exact List.map_set.symm
        refine ⟨same_late s2 nL, ?_, _, _, _, rfl⟩
        rw [e1, ← e]
        exact upd_same
      | scale t =>
        have ht : t < cur.length := hok2
        have hp : H' p = some (.tup [.str "scale", .int (t : Int), .int 1]) := hp
        refine ⟨_, rfl, p, _, 0, _, rfl, rfl, SqT.of hp, at_nat (j := 0) rfl, rfl, _, rfl, iteDF ne_scale_add ?_⟩
        refine ⟨_, rfl, p, _, 0, _, rfl, rfl, SqT.of hp, at_nat (j := 0) rfl, rfl, _, rfl, iteDT rfl ?_⟩
        refine ⟨_, rfl, _, rfl, p, _, 1, _, rfl, rfl, SqT.of hp, at_nat (j := 1) rfl, L, _, (t : Int), _, rfl, rfl, SqL.of eL2, at_nat (bis_get ht), _, rfl, p, _, 2, _, rfl, rfl, SqT.of hp, at_nat (j := 2) rfl, i01 (cur.getD t false), 1, rfl, rfl, .inr ⟨by decide, by decide⟩, _, rfl, _, 2, rfl, rfl, (by show (0 : Int) < 2; decide),
          _, rfl, _, rfl, p, _, 1, _, rfl, rfl, SqT.of hp, at_nat (j := 1) rfl, L, _, (t : Int), t, rfl, rfl, eL2, ixN_nat (by rw [List.length_map]; exact ht), ?_⟩
        have e : (cur.map bi).set t (V.int (i01 (cur.getD t false) * 1 % 2)) = (stepB gs cur (.scale t)).map bi := by
          rw [i01_one]
          show (cur.map bi).set t (bi (cur.getD t false)) = cur.map bi
          rw [← List.map_set, set_get]
        refine ⟨same_late s2 nL, ?_, _, _, _, rfl⟩
        rw [e1, ← e]
        exact upd_same
      | swap a b =>
        obtain ⟨ha, hb, hne⟩ := hok2
        have hp : H' p = some (.tup [.str "swap", .int (a : Int), .int (b : Int)]) := hp
        have npm : p ≠ L := ne_of hp eL2 (by intro z; cases z)
        refine ⟨_, rfl, p, _, 0, _, rfl, rfl, SqT.of hp, at_nat (j := 0) rfl, rfl, _, rfl, iteDF ne_swap_add ?_⟩
        refine ⟨_, rfl, p, _, 0, _, rfl, rfl, SqT.of hp, at_nat (j := 0) rfl, rfl, _, rfl, iteDF ne_swap_scale ?_⟩
        refine ⟨_, rfl, _, rfl, p, _, 1, _, rfl, rfl, SqT.of hp, at_nat (j := 1) rfl, L, _, (a : Int), _, rfl, rfl, SqL.of eL2, at_nat (bis_get ha), ?_⟩
        refine ⟨_, rfl, _, rfl, p, _, 2, _, rfl, rfl, SqT.of hp, at_nat (j := 2) rfl, L, _, (b : Int), _, rfl, rfl, SqL.of eL2, at_nat (bis_get hb),
          _, rfl, _, rfl, p, _, 1, _, rfl, rfl, SqT.of hp, at_nat (j := 1) rfl, L, _, (a : Int), a, rfl, rfl, eL2, ixN_nat (by rw [List.length_map]; exact ha), ?_⟩
        refine ⟨_, rfl, _, rfl, _, rfl, p, _, 2, _, rfl, rfl, SqT.of (by rw [upd_ne npm]; exact hp), at_nat (j := 2) rfl, L, _, (b : Int), b, rfl, rfl, upd_same, ixN_nat (by rw [List.length_set, List.length_map]; exact hb), ?_⟩
        have e : ((cur.map bi).set a (bi (cur.getD b false))).set b (bi (cur.getD a false)) = (stepB gs cur (.swap a b)).map bi := by
          rw [← List.map_set, ← List.map_set]
          rfl
        refine ⟨same_late (same_late s2 nL) nL, ?_, _, _, _, rfl⟩
        rw [e1, ← e]
        exact upd_same
    · rintro σ H' ⟨s2, eL2, y5, y6, y7, rfl⟩
      rw [List.length_map, hA.1, List.take_length] at eL2
      exact ⟨_, rfl, q H' L s2 nL eL2⟩

abbrev s_equal : Stmt := topS 44
theorem sc_equal : FnScope ["_law_actual", "_law_due"] ["_law_actual", "_law_due"] (defScope s_equal) := ⟨rfl, rfl, rfl, by decide +kernel, rfl, by decide +kernel, by decide +kernel⟩
def spEqF : Sp := fun vs H Q _ => ∃ x : V, vs = [x, x] ∧ ((∃ i : Int, x = .int i) ∨ ∃ b : Bool, x = .bl b) ∧ Q (.bl true) H
theorem ok_equal_flat {f : Addr} {fd : FuncData} (F : Fun K "_law_equal" "_law_equal" s_equal f fd) (T : Txt mg) : FnOk P w K mg base CX0 1 f fd ["_law_actual", "_law_due"] spEqF := by
  refine F.ok sc_equal (fun vs H Q E h => ?_) (fun cdv A outer s H vs Q E hr h => ?_)
  · obtain ⟨x, rfl, _⟩ := h
    rfl
  · obtain ⟨x, rfl, hx, q⟩ := h
    refine ⟨_, (pss_cons (ps_if (pt_val (pe_isi (T := "list") T.list T.isinstance (pv 1)))
        (pss_cons (ps_if (PW.pt (pw_or (pt_not (pt_val (pe_isi (T := "list") T.list T.isinstance (pv 0)))) (pw_or1 (pt_cmpR op_ne (pe_callB call_len_seq (by rfl) T.len PySem.boot_len (pa_cons (pv 0) pa_nil)) (pe_callB call_len_seq (by rfl) T.len PySem.boot_len (pa_cons (pv 1) pa_nil)) (nomark _)))))
          (pss_one (ps_ret pe_bl))
          pss_nil)
        (pss_one (ps_ret pe_nev)))
        pss_nil)
      (pss_cons (ps_if (pt_val (pe_isi (T := "tuple") T.tuple T.isinstance (pv 1)))
        (pss_cons (ps_if (PW.pt (pw_or (pt_not (pt_val (pe_isi (T := "tuple") T.tuple T.isinstance (pv 0)))) (pw_or1 (pt_cmpR op_ne (pe_callB call_len_seq (by rfl) T.len PySem.boot_len (pa_cons (pv 0) pa_nil)) (pe_callB call_len_seq (by rfl) T.len PySem.boot_len (pa_cons (pv 1) pa_nil)) (nomark _)))))
          (pss_one (ps_ret pe_bl))
          pss_nil)
        (pss_one (ps_ret pe_nev)))
        pss_nil)
      (pss_cons (ps_if (pt_val (pe_isi (T := "bool") T.bool T.isinstance (pv 1)))
        (pss_one (ps_ret (pe_and (pe_isi (T := "bool") T.bool T.isinstance (pv 0)) (pe_one (pe_cmpR op_eq (pv 0) (pv 1) (nomark _))))))
        pss_nil)
      (pss_cons (ps_if (pt_val (pe_isi (T := "int") T.int T.isinstance (pv 1)))
        (pss_one (ps_ret (pe_and (pe_isi (T := "int") T.int T.isinstance (pv 0)) (pe_and (pe_not (pe_isi (T := "bool") T.bool T.isinstance (pv 0))) (pe_one (pe_cmpR op_eq (pv 0) (pv 1) (nomark _)))))))
        pss_nil)
      (pss_cons (ps_if (pt_val (pe_isi (T := "str") T.str T.isinstance (pv 1)))
        (pss_one (ps_ret (pe_and (pe_isi (T := "str") T.str T.isinstance (pv 0)) (pe_one (pe_cmpR op_eq (pv 0) (pv 1) (nomark _))))))
        pss_nil)
      (pss_one (ps_ret (pe_cmpR op_isN (pv 0) pe_non (nomark _))))))))), ?_⟩
    rcases hx with ⟨i, rfl⟩ | ⟨b, rfl⟩
    · refine ⟨_, rfl, isi_int_list ⟨false, rfl, iteF ?_⟩⟩
      refine ⟨_, rfl, isi_int_tuple ⟨false, rfl, iteF ?_⟩⟩
      refine ⟨_, rfl, isi_int_bool ⟨false, rfl, iteF ?_⟩⟩
      refine ⟨_, rfl, isi_int_int ⟨true, rfl, iteT ?_⟩⟩
      refine ⟨_, rfl, isi_int_int ⟨true, rfl, iteT ⟨_, rfl, isi_int_bool ⟨false, rfl, true, rfl, iteT ⟨_, rfl, _, rfl, rfl, ?_⟩⟩⟩⟩⟩
      show Q (.bl (decide (V.int i = V.int i))) H
      rw [decide_eq_true rfl]
      exact q
    · refine ⟨_, rfl, isi_bl_list ⟨false, rfl, iteF ?_⟩⟩
      refine ⟨_, rfl, isi_bl_tuple ⟨false, rfl, iteF ?_⟩⟩
      refine ⟨_, rfl, isi_bl_bool ⟨true, rfl, iteT ?_⟩⟩
      refine ⟨_, rfl, isi_bl_bool ⟨true, rfl, iteT ⟨_, rfl, _, rfl, rfl, ?_⟩⟩⟩
      show Q (.bl (decide (V.bl b = V.bl b))) H
      rw [decide_eq_true rfl]
      exact q
def spEqL : Sp := fun vs H Q _ => ∃ (p q : Addr) (xs : List V), vs = [.ref p, .ref q] ∧ H p = some (.lst xs) ∧ H q = some (.lst xs) ∧ xs.length ≤ 1000 ∧ (∀ x ∈ xs, (∃ i : Int, x = .int i) ∨ ∃ b : Bool, x = .bl b) ∧ Q (.bl true) H
abbrev s_all_equal : Stmt := topS 45
theorem sc_all_equal : FnScope ["_law_actual", "_law_due", "_law_k"] ["_law_actual", "_law_due"] (defScope s_all_equal) := ⟨rfl, rfl, rfl, by decide +kernel, rfl, by decide +kernel, by decide +kernel⟩
theorem ok_all_equal {f : Addr} {fd : FuncData} (F : Fun K "_law_all_equal" "_law_all_equal" s_all_equal f fd) (T : Txt mg) (G__law_equal : Good P w K mg base "_law_equal" 1 ["_law_actual", "_law_due"] spEqF) : FnOk P w K mg base CX0 2 f fd ["_law_actual", "_law_due"] spEqL := by
  refine F.ok sc_all_equal (fun vs H Q E h => ?_) (fun cdv A outer s H vs Q E hr h => ?_)
  · obtain ⟨p, q, xs, rfl, _⟩ := h
    rfl
  · obtain ⟨p, q, xs, rfl, hp, hq, hl, hf, qq⟩ := h
    refine ⟨_, (pss_cons (ps_for PassesOwn.never rfl (pi_range1 (by rfl) T.range (pa_cons (pe_callB call_len_seq (by rfl) T.len PySem.boot_len (pa_cons (pv 1) pa_nil)) pa_nil)) (pg_name (i := 2) sc_all_equal.nd rfl (Or.inl rfl))
        (pss_one (ps_if (pt_not (pt_val (pe_callG G__law_equal hr (pa_cons (pe_ix ix_list (pv 0) (pv 2) (fun _ _ => rfl)) (pa_cons (pe_ix ix_list (pv 1) (pv 2) (fun _ _ => rfl)) pa_nil)))))
          (pss_one (ps_ret pe_bl))
          pss_nil)))
      (pss_one (ps_ret pe_bl))), ?_⟩
    refine ⟨_, rfl, q, _, rfl, .inl (SqL.of hq), (xs.length : Int), rfl, by omega, by omega, for_range (lo := 0) (n := xs.length) (fun i σ H' => H' = H ∧ ∃ v : Option V, σ = [some (.ref p), some (.ref q), v]) ⟨rfl, none, rfl⟩ ?_ ?_⟩
    · rintro i σ H' hi ⟨rfl, v, rfl⟩
      have ex : xs[i]? = some xs[i] := List.getElem?_eq_getElem hi
      have e0 : (0 : Int) + (i : Int) = (i : Int) := by omega
      refine ⟨_, rfl, _, rfl, p, _, _, _, rfl, rfl, SqL.of hp, at_of e0 ex, _, rfl, _, rfl, q, _, _, _, rfl, rfl, SqL.of hq, at_of e0 ex, xs[i], rfl, hf _ (List.getElem_mem hi), true, rfl, iteF ⟨rfl, _, rfl⟩⟩
    · rintro σ H' ⟨rfl, _⟩
      exact qq
theorem ok_equal_list {f : Addr} {fd : FuncData} (F : Fun K "_law_equal" "_law_equal" s_equal f fd) (T : Txt mg) (G__law_all_equal : Good P w K mg base "_law_all_equal" 2 ["_law_actual", "_law_due"] spEqL) : FnOk P w K mg base CX0 3 f fd ["_law_actual", "_law_due"] spEqL := by
  refine F.ok sc_equal (fun vs H Q E h => ?_) (fun cdv A outer s H vs Q E hr h => ?_)
  · obtain ⟨p, q, xs, rfl, _⟩ := h
    rfl
  · obtain ⟨p, q, xs, rfl, hp, hq, hl, hf, qq⟩ := h
    refine ⟨_, (pss_cons (ps_if (pt_val (pe_isi (T := "list") T.list T.isinstance (pv 1)))
        (pss_cons (ps_if (PW.pt (pw_or (pt_not (pt_val (pe_isi (T := "list") T.list T.isinstance (pv 0)))) (pw_or1 (pt_cmpR op_ne (pe_callB call_len_seq (by rfl) T.len PySem.boot_len (pa_cons (pv 0) pa_nil)) (pe_callB call_len_seq (by rfl) T.len PySem.boot_len (pa_cons (pv 1) pa_nil)) (nomark _)))))
          (pss_one (ps_ret pe_bl))
          pss_nil)
        (pss_one (ps_ret (pe_callG G__law_all_equal hr (pa_cons (pv 0) (pa_cons (pv 1) pa_nil))))))
        pss_nil)
      (pss_cons (ps_if (pt_val (pe_isi (T := "tuple") T.tuple T.isinstance (pv 1)))
        (pss_cons (ps_if (PW.pt (pw_or (pt_not (pt_val (pe_isi (T := "tuple") T.tuple T.isinstance (pv 0)))) (pw_or1 (pt_cmpR op_ne (pe_callB call_len_seq (by rfl) T.len PySem.boot_len (pa_cons (pv 0) pa_nil)) (pe_callB call_len_seq (by rfl) T.len PySem.boot_len (pa_cons (pv 1) pa_nil)) (nomark _)))))
          (pss_one (ps_ret pe_bl))
          pss_nil)
        (pss_one (ps_ret (pe_callG G__law_all_equal hr (pa_cons (pv 0) (pa_cons (pv 1) pa_nil))))))
        pss_nil)
      (pss_cons (ps_if (pt_val (pe_isi (T := "bool") T.bool T.isinstance (pv 1)))
        (pss_one (ps_ret (pe_and (pe_isi (T := "bool") T.bool T.isinstance (pv 0)) (pe_one (pe_cmpR op_eq (pv 0) (pv 1) (nomark _))))))
        pss_nil)
      (pss_cons (ps_if (pt_val (pe_isi (T := "int") T.int T.isinstance (pv 1)))
        (pss_one (ps_ret (pe_and (pe_isi (T := "int") T.int T.isinstance (pv 0)) (pe_and (pe_not (pe_isi (T := "bool") T.bool T.isinstance (pv 0))) (pe_one (pe_cmpR op_eq (pv 0) (pv 1) (nomark _)))))))
        pss_nil)
      (pss_cons (ps_if (pt_val (pe_isi (T := "str") T.str T.isinstance (pv 1)))
        (pss_one (ps_ret (pe_and (pe_isi (T := "str") T.str T.isinstance (pv 0)) (pe_one (pe_cmpR op_eq (pv 0) (pv 1) (nomark _))))))
        pss_nil)
      (pss_one (ps_ret (pe_cmpR op_isN (pv 0) pe_non (nomark _))))))))), ?_⟩
    refine ⟨_, rfl, isi_lst_list hq ⟨true, rfl, iteT ?_⟩⟩
    refine ⟨_, rfl, isi_lst_list hp ⟨true, rfl, iteF ⟨_, rfl, p, _, rfl, .inl (SqL.of hp), _, rfl, q, _, rfl, .inl (SqL.of hq), rfl, _, rfl, iteNS rfl ?_⟩⟩⟩
    exact ⟨_, rfl, _, rfl, p, q, xs, rfl, hp, hq, hl, hf, qq⟩
end
end Bf

namespace Bf
open PySem PySem.Spec PyProof.Rows L2
abbrev rLenS (K : PySem.W.Frag) : List V → Hp → VK → Prop := fun xs H Q => ∃ p ys, xs = [.ref p] ∧ (SqL K H p ys ∨ SqT K H p ys) ∧ Q (.int ys.length) H
def GoodMk (P : Program) (w : World) (K : PySem.W.Frag) (mg : Str → Option Value) (base : Heap) (nm : Str) (C : Addr) (k : Nat) (ps : List Str) (sp : Sp) : Prop :=
  ∃ f fd, Mk K C f ∧ mg nm = some (.ref C) ∧ Binds K fd ps [] ∧ FnOk P w K mg base CX0 k f fd ps sp
def GoodM (P : Program) (w : World) (K : PySem.W.Frag) (mg : Str → Option Value) (base : Heap) (C : Addr) (m : Str) (k : Nat) (ps : List Str) (sp : Sp) : Prop :=
  Cls K C ∧ ∃ f fd, Meth K C m f ∧ Binds K fd ps [] ∧ FnOk P w K mg base CX0 k f fd ps sp
section
variable {X : Cx} {nm m : Str} {C : Addr} {k : Nat} {ps : List Str} {sp : Sp} {p pos apos : Pos} {e o : Expr} {es : List Expr} {t : TA} {ta : TE}
theorem pe_makeG {j : Nat} (G : GoodMk X.prog X.w X.K X.mg X.base nm C k ps sp) (hr : Room j X.A) (ha : PA X (e :: es) t) (hj : k + 1 ≤ j := by decide) (hg : Gl X nm := by rfl) (hdb : (nm == ("__debug__" : Str)) = false := by decide)
    (hpl : (backTo pos (starEach es X.env)).any (·.1) = false := by rfl) (he : starEach (e :: es) X.env = (false, eval e X.env) :: starEach es X.env := by rfl) :
    PE X (.Call (.Name nm p) (e :: es) [] pos) (tMake C sp [] E0 t) := by
  obtain ⟨f, fd, M, gm, b, F⟩ := G
  exact pe_make M F (hr.mono hj) hg gm b .nil pass0 ha hdb he hpl
theorem pe_methG {j : Nat} {pl : Sem Bool} (G : GoodM X.prog X.w X.K X.mg X.base C m k ps sp) (hr : Room j X.A) (he : PE X o ta) (ha : PA X (e :: es) t) (hj : k ≤ j := by decide)
    (hst : starEach (e :: es) X.env = (false, eval e X.env) :: starEach es X.env := by rfl) (hpl : (backTo pos (starEach es X.env)).any (·.1) = false := by rfl)
    (ht : eval (.Call (.Attribute o m apos) (e :: es) [] pos) X.env = (do
      let ov ← eval o X.env
      standAt apos.atName
      let (f, first) ← holding [ov] (getMethod ov m pl)
      callWith pos f first (backTo pos (starEach (e :: es) X.env)) (backToKw pos (keywordEach [] X.env))) := by rfl) :
    PE X (.Call (.Attribute o m apos) (e :: es) [] pos) (tMeth C m sp [] E0 ta t) := by
  obtain ⟨cl, f, fd, M, b, F⟩ := G
  exact pe_meth he cl M F (hr.mono hj) b .nil pass0 ha hst hpl ht
end

theorem refs_ne {H : Hp} {S d n : Addr} {z : Int} {ps : List Addr} (h : H S = some (.lst (ps.map V.ref))) (hd : H d = some (.lst [.ref n, .int z])) : S ≠ d := by
  intro e
  rw [e, hd] at h
  have e2 : [V.ref n, V.int z] = ps.map V.ref := HO.lst.inj (Option.some.inj h)
  cases ps with
  | nil => cases e2
  | cons b r =>
    cases r with
    | nil => cases e2
    | cons c r =>
      have e3 : V.int z = V.ref c := (List.cons.inj (List.cons.inj e2).2).1
      cases e3
theorem Are.rev {α : Type} {R : Addr → α → Prop} {ps : List Addr} {xs : List α} (a : Are R ps xs) : Are R ps.reverse xs.reverse := by
  refine ⟨by rw [List.length_reverse, List.length_reverse, a.1], fun i p x e1 e2 => ?_⟩
  have hi : i < ps.length := by
    have := (List.getElem?_eq_some_iff.mp e1).1
    rw [List.length_reverse] at this
    exact this
  rw [List.getElem?_reverse hi] at e1
  rw [List.getElem?_reverse (by rw [← a.1]; exact hi), ← a.1] at e2
  exact a.2 _ p x e1 e2
structure Cur (C d n x S G : Addr) (ms : List Int) (N k : Nat) (ps : List Addr) (sts : List Stp) (qs : List Addr) (gts : List Gate) (H : Hp) : Prop where
  dr : Dr H d n ms
  pr : PrAt C H x N k sts
  eS : H S = some (.lst (ps.map V.ref))
  hA : StpsAt H ps sts
  eG : H G = some (.lst (qs.map V.ref))
  gA : GatesAt H qs gts
section
variable {C d n x S G : Addr} {ms : List Int} {N k : Nat} {ps : List Addr} {sts : List Stp} {qs : List Addr} {gts : List Gate} {H H' : Hp}
theorem Cur.same (c : Cur C d n x S G ms N k ps sts qs gts H) (s : Same H H') : Cur C d n x S G ms N k ps sts qs gts H' :=
  ⟨c.dr.same s, c.pr.same s, s _ _ c.eS, c.hA.mono fun p st e => e.tups (tups_of s), s _ _ c.eG, c.gA.mono fun p g e => e.tups (tups_of s)⟩
theorem Cur.keep (c : Cur C d n x S G ms N k ps sts qs gts H) (s : Keep d H H') (dr' : Dr H' d n ms) : Cur C d n x S G ms N k ps sts qs gts H' := by
  obtain ⟨z, hd, _, _⟩ := id c.dr
  exact ⟨dr', c.pr.keep s hd, s _ _ (refs_ne c.eS hd) c.eS, c.hA.mono fun p st e => e.tups (c.dr.tups s), s _ _ (refs_ne c.eG hd) c.eG, c.gA.mono fun p g e => e.tups (c.dr.tups s)⟩
end
theorem bi_draw (v : Int) : V.int (v % 2) = bi (decide (v % 2 = 1)) := by
  unfold bi
  rw [i01_of]
theorem dec_bi (b : Bool) : decide (bi b = V.int 1) = b := by cases b <;> decide
theorem flat_bis {bs : List Bool} : ∀ x ∈ bs.map bi, (∃ i : Int, x = V.int i) ∨ ∃ b : Bool, x = V.bl b := fun x hx => by
  obtain ⟨b, _, rfl⟩ := List.mem_map.mp hx
  exact .inl ⟨_, rfl⟩
theorem flat_bls {bs : List Bool} : ∀ x ∈ bs.map V.bl, (∃ i : Int, x = V.int i) ∨ ∃ b : Bool, x = V.bl b := fun x hx => by
  obtain ⟨b, _, rfl⟩ := List.mem_map.mp hx
  exact .inr ⟨_, rfl⟩
section
variable {P : Program} {w : World} {K : PySem.W.Frag} {mg : Str → Option Value} {base : Heap}
abbrev s_law : Stmt := topS 52
theorem sc_law : FnScope ["_law_script", "_law_draws", "_law_cells", "_law_inputs", "_law_steps", "_law_program", "_law_gates", "_law_turn", "_law_memory", "_law_given", "_law_due", "_law_bits", "_law_after", "_law_back", "_law_k", "_law_number_here"] ["_law_script"] (defScope s_law) := ⟨rfl, rfl, rfl, by decide +kernel, rfl, by decide +kernel, by decide +kernel⟩
def spLaw (K : PySem.W.Frag) : Sp := fun vs H Q _ => ∃ (a : Addr) (ns : List Int), vs = [.ref a] ∧ SqL K H a (ns.map V.int) ∧ ns.length ≤ 63 ∧ ∀ H', Q (.bl true) H'
theorem ok_law {f C : Addr} {fd : FuncData} (F : Fun K "law" "law" s_law f fd) (T : Txt mg)
    (G__law_numbers : Good P w K mg base "_law_numbers" 2 ["_law_script"] (spNumbers K)) (G__law_draw : Good P w K mg base "_law_draw" 2 ["_law_draws"] spDraw)
    (G__law_step : Good P w K mg base "_law_step" 4 ["_law_draws", "_law_modulus", "_law_cells", "_law_inputs"] spStepD) (MK : GoodMk P w K mg base "Program" C 7 ["self", "modulus", "cells", "inputs", "steps"] (spInit C))
    (G_gates_of : Good P w K mg base "gates_of" 2 ["program"] (spGatesOf C)) (G__law_run : Good P w K mg base "_law_run" 2 ["_law_steps", "_law_modulus", "_law_memory", "_law_given"] spLawRun)
    (G__law_equal : Good P w K mg base "_law_equal" 3 ["_law_actual", "_law_due"] spEqL) (M_run : GoodM P w K mg base C "run" 4 ["self", "memory", "given"] (spRun C))
    (G_perform_gates : Good P w K mg base "perform_gates" 4 ["gates", "bits"] spPerformG) : FnOk P w K mg base CX0 9 f fd ["_law_script"] (spLaw K) := by
  refine F.ok sc_law (fun vs H Q E h => ?_) (fun cdv A outer s H vs Q E hr h => ?_)
  · obtain ⟨a, ns, rfl, _⟩ := h
    rfl
  · obtain ⟨a, ns, rfl, hS, hlen, q⟩ := h
    refine ⟨_, (pss_cons (ps_set (i := 1) sc_law.nd rfl (Or.inr rfl) (pe_lst (pa_cons (pe_callG G__law_numbers hr (pa_cons (pv 0) pa_nil)) (pa_cons pe_int pa_nil))))
      (pss_cons (ps_set (i := 2) sc_law.nd rfl (Or.inr rfl) (pe_op op_add pe_int (pe_op op_mod (pe_callG G__law_draw hr (pa_cons (pv 1) pa_nil)) pe_int)))
      (pss_cons (ps_set (i := 3) sc_law.nd rfl (Or.inr rfl) (pe_op op_mod (pe_callG G__law_draw hr (pa_cons (pv 1) pa_nil)) pe_int))
      (pss_cons (ps_setLc (i := 4) (own := [("_law_k", 14)]) (g := gName 14) (tt := tYes) rfl sc_law.nd rfl rfl (sw_true rfl rfl rfl (by decide +kernel)) (pi_range1 (by rfl) T.range (pa_cons (pe_op op_mod (pe_callG G__law_draw hr (pa_cons (pv 1) pa_nil)) pe_int) pa_nil)) (blkOk_by (own := [("_law_k", 14)]) (N := ["_law_script", "_law_draws", "_law_cells", "_law_inputs", "_law_steps", "_law_program", "_law_gates", "_law_turn", "_law_memory", "_law_given", "_law_due", "_law_bits", "_law_after", "_law_back", "_law_k", "_law_number_here"]) (sc := defScope s_law) (by decide +kernel)) (fun _ _ _ _ _ => pg_name (i := 14) sc_law.nd rfl (Or.inl rfl)) (fun _ _ _ _ _ => pts_nil) (fun _ _ _ _ _ => (pe_callG G__law_step hr (pa_cons (pv 1) (pa_cons pe_int (pa_cons (pv 2) (pa_cons (pv 3) pa_nil)))))))
      (pss_cons (ps_set (i := 5) sc_law.nd rfl (Or.inl rfl) (pe_makeG MK hr (pa_cons pe_int (pa_cons (pv 2) (pa_cons (pv 3) (pa_cons (pv 4) pa_nil))))))
      (pss_cons (ps_set (i := 6) sc_law.nd rfl (Or.inr rfl) (pe_callG G_gates_of hr (pa_cons (pv 5) pa_nil)))
      (pss_cons (ps_for PassesOwn.never rfl (pi_range1 (by rfl) T.range (pa_cons pe_int pa_nil)) (pg_name (i := 7) sc_law.nd rfl (Or.inl rfl))
        (pss_cons (ps_setLc (i := 8) (own := [("_law_k", 14)]) (g := gName 14) (tt := tYes) rfl sc_law.nd rfl rfl (sw_true rfl rfl rfl (by decide +kernel)) (pi_range1 (by rfl) T.range (pa_cons (pv 2) pa_nil)) (blkOk_by (own := [("_law_k", 14)]) (N := ["_law_script", "_law_draws", "_law_cells", "_law_inputs", "_law_steps", "_law_program", "_law_gates", "_law_turn", "_law_memory", "_law_given", "_law_due", "_law_bits", "_law_after", "_law_back", "_law_k", "_law_number_here"]) (sc := defScope s_law) (by decide +kernel)) (fun _ _ _ _ _ => pg_name (i := 14) sc_law.nd rfl (Or.inl rfl)) (fun _ _ _ _ _ => pts_nil) (fun _ _ _ _ _ => (pe_op op_mod (pe_callG G__law_draw hr (pa_cons (pv 1) pa_nil)) pe_int)))
        (pss_cons (ps_setLc (i := 9) (own := [("_law_k", 14)]) (g := gName 14) (tt := tYes) rfl sc_law.nd rfl rfl (sw_true rfl rfl rfl (by decide +kernel)) (pi_range1 (by rfl) T.range (pa_cons (pv 3) pa_nil)) (blkOk_by (own := [("_law_k", 14)]) (N := ["_law_script", "_law_draws", "_law_cells", "_law_inputs", "_law_steps", "_law_program", "_law_gates", "_law_turn", "_law_memory", "_law_given", "_law_due", "_law_bits", "_law_after", "_law_back", "_law_k", "_law_number_here"]) (sc := defScope s_law) (by decide +kernel)) (fun _ _ _ _ _ => pg_name (i := 14) sc_law.nd rfl (Or.inl rfl)) (fun _ _ _ _ _ => pts_nil) (fun _ _ _ _ _ => (pe_op op_mod (pe_callG G__law_draw hr (pa_cons (pv 1) pa_nil)) pe_int)))
        (pss_cons (ps_set (i := 10) sc_law.nd rfl (Or.inl rfl) (pe_callG G__law_run hr (pa_cons (pv 4) (pa_cons pe_int (pa_cons (pv 8) (pa_cons (pv 9) pa_nil))))))
        (pss_cons (ps_if (pt_not (pt_val (pe_callG G__law_equal hr (pa_cons (pe_methG M_run hr (pv 5) (pa_cons (pe_callTy call_list_of (by rfl) T.list (by decide +kernel) (pa_cons (pv 8) pa_nil)) (pa_cons (pe_callTy call_list_of (by rfl) T.list (by decide +kernel) (pa_cons (pv 9) pa_nil)) pa_nil))) (pa_cons (pv 10) pa_nil)))))
          (pss_one (ps_ret pe_bl))
          pss_nil)
        (pss_cons (ps_setLc (i := 11) (own := [("_law_number_here", 15)]) (g := gName 15) (tt := tYes) rfl sc_law.nd rfl rfl (sw_true rfl rfl rfl (by decide +kernel)) (pi_list (pe_op op_cat (pv 9) (pv 8))) (blkOk_by (own := [("_law_number_here", 15)]) (N := ["_law_script", "_law_draws", "_law_cells", "_law_inputs", "_law_steps", "_law_program", "_law_gates", "_law_turn", "_law_memory", "_law_given", "_law_due", "_law_bits", "_law_after", "_law_back", "_law_k", "_law_number_here"]) (sc := defScope s_law) (by decide +kernel)) (fun _ _ _ _ _ => pg_name (i := 15) sc_law.nd rfl (Or.inl rfl)) (fun _ _ _ _ _ => pts_nil) (fun _ _ _ _ _ => (pe_cmpR op_eq (pv 15) pe_int (nomark _))))
        (pss_cons (ps_set (i := 12) sc_law.nd rfl (Or.inl rfl) (pe_callG G_perform_gates hr (pa_cons (pv 6) (pa_cons (pe_callTy call_list_of (by rfl) T.list (by decide +kernel) (pa_cons (pv 11) pa_nil)) pa_nil))))
        (pss_cons (ps_if (pt_not (pt_val (pe_callG G__law_equal hr (pa_cons (pv 12) (pa_cons (pe_lc (own := [("_law_number_here", 15)]) (g := gName 15) (tt := tYes) rfl sc_law.nd (pi_list (pe_op op_cat (pv 9) (pv 10))) (blkOk_by (own := [("_law_number_here", 15)]) (N := ["_law_script", "_law_draws", "_law_cells", "_law_inputs", "_law_steps", "_law_program", "_law_gates", "_law_turn", "_law_memory", "_law_given", "_law_due", "_law_bits", "_law_after", "_law_back", "_law_k", "_law_number_here"]) (sc := defScope s_law) (by decide +kernel)) (fun _ _ _ _ _ => pg_name (i := 15) sc_law.nd rfl (Or.inl rfl)) (fun _ _ _ _ _ => pts_nil) (fun _ _ _ _ _ => (pe_cmpR op_eq (pv 15) pe_int (nomark _)))) pa_nil)))))
          (pss_one (ps_ret pe_bl))
          pss_nil)
        (pss_cons (ps_setLc (i := 13) (te := (tOp (rIxL K) (tVar 6) (tOp (rI0 fun i j => V.int (i - j)) (tOp (rI0 fun i j => V.int (i - j)) (tCB (rLenS K) (tCons (tVar 6) tNil)) (tC (.int 1))) (tVar 14)))) (own := [("_law_k", 14)]) (g := gName 14) (tt := tYes) rfl sc_law.nd rfl rfl (sw_true rfl rfl rfl (by decide +kernel)) (pi_range1 (by rfl) T.range (pa_cons (pe_callB call_len_seq (by rfl) T.len PySem.boot_len (pa_cons (pv 6) pa_nil)) pa_nil)) (blkOk_by (own := [("_law_k", 14)]) (N := ["_law_script", "_law_draws", "_law_cells", "_law_inputs", "_law_steps", "_law_program", "_law_gates", "_law_turn", "_law_memory", "_law_given", "_law_due", "_law_bits", "_law_after", "_law_back", "_law_k", "_law_number_here"]) (sc := defScope s_law) (by decide +kernel)) (fun _ _ _ _ _ => pg_name (i := 14) sc_law.nd rfl (Or.inl rfl)) (fun _ _ _ _ _ => pts_nil) (fun _ _ _ _ _ => (pe_ix ix_list (pv 6) (pe_op op_sub (pe_op op_sub (pe_callB call_len_seq (by rfl) T.len PySem.boot_len (pa_cons (pv 6) pa_nil)) pe_int) (pv 14)) (fun _ _ => rfl))))
        (pss_one (ps_if (pt_not (pt_val (pe_callG G__law_equal hr (pa_cons (pe_callG G_perform_gates hr (pa_cons (pv 13) (pa_cons (pv 12) pa_nil))) (pa_cons (pv 11) pa_nil)))))
          (pss_one (ps_ret pe_bl))
          pss_nil)))))))))))
      (pss_one (ps_ret pe_bl))))))))), ?_⟩
    refine ⟨_, rfl, a, ns, rfl, hS, hlen, fun H1 n ms s1 nn en => ⟨(by show 2 ≤ sizeLine; decide), fun d nd => ?_⟩⟩
    have D2 : Dr (upd H1 d (.lst [.ref n, .int 0])) d n ms := ⟨0, upd_same, Int.le_refl 0, by rw [upd_ne (ne_of_none en nd)]; exact en⟩
    generalize upd H1 d (.lst [.ref n, .int 0]) = H2 at D2 ⊢
    refine ⟨_, rfl, d, n, ms, rfl, D2, fun v1 H3 k3 D3 => ⟨v1, 9, rfl, rfl, (by show (0 : Int) < 9; decide), 1, _, rfl, rfl, ?_⟩⟩
    refine ⟨_, rfl, d, n, ms, rfl, D3, fun v2 H4 k4 D4 => ⟨v2, 6, rfl, rfl, (by show (0 : Int) < 6; decide), ?_⟩⟩
    have lo1 := Int.emod_nonneg v1 (show (9 : Int) ≠ 0 by decide)
    have hi1 := Int.emod_lt_of_pos v1 (show (0 : Int) < 9 by decide)
    have lo2 := Int.emod_nonneg v2 (show (6 : Int) ≠ 0 by decide)
    have hi2 := Int.emod_lt_of_pos v2 (show (0 : Int) < 6 by decide)
    obtain ⟨N, hN⟩ : ∃ N : Nat, 1 + v1 % 9 = (N : Int) := Int.eq_ofNat_of_zero_le (by omega)
    obtain ⟨k, hk⟩ : ∃ k : Nat, v2 % 6 = (k : Int) := Int.eq_ofNat_of_zero_le lo2
    have N1 : 1 ≤ N := by omega
    have N9 : N ≤ 9 := by omega
    have k5 : k ≤ 5 := by omega
    refine ⟨_, rfl, d, n, ms, rfl, D4, fun v3 H5 k5' D5 => ⟨v3, 21, rfl, rfl, (by show (0 : Int) < 21; decide), ?_⟩⟩
    have lo3 := Int.emod_nonneg v3 (show (21 : Int) ≠ 0 by decide)
    have hi3 := Int.emod_lt_of_pos v3 (show (0 : Int) < 21 by decide)
    refine ⟨v3 % 21, rfl, by omega, by omega, fun S nS => lc_range (lo := 0) (n := (v3 % 21).toNat) (fun i H' => Dr H' d n ms ∧ ∃ (ps : List Addr) (sts : List Stp), H' S = some (.lst (ps.map V.ref)) ∧ StpsAt H' ps sts ∧ sts.length ≤ i ∧ ∀ st ∈ sts, StpOk N k st)
      ⟨D5.late (D5.ne nS), [], [], upd_same, Are.nil, Nat.le_refl _, fun st h => (nomatch h)⟩ ?_ ?_⟩
    · rintro i H' hi ⟨D6, ps, sts, eS, hA, hl, hok⟩
      have nSd := D5.ne nS
      refine ⟨rfl, _, rfl, _, rfl, _, rfl, d, n, ms, N, k, (by rw [← hN, ← hk]; rfl), D6, N1, fun H7 p st k7 D7 sa sok => ?_⟩
      have eS7 : H7 S = some (.lst (ps.map V.ref)) := k7 S _ nSd.1 eS
      have lps : ps.length = sts.length := hA.1
      have tp : Tups H7 (upd H7 S (.lst (ps.map V.ref ++ [.ref p]))) := tups_lst eS7
      refine ⟨_, eS7, small1000 (by rw [List.length_map, lps]; omega), D7.late nSd, ps ++ [p], sts ++ [st], by rw [upd_same, List.map_append]; rfl, Are.append (hA.mono fun q st e => (e.tups (D6.tups k7)).tups tp) (Are.one (sa.tups tp)), by rw [List.length_append, List.length_singleton]; omega, fun g hg => ?_⟩
      rcases List.mem_append.mp hg with hg | hg
      · exact hok g hg
      · rw [List.mem_singleton.mp hg]
        exact sok
    · rintro H6 ⟨D6, ps, sts, eS, hA, hl, hok⟩
      have hl20 : sts.length ≤ 20 := by omega
      refine ⟨_, rfl, _, rfl, _, rfl, fun x dx nx ndx nex => ?_⟩
      have s6 : Same H6 (upd (upd H6 dx (.own x)) x (.ins C dx [])) := fun b o e => by
        rw [upd_ne (ne_of_none e nx), upd_ne (ne_of_none e ndx)]
        exact e
      refine ⟨x, dx, S, ps, sts, N, k, (by rw [← hN, ← hk]; rfl), upd_same, N1, by omega, by omega, s6 _ _ eS, hA.mono fun p st e => e.tups (tups_of s6), hok, hl20, fun H7 k7 pr => ⟨rfl, ?_⟩⟩
      have s67 : Same H6 H7 := fun b o e => k7 b o (ne_of_none e nx) (s6 b o e)
      refine ⟨_, rfl, x, N, k, sts, rfl, pr, by omega, hl20, fun H8 G qs gts s8 nG eG gA gok glen gd => ?_⟩
      have s68 := s67.trans s8
      have cur8 : Cur C d n x S G ms N k ps sts qs gts H8 := ⟨D6.same s68, pr.same s8, s68 _ _ eS, hA.mono fun p st e => e.tups (tups_of s68), eG, gA⟩
      have lqs : qs.length = gts.length := gA.1
      refine ⟨8, rfl, by decide, by decide, for_range (lo := 0) (n := 8) (fun i σ H' => Cur C d n x S G ms N k ps sts qs gts H' ∧ ∃ y7 y8 y9 y10 y11 y12 y13 : Option V,
        σ = [some (.ref a), some (.ref d), some (.int (1 + v1 % 9)), some (.int (v2 % 6)), some (.ref S), some (.ref x), some (.ref G), y7, y8, y9, y10, y11, y12, y13, none, none]) ⟨cur8, none, none, none, none, none, none, none, rfl⟩ ?_ ?_⟩
      · rintro i σ H0 hi ⟨c0, y7, y8, y9, y10, y11, y12, y13, rfl⟩
        refine ⟨_, rfl, 1 + v1 % 9, rfl, by omega, by omega, fun M nM => lc_range (lo := 0) (n := (1 + v1 % 9).toNat) (fun j H' => Keep d H0 H' ∧ Dr H' d n ms ∧ ∃ mem : List Bool, H' M = some (.lst (mem.map bi)) ∧ mem.length = j)
          ⟨Keep.of (same_new nM), c0.dr.late (c0.dr.ne nM), [], upd_same, rfl⟩ ?_ ?_⟩
        · rintro j H' hj ⟨kp, dr, mem, eM, hml⟩
          have nMd := c0.dr.ne nM
          refine ⟨rfl, _, rfl, d, n, ms, rfl, dr, fun v H2 k2 D2 => ⟨v, 2, rfl, rfl, (by show (0 : Int) < 2; decide), ?_⟩⟩
          have eM2 : H2 M = some (.lst (mem.map bi)) := k2 M _ nMd.1 eM
          have e2 : (mem ++ [decide (v % 2 = 1)]).map bi = mem.map bi ++ [V.int (v % 2)] := by rw [List.map_append, bi_draw]; rfl
          exact ⟨_, eM2, small1000 (by rw [List.length_map]; omega), keep_late (kp.trans k2) nM, D2.late nMd, mem ++ [decide (v % 2 = 1)], by rw [upd_same, e2], by rw [List.length_append, List.length_singleton, hml]⟩
        · rintro Ha ⟨kpa, dra, mem, eMa, hml⟩
          have hmN : mem.length = N := by omega
          have ca := c0.keep kpa dra
          clear hml
          refine ⟨_, rfl, v2 % 6, rfl, by omega, by omega, fun Vg nV => lc_range (lo := 0) (n := (v2 % 6).toNat) (fun j H' => Keep d Ha H' ∧ Dr H' d n ms ∧ ∃ giv : List Bool, H' Vg = some (.lst (giv.map bi)) ∧ giv.length = j)
            ⟨Keep.of (same_new nV), ca.dr.late (ca.dr.ne nV), [], upd_same, rfl⟩ ?_ ?_⟩
          · rintro j H' hj ⟨kp, dr, giv, eV, hgl⟩
            have nVd := ca.dr.ne nV
            refine ⟨rfl, _, rfl, d, n, ms, rfl, dr, fun v H2 k2 D2 => ⟨v, 2, rfl, rfl, (by show (0 : Int) < 2; decide), ?_⟩⟩
            have eV2 : H2 Vg = some (.lst (giv.map bi)) := k2 Vg _ nVd.1 eV
            have e2 : (giv ++ [decide (v % 2 = 1)]).map bi = giv.map bi ++ [V.int (v % 2)] := by rw [List.map_append, bi_draw]; rfl
            exact ⟨_, eV2, small1000 (by rw [List.length_map]; omega), keep_late (kp.trans k2) nV, D2.late nVd, giv ++ [decide (v % 2 = 1)], by rw [upd_same, e2], by rw [List.length_append, List.length_singleton, hgl]⟩
          · rintro Hb ⟨kpb, drb, giv, eVb, hgl⟩
            have hgk : giv.length = k := by omega
            have cb := ca.keep kpb drb
            have eMb : Hb M = some (.lst (mem.map bi)) := kpb M _ (c0.dr.ne nM).1 eMa
            clear hgl ca c0 kpa dra eMa kpb drb
            subst hmN
            subst hgk
            refine ⟨_, rfl, _, rfl, _, rfl, S, M, Vg, ps, sts, mem, giv, rfl, cb.eS, cb.hA, hok, eMb, eVb, fun Hc U sc nU eU => ?_⟩
            have cc := cb.same sc
            have eMc := sc _ _ eMb
            have eVc := sc _ _ eVb
            clear cb eMb eVb nU sc
            obtain ⟨⟨dx2, S2, ps2, hx2, _, _⟩, _⟩ := id cc.pr
            refine ⟨_, rfl, x, dx2, _, rfl, hx2, pf_run _ _ _, _, rfl, M, _, rfl, .inl (SqL.of eMc), fun M2 nM2 => ?_⟩
            have sd : Same Hc (upd Hc M2 (.lst (mem.map bi))) := same_new nM2
            have eM2 : (upd Hc M2 (.lst (mem.map bi))) M2 = some (.lst (mem.map bi)) := upd_same
            refine ⟨_, rfl, Vg, _, rfl, .inl (SqL.of (sd _ _ eVc)), fun Vg2 nV2 => ?_⟩
            have se : Same (upd Hc M2 (.lst (mem.map bi))) (upd (upd Hc M2 (.lst (mem.map bi))) Vg2 (.lst (giv.map bi))) := same_new nV2
            have eV2 : (upd (upd Hc M2 (.lst (mem.map bi))) Vg2 (.lst (giv.map bi))) Vg2 = some (.lst (giv.map bi)) := upd_same
            have sde := sd.trans se
            refine ⟨x, M2, Vg2, sts, mem, giv, rfl, cc.pr.same sde, se _ _ eM2, eV2, fun Hd R sf nR eR => ?_⟩
            have scd := sde.trans sf
            have lr : (runB giv mem sts).length = mem.length := runB_len _ _ _
            refine ⟨_, rfl, R, U, (runB giv mem sts).map bi, rfl, eR, scd _ _ eU, by rw [List.length_map, lr]; omega, flat_bis, true, rfl, iteF ?_⟩
            have cd := cc.same scd
            have eMd := scd _ _ eMc
            have eVd := scd _ _ eVc
            have eUd := scd _ _ eU
            clear cc eMc eVc eU sd se sde scd sf eM2 eV2 nM2 nV2 nR eR
            refine ⟨_, rfl, _, rfl, Vg, M, _, _, rfl, rfl, eVd, eMd, small_line (by rw [List.length_map, List.length_map]; omega), fun W nW => ⟨W, rfl, ⟨_, SqL.of upd_same⟩, fun B nB => ?_⟩⟩
            rw [← List.map_append] at nB ⊢
            have sW : Same Hd (upd Hd W (.lst ((giv ++ mem).map bi))) := same_new nW
            have eW : (upd Hd W (.lst ((giv ++ mem).map bi))) W = some (.lst ((giv ++ mem).map bi)) := upd_same
            generalize upd Hd W (.lst ((giv ++ mem).map bi)) = He at sW eW nB ⊢
            refine lc_list (K := K) (a := W) (xs := (giv ++ mem).map bi) (fun j H' => Same He H' ∧ H' B = some (.lst (((giv ++ mem).take j).map V.bl))) ⟨same_new nB, upd_same⟩ (fun j H' _ e => SqL.of (e.1 _ _ eW)) ?_ ?_
            · rintro j y H' hy ⟨s', eB⟩
              have jl : j < (giv ++ mem).length := by
                have := (List.getElem?_eq_some_iff.mp hy).1
                rw [List.length_map] at this
                exact this
              obtain ⟨b, hb, rfl⟩ : ∃ b, (giv ++ mem)[j]? = some b ∧ y = bi b := by
                rw [List.getElem?_map, List.getElem?_eq_getElem jl] at hy
                exact ⟨_, List.getElem?_eq_getElem jl, (Option.some.inj hy).symm⟩
              rw [List.length_append] at jl
              refine ⟨rfl, _, rfl, rfl, _, eB, small1000 (by rw [List.length_map, List.length_take, List.length_append]; omega), same_late s' nB, ?_⟩
              rw [upd_same, List.take_add_one, hb, List.map_append, dec_bi]
              rfl
            · rintro Hf ⟨sB, eB⟩
              rw [List.length_map, List.take_length] at eB
              have sdf := sW.trans sB
              have cf := cd.same sdf
              have eVf := sdf _ _ eVd
              have eUf := sdf _ _ eUd
              clear cd eMd eVd eUd sW sB eW nB nW sdf
              have lb : (giv ++ mem).length = giv.length + mem.length := List.length_append
              refine ⟨_, rfl, _, rfl, B, _, rfl, .inl (SqL.of eB), fun B2 nB2 => ?_⟩
              have sg : Same Hf (upd Hf B2 (.lst ((giv ++ mem).map V.bl))) := same_new nB2
              have cg := cf.same sg
              refine ⟨G, B2, qs, gts, giv ++ mem, rfl, cg.eG, cg.gA, (by rw [lb]; exact gok), glen, upd_same, by omega, fun Hg A1 sh nA1 eA1 => ?_⟩
              have sfg := sg.trans sh
              have ch := cf.same sfg
              have eBg := sfg _ _ eB
              have eVg := sfg _ _ eVf
              have eUg := sfg _ _ eUf
              clear cf cg eB eVf eUf sg sh sfg nB2 nA1
              have ed := gd giv mem rfl rfl
              have lp : (performB gts (giv ++ mem)).length = giv.length + mem.length := by rw [performB_len, lb]
              have lr2 : (giv ++ runB giv mem sts).length = giv.length + mem.length := by rw [List.length_append, lr]
              refine ⟨_, rfl, _, rfl, _, rfl, Vg, U, _, _, rfl, rfl, eVg, eUg, small_line (by rw [List.length_map, List.length_map, lr]; omega), fun W2 nW2 => ⟨W2, rfl, ⟨_, SqL.of upd_same⟩, fun X nX => ?_⟩⟩
              rw [← List.map_append] at nX ⊢
              have sW : Same Hg (upd Hg W2 (.lst ((giv ++ runB giv mem sts).map bi))) := same_new nW2
              have eW : (upd Hg W2 (.lst ((giv ++ runB giv mem sts).map bi))) W2 = some (.lst ((giv ++ runB giv mem sts).map bi)) := upd_same
              generalize upd Hg W2 (.lst ((giv ++ runB giv mem sts).map bi)) = Hh at sW eW nX ⊢
              refine lc_list (K := K) (a := W2) (xs := (giv ++ runB giv mem sts).map bi) (fun j H' => Same Hh H' ∧ H' X = some (.lst (((giv ++ runB giv mem sts).take j).map V.bl))) ⟨same_new nX, upd_same⟩ (fun j H' _ e => SqL.of (e.1 _ _ eW)) ?_ ?_
              · rintro j y H' hy ⟨s', eX⟩
                have jl : j < (giv ++ runB giv mem sts).length := by
                  have := (List.getElem?_eq_some_iff.mp hy).1
                  rw [List.length_map] at this
                  exact this
                obtain ⟨b, hb, rfl⟩ : ∃ b, (giv ++ runB giv mem sts)[j]? = some b ∧ y = bi b := by
                  rw [List.getElem?_map, List.getElem?_eq_getElem jl] at hy
                  exact ⟨_, List.getElem?_eq_getElem jl, (Option.some.inj hy).symm⟩
                refine ⟨rfl, _, rfl, rfl, _, eX, small1000 (by rw [List.length_map, List.length_take]; omega), same_late s' nX, ?_⟩
                rw [upd_same, List.take_add_one, hb, List.map_append, dec_bi]
                rfl
              · rintro Hi ⟨sX, eX⟩
                rw [List.length_map, List.take_length] at eX
                have sgi := sW.trans sX
                have ci := ch.same sgi
                have eBi := sgi _ _ eBg
                have eAi := sgi _ _ eA1
                clear ch eBg eVg eUg eA1 sW sX eW nX nW2 sgi
                refine ⟨A1, X, (performB gts (giv ++ mem)).map V.bl, rfl, eAi, by rw [ed]; exact eX, by rw [List.length_map, lp]; omega, flat_bls, true, rfl, iteF ?_⟩
                have lq : (qs.map V.ref).length = gts.length := by rw [List.length_map]; exact lqs
                refine ⟨_, rfl, G, _, rfl, .inl (SqL.of ci.eG), ((qs.map V.ref).length : Int), rfl, by omega, by omega, fun Y nY => lc_range (lo := 0) (n := (qs.map V.ref).length) (fun j H' => Same Hi H' ∧ H' Y = some (.lst ((qs.reverse.take j).map V.ref))) ⟨same_new nY, upd_same⟩ ?_ ?_⟩
                · rintro j H' hj ⟨s', eY⟩
                  rw [List.length_map] at hj
                  have eG' := s' _ _ ci.eG
                  have hix : qs.length - 1 - j < qs.length := by omega
                  have eq1 : (qs.map V.ref)[qs.length - 1 - j]? = some (V.ref qs[qs.length - 1 - j]) := by
                    rw [List.getElem?_map, List.getElem?_eq_getElem hix]
                    rfl
                  have eq2 : qs.reverse[j]? = some qs[qs.length - 1 - j] := by rw [List.getElem?_reverse hj, List.getElem?_eq_getElem hix]
                  refine ⟨rfl, _, rfl, _, rfl, G, _, rfl, .inl (SqL.of eG'), ((qs.map V.ref).length : Int), 1, rfl, rfl, _, rfl, ((qs.map V.ref).length : Int) - 1, 0 + (j : Int), rfl, rfl, G, _, ((qs.map V.ref).length : Int) - 1 - (0 + (j : Int)), _, rfl, rfl, SqL.of eG', at_of (j := qs.length - 1 - j) (by rw [List.length_map]; omega) eq1, _, eY, small1000 (by rw [List.length_map, List.length_take]; omega), same_late s' nY, ?_⟩
                  rw [upd_same, List.take_add_one, eq2, List.map_append]
                  rfl
                · rintro Hj ⟨sY, eY⟩
                  rw [List.length_map, ← List.length_reverse, List.take_length] at eY
                  have cj := ci.same sY
                  have eAj := sY _ _ eAi
                  have eBj := sY _ _ eBi
                  refine ⟨_, rfl, _, rfl, Y, A1, qs.reverse, gts.reverse, performB gts (giv ++ mem), rfl, eY, cj.gA.rev, fun g hg => (by rw [lp]; exact gok g (List.mem_reverse.mp hg)), by rw [List.length_reverse]; exact glen, eAj, by omega, fun Hk A2 sk nA2 eA2 => ?_⟩
                  rw [performB_rev gts (giv ++ mem) (by rw [lb]; exact gok)] at eA2
                  refine ⟨_, rfl, A2, B, (giv ++ mem).map V.bl, rfl, eA2, sk _ _ eBj, by rw [List.length_map]; omega, flat_bls, true, rfl, iteF ?_⟩
                  exact ⟨cj.same sk, _, _, _, _, _, _, _, rfl⟩
      · rintro σ H' _
        exact q H'
end
end Bf

namespace Bf
open PySem PySem.Spec PyProof.Rows L2
theorem all_mk {l : PySem.W.OpenLaw} {w : World} {K : PySem.W.Frag} {h : Heap} {mg : Str → Option Value} {fa C f_is_integer f_is_number f_inverse_of f_check_gate f_check_bits f_performG f_gates_of_step f_gates_of f_is_factor f_is_add f_is_step f_performS f_check_steps f_check_numbers f_mixed f_numbers f_draw f_equal f_all_equal f_gcd f_factors f_number f_stepD f_worth f_lawrun f_law f_init f_run : Addr} (X : K.In h) (G : h.Ns mainGlobals mg) (hfa : mg "law" = some (.ref fa))
    {od_is_integer an_is_integer od_is_number an_is_number od_inverse_of an_inverse_of od_check_gate an_check_gate od_check_bits an_check_bits od_performG an_performG od_gates_of_step an_gates_of_step od_gates_of an_gates_of od_is_factor an_is_factor od_is_add an_is_add od_is_step an_is_step od_performS an_performS od_check_steps an_check_steps od_check_numbers an_check_numbers od_mixed an_mixed od_numbers an_numbers od_draw an_draw od_equal an_equal od_all_equal an_all_equal od_gcd an_gcd od_factors an_factors od_number an_number od_stepD an_stepD od_worth an_worth od_lawrun an_lawrun od_law an_law od_init an_init od_run an_run : Option Addr} {sl_is_integer sl_is_number sl_inverse_of sl_check_gate sl_check_bits sl_performG sl_gates_of_step sl_gates_of sl_is_factor sl_is_add sl_is_step sl_performS sl_check_steps sl_check_numbers sl_mixed sl_numbers sl_draw sl_equal sl_all_equal sl_gcd sl_factors sl_number sl_stepD sl_worth sl_lawrun sl_law sl_init sl_run : Array (Option Value)}
    {oc_is_integer kV_is_integer dc_is_integer pm_is_integer cd_is_integer ct_is_integer oc_is_number kV_is_number dc_is_number pm_is_number cd_is_number ct_is_number oc_inverse_of kV_inverse_of dc_inverse_of pm_inverse_of cd_inverse_of ct_inverse_of oc_check_gate kV_check_gate dc_check_gate pm_check_gate cd_check_gate ct_check_gate oc_check_bits kV_check_bits dc_check_bits pm_check_bits cd_check_bits ct_check_bits oc_performG kV_performG dc_performG pm_performG cd_performG ct_performG oc_gates_of_step kV_gates_of_step dc_gates_of_step pm_gates_of_step cd_gates_of_step ct_gates_of_step oc_gates_of kV_gates_of dc_gates_of pm_gates_of cd_gates_of ct_gates_of oc_is_factor kV_is_factor dc_is_factor pm_is_factor cd_is_factor ct_is_factor oc_is_add kV_is_add dc_is_add pm_is_add cd_is_add ct_is_add oc_is_step kV_is_step dc_is_step pm_is_step cd_is_step ct_is_step oc_performS kV_performS dc_performS pm_performS cd_performS ct_performS oc_check_steps kV_check_steps dc_check_steps pm_check_steps cd_check_steps ct_check_steps oc_check_numbers kV_check_numbers dc_check_numbers pm_check_numbers cd_check_numbers ct_check_numbers oc_mixed kV_mixed dc_mixed pm_mixed cd_mixed ct_mixed oc_numbers kV_numbers dc_numbers pm_numbers cd_numbers ct_numbers oc_draw kV_draw dc_draw pm_draw cd_draw ct_draw oc_equal kV_equal dc_equal pm_equal cd_equal ct_equal oc_all_equal kV_all_equal dc_all_equal pm_all_equal cd_all_equal ct_all_equal oc_gcd kV_gcd dc_gcd pm_gcd cd_gcd ct_gcd oc_factors kV_factors dc_factors pm_factors cd_factors ct_factors oc_number kV_number dc_number pm_number cd_number ct_number oc_stepD kV_stepD dc_stepD pm_stepD cd_stepD ct_stepD oc_worth kV_worth dc_worth pm_worth cd_worth ct_worth oc_lawrun kV_lawrun dc_lawrun pm_lawrun cd_lawrun ct_lawrun oc_law kV_law dc_law pm_law cd_law ct_law oc_init kV_init dc_init pm_init cd_init ct_init oc_run kV_run dc_run pm_run cd_run ct_run : Value} {t_BITS t_MOST t_FACTORS t_MODULUS t_CELLS t_INPUTS t_STEPS : Tok}
    (aC : PySem.W.nsIn K mainGlobals "Program" = some (some (.ref C)))
    (a_is_integer : PySem.W.nsIn K mainGlobals "is_integer" = some (some (.ref f_is_integer)))
    (l_is_integer : K.lookup f_is_integer = some ⟨oc_is_integer, od_is_integer, .func (PySem.W.fnOf "is_integer" "is_integer" (defArgs s_is_integer) (defBody s_is_integer) (defScope s_is_integer) .none kV_is_integer dc_is_integer pm_is_integer an_is_integer cd_is_integer ct_is_integer), sl_is_integer⟩)
    (c_is_integer : PySem.W.codeIn K cd_is_integer "is_integer" = true)
    (k_is_integer : PySem.W.keepIn K (.ref f_is_integer) = true)
    (a_is_number : PySem.W.nsIn K mainGlobals "is_number" = some (some (.ref f_is_number)))
    (l_is_number : K.lookup f_is_number = some ⟨oc_is_number, od_is_number, .func (PySem.W.fnOf "is_number" "is_number" (defArgs s_is_number) (defBody s_is_number) (defScope s_is_number) .none kV_is_number dc_is_number pm_is_number an_is_number cd_is_number ct_is_number), sl_is_number⟩)
    (c_is_number : PySem.W.codeIn K cd_is_number "is_number" = true)
    (k_is_number : PySem.W.keepIn K (.ref f_is_number) = true)
    (a_inverse_of : PySem.W.nsIn K mainGlobals "inverse_of" = some (some (.ref f_inverse_of)))
    (l_inverse_of : K.lookup f_inverse_of = some ⟨oc_inverse_of, od_inverse_of, .func (PySem.W.fnOf "inverse_of" "inverse_of" (defArgs s_inverse_of) (defBody s_inverse_of) (defScope s_inverse_of) .none kV_inverse_of dc_inverse_of pm_inverse_of an_inverse_of cd_inverse_of ct_inverse_of), sl_inverse_of⟩)
    (c_inverse_of : PySem.W.codeIn K cd_inverse_of "inverse_of" = true)
    (k_inverse_of : PySem.W.keepIn K (.ref f_inverse_of) = true)
    (a_check_gate : PySem.W.nsIn K mainGlobals "check_gate" = some (some (.ref f_check_gate)))
    (l_check_gate : K.lookup f_check_gate = some ⟨oc_check_gate, od_check_gate, .func (PySem.W.fnOf "check_gate" "check_gate" (defArgs s_check_gate) (defBody s_check_gate) (defScope s_check_gate) .none kV_check_gate dc_check_gate pm_check_gate an_check_gate cd_check_gate ct_check_gate), sl_check_gate⟩)
    (c_check_gate : PySem.W.codeIn K cd_check_gate "check_gate" = true)
    (k_check_gate : PySem.W.keepIn K (.ref f_check_gate) = true)
    (a_check_bits : PySem.W.nsIn K mainGlobals "check_bits" = some (some (.ref f_check_bits)))
    (l_check_bits : K.lookup f_check_bits = some ⟨oc_check_bits, od_check_bits, .func (PySem.W.fnOf "check_bits" "check_bits" (defArgs s_check_bits) (defBody s_check_bits) (defScope s_check_bits) .none kV_check_bits dc_check_bits pm_check_bits an_check_bits cd_check_bits ct_check_bits), sl_check_bits⟩)
    (c_check_bits : PySem.W.codeIn K cd_check_bits "check_bits" = true)
    (k_check_bits : PySem.W.keepIn K (.ref f_check_bits) = true)
    (a_performG : PySem.W.nsIn K mainGlobals "perform_gates" = some (some (.ref f_performG)))
    (l_performG : K.lookup f_performG = some ⟨oc_performG, od_performG, .func (PySem.W.fnOf "perform" "perform" (defArgs s_performG) (defBody s_performG) (defScope s_performG) .none kV_performG dc_performG pm_performG an_performG cd_performG ct_performG), sl_performG⟩)
    (c_performG : PySem.W.codeIn K cd_performG "perform" = true)
    (k_performG : PySem.W.keepIn K (.ref f_performG) = true)
    (a_gates_of_step : PySem.W.nsIn K mainGlobals "gates_of_step" = some (some (.ref f_gates_of_step)))
    (l_gates_of_step : K.lookup f_gates_of_step = some ⟨oc_gates_of_step, od_gates_of_step, .func (PySem.W.fnOf "gates_of_step" "gates_of_step" (defArgs s_gates_of_step) (defBody s_gates_of_step) (defScope s_gates_of_step) .none kV_gates_of_step dc_gates_of_step pm_gates_of_step an_gates_of_step cd_gates_of_step ct_gates_of_step), sl_gates_of_step⟩)
    (c_gates_of_step : PySem.W.codeIn K cd_gates_of_step "gates_of_step" = true)
    (k_gates_of_step : PySem.W.keepIn K (.ref f_gates_of_step) = true)
    (a_gates_of : PySem.W.nsIn K mainGlobals "gates_of" = some (some (.ref f_gates_of)))
    (l_gates_of : K.lookup f_gates_of = some ⟨oc_gates_of, od_gates_of, .func (PySem.W.fnOf "gates_of" "gates_of" (defArgs s_gates_of) (defBody s_gates_of) (defScope s_gates_of) .none kV_gates_of dc_gates_of pm_gates_of an_gates_of cd_gates_of ct_gates_of), sl_gates_of⟩)
    (c_gates_of : PySem.W.codeIn K cd_gates_of "gates_of" = true)
    (k_gates_of : PySem.W.keepIn K (.ref f_gates_of) = true)
    (a_is_factor : PySem.W.nsIn K mainGlobals "is_factor" = some (some (.ref f_is_factor)))
    (l_is_factor : K.lookup f_is_factor = some ⟨oc_is_factor, od_is_factor, .func (PySem.W.fnOf "is_factor" "is_factor" (defArgs s_is_factor) (defBody s_is_factor) (defScope s_is_factor) .none kV_is_factor dc_is_factor pm_is_factor an_is_factor cd_is_factor ct_is_factor), sl_is_factor⟩)
    (c_is_factor : PySem.W.codeIn K cd_is_factor "is_factor" = true)
    (k_is_factor : PySem.W.keepIn K (.ref f_is_factor) = true)
    (a_is_add : PySem.W.nsIn K mainGlobals "is_add" = some (some (.ref f_is_add)))
    (l_is_add : K.lookup f_is_add = some ⟨oc_is_add, od_is_add, .func (PySem.W.fnOf "is_add" "is_add" (defArgs s_is_add) (defBody s_is_add) (defScope s_is_add) .none kV_is_add dc_is_add pm_is_add an_is_add cd_is_add ct_is_add), sl_is_add⟩)
    (c_is_add : PySem.W.codeIn K cd_is_add "is_add" = true)
    (k_is_add : PySem.W.keepIn K (.ref f_is_add) = true)
    (a_is_step : PySem.W.nsIn K mainGlobals "is_step" = some (some (.ref f_is_step)))
    (l_is_step : K.lookup f_is_step = some ⟨oc_is_step, od_is_step, .func (PySem.W.fnOf "is_step" "is_step" (defArgs s_is_step) (defBody s_is_step) (defScope s_is_step) .none kV_is_step dc_is_step pm_is_step an_is_step cd_is_step ct_is_step), sl_is_step⟩)
    (c_is_step : PySem.W.codeIn K cd_is_step "is_step" = true)
    (k_is_step : PySem.W.keepIn K (.ref f_is_step) = true)
    (a_performS : PySem.W.nsIn K mainGlobals "perform_steps" = some (some (.ref f_performS)))
    (l_performS : K.lookup f_performS = some ⟨oc_performS, od_performS, .func (PySem.W.fnOf "perform" "perform" (defArgs s_performS) (defBody s_performS) (defScope s_performS) .none kV_performS dc_performS pm_performS an_performS cd_performS ct_performS), sl_performS⟩)
    (c_performS : PySem.W.codeIn K cd_performS "perform" = true)
    (k_performS : PySem.W.keepIn K (.ref f_performS) = true)
    (a_check_steps : PySem.W.nsIn K mainGlobals "check_steps" = some (some (.ref f_check_steps)))
    (l_check_steps : K.lookup f_check_steps = some ⟨oc_check_steps, od_check_steps, .func (PySem.W.fnOf "check_steps" "check_steps" (defArgs s_check_steps) (defBody s_check_steps) (defScope s_check_steps) .none kV_check_steps dc_check_steps pm_check_steps an_check_steps cd_check_steps ct_check_steps), sl_check_steps⟩)
    (c_check_steps : PySem.W.codeIn K cd_check_steps "check_steps" = true)
    (k_check_steps : PySem.W.keepIn K (.ref f_check_steps) = true)
    (a_check_numbers : PySem.W.nsIn K mainGlobals "check_numbers" = some (some (.ref f_check_numbers)))
    (l_check_numbers : K.lookup f_check_numbers = some ⟨oc_check_numbers, od_check_numbers, .func (PySem.W.fnOf "check_numbers" "check_numbers" (defArgs s_check_numbers) (defBody s_check_numbers) (defScope s_check_numbers) .none kV_check_numbers dc_check_numbers pm_check_numbers an_check_numbers cd_check_numbers ct_check_numbers), sl_check_numbers⟩)
    (c_check_numbers : PySem.W.codeIn K cd_check_numbers "check_numbers" = true)
    (k_check_numbers : PySem.W.keepIn K (.ref f_check_numbers) = true)
    (a_mixed : PySem.W.nsIn K mainGlobals "_law_mixed" = some (some (.ref f_mixed)))
    (l_mixed : K.lookup f_mixed = some ⟨oc_mixed, od_mixed, .func (PySem.W.fnOf "_law_mixed" "_law_mixed" (defArgs s_mixed) (defBody s_mixed) (defScope s_mixed) .none kV_mixed dc_mixed pm_mixed an_mixed cd_mixed ct_mixed), sl_mixed⟩)
    (c_mixed : PySem.W.codeIn K cd_mixed "_law_mixed" = true)
    (k_mixed : PySem.W.keepIn K (.ref f_mixed) = true)
    (a_numbers : PySem.W.nsIn K mainGlobals "_law_numbers" = some (some (.ref f_numbers)))
    (l_numbers : K.lookup f_numbers = some ⟨oc_numbers, od_numbers, .func (PySem.W.fnOf "_law_numbers" "_law_numbers" (defArgs s_numbers) (defBody s_numbers) (defScope s_numbers) .none kV_numbers dc_numbers pm_numbers an_numbers cd_numbers ct_numbers), sl_numbers⟩)
    (c_numbers : PySem.W.codeIn K cd_numbers "_law_numbers" = true)
    (k_numbers : PySem.W.keepIn K (.ref f_numbers) = true)
    (a_draw : PySem.W.nsIn K mainGlobals "_law_draw" = some (some (.ref f_draw)))
    (l_draw : K.lookup f_draw = some ⟨oc_draw, od_draw, .func (PySem.W.fnOf "_law_draw" "_law_draw" (defArgs s_draw) (defBody s_draw) (defScope s_draw) .none kV_draw dc_draw pm_draw an_draw cd_draw ct_draw), sl_draw⟩)
    (c_draw : PySem.W.codeIn K cd_draw "_law_draw" = true)
    (k_draw : PySem.W.keepIn K (.ref f_draw) = true)
    (a_equal : PySem.W.nsIn K mainGlobals "_law_equal" = some (some (.ref f_equal)))
    (l_equal : K.lookup f_equal = some ⟨oc_equal, od_equal, .func (PySem.W.fnOf "_law_equal" "_law_equal" (defArgs s_equal) (defBody s_equal) (defScope s_equal) .none kV_equal dc_equal pm_equal an_equal cd_equal ct_equal), sl_equal⟩)
    (c_equal : PySem.W.codeIn K cd_equal "_law_equal" = true)
    (k_equal : PySem.W.keepIn K (.ref f_equal) = true)
    (a_all_equal : PySem.W.nsIn K mainGlobals "_law_all_equal" = some (some (.ref f_all_equal)))
    (l_all_equal : K.lookup f_all_equal = some ⟨oc_all_equal, od_all_equal, .func (PySem.W.fnOf "_law_all_equal" "_law_all_equal" (defArgs s_all_equal) (defBody s_all_equal) (defScope s_all_equal) .none kV_all_equal dc_all_equal pm_all_equal an_all_equal cd_all_equal ct_all_equal), sl_all_equal⟩)
    (c_all_equal : PySem.W.codeIn K cd_all_equal "_law_all_equal" = true)
    (k_all_equal : PySem.W.keepIn K (.ref f_all_equal) = true)
    (a_gcd : PySem.W.nsIn K mainGlobals "_law_gcd" = some (some (.ref f_gcd)))
    (l_gcd : K.lookup f_gcd = some ⟨oc_gcd, od_gcd, .func (PySem.W.fnOf "_law_gcd" "_law_gcd" (defArgs s_gcd) (defBody s_gcd) (defScope s_gcd) .none kV_gcd dc_gcd pm_gcd an_gcd cd_gcd ct_gcd), sl_gcd⟩)
    (c_gcd : PySem.W.codeIn K cd_gcd "_law_gcd" = true)
    (k_gcd : PySem.W.keepIn K (.ref f_gcd) = true)
    (a_factors : PySem.W.nsIn K mainGlobals "_law_factors" = some (some (.ref f_factors)))
    (l_factors : K.lookup f_factors = some ⟨oc_factors, od_factors, .func (PySem.W.fnOf "_law_factors" "_law_factors" (defArgs s_factors) (defBody s_factors) (defScope s_factors) .none kV_factors dc_factors pm_factors an_factors cd_factors ct_factors), sl_factors⟩)
    (c_factors : PySem.W.codeIn K cd_factors "_law_factors" = true)
    (k_factors : PySem.W.keepIn K (.ref f_factors) = true)
    (a_number : PySem.W.nsIn K mainGlobals "_law_number" = some (some (.ref f_number)))
    (l_number : K.lookup f_number = some ⟨oc_number, od_number, .func (PySem.W.fnOf "_law_number" "_law_number" (defArgs s_number) (defBody s_number) (defScope s_number) .none kV_number dc_number pm_number an_number cd_number ct_number), sl_number⟩)
    (c_number : PySem.W.codeIn K cd_number "_law_number" = true)
    (k_number : PySem.W.keepIn K (.ref f_number) = true)
    (a_stepD : PySem.W.nsIn K mainGlobals "_law_step" = some (some (.ref f_stepD)))
    (l_stepD : K.lookup f_stepD = some ⟨oc_stepD, od_stepD, .func (PySem.W.fnOf "_law_step" "_law_step" (defArgs s_stepD) (defBody s_stepD) (defScope s_stepD) .none kV_stepD dc_stepD pm_stepD an_stepD cd_stepD ct_stepD), sl_stepD⟩)
    (c_stepD : PySem.W.codeIn K cd_stepD "_law_step" = true)
    (k_stepD : PySem.W.keepIn K (.ref f_stepD) = true)
    (a_worth : PySem.W.nsIn K mainGlobals "_law_worth" = some (some (.ref f_worth)))
    (l_worth : K.lookup f_worth = some ⟨oc_worth, od_worth, .func (PySem.W.fnOf "_law_worth" "_law_worth" (defArgs s_worth) (defBody s_worth) (defScope s_worth) .none kV_worth dc_worth pm_worth an_worth cd_worth ct_worth), sl_worth⟩)
    (c_worth : PySem.W.codeIn K cd_worth "_law_worth" = true)
    (k_worth : PySem.W.keepIn K (.ref f_worth) = true)
    (a_lawrun : PySem.W.nsIn K mainGlobals "_law_run" = some (some (.ref f_lawrun)))
    (l_lawrun : K.lookup f_lawrun = some ⟨oc_lawrun, od_lawrun, .func (PySem.W.fnOf "_law_run" "_law_run" (defArgs s_lawrun) (defBody s_lawrun) (defScope s_lawrun) .none kV_lawrun dc_lawrun pm_lawrun an_lawrun cd_lawrun ct_lawrun), sl_lawrun⟩)
    (c_lawrun : PySem.W.codeIn K cd_lawrun "_law_run" = true)
    (k_lawrun : PySem.W.keepIn K (.ref f_lawrun) = true)
    (a_law : PySem.W.nsIn K mainGlobals "law" = some (some (.ref f_law)))
    (l_law : K.lookup f_law = some ⟨oc_law, od_law, .func (PySem.W.fnOf "law" "law" (defArgs s_law) (defBody s_law) (defScope s_law) .none kV_law dc_law pm_law an_law cd_law ct_law), sl_law⟩)
    (c_law : PySem.W.codeIn K cd_law "law" = true)
    (k_law : PySem.W.keepIn K (.ref f_law) = true)
    (a_init : PySem.W.findIn K (.ref C) "__init__" = some (some (.ref f_init)))
    (i_init : PySem.W.isFn K (.ref f_init) = true)
    (l_init : K.lookup f_init = some ⟨oc_init, od_init, .func (PySem.W.fnOf "__init__" "Program.__init__" (defArgs s_init) (defBody s_init) (defScope s_init) .none kV_init dc_init pm_init an_init cd_init ct_init), sl_init⟩)
    (c_init : PySem.W.codeIn K cd_init "Program.__init__" = true)
    (k_init : PySem.W.keepIn K (.ref f_init) = true)
    (a_run : PySem.W.findIn K (.ref C) "run" = some (some (.ref f_run)))
    (i_run : PySem.W.isFn K (.ref f_run) = true)
    (l_run : K.lookup f_run = some ⟨oc_run, od_run, .func (PySem.W.fnOf "run" "Program.run" (defArgs s_run) (defBody s_run) (defScope s_run) .none kV_run dc_run pm_run an_run cd_run ct_run), sl_run⟩)
    (c_run : PySem.W.codeIn K cd_run "Program.run" = true)
    (k_run : PySem.W.keepIn K (.ref f_run) = true)
    (pg : PySem.W.plainGet K C Str.empty = true)
    (hd : PySem.W.hasDictIn K C = true)
    (po : PySem.W.plainOver K C = true)
    (sa : PySem.W.findIn K (.ref C) "__setattr__" = some (some (.builtin "object.__setattr__")))
    (mk : PySem.W.makesIn K C = true)
    (kc : PySem.W.keepIn K (.ref C) = true)
    (n_modulus : PySem.W.findIn K (.ref C) "modulus" = some none)
    (n_cells : PySem.W.findIn K (.ref C) "cells" = some none)
    (n_inputs : PySem.W.findIn K (.ref C) "inputs" = some none)
    (n_steps : PySem.W.findIn K (.ref C) "steps" = some none)
    (z_isinstance : PySem.W.nsIn K mainGlobals "isinstance" = some none)
    (z_int : PySem.W.nsIn K mainGlobals "int" = some none)
    (z_bool : PySem.W.nsIn K mainGlobals "bool" = some none)
    (z_list : PySem.W.nsIn K mainGlobals "list" = some none)
    (z_tuple : PySem.W.nsIn K mainGlobals "tuple" = some none)
    (z_str : PySem.W.nsIn K mainGlobals "str" = some none)
    (z_len : PySem.W.nsIn K mainGlobals "len" = some none)
    (z_range : PySem.W.nsIn K mainGlobals "range" = some none)
    (z_sorted : PySem.W.nsIn K mainGlobals "sorted" = some none)
    (z_max : PySem.W.nsIn K mainGlobals "max" = some none)
    (z_all : PySem.W.nsIn K mainGlobals "all" = some none)
    (v_BITS : PySem.W.nsIn K mainGlobals "BITS" = some (some (.int 120 t_BITS)))
    (v_MOST : PySem.W.nsIn K mainGlobals "MOST" = some (some (.int 60000 t_MOST)))
    (v_FACTORS : PySem.W.nsIn K mainGlobals "FACTORS" = some (some (.int 3 t_FACTORS)))
    (v_MODULUS : PySem.W.nsIn K mainGlobals "MODULUS" = some (some (.int 1000000000 t_MODULUS)))
    (v_CELLS : PySem.W.nsIn K mainGlobals "CELLS" = some (some (.int 60 t_CELLS)))
    (v_INPUTS : PySem.W.nsIn K mainGlobals "INPUTS" = some (some (.int 60 t_INPUTS)))
    (v_STEPS : PySem.W.nsIn K mainGlobals "STEPS" = some (some (.int 20000 t_STEPS))) :
    ∃ fd : FuncData, (∀ (s : Shared) (v : Value), BindsTo s fd ⟨[v], []⟩ [("_law_script", v)]) ∧ ∀ base : Heap, K.In base → base.Ns mainGlobals mg → FnOk l.prog w K mg base CX0 9 fa fd ["_law_script"] (spLaw K) := by
  have e := hfa.symm.trans (PySem.W.mg_of X G a_law)
  cases e
  have T : Txt mg := ⟨PySem.W.mg_none_of X G z_isinstance, PySem.W.mg_none_of X G z_int, PySem.W.mg_none_of X G z_bool, PySem.W.mg_none_of X G z_list, PySem.W.mg_none_of X G z_tuple, PySem.W.mg_none_of X G z_str, PySem.W.mg_none_of X G z_len, PySem.W.mg_none_of X G z_range, PySem.W.mg_none_of X G z_sorted, PySem.W.mg_none_of X G z_max, PySem.W.mg_none_of X G z_all, ⟨_, PySem.W.mg_of X G v_BITS⟩, ⟨_, PySem.W.mg_of X G v_MOST⟩, ⟨_, PySem.W.mg_of X G v_FACTORS⟩, ⟨_, PySem.W.mg_of X G v_MODULUS⟩, ⟨_, PySem.W.mg_of X G v_CELLS⟩, ⟨_, PySem.W.mg_of X G v_INPUTS⟩, ⟨_, PySem.W.mg_of X G v_STEPS⟩⟩
  have TC : PrT K C := ⟨⟨pg, hd, po, sa⟩, n_modulus, n_cells, n_inputs, n_steps⟩
  have F_is_integer := fun_mk (st := s_is_integer) l_is_integer c_is_integer k_is_integer
  have b_is_integer := F_is_integer.binds (ps := ["value"]) fun _ _ _ _ _ _ us hl => match us, hl with | [_], _ => rfl
  have F_is_number := fun_mk (st := s_is_number) l_is_number c_is_number k_is_number
  have b_is_number := F_is_number.binds (ps := ["value", "modulus"]) fun _ _ _ _ _ _ us hl => match us, hl with | [_, _], _ => rfl
  have F_inverse_of := fun_mk (st := s_inverse_of) l_inverse_of c_inverse_of k_inverse_of
  have b_inverse_of := F_inverse_of.binds (ps := ["n", "modulus"]) fun _ _ _ _ _ _ us hl => match us, hl with | [_, _], _ => rfl
  have F_check_gate := fun_mk (st := s_check_gate) l_check_gate c_check_gate k_check_gate
  have b_check_gate := F_check_gate.binds (ps := ["gate", "bits"]) fun _ _ _ _ _ _ us hl => match us, hl with | [_, _], _ => rfl
  have F_check_bits := fun_mk (st := s_check_bits) l_check_bits c_check_bits k_check_bits
  have b_check_bits := F_check_bits.binds (ps := ["bits"]) fun _ _ _ _ _ _ us hl => match us, hl with | [_], _ => rfl
  have F_performG := fun_mk (st := s_performG) l_performG c_performG k_performG
  have b_performG := F_performG.binds (ps := ["gates", "bits"]) fun _ _ _ _ _ _ us hl => match us, hl with | [_, _], _ => rfl
  have F_gates_of_step := fun_mk (st := s_gates_of_step) l_gates_of_step c_gates_of_step k_gates_of_step
  have b_gates_of_step := F_gates_of_step.binds (ps := ["step", "inputs"]) fun _ _ _ _ _ _ us hl => match us, hl with | [_, _], _ => rfl
  have F_gates_of := fun_mk (st := s_gates_of) l_gates_of c_gates_of k_gates_of
  have b_gates_of := F_gates_of.binds (ps := ["program"]) fun _ _ _ _ _ _ us hl => match us, hl with | [_], _ => rfl
  have F_is_factor := fun_mk (st := s_is_factor) l_is_factor c_is_factor k_is_factor
  have b_is_factor := F_is_factor.binds (ps := ["factor", "target", "cells", "inputs"]) fun _ _ _ _ _ _ us hl => match us, hl with | [_, _, _, _], _ => rfl
  have F_is_add := fun_mk (st := s_is_add) l_is_add c_is_add k_is_add
  have b_is_add := F_is_add.binds (ps := ["step", "modulus", "cells", "inputs"]) fun _ _ _ _ _ _ us hl => match us, hl with | [_, _, _, _], _ => rfl
  have F_is_step := fun_mk (st := s_is_step) l_is_step c_is_step k_is_step
  have b_is_step := F_is_step.binds (ps := ["step", "modulus", "cells", "inputs"]) fun _ _ _ _ _ _ us hl => match us, hl with | [_, _, _, _], _ => rfl
  have F_performS := fun_mk (st := s_performS) l_performS c_performS k_performS
  have b_performS := F_performS.binds (ps := ["step", "memory", "given", "modulus"]) fun _ _ _ _ _ _ us hl => match us, hl with | [_, _, _, _], _ => rfl
  have F_check_steps := fun_mk (st := s_check_steps) l_check_steps c_check_steps k_check_steps
  have b_check_steps := F_check_steps.binds (ps := ["steps", "modulus", "cells", "inputs", "most"]) fun _ _ _ _ _ _ us hl => match us, hl with | [_, _, _, _, _], _ => rfl
  have F_check_numbers := fun_mk (st := s_check_numbers) l_check_numbers c_check_numbers k_check_numbers
  have b_check_numbers := F_check_numbers.binds (ps := ["values", "many", "modulus"]) fun _ _ _ _ _ _ us hl => match us, hl with | [_, _, _], _ => rfl
  have F_mixed := fun_mk (st := s_mixed) l_mixed c_mixed k_mixed
  have b_mixed := F_mixed.binds (ps := ["_law_number_here", "_law_k"]) fun _ _ _ _ _ _ us hl => match us, hl with | [_, _], _ => rfl
  have F_numbers := fun_mk (st := s_numbers) l_numbers c_numbers k_numbers
  have b_numbers := F_numbers.binds (ps := ["_law_script"]) fun _ _ _ _ _ _ us hl => match us, hl with | [_], _ => rfl
  have F_draw := fun_mk (st := s_draw) l_draw c_draw k_draw
  have b_draw := F_draw.binds (ps := ["_law_draws"]) fun _ _ _ _ _ _ us hl => match us, hl with | [_], _ => rfl
  have F_equal := fun_mk (st := s_equal) l_equal c_equal k_equal
  have b_equal := F_equal.binds (ps := ["_law_actual", "_law_due"]) fun _ _ _ _ _ _ us hl => match us, hl with | [_, _], _ => rfl
  have F_all_equal := fun_mk (st := s_all_equal) l_all_equal c_all_equal k_all_equal
  have b_all_equal := F_all_equal.binds (ps := ["_law_actual", "_law_due"]) fun _ _ _ _ _ _ us hl => match us, hl with | [_, _], _ => rfl
  have F_gcd := fun_mk (st := s_gcd) l_gcd c_gcd k_gcd
  have b_gcd := F_gcd.binds (ps := ["_law_a", "_law_b"]) fun _ _ _ _ _ _ us hl => match us, hl with | [_, _], _ => rfl
  have F_factors := fun_mk (st := s_factors) l_factors c_factors k_factors
  have b_factors := F_factors.binds (ps := ["_law_draws", "_law_cells", "_law_inputs", "_law_target"]) fun _ _ _ _ _ _ us hl => match us, hl with | [_, _, _, _], _ => rfl
  have F_number := fun_mk (st := s_number) l_number c_number k_number
  have b_number := F_number.binds (ps := ["_law_draws", "_law_modulus"]) fun _ _ _ _ _ _ us hl => match us, hl with | [_, _], _ => rfl
  have F_stepD := fun_mk (st := s_stepD) l_stepD c_stepD k_stepD
  have b_stepD := F_stepD.binds (ps := ["_law_draws", "_law_modulus", "_law_cells", "_law_inputs"]) fun _ _ _ _ _ _ us hl => match us, hl with | [_, _, _, _], _ => rfl
  have F_worth := fun_mk (st := s_worth) l_worth c_worth k_worth
  have b_worth := F_worth.binds (ps := ["_law_factors_here", "_law_memory", "_law_given", "_law_modulus"]) fun _ _ _ _ _ _ us hl => match us, hl with | [_, _, _, _], _ => rfl
  have F_lawrun := fun_mk (st := s_lawrun) l_lawrun c_lawrun k_lawrun
  have b_lawrun := F_lawrun.binds (ps := ["_law_steps", "_law_modulus", "_law_memory", "_law_given"]) fun _ _ _ _ _ _ us hl => match us, hl with | [_, _, _, _], _ => rfl
  have F_law := fun_mk (st := s_law) l_law c_law k_law
  have F_init := fun_mk (st := s_init) l_init c_init k_init
  have b_init := F_init.binds (ps := ["self", "modulus", "cells", "inputs", "steps"]) fun _ _ _ _ _ _ us hl => match us, hl with | [_, _, _, _, _], _ => rfl
  have F_run := fun_mk (st := s_run) l_run c_run k_run
  have b_run := F_run.binds (ps := ["self", "memory", "given"]) fun _ _ _ _ _ _ us hl => match us, hl with | [_, _, _], _ => rfl
  refine ⟨PySem.W.fnOf "law" "law" (defArgs s_law) (defBody s_law) (defScope s_law) .none kV_law dc_law pm_law an_law cd_law ct_law, fun s v => .of_eq rfl, fun base _ _ => ?_⟩
  have G_is_integer : Good l.prog w K mg base "is_integer" 1 ["value"] spIsInt := ⟨f_is_integer, _, PySem.W.mg_of X G a_is_integer, k_is_integer, b_is_integer, ok_is_integer F_is_integer T⟩
  have G_is_number : Good l.prog w K mg base "is_number" 2 ["value", "modulus"] spIsNum := ⟨f_is_number, _, PySem.W.mg_of X G a_is_number, k_is_number, b_is_number, ok_is_number F_is_number T G_is_integer⟩
  have G_inverse_of : Good l.prog w K mg base "inverse_of" 1 ["n", "modulus"] spInv := ⟨f_inverse_of, _, PySem.W.mg_of X G a_inverse_of, k_inverse_of, b_inverse_of, ok_inverse_of F_inverse_of⟩
  have G_check_gate : Good l.prog w K mg base "check_gate" 3 ["gate", "bits"] spCheckGate := ⟨f_check_gate, _, PySem.W.mg_of X G a_check_gate, k_check_gate, b_check_gate, ok_check_gate F_check_gate T G_is_number⟩
  have G_check_bits : Good l.prog w K mg base "check_bits" 1 ["bits"] spCheckBits := ⟨f_check_bits, _, PySem.W.mg_of X G a_check_bits, k_check_bits, b_check_bits, ok_check_bits F_check_bits T⟩
  have G_performG : Good l.prog w K mg base "perform_gates" 4 ["gates", "bits"] spPerformG := ⟨f_performG, _, PySem.W.mg_of X G a_performG, k_performG, b_performG, ok_performG F_performG T G_check_gate G_check_bits⟩
  have G_gates_of_step : Good l.prog w K mg base "gates_of_step" 1 ["step", "inputs"] spGatesStep := ⟨f_gates_of_step, _, PySem.W.mg_of X G a_gates_of_step, k_gates_of_step, b_gates_of_step, ok_gates_of_step F_gates_of_step T⟩
  have G_gates_of : Good l.prog w K mg base "gates_of" 2 ["program"] (spGatesOf C) := ⟨f_gates_of, _, PySem.W.mg_of X G a_gates_of, k_gates_of, b_gates_of, ok_gates_of F_gates_of T TC G_gates_of_step⟩
  have G_is_factor : Good l.prog w K mg base "is_factor" 3 ["factor", "target", "cells", "inputs"] spIsFactor := ⟨f_is_factor, _, PySem.W.mg_of X G a_is_factor, k_is_factor, b_is_factor, ok_is_factor F_is_factor T G_is_number⟩
  have G_is_add : Good l.prog w K mg base "is_add" 4 ["step", "modulus", "cells", "inputs"] spIsAdd := ⟨f_is_add, _, PySem.W.mg_of X G a_is_add, k_is_add, b_is_add, ok_is_add F_is_add T G_is_number G_is_factor⟩
  have G_is_step : Good l.prog w K mg base "is_step" 5 ["step", "modulus", "cells", "inputs"] spIsStep := ⟨f_is_step, _, PySem.W.mg_of X G a_is_step, k_is_step, b_is_step, ok_is_step F_is_step T G_is_number G_inverse_of G_is_add⟩
  have G_performS : Good l.prog w K mg base "perform_steps" 1 ["step", "memory", "given", "modulus"] spPerformS := ⟨f_performS, _, PySem.W.mg_of X G a_performS, k_performS, b_performS, ok_performS F_performS T⟩
  have G_check_steps : Good l.prog w K mg base "check_steps" 6 ["steps", "modulus", "cells", "inputs", "most"] spCheckSteps := ⟨f_check_steps, _, PySem.W.mg_of X G a_check_steps, k_check_steps, b_check_steps, ok_check_steps F_check_steps T G_is_step⟩
  have G_check_numbers : Good l.prog w K mg base "check_numbers" 3 ["values", "many", "modulus"] spCheckNums := ⟨f_check_numbers, _, PySem.W.mg_of X G a_check_numbers, k_check_numbers, b_check_numbers, ok_check_numbers F_check_numbers T G_is_number⟩
  have G_mixed : Good l.prog w K mg base "_law_mixed" 1 ["_law_number_here", "_law_k"] spMixed := ⟨f_mixed, _, PySem.W.mg_of X G a_mixed, k_mixed, b_mixed, ok_mixed F_mixed⟩
  have G_numbers : Good l.prog w K mg base "_law_numbers" 2 ["_law_script"] (spNumbers K) := ⟨f_numbers, _, PySem.W.mg_of X G a_numbers, k_numbers, b_numbers, ok_numbers F_numbers T G_mixed⟩
  have G_draw : Good l.prog w K mg base "_law_draw" 2 ["_law_draws"] spDraw := ⟨f_draw, _, PySem.W.mg_of X G a_draw, k_draw, b_draw, ok_draw F_draw T G_mixed⟩
  have G_equalF : Good l.prog w K mg base "_law_equal" 1 ["_law_actual", "_law_due"] spEqF := ⟨f_equal, _, PySem.W.mg_of X G a_equal, k_equal, b_equal, ok_equal_flat F_equal T⟩
  have G_all_equal : Good l.prog w K mg base "_law_all_equal" 2 ["_law_actual", "_law_due"] spEqL := ⟨f_all_equal, _, PySem.W.mg_of X G a_all_equal, k_all_equal, b_all_equal, ok_all_equal F_all_equal T G_equalF⟩
  have G_equal : Good l.prog w K mg base "_law_equal" 3 ["_law_actual", "_law_due"] spEqL := ⟨f_equal, _, PySem.W.mg_of X G a_equal, k_equal, b_equal, ok_equal_list F_equal T G_all_equal⟩
  have G_gcd : Good l.prog w K mg base "_law_gcd" 1 ["_law_a", "_law_b"] spGcd := ⟨f_gcd, _, PySem.W.mg_of X G a_gcd, k_gcd, b_gcd, ok_gcd F_gcd T⟩
  have G_factors : Good l.prog w K mg base "_law_factors" 3 ["_law_draws", "_law_cells", "_law_inputs", "_law_target"] spFactors := ⟨f_factors, _, PySem.W.mg_of X G a_factors, k_factors, b_factors, ok_factors F_factors T G_draw⟩
  have G_number : Good l.prog w K mg base "_law_number" 3 ["_law_draws", "_law_modulus"] spNumber := ⟨f_number, _, PySem.W.mg_of X G a_number, k_number, b_number, ok_number F_number G_draw⟩
  have G_stepD : Good l.prog w K mg base "_law_step" 4 ["_law_draws", "_law_modulus", "_law_cells", "_law_inputs"] spStepD := ⟨f_stepD, _, PySem.W.mg_of X G a_stepD, k_stepD, b_stepD, ok_stepD F_stepD G_draw G_number G_gcd G_factors⟩
  have G_worth : Good l.prog w K mg base "_law_worth" 1 ["_law_factors_here", "_law_memory", "_law_given", "_law_modulus"] spWorth := ⟨f_worth, _, PySem.W.mg_of X G a_worth, k_worth, b_worth, ok_worth F_worth⟩
  have G_lawrun : Good l.prog w K mg base "_law_run" 2 ["_law_steps", "_law_modulus", "_law_memory", "_law_given"] spLawRun := ⟨f_lawrun, _, PySem.W.mg_of X G a_lawrun, k_lawrun, b_lawrun, ok_lawrun F_lawrun T G_worth⟩
  have MK : GoodMk l.prog w K mg base "Program" C 7 ["self", "modulus", "cells", "inputs", "steps"] (spInit C) := ⟨f_init, _, ⟨mk, a_init, i_init, kc⟩, PySem.W.mg_of X G aC, b_init, ok_init F_init T TC G_is_integer G_check_steps⟩
  have MR : GoodM l.prog w K mg base C "run" 4 ["self", "memory", "given"] (spRun C) := ⟨TC.cl, f_run, _, ⟨a_run, i_run, k_run⟩, b_run, ok_run F_run T TC G_check_numbers G_performS⟩
  exact ok_law F_law T G_numbers G_draw G_stepD MK G_gates_of G_lawrun G_equal MR G_performG
end Bf
open PySem PySem.W PyProof.Rows
set_option maxRecDepth 100000 in
set_option maxHeartbeats 0 in
theorem PySem.Challenge.cw_brimful_k35_whole_gates_do_what_programs_holds : PySem.Challenge.rw_brimful_k35_whole_gates_do_what_programs.Holds := by
  w_on; o_law; k_head; (case hw => w_witness2)
  k_fill
  refine L2.walk_of (l := PySem.Challenge.rw_brimful_k35_whole_gates_do_what_programs) (n := 63) (k := 9) (x := "_law_script") (CX := fun _ => L2.CX0) (sp := fun w => Bf.spLaw _) rfl (by decide) rfl ⟨rfl, by decide, by decide⟩ (fun w h Y => PySem.W.kIn_of Y) ?F (fun _ _ a ns hl _ hS => ⟨a, ns, rfl, hS, hl, fun _ => rfl⟩) (fun _ _ _ _ _ h => h)
  case F =>
    intro w mg fa h KX G hmg
    refine' Bf.all_mk KX G hmg ?aC ?a_is_integer ?l_is_integer ?c_is_integer ?k_is_integer ?a_is_number ?l_is_number ?c_is_number ?k_is_number ?a_inverse_of ?l_inverse_of ?c_inverse_of ?k_inverse_of ?a_check_gate ?l_check_gate ?c_check_gate ?k_check_gate ?a_check_bits ?l_check_bits ?c_check_bits ?k_check_bits ?a_performG ?l_performG ?c_performG ?k_performG ?a_gates_of_step ?l_gates_of_step ?c_gates_of_step ?k_gates_of_step ?a_gates_of ?l_gates_of ?c_gates_of ?k_gates_of ?a_is_factor ?l_is_factor ?c_is_factor ?k_is_factor ?a_is_add ?l_is_add ?c_is_add ?k_is_add ?a_is_step ?l_is_step ?c_is_step ?k_is_step ?a_performS ?l_performS ?c_performS ?k_performS ?a_check_steps ?l_check_steps ?c_check_steps ?k_check_steps ?a_check_numbers ?l_check_numbers ?c_check_numbers ?k_check_numbers ?a_mixed ?l_mixed ?c_mixed ?k_mixed ?a_numbers ?l_numbers ?c_numbers ?k_numbers ?a_draw ?l_draw ?c_draw ?k_draw ?a_equal ?l_equal ?c_equal ?k_equal ?a_all_equal ?l_all_equal ?c_all_equal ?k_all_equal ?a_gcd ?l_gcd ?c_gcd ?k_gcd ?a_factors ?l_factors ?c_factors ?k_factors ?a_number ?l_number ?c_number ?k_number ?a_stepD ?l_stepD ?c_stepD ?k_stepD ?a_worth ?l_worth ?c_worth ?k_worth ?a_lawrun ?l_lawrun ?c_lawrun ?k_lawrun ?a_law ?l_law ?c_law ?k_law ?a_init ?i_init ?l_init ?c_init ?k_init ?a_run ?i_run ?l_run ?c_run ?k_run ?pg ?hd ?po ?sa ?mk ?kc ?n_modulus ?n_cells ?n_inputs ?n_steps ?z_isinstance ?z_int ?z_bool ?z_list ?z_tuple ?z_str ?z_len ?z_range ?z_sorted ?z_max ?z_all ?v_BITS ?v_MOST ?v_FACTORS ?v_MODULUS ?v_CELLS ?v_INPUTS ?v_STEPS
    (case aC => k_is)
    (case a_is_integer => k_is)
    (case l_is_integer => k_is)
    (case c_is_integer => k_is)
    (case k_is_integer => k_is)
    (case a_is_number => k_is)
    (case l_is_number => k_is)
    (case c_is_number => k_is)
    (case k_is_number => k_is)
    (case a_inverse_of => k_is)
    (case l_inverse_of => k_is)
    (case c_inverse_of => k_is)
    (case k_inverse_of => k_is)
    (case a_check_gate => k_is)
    (case l_check_gate => k_is)
    (case c_check_gate => k_is)
    (case k_check_gate => k_is)
    (case a_check_bits => k_is)
    (case l_check_bits => k_is)
    (case c_check_bits => k_is)
    (case k_check_bits => k_is)
    (case a_performG => k_is)
    (case l_performG => k_is)
    (case c_performG => k_is)
    (case k_performG => k_is)
    (case a_gates_of_step => k_is)
    (case l_gates_of_step => k_is)
    (case c_gates_of_step => k_is)
    (case k_gates_of_step => k_is)
    (case a_gates_of => k_is)
    (case l_gates_of => k_is)
    (case c_gates_of => k_is)
    (case k_gates_of => k_is)
    (case a_is_factor => k_is)
    (case l_is_factor => k_is)
    (case c_is_factor => k_is)
    (case k_is_factor => k_is)
    (case a_is_add => k_is)
    (case l_is_add => k_is)
    (case c_is_add => k_is)
    (case k_is_add => k_is)
    (case a_is_step => k_is)
    (case l_is_step => k_is)
    (case c_is_step => k_is)
    (case k_is_step => k_is)
    (case a_performS => k_is)
    (case l_performS => k_is)
    (case c_performS => k_is)
    (case k_performS => k_is)
    (case a_check_steps => k_is)
    (case l_check_steps => k_is)
    (case c_check_steps => k_is)
    (case k_check_steps => k_is)
    (case a_check_numbers => k_is)
    (case l_check_numbers => k_is)
    (case c_check_numbers => k_is)
    (case k_check_numbers => k_is)
    (case a_mixed => k_is)
    (case l_mixed => k_is)
    (case c_mixed => k_is)
    (case k_mixed => k_is)
    (case a_numbers => k_is)
    (case l_numbers => k_is)
    (case c_numbers => k_is)
    (case k_numbers => k_is)
    (case a_draw => k_is)
    (case l_draw => k_is)
    (case c_draw => k_is)
    (case k_draw => k_is)
    (case a_equal => k_is)
    (case l_equal => k_is)
    (case c_equal => k_is)
    (case k_equal => k_is)
    (case a_all_equal => k_is)
    (case l_all_equal => k_is)
    (case c_all_equal => k_is)
    (case k_all_equal => k_is)
    (case a_gcd => k_is)
    (case l_gcd => k_is)
    (case c_gcd => k_is)
    (case k_gcd => k_is)
    (case a_factors => k_is)
    (case l_factors => k_is)
    (case c_factors => k_is)
    (case k_factors => k_is)
    (case a_number => k_is)
    (case l_number => k_is)
    (case c_number => k_is)
    (case k_number => k_is)
    (case a_stepD => k_is)
    (case l_stepD => k_is)
    (case c_stepD => k_is)
    (case k_stepD => k_is)
    (case a_worth => k_is)
    (case l_worth => k_is)
    (case c_worth => k_is)
    (case k_worth => k_is)
    (case a_lawrun => k_is)
    (case l_lawrun => k_is)
    (case c_lawrun => k_is)
    (case k_lawrun => k_is)
    (case a_law => k_is)
    (case l_law => k_is)
    (case c_law => k_is)
    (case k_law => k_is)
    (case a_init => k_is)
    (case i_init => k_is)
    (case l_init => k_is)
    (case c_init => k_is)
    (case k_init => k_is)
    (case a_run => k_is)
    (case i_run => k_is)
    (case l_run => k_is)
    (case c_run => k_is)
    (case k_run => k_is)
    (case pg => k_is)
    (case hd => k_is)
    (case po => k_is)
    (case sa => k_is)
    (case mk => k_is)
    (case kc => k_is)
    (case n_modulus => k_is)
    (case n_cells => k_is)
    (case n_inputs => k_is)
    (case n_steps => k_is)
    (case z_isinstance => k_is)
    (case z_int => k_is)
    (case z_bool => k_is)
    (case z_list => k_is)
    (case z_tuple => k_is)
    (case z_str => k_is)
    (case z_len => k_is)
    (case z_range => k_is)
    (case z_sorted => k_is)
    (case z_max => k_is)
    (case z_all => k_is)
    (case v_BITS => k_is)
    (case v_MOST => k_is)
    (case v_FACTORS => k_is)
    (case v_MODULUS => k_is)
    (case v_CELLS => k_is)
    (case v_INPUTS => k_is)
    (case v_STEPS => k_is)

