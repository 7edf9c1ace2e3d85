import PyProof.Rows.All
import Wide.All
import OpenK.AllK
import Wide.FinOn
import HandS.ForMost
import HandS.TupSets
import KE.KeyNested
import KE.SortData
import HandS.TupAny
import HandS.Deep
import HandS.Zip
import HandS.Conv
import HandS.IsInst
import HandS.Wide
import KE.DataMinMax
import PySem.Challenge.RW_rootwebs_k20_whole_all_roots
set_option Elab.async false
set_option linter.all false
section
set_option autoImplicit false
/-! Plain part 1: webs, masks, the search for roots. No program here. -/
namespace Rw

abbrev Tie := Nat × Nat
abbrev Web := Nat × List Tie

def adj (l : List Tie) (a b : Nat) : Bool := l.contains (a, b) || l.contains (b, a)
theorem adj_iff {l : List Tie} {a b : Nat} : adj l a b = true ↔ (a, b) ∈ l ∨ (b, a) ∈ l := by
  unfold adj; simp
theorem adj_comm (l : List Tie) (a b : Nat) : adj l a b = adj l b a := by
  unfold adj; rw [Bool.or_comm]
theorem adj_append (l m : List Tie) (a b : Nat) : adj (l ++ m) a b = (adj l a b || adj m a b) := by
  rw [Bool.eq_iff_iff, Bool.or_eq_true, adj_iff, adj_iff, adj_iff, List.mem_append, List.mem_append]
  grind
theorem adj_mono {l m : List Tie} (h : ∀ e ∈ l, e ∈ m) {a b : Nat} (x : adj l a b = true) : adj m a b = true := by
  rw [adj_iff] at *
  exact x.imp (h _) (h _)

def pairs (n : Nat) : List Tie := (List.range n).flatMap fun a => (List.range' (a + 1) (n - (a + 1))).map fun b => (a, b)
theorem mem_pairs {n : Nat} {e : Tie} : e ∈ pairs n ↔ e.1 < e.2 ∧ e.2 < n := by
  unfold pairs
  simp only [List.mem_flatMap, List.mem_range, List.mem_map, List.mem_range'_1]
  constructor
  · rintro ⟨a, ha, b, hb, rfl⟩
    simp only
    omega
  · intro h
    exact ⟨e.1, by omega, e.2, by omega, rfl⟩

def tlt (e f : Tie) : Prop := e.1 < f.1 ∨ (e.1 = f.1 ∧ e.2 < f.2)
instance : DecidableRel tlt := fun e f => by unfold tlt; infer_instance
theorem tlt_asymm {e f : Tie} (h : tlt e f) (g : tlt f e) : False := by
  unfold tlt at *; omega
theorem tlt_trans {e f g : Tie} (h : tlt e f) (k : tlt f g) : tlt e g := by
  unfold tlt at *; omega
theorem tlt_total {e f : Tie} (h : e ≠ f) : tlt e f ∨ tlt f e := by
  unfold tlt
  rcases Nat.lt_trichotomy e.1 f.1 with x | x | x
  · exact .inl (.inl x)
  · rcases Nat.lt_trichotomy e.2 f.2 with y | y | y
    · exact .inl (.inr ⟨x, y⟩)
    · exact absurd (Prod.ext x y) h
    · exact .inr (.inr ⟨x.symm, y⟩)
  · exact .inr (.inl x)
theorem tlt_nodup {l : List Tie} (h : l.Pairwise tlt) : l.Nodup :=
  h.imp fun {a b} x e => by subst e; exact tlt_asymm x x
theorem pairs_sorted (n : Nat) : (pairs n).Pairwise tlt := by
  unfold pairs
  rw [List.pairwise_flatMap]
  refine ⟨fun a _ => ?_, ?_⟩
  · rw [List.pairwise_map]
    refine List.Pairwise.imp ?_ (List.pairwise_lt_range' (s := a + 1) (n := n - (a + 1)))
    intro x y h
    exact .inr ⟨rfl, h⟩
  · refine List.Pairwise.imp ?_ (List.pairwise_lt_range (n := n))
    intro x y h p hp q hq
    obtain ⟨_, _, rfl⟩ := List.mem_map.mp hp
    obtain ⟨_, _, rfl⟩ := List.mem_map.mp hq
    exact .inl h
/-- two rising lists of the same ties are one -/
theorem sorted_ext {l m : List Tie} (hl : l.Pairwise tlt) (hm : m.Pairwise tlt) (h : ∀ e, e ∈ l ↔ e ∈ m) : l = m := by
  have p : l.Perm m := (List.perm_ext_iff_of_nodup (tlt_nodup hl) (tlt_nodup hm)).mpr h
  exact p.eq_of_pairwise (le := tlt) (fun a b _ _ h1 h2 => (tlt_asymm h1 h2).elim) hl hm

def near (l : List Tie) (n a b : Nat) : Bool := adj l a b || (List.range n).any fun c => adj l a c && adj l c b
theorem near_iff {l : List Tie} {n a b : Nat} : near l n a b = true ↔ adj l a b = true ∨ ∃ c, c < n ∧ adj l a c = true ∧ adj l c b = true := by
  unfold near; simp
def sq (W : Web) : Web := (W.1, (pairs W.1).filter fun e => near W.2 W.1 e.1 e.2)

structure Good (W : Web) : Prop where
  lo : 1 ≤ W.1
  hi : W.1 ≤ 6
  inn : ∀ e ∈ W.2, e.1 < e.2 ∧ e.2 < W.1
  srt : W.2.Pairwise tlt

theorem Good.nd {W : Web} (g : Good W) : W.2.Nodup := tlt_nodup g.srt
theorem Good.lt {W : Web} (g : Good W) {a b : Nat} (h : adj W.2 a b = true) : a < W.1 ∧ b < W.1 ∧ a ≠ b := by
  rw [adj_iff] at h
  rcases h with h | h
  · have := g.inn _ h; simp only at this; omega
  · have := g.inn _ h; simp only at this; omega
theorem Good.mem {W : Web} (g : Good W) {a b : Nat} (hab : a < b) : adj W.2 a b = true ↔ (a, b) ∈ W.2 := by
  rw [adj_iff]
  refine ⟨fun h => h.elim id fun h => ?_, .inl⟩
  have := g.inn _ h; simp only at this; omega
theorem sq_good {W : Web} (g : Good W) : Good (sq W) where
  lo := g.lo
  hi := g.hi
  inn := fun e he => mem_pairs.mp (List.mem_filter.mp he).1
  srt := (pairs_sorted _).filter _
theorem mem_sq {W : Web} {e : Tie} : e ∈ (sq W).2 ↔ e.1 < e.2 ∧ e.2 < W.1 ∧ near W.2 W.1 e.1 e.2 = true := by
  unfold sq
  simp only [List.mem_filter, mem_pairs]
  grind
theorem pairs_len (n : Nat) (h : n ≤ 6) : (pairs n).length ≤ 15 := by
  have : n = 0 ∨ n = 1 ∨ n = 2 ∨ n = 3 ∨ n = 4 ∨ n = 5 ∨ n = 6 := by omega
  rcases this with rfl | rfl | rfl | rfl | rfl | rfl | rfl <;> decide
/-- a web by its ties -/
theorem Good.canon {W : Web} (g : Good W) : W.2 = (pairs W.1).filter fun e => W.2.contains e :=
  sorted_ext g.srt ((pairs_sorted _).filter _) fun e => by
    simp only [List.mem_filter, mem_pairs, List.contains_iff_mem]
    exact ⟨fun h => ⟨g.inn e h, h⟩, fun h => h.2⟩
theorem Good.len {W : Web} (g : Good W) : W.2.length ≤ 15 := by
  rw [g.canon]
  exact Nat.le_trans (List.length_filter_le _ _) (pairs_len _ g.hi)

/-! ### the ties that are in -/
def pick (l : List Tie) (t : List Bool) : List Tie := ((l.zip t).filter (·.2)).map (·.1)
theorem mem_pick {l : List Tie} {t : List Bool} {e : Tie} : e ∈ pick l t ↔ (e, true) ∈ l.zip t := by
  unfold pick
  simp only [List.mem_map, List.mem_filter]
  constructor
  · rintro ⟨⟨x, b⟩, ⟨h, hb⟩, rfl⟩
    simp only at hb
    subst hb
    exact h
  · exact fun h => ⟨_, ⟨h, rfl⟩, rfl⟩
theorem mem_zip_iff {l : List Tie} {t : List Bool} {e : Tie} {b : Bool} : (e, b) ∈ l.zip t ↔ ∃ i : Nat, l[i]? = some e ∧ t[i]? = some b := by
  rw [List.mem_iff_getElem?]
  refine exists_congr fun i => ?_
  rw [List.getElem?_zip_eq_some]
theorem pick_sub {l : List Tie} {t : List Bool} {e : Tie} (h : e ∈ pick l t) : e ∈ l := by
  rw [mem_pick, mem_zip_iff] at h
  obtain ⟨i, h, _⟩ := h
  exact List.mem_of_getElem? h
theorem pick_sublist (l : List Tie) (t : List Bool) : (pick l t).Sublist l := by
  induction l generalizing t with
  | nil => unfold pick; simp
  | cons e l ih =>
    cases t with
    | nil => unfold pick; simp
    | cons b t =>
      have : pick (e :: l) (b :: t) = if b then e :: pick l t else pick l t := by
        unfold pick
        rw [List.zip_cons_cons, List.filter_cons]
        cases b <;> simp
      rw [this]
      cases b
      · simp only [Bool.false_eq_true, if_false]
        exact (ih t).cons e
      · simp only [if_true]
        exact (ih t).cons₂ e
theorem zip_one {l : List Tie} {t : List Bool} (nd : l.Nodup) {e : Tie} {b c : Bool} (h : (e, b) ∈ l.zip t) (k : (e, c) ∈ l.zip t) : b = c := by
  rw [mem_zip_iff] at h k
  obtain ⟨i, h1, h2⟩ := h
  obtain ⟨j, k1, k2⟩ := k
  have hi := (List.getElem?_eq_some_iff.mp h1)
  have hj := (List.getElem?_eq_some_iff.mp k1)
  have : i = j := (List.getElem_inj nd).mp (hi.2.trans hj.2.symm)
  subst this
  rw [h2] at k2
  exact Option.some.inj k2
theorem zip_has {l : List Tie} {t : List Bool} (hl : t.length = l.length) {e : Tie} (h : e ∈ l) : ∃ b, (e, b) ∈ l.zip t := by
  obtain ⟨i, hi, rfl⟩ := List.getElem_of_mem h
  refine ⟨t[i]'(by omega), mem_zip_iff.mpr ⟨i, List.getElem?_eq_getElem hi, List.getElem?_eq_getElem _⟩⟩
/-- the line is told by the ties that are in -/
theorem line_of {l : List Tie} {t : List Bool} (nd : l.Nodup) (hl : t.length = l.length) : t = l.map fun e => (pick l t).contains e := by
  apply List.ext_getElem?
  intro i
  rw [List.getElem?_map]
  by_cases h : i < l.length
  · rw [List.getElem?_eq_getElem h, List.getElem?_eq_getElem (show i < t.length by omega)]
    simp only [Option.map_some, Option.some.injEq]
    have z : (l[i], t[i]'(by omega)) ∈ l.zip t := mem_zip_iff.mpr ⟨i, List.getElem?_eq_getElem h, List.getElem?_eq_getElem _⟩
    rw [Bool.eq_iff_iff, List.contains_iff_mem, mem_pick]
    constructor
    · intro q; rw [q] at z; exact z
    · intro q; exact zip_one nd z q
  · rw [List.getElem?_eq_none (by omega), List.getElem?_eq_none (by omega)]
    rfl
theorem pick_map (l : List Tie) (g : Tie → Bool) : pick l (l.map g) = l.filter g := by
  unfold pick
  induction l with
  | nil => rfl
  | cons e l ih =>
    rw [List.map_cons, List.zip_cons_cons, List.filter_cons, List.filter_cons]
    cases h : g e <;> simp [h, ih]
theorem webBy_good {W : Web} (g : Good W) (t : List Bool) : Good (W.1, pick W.2 t) where
  lo := g.lo
  hi := g.hi
  inn := fun e he => g.inn e (pick_sub he)
  srt := g.srt.sublist (pick_sublist _ _)

/-! ### masks -/
def maskStep (f : List Nat) (e : Tie) : List Nat :=
  (f.set e.1 (f.getD e.1 0 ||| 2 ^ e.2)).set e.2 ((f.set e.1 (f.getD e.1 0 ||| 2 ^ e.2)).getD e.2 0 ||| 2 ^ e.1)
def masks (n : Nat) (l : List Tie) : List Nat := l.foldl maskStep (List.replicate n 0)
theorem maskStep_len (f : List Nat) (e : Tie) : (maskStep f e).length = f.length := by simp [maskStep]
theorem getD_set (f : List Nat) (i j x : Nat) (hi : i < f.length) : (f.set i x).getD j 0 = if i = j then x else f.getD j 0 := by
  rw [List.getD_eq_getElem?_getD, List.getD_eq_getElem?_getD, List.getElem?_set]
  by_cases h : i = j
  · subst h; simp [hi]
  · simp [h]
theorem maskStep_bit {f : List Nat} {e : Tie} (h1 : e.1 < f.length) (h2 : e.2 < f.length) (a c : Nat) :
    ((maskStep f e).getD a 0).testBit c = ((f.getD a 0).testBit c || (decide (e = (a, c)) || decide (e = (c, a)))) := by
  unfold maskStep
  rw [getD_set _ _ _ _ (by rw [List.length_set]; exact h2)]
  obtain ⟨x, y⟩ := e
  simp only at *
  by_cases hy : y = a
  · rw [if_pos hy, Nat.testBit_or, Nat.testBit_two_pow, getD_set _ _ _ _ h1]
    subst hy
    by_cases hx : x = y
    · subst hx
      rw [if_pos rfl, Nat.testBit_or, Nat.testBit_two_pow]
      rw [Bool.eq_iff_iff]; simp
    · rw [if_neg hx]
      rw [Bool.eq_iff_iff]; simp; grind
  · rw [if_neg hy, getD_set _ _ _ _ h1]
    by_cases hx : x = a
    · subst hx
      rw [if_pos rfl, Nat.testBit_or, Nat.testBit_two_pow]
      rw [Bool.eq_iff_iff]; simp; grind
    · rw [if_neg hx]
      rw [Bool.eq_iff_iff]; simp; grind
theorem fold_bit : ∀ (l : List Tie) (f : List Nat), (∀ e ∈ l, e.1 < f.length ∧ e.2 < f.length) → ∀ a c : Nat, ((l.foldl maskStep f).getD a 0).testBit c = ((f.getD a 0).testBit c || adj l a c)
  | [], f, _, a, c => by simp [adj]
  | e :: l, f, h, a, c => by
    rw [List.foldl_cons, fold_bit l (maskStep f e) (fun x hx => by rw [maskStep_len]; exact h x (List.mem_cons_of_mem _ hx)) a c,
      maskStep_bit (h e List.mem_cons_self).1 (h e List.mem_cons_self).2 a c, Bool.or_assoc]
    congr 1
    rw [show e :: l = [e] ++ l from rfl, adj_append]
    congr 1
    rw [Bool.eq_iff_iff, adj_iff]
    simp
    grind
theorem masks_len (n : Nat) (l : List Tie) : (masks n l).length = n := by
  unfold masks
  have : ∀ (l : List Tie) (f : List Nat), (l.foldl maskStep f).length = f.length := by
    intro l
    induction l with
    | nil => intro f; rfl
    | cons e l ih => intro f; rw [List.foldl_cons, ih, maskStep_len]
  rw [this, List.length_replicate]
theorem masks_bit {n : Nat} {l : List Tie} (h : ∀ e ∈ l, e.1 < n ∧ e.2 < n) (a c : Nat) : ((masks n l).getD a 0).testBit c = adj l a c := by
  unfold masks
  rw [fold_bit l _ (fun e he => by rw [List.length_replicate]; exact h e he) a c]
  have : (List.replicate n 0).getD a 0 = 0 := by
    rw [List.getD_eq_getElem?_getD, List.getElem?_replicate]
    split <;> rfl
  rw [this, Nat.zero_testBit, Bool.false_or]
def lone (W : Web) : List Nat := (masks W.1 W.2).zipIdx.map fun p => ((2 ^ W.1 - 1) ^^^ p.1) ^^^ 2 ^ p.2
theorem lone_len (W : Web) : (lone W).length = W.1 := by simp [lone, masks_len]
theorem lone_bit {W : Web} (g : Good W) {a : Nat} (ha : a < W.1) (c : Nat) : ((lone W).getD a 0).testBit c = true ↔ (c < W.1 ∧ c ≠ a ∧ adj W.2 a c = false) := by
  have e : (lone W).getD a 0 = ((2 ^ W.1 - 1) ^^^ (masks W.1 W.2).getD a 0) ^^^ 2 ^ a := by
    unfold lone
    rw [List.getD_eq_getElem?_getD, List.getElem?_map, List.getElem?_zipIdx, List.getD_eq_getElem?_getD, List.getElem?_eq_getElem (by rw [masks_len]; exact ha)]
    simp
  rw [e, Nat.testBit_xor, Nat.testBit_xor, Nat.testBit_two_pow_sub_one, Nat.testBit_two_pow,
    masks_bit (fun e he => by have := g.inn e he; omega)]
  have h1 : adj W.2 a c = true → c < W.1 ∧ a ≠ c := fun h => by have := g.lt h; omega
  cases h : adj W.2 a c
  · simp
    by_cases hc : c < W.1 <;> by_cases hac : a = c <;> simp [hc, hac] <;> omega
  · have := h1 h
    simp [this]
theorem and_zero_iff (x y : Nat) : (x &&& y = 0) ↔ ∀ c, ¬ (x.testBit c = true ∧ y.testBit c = true) := by
  constructor
  · intro h c ⟨h1, h2⟩
    have : (x &&& y).testBit c = true := by rw [Nat.testBit_and, h1, h2]; rfl
    rw [h, Nat.zero_testBit] at this
    cases this
  · intro h
    apply Nat.eq_of_testBit_eq
    intro c
    rw [Nat.testBit_and, Nat.zero_testBit]
    have := h c
    cases h1 : x.testBit c <;> cases h2 : y.testBit c <;> simp_all

/-! ### the test of a line -/
def goesAt (held free ln : List Nat) (p : Tie × Bool) : Bool :=
  if p.2 then (held.getD p.1.1 0 &&& ln.getD p.1.2 0 == 0) && (held.getD p.1.2 0 &&& ln.getD p.1.1 0 == 0) else !(free.getD p.1.1 0 &&& free.getD p.1.2 0 == 0)
def goes (W : Web) (t : List Bool) : Bool :=
  (W.2.zip t).all (goesAt (masks W.1 (pick W.2 t)) (masks W.1 (pick W.2 t ++ W.2.drop t.length)) (lone W))
def Ok (W : Web) (t : List Bool) : Prop := ∀ (e : Tie) (b : Bool), (e, b) ∈ W.2.zip t →
  (b = true → (∀ c, adj (pick W.2 t) e.1 c = true → c ≠ e.2 → adj W.2 e.2 c = true) ∧ (∀ c, adj (pick W.2 t) e.2 c = true → c ≠ e.1 → adj W.2 e.1 c = true)) ∧
  (b = false → ∃ c, adj (pick W.2 t ++ W.2.drop t.length) e.1 c = true ∧ adj (pick W.2 t ++ W.2.drop t.length) e.2 c = true)
theorem zip_mem {l : List Tie} {t : List Bool} {e : Tie} {b : Bool} (h : (e, b) ∈ l.zip t) : e ∈ l := by
  rw [mem_zip_iff] at h
  obtain ⟨i, h, _⟩ := h
  exact List.mem_of_getElem? h
theorem goes_iff {W : Web} (g : Good W) (t : List Bool) : goes W t = true ↔ Ok W t := by
  have hP : ∀ e ∈ pick W.2 t, e.1 < W.1 ∧ e.2 < W.1 := fun e he => by have := g.inn e (pick_sub he); omega
  have hF : ∀ e ∈ pick W.2 t ++ W.2.drop t.length, e.1 < W.1 ∧ e.2 < W.1 := fun e he => by
    rcases List.mem_append.mp he with he | he
    · exact hP e he
    · have := g.inn e (List.mem_of_mem_drop he); omega
  have hw : ∀ x y : Nat, x < W.1 → (((masks W.1 (pick W.2 t)).getD y 0 &&& (lone W).getD x 0 = 0) ↔ ∀ c, adj (pick W.2 t) y c = true → c ≠ x → adj W.2 x c = true) := by
    intro x y hx
    rw [and_zero_iff]
    refine forall_congr' fun c => ?_
    rw [masks_bit hP, lone_bit g hx]
    constructor
    · intro h a1 a2
      cases q : adj W.2 x c with
      | true => rfl
      | false =>
        refine (h ⟨a1, ?_, a2, q⟩).elim
        have := (webBy_good g t).lt a1
        exact this.2.1
    · rintro h ⟨a1, _, a2, a3⟩
      rw [h a1 a2] at a3
      cases a3
  unfold goes Ok
  rw [List.all_eq_true]
  constructor
  · intro h e b hm
    have hg := h (e, b) hm
    have he := g.inn e (zip_mem hm)
    unfold goesAt at hg
    constructor
    · rintro rfl
      simp only [if_true, Bool.and_eq_true, beq_iff_eq] at hg
      exact ⟨(hw e.2 e.1 (by omega)).mp hg.1, (hw e.1 e.2 (by omega)).mp hg.2⟩
    · rintro rfl
      simp only [Bool.false_eq_true, if_false, Bool.not_eq_true', beq_eq_false_iff_ne, ne_eq] at hg
      rw [and_zero_iff] at hg
      simp only [masks_bit hF] at hg
      exact Classical.byContradiction fun q => hg fun c hc => q ⟨c, hc⟩
  · rintro h ⟨e, b⟩ hm
    have he := g.inn e (zip_mem hm)
    obtain ⟨h1, h2⟩ := h e b hm
    unfold goesAt
    cases b with
    | true =>
      simp only [if_true, Bool.and_eq_true, beq_iff_eq]
      exact ⟨(hw e.2 e.1 (by omega)).mpr (h1 rfl).1, (hw e.1 e.2 (by omega)).mpr (h1 rfl).2⟩
    | false =>
      simp only [Bool.false_eq_true, if_false, Bool.not_eq_true', beq_eq_false_iff_ne, ne_eq]
      rw [and_zero_iff]
      simp only [masks_bit hF]
      obtain ⟨c, hc⟩ := h2 rfl
      exact fun q => q c hc
theorem zip_more {l : List Tie} {t s : List Bool} {e : Tie} {b : Bool} (h : (e, b) ∈ l.zip t) : (e, b) ∈ l.zip (t ++ s) := by
  rw [mem_zip_iff] at *
  obtain ⟨i, h1, h2⟩ := h
  refine ⟨i, h1, ?_⟩
  rw [List.getElem?_append_left (List.getElem?_eq_some_iff.mp h2).1]
  exact h2
theorem free_less {l : List Tie} {t s : List Bool} {e : Tie} (h : e ∈ pick l (t ++ s) ++ l.drop (t ++ s).length) : e ∈ pick l t ++ l.drop t.length := by
  rw [List.mem_append] at *
  rcases h with h | h
  · rw [mem_pick, mem_zip_iff] at h
    obtain ⟨i, h1, h2⟩ := h
    by_cases hi : i < t.length
    · left
      rw [mem_pick, mem_zip_iff]
      refine ⟨i, h1, ?_⟩
      rw [List.getElem?_append_left hi] at h2
      exact h2
    · right
      refine List.mem_of_getElem? (i := i - t.length) ?_
      rw [List.getElem?_drop, show t.length + (i - t.length) = i by omega]
      exact h1
  · right
    rw [List.length_append, ← List.drop_drop] at h
    exact List.mem_of_mem_drop h
/-- what goes on has gone before -/
theorem Ok.back {W : Web} {t s : List Bool} (h : Ok W (t ++ s)) : Ok W t := by
  intro e b hm
  obtain ⟨h1, h2⟩ := h e b (zip_more hm)
  have sub : ∀ x ∈ pick W.2 t, x ∈ pick W.2 (t ++ s) := fun x hx => mem_pick.mpr (zip_more (mem_pick.mp hx))
  refine ⟨fun hb => ⟨fun c hc => (h1 hb).1 c (adj_mono sub hc), fun c hc => (h1 hb).2 c (adj_mono sub hc)⟩, fun hb => ?_⟩
  obtain ⟨c, c1, c2⟩ := h2 hb
  exact ⟨c, adj_mono (fun x => free_less) c1, adj_mono (fun x => free_less) c2⟩

/-! ### the square by ties -/
def IsSq (n : Nat) (P L : List Tie) : Prop := ∀ x y : Nat, x < n → y < n → x ≠ y → (adj L x y = true ↔ near P n x y = true)
theorem near_comm (l : List Tie) (n a b : Nat) : near l n a b = near l n b a := by
  rw [Bool.eq_iff_iff, near_iff, near_iff, adj_comm l a b]
  refine or_congr Iff.rfl (exists_congr fun c => ?_)
  rw [adj_comm l a c, adj_comm l c b]
  grind
theorem sq_iff {W : Web} (g : Good W) (P : List Tie) : sq (W.1, P) = W ↔ IsSq W.1 P W.2 := by
  have key : sq (W.1, P) = W ↔ (sq (W.1, P)).2 = W.2 := by
    constructor
    · intro h; rw [h]
    · intro h; exact Prod.ext rfl h
  rw [key]
  constructor
  · intro h x y hx hy hne
    rcases Nat.lt_or_gt_of_ne hne with q | q
    · rw [g.mem q, ← h, mem_sq]
      simp [q, hy]
    · rw [adj_comm, g.mem q, ← h, mem_sq, near_comm P W.1 x y]
      simp [q, hx]
  · intro h
    refine sorted_ext ((pairs_sorted _).filter _) g.srt fun e => ?_
    rw [mem_sq]
    constructor
    · rintro ⟨h1, h2, h3⟩
      exact (g.mem h1).mp ((h e.1 e.2 (by omega) h2 (by omega)).mpr h3)
    · intro he
      have hi := g.inn e he
      exact ⟨hi.1, hi.2, (h e.1 e.2 (by omega) hi.2 (by omega)).mp ((g.mem hi.1).mpr he)⟩
theorem ok_full {W : Web} (g : Good W) {t : List Bool} (hl : t.length = W.2.length) : Ok W t ↔ IsSq W.1 (pick W.2 t) W.2 := by
  have gP := webBy_good g t
  have dr : pick W.2 t ++ W.2.drop t.length = pick W.2 t := by rw [List.drop_of_length_le (by omega), List.append_nil]
  constructor
  · intro h x y hx hy hne
    rw [near_iff]
    constructor
    · intro ha
      obtain ⟨e, he, hxy⟩ : ∃ e, e ∈ W.2 ∧ (e = (x, y) ∨ e = (y, x)) := by
        rw [adj_iff] at ha
        exact ha.elim (fun q => ⟨_, q, .inl rfl⟩) fun q => ⟨_, q, .inr rfl⟩
      obtain ⟨b, hb⟩ := zip_has hl he
      obtain ⟨h1, h2⟩ := h e b hb
      cases b with
      | true =>
        left
        rw [adj_iff]
        rcases hxy with rfl | rfl
        · exact .inl (mem_pick.mpr hb)
        · exact .inr (mem_pick.mpr hb)
      | false =>
        right
        obtain ⟨c, c1, c2⟩ := h2 rfl
        rw [dr] at c1 c2
        have l1 := gP.lt c1
        rcases hxy with rfl | rfl
        · exact ⟨c, l1.2.1, c1, by rw [adj_comm]; exact c2⟩
        · exact ⟨c, l1.2.1, c2, by rw [adj_comm]; exact c1⟩
    · rintro (ha | ⟨c, hc, ha, hb⟩)
      · exact adj_mono (fun _ => pick_sub) ha
      · have hb' := hb
        rw [adj_iff] at ha
        rcases ha with q | q
        · have := ((h _ _ (mem_pick.mp q)).1 rfl).2 y hb (Ne.symm hne)
          exact this
        · have := ((h _ _ (mem_pick.mp q)).1 rfl).1 y hb (Ne.symm hne)
          exact this
  · intro h e b hm
    have he := g.inn e (zip_mem hm)
    constructor
    · rintro rfl
      have hp : e ∈ pick W.2 t := mem_pick.mpr hm
      have h12 : adj (pick W.2 t) e.1 e.2 = true := adj_iff.mpr (.inl hp)
      constructor
      · intro c hc hne
        have lc := gP.lt hc
        refine (h e.2 c he.2 lc.2.1 (Ne.symm hne)).mpr (near_iff.mpr (.inr ⟨e.1, lc.1, ?_, hc⟩))
        rw [adj_comm]; exact h12
      · intro c hc hne
        have lc := gP.lt hc
        exact (h e.1 c (by omega) lc.2.1 (Ne.symm hne)).mpr (near_iff.mpr (.inr ⟨e.2, lc.1, h12, hc⟩))
    · rintro rfl
      rw [dr]
      have ha : adj W.2 e.1 e.2 = true := adj_iff.mpr (.inl (zip_mem hm))
      have hn := (h e.1 e.2 (by omega) he.2 (by omega)).mp ha
      rw [near_iff] at hn
      rcases hn with q | ⟨c, _, c1, c2⟩
      · exfalso
        rw [gP.mem he.1] at q
        have := zip_one g.nd (mem_pick.mp q) hm
        cases this
      · exact ⟨c, c1, by rw [adj_comm]; exact c2⟩
/-- THE TEST OF A FULL LINE -/
theorem goes_full {W : Web} (g : Good W) {t : List Bool} (hl : t.length = W.2.length) : goes W t = true ↔ sq (W.1, pick W.2 t) = W := by
  rw [goes_iff g, ok_full g hl, sq_iff g]

/-! ### all roots -/
def rootsFrom (W : Web) : Nat → List Bool → List (List Bool)
  | 0, t => if goes W t then [t] else []
  | d + 1, t => if goes W t then rootsFrom W d (t ++ [false]) ++ rootsFrom W d (t ++ [true]) else []
def rootsBy (W : Web) (t : List Bool) : List (List Bool) := rootsFrom W (W.2.length - t.length) t
theorem mem_rootsFrom {W : Web} (g : Good W) : ∀ (d : Nat) (b t : List Bool), b.length + d = W.2.length → (t ∈ rootsFrom W d b ↔ (t.length = W.2.length ∧ b <+: t ∧ goes W t = true))
  | 0, b, t, hd => by
    unfold rootsFrom
    constructor
    · intro h
      split at h
      · rename_i hg
        rw [List.mem_singleton.mp h]
        exact ⟨by omega, List.prefix_refl b, hg⟩
      · cases h
    · rintro ⟨h1, h2, h3⟩
      have : b = t := h2.eq_of_length (by omega)
      subst this
      rw [if_pos h3]
      exact List.mem_singleton.mpr rfl
  | d + 1, b, t, hd => by
    unfold rootsFrom
    constructor
    · intro h
      split at h
      · rw [List.mem_append, mem_rootsFrom g d _ t (by simp; omega), mem_rootsFrom g d _ t (by simp; omega)] at h
        rcases h with ⟨h1, h2, h3⟩ | ⟨h1, h2, h3⟩
        · exact ⟨h1, (List.prefix_append b [false]).trans h2, h3⟩
        · exact ⟨h1, (List.prefix_append b [true]).trans h2, h3⟩
      · cases h
    · rintro ⟨h1, h2, h3⟩
      obtain ⟨s, rfl⟩ := h2
      have hg : goes W b = true := by
        rw [goes_iff g] at *
        exact h3.back
      rw [if_pos hg, List.mem_append, mem_rootsFrom g d _ _ (by simp; omega), mem_rootsFrom g d _ _ (by simp; omega)]
      cases s with
      | nil => simp at h1; omega
      | cons x s =>
        have e : b ++ x :: s = (b ++ [x]) ++ s := by simp
        cases x
        · exact .inl ⟨h1, ⟨s, e.symm⟩, h3⟩
        · exact .inr ⟨h1, ⟨s, e.symm⟩, h3⟩
theorem nodup_rootsFrom {W : Web} (g : Good W) : ∀ (d : Nat) (b : List Bool), b.length + d = W.2.length → (rootsFrom W d b).Nodup
  | 0, b, hd => by
    unfold rootsFrom
    split <;> simp
  | d + 1, b, hd => by
    unfold rootsFrom
    split
    · rw [List.nodup_append]
      refine ⟨nodup_rootsFrom g d _ (by simp; omega), nodup_rootsFrom g d _ (by simp; omega), fun x hx y hy e => ?_⟩
      subst e
      rw [mem_rootsFrom g d _ x (by simp; omega)] at hx hy
      obtain ⟨_, ⟨s, e1⟩, _⟩ := hx
      obtain ⟨_, ⟨s', e2⟩, _⟩ := hy
      rw [← e2] at e1
      have := congrArg (fun l => l[b.length]?) e1
      simp at this
    · simp
theorem mem_roots {W : Web} (g : Good W) (t : List Bool) : t ∈ rootsBy W [] ↔ (t.length = W.2.length ∧ sq (W.1, pick W.2 t) = W) := by
  unfold rootsBy
  rw [mem_rootsFrom g _ _ _ (by simp)]
  constructor
  · rintro ⟨h1, _, h3⟩
    exact ⟨h1, (goes_full g h1).mp h3⟩
  · rintro ⟨h1, h3⟩
    exact ⟨h1, List.nil_prefix, (goes_full g h1).mpr h3⟩
theorem nodup_roots {W : Web} (g : Good W) : (rootsBy W []).Nodup := nodup_rootsFrom g _ _ (by simp)
theorem goes_nil (W : Web) : goes W [] = true := by unfold goes; simp
/-- by the first tie -/
theorem roots_split {W : Web} (h : W.2 ≠ []) : rootsBy W [] = rootsBy W [false] ++ rootsBy W [true] := by
  unfold rootsBy
  have : 0 < W.2.length := List.length_pos_iff.mpr h
  obtain ⟨d, hd⟩ : ∃ d, W.2.length = d + 1 := ⟨W.2.length - 1, by omega⟩
  simp only [List.length_nil, List.length_singleton, Nat.sub_zero, hd, Nat.add_sub_cancel]
  rw [rootsFrom, if_pos (goes_nil W)]
  rfl
/-- a still web is a root of itself -/
theorem still_root {W : Web} (g : Good W) (h : sq W = W) : W.2.map (fun _ => true) ∈ rootsBy W [] := by
  rw [mem_roots g]
  refine ⟨by simp, ?_⟩
  rw [pick_map, List.filter_eq_self.mpr (fun _ _ => rfl)]
  exact h
/-- the two-step web has the web as the root that is told by it -/
theorem sq_root {W : Web} (g : Good W) : rootsBy (sq W) ((sq W).2.map fun e => W.2.contains e) = [(sq W).2.map fun e => W.2.contains e] := by
  unfold rootsBy
  rw [List.length_map, Nat.sub_self, rootsFrom, if_pos]
  rw [goes_full (sq_good g) (by simp), pick_map]
  have e : ((sq W).2.filter fun e => W.2.contains e) = W.2 := by
    refine sorted_ext (((sq_good g).srt).filter _) g.srt fun e => ?_
    rw [List.mem_filter, List.contains_iff_mem, mem_sq, near_iff]
    constructor
    · exact fun h => h.2
    · intro h
      have := g.inn e h
      exact ⟨⟨this.1, this.2, .inl (adj_iff.mpr (.inl h))⟩, h⟩
  rw [e]
  rfl
end Rw
end
section
set_option autoImplicit false
/-! Plain part 2: the search by ways (how far), renaming, numbers of roots. -/
namespace Rw

theorem sub_length {α : Type} [DecidableEq α] : ∀ (l m : List α), l.Nodup → (∀ x ∈ l, x ∈ m) → l.length ≤ m.length
  | [], m, _, _ => Nat.zero_le _
  | x :: l, m, nd, h => by
    have hx := h x List.mem_cons_self
    rw [List.nodup_cons] at nd
    have ih := sub_length l (m.erase x) nd.2 fun y hy => (List.mem_erase_of_ne (fun e : y = x => nd.1 (by rw [← e]; exact hy))).mpr (h y (List.mem_cons_of_mem _ hy))
    rw [List.length_erase_of_mem hx] at ih
    have : 0 < m.length := List.length_pos_of_mem hx
    rw [List.length_cons]
    omega
theorem nodup_le {n : Nat} {l : List Nat} (nd : l.Nodup) (h : ∀ x ∈ l, x < n) : l.length ≤ n := by
  have := sub_length l (List.range n) nd fun x hx => List.mem_range.mpr (h x hx)
  simpa using this

/-! ### how far -/
def lab (f : List (Option Nat)) (b : Nat) : Nat := (f.getD b none).getD 0
structure FarSpec (W : Web) (p : Nat) (f : List (Option Nat)) : Prop where
  len : f.length = W.1
  far : ∀ b, b < W.1 → ((∃ d, f[b]? = some (some d) ∧ d ≤ 2) ↔ (b = p ∨ adj W.2 p b = true ∨ ∃ c, adj W.2 p c = true ∧ adj W.2 c b = true))
/-- between two places of the row -/
structure BI (W : Web) (p : Nat) (f : List (Option Nat)) (row : List Nat) : Prop where
  len : f.length = W.1
  nd : row.Nodup
  rng : ∀ x ∈ row, x < W.1
  fnd : ∀ b, b < W.1 → (b ∈ row ↔ ∃ d, f[b]? = some (some d))
  first : p ∈ row ∧ f[p]? = some (some 0)
  snd : ∀ x d, f[x]? = some (some d) → (d = 0 → x = p) ∧ (d = 1 → adj W.2 p x = true) ∧ (d = 2 → ∃ c, adj W.2 p c = true ∧ adj W.2 c x = true)
  srt : row.Pairwise fun x y => lab f x ≤ lab f y
/-- what is done ahead of the at-th -/
def Done (W : Web) (f : List (Option Nat)) (row : List Nat) (k : Nat) : Prop := ∀ i x, i < k → row[i]? = some x → ∀ y, adj W.2 x y = true → y ∈ row ∧ lab f y ≤ lab f x + 1
theorem lab_of {f : List (Option Nat)} {b d : Nat} (h : f[b]? = some (some d)) : lab f b = d := by
  unfold lab
  rw [List.getD_eq_getElem?_getD, h]
  rfl
theorem bi_start {W : Web} {p : Nat} (hp : p < W.1) : BI W p ((List.replicate W.1 none).set p (some 0)) [p] where
  len := by simp
  nd := by simp
  rng := by simpa using hp
  fnd := fun b hb => by
    rw [List.getElem?_set]
    simp only [List.mem_singleton, List.length_replicate, List.getElem?_replicate]
    constructor
    · rintro rfl
      exact ⟨0, by simp [hp]⟩
    · rintro ⟨d, h⟩
      by_cases e : p = b
      · exact e.symm
      · rw [if_neg e, if_pos hb] at h
        cases h
  first := ⟨by simp, by rw [List.getElem?_set]; simp [hp]⟩
  snd := fun x d h => by
    rw [List.getElem?_set] at h
    simp only [List.length_replicate, List.getElem?_replicate] at h
    by_cases e : p = x
    · rw [if_pos e, if_pos hp] at h
      have : 0 = d := Option.some.inj (Option.some.inj h)
      subst this
      exact ⟨fun _ => e.symm, by omega, by omega⟩
    · rw [if_neg e] at h
      split at h <;> cases h
  srt := by simp
theorem BI.lt {W : Web} {p : Nat} {f : List (Option Nat)} {row : List Nat} (h : BI W p f row) {x : Nat} (hx : x ∈ row) : f[x]? = some (some (lab f x)) := by
  obtain ⟨d, e⟩ := (h.fnd x (h.rng x hx)).mp hx
  rw [lab_of e]
  exact e
theorem lab_set {f : List (Option Nat)} {y d b : Nat} (hy : y < f.length) (hb : b ≠ y) : lab (f.set y (some d)) b = lab f b := by
  unfold lab
  rw [List.getD_eq_getElem?_getD, List.getD_eq_getElem?_getD, List.getElem?_set, if_neg (Ne.symm hb)]
theorem lab_set_self {f : List (Option Nat)} {y d : Nat} (hy : y < f.length) : lab (f.set y (some d)) y = d :=
  lab_of (by rw [List.getElem?_set]; simp [hy])
/-- a new place y, met from x -/
theorem BI.add {W : Web} {p : Nat} {f : List (Option Nat)} {row : List Nat} (h : BI W p f row) (g : Good W) {x y : Nat} (hx : x ∈ row) (hxy : adj W.2 x y = true) (hy : f[y]? = some none) (top : ∀ z ∈ row, lab f z ≤ lab f x + 1) :
    BI W p (f.set y (some (lab f x + 1))) (row ++ [y]) := by
  have hyl : y < f.length := (List.getElem?_eq_some_iff.mp hy).1
  have hyn : y < W.1 := by rw [← h.len]; exact hyl
  have hny : y ∉ row := fun hm => by
    obtain ⟨d, e⟩ := (h.fnd y hyn).mp hm
    rw [hy] at e
    cases e
  have ne : ∀ z ∈ row, z ≠ y := fun z hz e => hny (e ▸ hz)
  refine ⟨by rw [List.length_set]; exact h.len, ?_, ?_, ?_, ?_, ?_, ?_⟩
  · rw [List.nodup_append]
    exact ⟨h.nd, by simp, fun a ha b hb => by rw [List.mem_singleton.mp hb]; exact ne a ha⟩
  · intro z hz
    rcases List.mem_append.mp hz with hz | hz
    · exact h.rng z hz
    · rw [List.mem_singleton.mp hz]; exact hyn
  · intro b hb
    rw [List.mem_append, List.mem_singleton, List.getElem?_set]
    by_cases e : y = b
    · rw [if_pos e, if_pos hyl]
      exact ⟨fun _ => ⟨_, rfl⟩, fun _ => .inr e.symm⟩
    · rw [if_neg e, h.fnd b hb]
      exact ⟨fun q => q.elim id fun q => absurd q.symm e, .inl⟩
  · refine ⟨List.mem_append_left _ h.first.1, ?_⟩
    rw [List.getElem?_set, if_neg (Ne.symm (ne p h.first.1))]
    exact h.first.2
  · intro z d hz
    rw [List.getElem?_set] at hz
    by_cases e : y = z
    · rw [if_pos e, if_pos hyl] at hz
      have hd : lab f x + 1 = d := Option.some.inj (Option.some.inj hz)
      subst e
      obtain ⟨s0, s1, s2⟩ := h.snd x _ (h.lt hx)
      refine ⟨by omega, fun h1 => ?_, fun h2 => ?_⟩
      · have := s0 (by omega)
        rw [← this]; exact hxy
      · exact ⟨x, s1 (by omega), hxy⟩
    · rw [if_neg e] at hz
      exact h.snd z d hz
  · rw [List.pairwise_append]
    refine ⟨List.Pairwise.imp_of_mem (fun {a b} ha hb q => ?_) h.srt, by simp, fun a ha b hb => ?_⟩
    · rw [lab_set hyl (ne a ha), lab_set hyl (ne b hb)]
      exact q
    · rw [List.mem_singleton.mp hb, lab_set_self hyl, lab_set hyl (ne a ha)]
      exact top a ha
theorem Done.add {W : Web} {f : List (Option Nat)} {row : List Nat} {k : Nat} (h : Done W f row k) {y d : Nat} (hk : k ≤ row.length) (hyl : y < f.length) (hny : y ∉ row) : Done W (f.set y (some d)) (row ++ [y]) k := by
  intro i x hi hx z hz
  rw [List.getElem?_append_left (by omega)] at hx
  obtain ⟨m, l⟩ := h i x hi hx z hz
  have hx2 := List.mem_of_getElem? hx
  rw [lab_set hyl (fun e => hny (by rw [← e]; exact m)), lab_set hyl (fun e => hny (by rw [← e]; exact hx2))]
  exact ⟨List.mem_append_left _ m, l⟩
theorem BI.not_in {W : Web} {p : Nat} {f : List (Option Nat)} {row : List Nat} (h : BI W p f row) {y : Nat} (hy : f[y]? = some none) : y ∉ row := fun hm => by
  rw [h.lt hm] at hy
  cases hy
theorem BI.le {W : Web} {p : Nat} {f : List (Option Nat)} {row : List Nat} (h : BI W p f row) : row.length ≤ W.1 := nodup_le h.nd h.rng
theorem BI.fin {W : Web} {p : Nat} {f : List (Option Nat)} {row : List Nat} (h : BI W p f row) (d : Done W f row row.length) (g : Good W) : FarSpec W p f := by
  have step : ∀ x, x ∈ row → ∀ y, adj W.2 x y = true → y ∈ row ∧ lab f y ≤ lab f x + 1 := fun x hx y hy => by
    obtain ⟨i, hi, e⟩ := List.getElem_of_mem hx
    exact d i x hi (by rw [List.getElem?_eq_getElem hi, e]) y hy
  have l0 : lab f p = 0 := lab_of h.first.2
  refine ⟨h.len, fun b hb => ⟨?_, ?_⟩⟩
  · rintro ⟨n, e, hn⟩
    obtain ⟨s0, s1, s2⟩ := h.snd b n e
    have : n = 0 ∨ n = 1 ∨ n = 2 := by omega
    rcases this with q | q | q
    · exact .inl (s0 q)
    · exact .inr (.inl (s1 q))
    · exact .inr (.inr (s2 q))
  · have fin : ∀ x ∈ row, lab f x ≤ 2 → ∃ d, f[x]? = some (some d) ∧ d ≤ 2 := fun x hx hl => ⟨_, h.lt hx, hl⟩
    rintro (rfl | q | ⟨c, q1, q2⟩)
    · exact fin _ h.first.1 (by omega)
    · obtain ⟨m, l⟩ := step p h.first.1 b q
      exact fin b m (by omega)
    · obtain ⟨m, l⟩ := step p h.first.1 c q1
      obtain ⟨m2, l2⟩ := step c m b q2
      exact fin b m2 (by omega)
/-- within the turn of the at-th place x: the ones of ys that were looked at -/
structure BT (W : Web) (p : Nat) (f : List (Option Nat)) (row : List Nat) (k x : Nat) (ys : List Nat) : Prop where
  bi : BI W p f row
  done : Done W f row k
  cur : row[k]? = some x
  top : ∀ z ∈ row, lab f z ≤ lab f x + 1
  seen : ∀ y ∈ ys, y ∈ row
theorem BT.old {W : Web} {p : Nat} {f : List (Option Nat)} {row : List Nat} {k x y d : Nat} {ys : List Nat} (h : BT W p f row k x ys) (hy : f[y]? = some (some d)) : BT W p f row k x (ys ++ [y]) := by
  refine ⟨h.bi, h.done, h.cur, h.top, fun z hz => ?_⟩
  rcases List.mem_append.mp hz with hz | hz
  · exact h.seen z hz
  · rw [List.mem_singleton.mp hz]
    have hl : y < f.length := (List.getElem?_eq_some_iff.mp hy).1
    exact (h.bi.fnd y (by rw [← h.bi.len]; exact hl)).mpr ⟨d, hy⟩
theorem BT.new {W : Web} {p : Nat} {f : List (Option Nat)} {row : List Nat} {k x y : Nat} {ys : List Nat} (h : BT W p f row k x ys) (g : Good W) (hxy : adj W.2 x y = true) (hy : f[y]? = some none) :
    BT W p (f.set y (some (lab f x + 1))) (row ++ [y]) k x (ys ++ [y]) := by
  have hx := List.mem_of_getElem? h.cur
  have hyl : y < f.length := (List.getElem?_eq_some_iff.mp hy).1
  have hny := h.bi.not_in hy
  have hk : k < row.length := (List.getElem?_eq_some_iff.mp h.cur).1
  have hxy' : x ≠ y := fun e => hny (e ▸ hx)
  refine ⟨h.bi.add g hx hxy hy h.top, h.done.add (by omega) hyl hny, ?_, fun z hz => ?_, fun z hz => ?_⟩
  · rw [List.getElem?_append_left hk]; exact h.cur
  · rw [lab_set hyl hxy']
    rcases List.mem_append.mp hz with hz | hz
    · rw [lab_set hyl (fun e => hny (e ▸ hz))]
      exact h.top z hz
    · rw [List.mem_singleton.mp hz, lab_set_self hyl]
      exact Nat.le_refl _
  · rcases List.mem_append.mp hz with hz | hz
    · exact List.mem_append_left _ (h.seen z hz)
    · exact List.mem_append_right _ hz
/-- at the head of the while: all is done ahead of the k-th -/
structure BW (W : Web) (p : Nat) (f : List (Option Nat)) (row : List Nat) (k : Nat) : Prop where
  bi : BI W p f row
  done : Done W f row k
  le : k ≤ row.length
  top : ∀ x, row[k]? = some x → ∀ z ∈ row, lab f z ≤ lab f x + 1
theorem bw_start {W : Web} {p : Nat} (hp : p < W.1) : BW W p ((List.replicate W.1 none).set p (some 0)) [p] 0 := by
  refine ⟨bi_start hp, fun i x hi => absurd hi (Nat.not_lt_zero _), Nat.zero_le _, fun x hx z hz => ?_⟩
  have e : p = x := Option.some.inj hx
  rw [List.mem_singleton.mp hz, ← e]
  omega
theorem BW.turn {W : Web} {p : Nat} {f : List (Option Nat)} {row : List Nat} {k x : Nat} (h : BW W p f row k) (hx : row[k]? = some x) : BT W p f row k x [] := ⟨h.bi, h.done, hx, h.top x hx, fun y hy => by cases hy⟩
theorem BT.next {W : Web} {p : Nat} {f : List (Option Nat)} {row : List Nat} {k x : Nat} {ys : List Nat} (h : BT W p f row k x ys) (hys : ∀ y, adj W.2 x y = true → y ∈ ys) : BW W p f row (k + 1) := by
  have hk : k < row.length := (List.getElem?_eq_some_iff.mp h.cur).1
  refine ⟨h.bi, fun i z hi hz y hy => ?_, hk, fun z hz u hu => ?_⟩
  · rcases Nat.lt_or_ge i k with q | q
    · exact h.done i z q hz y hy
    · have e : i = k := by omega
      subst e
      rw [h.cur] at hz
      cases hz
      have m := h.seen y (hys y hy)
      exact ⟨m, h.top y m⟩
  · have h1 := h.top u hu
    have h2 : lab f x ≤ lab f z := by
      have hk1 : k + 1 < row.length := (List.getElem?_eq_some_iff.mp hz).1
      have := List.pairwise_iff_getElem.mp h.bi.srt k (k + 1) hk hk1 (by omega)
      rw [(List.getElem?_eq_some_iff.mp h.cur).2, (List.getElem?_eq_some_iff.mp hz).2] at this
      exact this
    omega
end Rw
end
section
set_option autoImplicit false
/-! Plain part 3: renaming keeps the number of roots. -/
namespace Rw

def mm (a b : Nat) : Tie := (min a b, max a b)
theorem mm_lt {a b n : Nat} (h : a ≠ b) (ha : a < n) (hb : b < n) : (mm a b).1 < (mm a b).2 ∧ (mm a b).2 < n := by
  unfold mm; simp only; omega
theorem mm_eq {a b x y : Nat} : mm a b = mm x y ↔ (a = x ∧ b = y) ∨ (a = y ∧ b = x) := by
  unfold mm
  rw [Prod.mk.injEq]
  omega
theorem mm_of {a b : Nat} (h : a < b) : mm a b = (a, b) := by
  unfold mm
  rw [Prod.mk.injEq]
  omega
def nm (names : List Nat) (x : Nat) : Nat := names.getD x 0
structure IsPerm (n : Nat) (names : List Nat) : Prop where
  len : names.length = n
  nd : names.Nodup
  lt : ∀ x ∈ names, x < n
theorem IsPerm.at {n : Nat} {names : List Nat} (h : IsPerm n names) {x : Nat} (hx : x < n) : names[x]? = some (nm names x) := by
  unfold nm
  rw [List.getD_eq_getElem?_getD, List.getElem?_eq_getElem (by rw [h.len]; exact hx)]
  rfl
theorem IsPerm.nm_lt {n : Nat} {names : List Nat} (h : IsPerm n names) {x : Nat} (hx : x < n) : nm names x < n := h.lt _ (List.mem_of_getElem? (h.at hx))
theorem IsPerm.inj {n : Nat} {names : List Nat} (h : IsPerm n names) {x y : Nat} (hx : x < n) (hy : y < n) (e : nm names x = nm names y) : x = y := by
  have h1 := h.at hx
  have h2 := h.at hy
  rw [e] at h1
  have a1 := (List.getElem?_eq_some_iff.mp h1)
  have a2 := (List.getElem?_eq_some_iff.mp h2)
  exact (List.getElem_inj h.nd).mp (a1.2.trans a2.2.symm)
theorem IsPerm.perm {n : Nat} {names : List Nat} (h : IsPerm n names) : names.Perm (List.range n) := by
  refine (List.perm_ext_iff_of_nodup h.nd List.nodup_range).mpr fun x => ⟨fun hx => List.mem_range.mpr (h.lt x hx), fun hx => ?_⟩
  refine Classical.byContradiction fun hn => ?_
  have h1 := sub_length (x :: names) (List.range n) (List.nodup_cons.mpr ⟨hn, h.nd⟩) fun y hy => by
    rcases List.mem_cons.mp hy with e | hy
    · rw [e]; exact hx
    · exact List.mem_range.mpr (h.lt y hy)
  rw [List.length_cons, h.len, List.length_range] at h1
  omega
theorem IsPerm.of_perm {n : Nat} {names : List Nat} (h : names.Perm (List.range n)) : IsPerm n names :=
  ⟨by rw [h.length_eq, List.length_range], h.nodup_iff.mpr List.nodup_range, fun x hx => List.mem_range.mp (h.mem_iff.mp hx)⟩
/-- each place has its number's place -/
theorem IsPerm.has {n : Nat} {names : List Nat} (h : IsPerm n names) {y : Nat} (hy : y < n) : ∃ x, x < n ∧ nm names x = y := by
  have hm : y ∈ names := h.perm.mem_iff.mpr (List.mem_range.mpr hy)
  obtain ⟨i, hi, e⟩ := List.getElem_of_mem hm
  have hin : i < n := by rw [← h.len]; exact hi
  refine ⟨i, hin, ?_⟩
  have h1 := h.at hin
  rw [List.getElem?_eq_getElem hi, e] at h1
  exact (Option.some.inj h1).symm

def ren (names : List Nat) (W : Web) : Web := (W.1, (pairs W.1).filter fun e => W.2.any fun f => decide (mm (nm names f.1) (nm names f.2) = e))
theorem mem_ren {names : List Nat} {W : Web} (g : Good W) (h : IsPerm W.1 names) {e : Tie} : e ∈ (ren names W).2 ↔ ∃ f ∈ W.2, mm (nm names f.1) (nm names f.2) = e := by
  unfold ren
  simp only [List.mem_filter, mem_pairs, List.any_eq_true, decide_eq_true_eq]
  constructor
  · exact fun q => q.2
  · rintro ⟨f, hf, rfl⟩
    have hi := g.inn f hf
    exact ⟨mm_lt (fun q => by have := h.inj (by omega) hi.2 q; omega) (h.nm_lt (by omega)) (h.nm_lt hi.2), f, hf, rfl⟩
theorem ren_good {names : List Nat} {W : Web} (g : Good W) : Good (ren names W) where
  lo := g.lo
  hi := g.hi
  inn := fun e he => mem_pairs.mp (List.mem_filter.mp he).1
  srt := (pairs_sorted _).filter _
theorem adj_ren {names : List Nat} {W : Web} (g : Good W) (h : IsPerm W.1 names) {x y : Nat} (hx : x < W.1) (hy : y < W.1) : adj (ren names W).2 (nm names x) (nm names y) = adj W.2 x y := by
  have gr := ren_good (names := names) g
  have key : ∀ x y : Nat, x < W.1 → y < W.1 → ((nm names x, nm names y) ∈ (ren names W).2 → adj W.2 x y = true) := by
    intro x y hx hy hm
    obtain ⟨f, hf, e⟩ := (mem_ren g h).mp hm
    have hi := g.inn f hf
    have hl := gr.inn _ hm
    simp only at hl
    rw [← mm_of hl.1, mm_eq] at e
    rw [adj_iff]
    rcases e with ⟨e1, e2⟩ | ⟨e1, e2⟩
    · left
      rw [← h.inj (by omega) hx e1, ← h.inj hi.2 hy e2]
      exact hf
    · right
      rw [← h.inj (by omega) hy e1, ← h.inj hi.2 hx e2]
      exact hf
  have back : ∀ x y : Nat, (x, y) ∈ W.2 → adj (ren names W).2 (nm names x) (nm names y) = true := by
    intro x y hm
    have hi := g.inn _ hm
    simp only at hi
    have hmm : mm (nm names x) (nm names y) ∈ (ren names W).2 := (mem_ren g h).mpr ⟨_, hm, rfl⟩
    rw [adj_iff]
    rcases Nat.lt_or_ge (nm names x) (nm names y) with q | q
    · rw [mm_of q] at hmm
      exact .inl hmm
    · right
      have e : mm (nm names x) (nm names y) = (nm names y, nm names x) := by
        have : nm names x ≠ nm names y := fun q => by have := h.inj (by omega) hi.2 q; omega
        unfold mm
        rw [Prod.mk.injEq]
        omega
      rw [e] at hmm
      exact hmm
  rw [Bool.eq_iff_iff]
  constructor
  · intro q
    rw [adj_iff] at q
    rcases q with q | q
    · exact key x y hx hy q
    · rw [adj_comm]; exact key y x hy hx q
  · intro q
    rw [adj_iff] at q
    rcases q with q | q
    · exact back x y q
    · rw [adj_comm]; exact back y x q

/-! ### the number of roots -/
def count (W : Web) : Nat := (rootsBy W []).length
/-- the place that is named y -/
def back (names : List Nat) (y : Nat) : Nat := names.idxOf y
theorem IsPerm.back_lt {n : Nat} {names : List Nat} (h : IsPerm n names) {y : Nat} (hy : y < n) : back names y < n := by
  have hm : y ∈ names := h.perm.mem_iff.mpr (List.mem_range.mpr hy)
  unfold back
  rw [← h.len]
  exact List.idxOf_lt_length_of_mem hm
theorem IsPerm.nm_back {n : Nat} {names : List Nat} (h : IsPerm n names) {y : Nat} (hy : y < n) : nm names (back names y) = y := by
  have hm : y ∈ names := h.perm.mem_iff.mpr (List.mem_range.mpr hy)
  have h1 := h.at (h.back_lt hy)
  have hl : names.idxOf y < names.length := List.idxOf_lt_length_of_mem hm
  unfold back at *
  rw [List.getElem?_eq_getElem hl, List.getElem_idxOf] at h1
  exact (Option.some.inj h1).symm
theorem IsPerm.back_nm {n : Nat} {names : List Nat} (h : IsPerm n names) {x : Nat} (hx : x < n) : back names (nm names x) = x :=
  h.inj (h.back_lt (h.nm_lt hx)) hx (h.nm_back (h.nm_lt hx))
def moved (names : List Nat) (W : Web) (t : List Bool) : List Bool := (ren names W).2.map fun e => adj (pick W.2 t) (back names e.1) (back names e.2)
theorem moved_adj {names : List Nat} {W : Web} (g : Good W) (h : IsPerm W.1 names) (t : List Bool) {x y : Nat} (hx : x < W.1) (hy : y < W.1) :
    adj (pick (ren names W).2 (moved names W t)) (nm names x) (nm names y) = adj (pick W.2 t) x y := by
  have gr := ren_good (names := names) g
  unfold moved
  rw [pick_map, Bool.eq_iff_iff, adj_iff]
  simp only [List.mem_filter]
  rw [h.back_nm hx, h.back_nm hy, adj_comm (pick W.2 t) y x]
  constructor
  · rintro (q | q) <;> exact q.2
  · intro q
    have hW : adj W.2 x y = true := adj_mono (fun _ => pick_sub) q
    rw [← adj_ren g h hx hy, adj_iff] at hW
    exact hW.imp (fun z => ⟨z, q⟩) fun z => ⟨z, q⟩
theorem moved_root {names : List Nat} {W : Web} (g : Good W) (h : IsPerm W.1 names) {t : List Bool} (ht : t ∈ rootsBy W []) : moved names W t ∈ rootsBy (ren names W) [] := by
  rw [mem_roots g] at ht
  have gr := ren_good (names := names) g
  rw [mem_roots gr]
  refine ⟨by simp [moved], ?_⟩
  have hs := (sq_iff g _).mp ht.2
  rw [sq_iff gr]
  intro x' y' hx' hy' hne
  obtain ⟨x, hx, rfl⟩ := h.has (show x' < W.1 from hx')
  obtain ⟨y, hy, rfl⟩ := h.has (show y' < W.1 from hy')
  have hxy : x ≠ y := fun e => hne (by rw [e])
  rw [adj_ren g h hx hy, hs x y hx hy hxy, near_iff, near_iff, moved_adj g h t hx hy]
  refine or_congr Iff.rfl ?_
  constructor
  · rintro ⟨c, hc, q1, q2⟩
    exact ⟨nm names c, h.nm_lt hc, by rw [moved_adj g h t hx hc]; exact q1, by rw [moved_adj g h t hc hy]; exact q2⟩
  · rintro ⟨c', hc', q1, q2⟩
    obtain ⟨c, hc, rfl⟩ := h.has (show c' < W.1 from hc')
    rw [moved_adj g h t hx hc] at q1
    rw [moved_adj g h t hc hy] at q2
    exact ⟨c, hc, q1, q2⟩
theorem moved_inj {names : List Nat} {W : Web} (g : Good W) (h : IsPerm W.1 names) {t u : List Bool} (ht : t.length = W.2.length) (hu : u.length = W.2.length) (e : moved names W t = moved names W u) : t = u := by
  rw [line_of g.nd ht, line_of g.nd hu]
  refine List.map_congr_left fun f hf => ?_
  have hi := g.inn f hf
  have h1 := moved_adj g h t (x := f.1) (y := f.2) (by omega) hi.2
  rw [e, moved_adj g h u (by omega) hi.2] at h1
  have gt := webBy_good g t
  have gu := webBy_good g u
  rw [Bool.eq_iff_iff, List.contains_iff_mem, List.contains_iff_mem]
  have a1 := gt.mem hi.1
  have a2 := gu.mem hi.1
  simp only at a1 a2
  rw [← a1, ← a2, h1]
theorem nodup_map_on {α β : Type} {f : α → β} : ∀ {l : List α}, (∀ x ∈ l, ∀ y ∈ l, f x = f y → x = y) → l.Nodup → (l.map f).Nodup
  | [], _, _ => by simp
  | a :: l, h, nd => by
    rw [List.nodup_cons] at nd
    rw [List.map_cons, List.nodup_cons]
    refine ⟨fun hm => ?_, nodup_map_on (fun x hx y hy => h x (List.mem_cons_of_mem _ hx) y (List.mem_cons_of_mem _ hy)) nd.2⟩
    obtain ⟨b, hb, e⟩ := List.mem_map.mp hm
    have := h b (List.mem_cons_of_mem _ hb) a List.mem_cons_self e
    exact nd.1 (this ▸ hb)
theorem count_le {names : List Nat} {W : Web} (g : Good W) (h : IsPerm W.1 names) : count W ≤ count (ren names W) := by
  unfold count
  have : ((rootsBy W []).map (moved names W)).Nodup := nodup_map_on (fun x hx y hy e => moved_inj g h ((mem_roots g x).mp hx).1 ((mem_roots g y).mp hy).1 e) (nodup_roots g)
  have h2 := sub_length _ (rootsBy (ren names W) []) this fun x hx => by
    obtain ⟨t, ht, rfl⟩ := List.mem_map.mp hx
    exact moved_root g h ht
  rw [List.length_map] at h2
  exact h2
def inv (n : Nat) (names : List Nat) : List Nat := (List.range n).map (back names)
theorem inv_nm {n : Nat} {names : List Nat} (h : IsPerm n names) {x : Nat} (hx : x < n) : nm (inv n names) x = back names x := by
  unfold nm inv
  rw [List.getD_eq_getElem?_getD, List.getElem?_map, List.getElem?_range hx]
  rfl
theorem inv_perm {n : Nat} {names : List Nat} (h : IsPerm n names) : IsPerm n (inv n names) where
  len := by simp [inv]
  nd := nodup_map_on (fun x hx y hy e => by
    have h1 := h.nm_back (List.mem_range.mp hx)
    rw [e, h.nm_back (List.mem_range.mp hy)] at h1
    exact h1.symm) List.nodup_range
  lt := fun x hx => by
    obtain ⟨y, hy, rfl⟩ := List.mem_map.mp hx
    exact h.back_lt (List.mem_range.mp hy)
theorem ren_inv {names : List Nat} {W : Web} (g : Good W) (h : IsPerm W.1 names) : ren (inv W.1 names) (ren names W) = W := by
  have gr := ren_good (names := names) g
  have hi := inv_perm h
  have grr := ren_good (names := inv W.1 names) gr
  refine Prod.ext rfl (sorted_ext grr.srt g.srt fun e => ?_)
  have main : ∀ x y : Nat, x < W.1 → y < W.1 → adj (ren (inv W.1 names) (ren names W)).2 x y = adj W.2 x y := by
    intro x y hx hy
    have q := adj_ren gr (show IsPerm (ren names W).1 (inv W.1 names) from hi) (h.nm_lt hx) (h.nm_lt hy)
    rw [adj_ren g h hx hy, inv_nm h (h.nm_lt hx), inv_nm h (h.nm_lt hy), h.back_nm hx, h.back_nm hy] at q
    exact q
  constructor
  · intro he
    have hin := grr.inn e he
    have := main e.1 e.2 (by have := hin.2; exact Nat.lt_trans hin.1 this) hin.2
    rw [(grr.mem hin.1).mpr he] at this
    exact (g.mem hin.1).mp this.symm
  · intro he
    have hin := g.inn e he
    have := main e.1 e.2 (by omega) hin.2
    rw [(g.mem hin.1).mpr he] at this
    exact (grr.mem hin.1).mp this
theorem count_ren {names : List Nat} {W : Web} (g : Good W) (h : IsPerm W.1 names) : count (ren names W) = count W := by
  refine Nat.le_antisymm ?_ (count_le g h)
  have := count_le (ren_good (names := names) g) (show IsPerm (ren names W).1 (inv W.1 names) from inv_perm h)
  rw [ren_inv g h] at this
  exact this
theorem ren_len {names : List Nat} {W : Web} (g : Good W) (h : IsPerm W.1 names) : (ren names W).2.length = W.2.length := by
  have le : ∀ (names : List Nat) (W : Web), Good W → IsPerm W.1 names → (ren names W).2.length ≤ W.2.length := by
    intro names W g h
    have := sub_length (ren names W).2 (W.2.map fun f => mm (nm names f.1) (nm names f.2)) (ren_good g).nd fun e he => by
      obtain ⟨f, hf, rfl⟩ := (mem_ren g h).mp he
      exact List.mem_map.mpr ⟨f, hf, rfl⟩
    rw [List.length_map] at this
    exact this
  refine Nat.le_antisymm (le names W g h) ?_
  have := le (inv W.1 names) (ren names W) (ren_good g) (inv_perm h)
  rw [ren_inv g h] at this
  exact this
end Rw
end
section
set_option maxRecDepth 100000
set_option maxHeartbeats 4000000
/-! How many roots: by all graphs on six places. -/
namespace Rw
noncomputable section
def nb0 (m : Nat) : Nat := Nat.lor (Nat.shiftLeft (Nat.mod m (nat_lit 2)) (nat_lit 1)) (Nat.lor (Nat.shiftLeft (Nat.mod (Nat.shiftRight m (nat_lit 1)) (nat_lit 2)) (nat_lit 2)) (Nat.lor (Nat.shiftLeft (Nat.mod (Nat.shiftRight m (nat_lit 3)) (nat_lit 2)) (nat_lit 3)) (Nat.lor (Nat.shiftLeft (Nat.mod (Nat.shiftRight m (nat_lit 6)) (nat_lit 2)) (nat_lit 4)) (Nat.shiftLeft (Nat.mod (Nat.shiftRight m (nat_lit 10)) (nat_lit 2)) (nat_lit 5)))))
def nb1 (m : Nat) : Nat := Nat.lor (Nat.mod m (nat_lit 2)) (Nat.lor (Nat.shiftLeft (Nat.mod (Nat.shiftRight m (nat_lit 2)) (nat_lit 2)) (nat_lit 2)) (Nat.lor (Nat.shiftLeft (Nat.mod (Nat.shiftRight m (nat_lit 4)) (nat_lit 2)) (nat_lit 3)) (Nat.lor (Nat.shiftLeft (Nat.mod (Nat.shiftRight m (nat_lit 7)) (nat_lit 2)) (nat_lit 4)) (Nat.shiftLeft (Nat.mod (Nat.shiftRight m (nat_lit 11)) (nat_lit 2)) (nat_lit 5)))))
def nb2 (m : Nat) : Nat := Nat.lor (Nat.mod (Nat.shiftRight m (nat_lit 1)) (nat_lit 4)) (Nat.lor (Nat.shiftLeft (Nat.mod (Nat.shiftRight m (nat_lit 5)) (nat_lit 2)) (nat_lit 3)) (Nat.lor (Nat.shiftLeft (Nat.mod (Nat.shiftRight m (nat_lit 8)) (nat_lit 2)) (nat_lit 4)) (Nat.shiftLeft (Nat.mod (Nat.shiftRight m (nat_lit 12)) (nat_lit 2)) (nat_lit 5))))
def nb3 (m : Nat) : Nat := Nat.lor (Nat.mod (Nat.shiftRight m (nat_lit 3)) (nat_lit 8)) (Nat.lor (Nat.shiftLeft (Nat.mod (Nat.shiftRight m (nat_lit 9)) (nat_lit 2)) (nat_lit 4)) (Nat.shiftLeft (Nat.mod (Nat.shiftRight m (nat_lit 13)) (nat_lit 2)) (nat_lit 5)))
def nb4 (m : Nat) : Nat := Nat.lor (Nat.mod (Nat.shiftRight m (nat_lit 6)) (nat_lit 16)) (Nat.shiftLeft (Nat.mod (Nat.shiftRight m (nat_lit 14)) (nat_lit 2)) (nat_lit 5))
def nb5 (m : Nat) : Nat := Nat.mod (Nat.shiftRight m (nat_lit 10)) (nat_lit 32)
def nbr (c m : Nat) : Nat := if c = 0 then nb0 m else if c = 1 then nb1 m else if c = 2 then nb2 m else if c = 3 then nb3 m else if c = 4 then nb4 m else nb5 m
def ixT (a b : Nat) : Nat := b * (b - 1) / 2 + a
def ixU (a b : Nat) : Nat := if a < b then ixT a b else ixT b a
theorem nbr_bit (m : Nat) : ∀ c, c < 6 → ∀ a, a < 6 → (nbr c m).testBit a = (decide (a ≠ c) && m.testBit (ixU a c)) := by
  have e2 : (4 : Nat) = 2 ^ 2 := rfl
  have e3 : (8 : Nat) = 2 ^ 3 := rfl
  have e4 : (16 : Nat) = 2 ^ 4 := rfl
  have e5 : (32 : Nat) = 2 ^ 5 := rfl
  have e1 : (2 : Nat) = 2 ^ 1 := rfl
  have hl : ∀ x y, Nat.lor x y = x ||| y := fun _ _ => rfl
  have hs : ∀ x y, Nat.shiftLeft x y = x <<< y := fun _ _ => rfl
  have hr : ∀ x y, Nat.shiftRight x y = x >>> y := fun _ _ => rfl
  have hm : ∀ x y, Nat.mod x y = x % y := fun _ _ => rfl
  have t2 : ∀ x i, (x % 2).testBit i = (decide (i < 1) && x.testBit i) := fun x i => Nat.testBit_mod_two_pow x 1 i
  have t4 : ∀ x i, (x % 4).testBit i = (decide (i < 2) && x.testBit i) := fun x i => Nat.testBit_mod_two_pow x 2 i
  have t8 : ∀ x i, (x % 8).testBit i = (decide (i < 3) && x.testBit i) := fun x i => Nat.testBit_mod_two_pow x 3 i
  have t16 : ∀ x i, (x % 16).testBit i = (decide (i < 4) && x.testBit i) := fun x i => Nat.testBit_mod_two_pow x 4 i
  have t32 : ∀ x i, (x % 32).testBit i = (decide (i < 5) && x.testBit i) := fun x i => Nat.testBit_mod_two_pow x 5 i
  intro c hc a ha
  rcases (show c = 0 ∨ c = 1 ∨ c = 2 ∨ c = 3 ∨ c = 4 ∨ c = 5 by omega) with rfl | rfl | rfl | rfl | rfl | rfl <;>
  rcases (show a = 0 ∨ a = 1 ∨ a = 2 ∨ a = 3 ∨ a = 4 ∨ a = 5 by omega) with rfl | rfl | rfl | rfl | rfl | rfl <;>
  simp [nbr, nb0, nb1, nb2, nb3, nb4, nb5, hl, hs, hr, hm, Nat.testBit_or, Nat.testBit_shiftLeft, Nat.testBit_shiftRight, t2, t4, t8, t16, t32, ixU, ixT]
def clq (X : Nat) : Nat := Nat.mod (Nat.shiftRight (nat_lit 9745304036233451348929593040124740284195497757257974764506979943603045303190231592503867291885495133946199735678732720235955413442580532649426515758427371733080700482741132831389045743607066985061325166192460849836691494413567785209223467518787783290624257115777278389019743809521078763520) (Nat.mul (nat_lit 15) X)) (nat_lit 32768)
theorem clq_bit : ∀ X, X < 64 → ∀ b, b < 6 → ∀ a, a < b → (clq X).testBit (ixT a b) = (X.testBit a && X.testBit b) := by decide +kernel
def SQ (m : Nat) : Nat := Nat.lor m (Nat.lor (clq (nb0 m)) (Nat.lor (clq (nb1 m)) (Nat.lor (clq (nb2 m)) (Nat.lor (clq (nb3 m)) (Nat.lor (clq (nb4 m)) (clq (nb5 m)))))))
def gen (d : Nat) : Nat → List Nat → List Nat := Nat.rec (motive := fun _ => Nat → List Nat → List Nat) (fun b acc => SQ b :: acc) (fun d ih b acc => ih b (ih (Nat.add b (Nat.pow (nat_lit 2) d)) acc)) d
def evs (L : List Nat) : List Nat := List.rec (motive := fun _ => List Nat) [] (fun x _ ih => Bool.rec (motive := fun _ => List Nat) ih (Nat.div x (nat_lit 2) :: ih) (Nat.beq (Nat.mod x (nat_lit 2)) (nat_lit 0))) L
def ods (L : List Nat) : List Nat := List.rec (motive := fun _ => List Nat) [] (fun x _ ih => Bool.rec (motive := fun _ => List Nat) ih (Nat.div x (nat_lit 2) :: ih) (Nat.beq (Nat.mod x (nat_lit 2)) (nat_lit 1))) L
/-- at most n items -/
def upto (n : Nat) : List Nat → Bool := Nat.rec (motive := fun _ => List Nat → Bool) (fun L => List.rec (motive := fun _ => Bool) true (fun _ _ _ => false) L) (fun _ ih L => List.rec (motive := fun _ => Bool) true (fun _ l _ => ih l) L) n
def chk (d : Nat) : Nat → List Nat → Bool := Nat.rec (motive := fun _ => Nat → List Nat → Bool) (fun k L => Bool.rec (motive := fun _ => Bool) (Bool.rec (motive := fun _ => Bool) (Bool.rec (motive := fun _ => Bool) true false (upto (nat_lit 300) L)) true (Nat.ble (nat_lit 13) k)) true (upto (nat_lit 63) L))
  (fun _ ih k L => Bool.rec (motive := fun _ => Bool) (Bool.rec (motive := fun _ => Bool) (Bool.rec (motive := fun _ => Bool) false (ih (Nat.add k (nat_lit 1)) (ods L)) (ih k (evs L))) true (Nat.ble (nat_lit 13) k)) true (upto (nat_lit 63) L)) d
--REST
theorem chk_all : chk 15 0 (gen 15 0 []) = true := by decide +kernel

theorem nb_lt (m : Nat) (hm : m < 2 ^ 15) : ∀ c, c < 6 → nbr c m < 64 := by
  have hl : ∀ x y, Nat.lor x y = x ||| y := fun _ _ => rfl
  have hs : ∀ x y, Nat.shiftLeft x y = x <<< y := fun _ _ => rfl
  have hmm : ∀ x y, Nat.mod x y = x % y := fun _ _ => rfl
  have or6 : ∀ {x y : Nat}, x < 64 → y < 64 → x ||| y < 64 := fun {x y} h k => Nat.or_lt_two_pow (n := 6) h k
  have sh : ∀ (x k : Nat), k ≤ 5 → (x % 2) <<< k < 64 := fun x k hk => by
    rw [Nat.shiftLeft_eq]
    have h1 : x % 2 ≤ 1 := by omega
    have h2 : 2 ^ k ≤ 2 ^ 5 := Nat.pow_le_pow_right (by omega) hk
    have h3 := Nat.mul_le_mul h1 h2
    omega
  intro c hc
  rcases (show c = 0 ∨ c = 1 ∨ c = 2 ∨ c = 3 ∨ c = 4 ∨ c = 5 by omega) with rfl | rfl | rfl | rfl | rfl | rfl
  · show nb0 m < 64
    unfold nb0
    rw [hl, hl, hl, hl]
    exact or6 (sh _ _ (by decide)) (or6 (sh _ _ (by decide)) (or6 (sh _ _ (by decide)) (or6 (sh _ _ (by decide)) (sh _ _ (by decide)))))
  · show nb1 m < 64
    unfold nb1
    rw [hl, hl, hl, hl]
    exact or6 (Nat.lt_of_lt_of_le (Nat.mod_lt _ (by decide)) (by decide)) (or6 (sh _ _ (by decide)) (or6 (sh _ _ (by decide)) (or6 (sh _ _ (by decide)) (sh _ _ (by decide)))))
  · show nb2 m < 64
    unfold nb2
    rw [hl, hl, hl]
    exact or6 (Nat.lt_of_lt_of_le (Nat.mod_lt _ (by decide)) (by decide)) (or6 (sh _ _ (by decide)) (or6 (sh _ _ (by decide)) (sh _ _ (by decide))))
  · show nb3 m < 64
    unfold nb3
    rw [hl, hl]
    exact or6 (Nat.lt_of_lt_of_le (Nat.mod_lt _ (by decide)) (by decide)) (or6 (sh _ _ (by decide)) (sh _ _ (by decide)))
  · show nb4 m < 64
    unfold nb4
    rw [hl]
    exact or6 (Nat.lt_of_lt_of_le (Nat.mod_lt _ (by decide)) (by decide)) (sh _ _ (by decide))
  · show nb5 m < 64
    exact Nat.lt_of_lt_of_le (Nat.mod_lt _ (by decide)) (by decide)
def am (m a c : Nat) : Bool := decide (a ≠ c) && m.testBit (ixU a c)
theorem SQ_bit {m a b : Nat} (hm : m < 2 ^ 15) (hb : b < 6) (hab : a < b) : (SQ m).testBit (ixT a b) = (m.testBit (ixT a b) || (List.range 6).any fun c => am m a c && am m b c) := by
  have hl : ∀ x y, Nat.lor x y = x ||| y := fun _ _ => rfl
  have n : ∀ c, c < 6 → (clq (nbr c m)).testBit (ixT a b) = (am m a c && am m b c) := fun c hc => by
    rw [clq_bit _ (nb_lt m hm c hc) b hb a hab, nbr_bit m c hc a (by omega), nbr_bit m c hc b hb]
    rfl
  have n0 := n 0 (by omega)
  have n1 := n 1 (by omega)
  have n2 := n 2 (by omega)
  have n3 := n 3 (by omega)
  have n4 := n 4 (by omega)
  have n5 := n 5 (by omega)
  unfold SQ
  rw [hl, hl, hl, hl, hl, hl]
  simp only [Nat.testBit_or]
  rw [show nb0 m = nbr 0 m from rfl, show nb1 m = nbr 1 m from rfl, show nb2 m = nbr 2 m from rfl, show nb3 m = nbr 3 m from rfl, show nb4 m = nbr 4 m from rfl, show nb5 m = nbr 5 m from rfl, n0, n1, n2, n3, n4, n5]
  rw [show List.range 6 = [0, 1, 2, 3, 4, 5] from rfl]
  simp only [List.any_cons, List.any_nil, Bool.or_false]
theorem SQ_lt {m : Nat} (hm : m < 2 ^ 15) : SQ m < 2 ^ 15 := by
  have c : ∀ X, clq X < 2 ^ 15 := fun X => Nat.mod_lt _ (by decide)
  have o : ∀ {x y : Nat}, x < 2 ^ 15 → y < 2 ^ 15 → Nat.lor x y < 2 ^ 15 := fun h k => Nat.or_lt_two_pow h k
  exact o hm (o (c _) (o (c _) (o (c _) (o (c _) (o (c _) (c _))))))
/-! the lists -/
theorem evs_count : ∀ (L : List Nat) (q : Nat), (evs L).count q = L.count (2 * q)
  | [], _ => rfl
  | x :: L, q => by
    have ih := evs_count L q
    have e : evs (x :: L) = if x % 2 = 0 then x / 2 :: evs L else evs L := by
      show Bool.rec (motive := fun _ => List Nat) (evs L) (x / 2 :: evs L) (Nat.beq (x % 2) 0) = _
      by_cases h : x % 2 = 0
      · rw [if_pos h, h]; rfl
      · rw [if_neg h]
        have : Nat.beq (x % 2) 0 = false := by
          rw [← Bool.not_eq_true, Nat.beq_eq]; exact h
        rw [this]
    rw [e, List.count_cons]
    by_cases h : x % 2 = 0
    · rw [if_pos h, List.count_cons, ih]
      congr 1
      by_cases h2 : x = 2 * q
      · have : x / 2 = q := by omega
        simp [h2]
      · have : x / 2 ≠ q := by omega
        simp [h2, this]
    · rw [if_neg h, ih]
      have : x ≠ 2 * q := by omega
      simp [this]
theorem ods_count : ∀ (L : List Nat) (q : Nat), (ods L).count q = L.count (2 * q + 1)
  | [], _ => rfl
  | x :: L, q => by
    have ih := ods_count L q
    have e : ods (x :: L) = if x % 2 = 1 then x / 2 :: ods L else ods L := by
      show Bool.rec (motive := fun _ => List Nat) (ods L) (x / 2 :: ods L) (Nat.beq (x % 2) 1) = _
      by_cases h : x % 2 = 1
      · rw [if_pos h, h]; rfl
      · rw [if_neg h]
        have : Nat.beq (x % 2) 1 = false := by
          rw [← Bool.not_eq_true, Nat.beq_eq]; exact h
        rw [this]
    rw [e, List.count_cons]
    by_cases h : x % 2 = 1
    · rw [if_pos h, List.count_cons, ih]
      congr 1
      by_cases h2 : x = 2 * q + 1
      · have : x / 2 = q := by omega
        simp [h2, this]
        omega
      · have : x / 2 ≠ q := by omega
        simp [h2, this]
    · rw [if_neg h, ih]
      have : x ≠ 2 * q + 1 := by omega
      simp [this]
theorem evs_lt {d : Nat} : ∀ {L : List Nat}, (∀ y ∈ L, y < 2 ^ (d + 1)) → ∀ y ∈ evs L, y < 2 ^ d := fun {L} h y hy => by
  have := List.count_pos_iff.mpr hy
  rw [evs_count] at this
  have := h _ (List.count_pos_iff.mp this)
  rw [Nat.pow_succ] at this
  omega
theorem ods_lt {d : Nat} : ∀ {L : List Nat}, (∀ y ∈ L, y < 2 ^ (d + 1)) → ∀ y ∈ ods L, y < 2 ^ d := fun {L} h y hy => by
  have := List.count_pos_iff.mpr hy
  rw [ods_count] at this
  have := h _ (List.count_pos_iff.mp this)
  rw [Nat.pow_succ] at this
  omega
theorem upto_iff : ∀ (n : Nat) (L : List Nat), upto n L = true ↔ L.length ≤ n
  | 0, [] => ⟨fun _ => Nat.le_refl _, fun _ => rfl⟩
  | 0, x :: L => by simp [upto]
  | n + 1, [] => by simp [upto]
  | n + 1, x :: L => by
    rw [show upto (n + 1) (x :: L) = upto n L from rfl, upto_iff n L, List.length_cons]
    omega
def ones : Nat → Nat → Nat
  | 0, _ => 0
  | d + 1, x => x % 2 + ones d (x / 2)
theorem chk_ok : ∀ (d k : Nat) (L : List Nat), chk d k L = true → (∀ y ∈ L, y < 2 ^ d) → ∀ x, x < 2 ^ d → k + ones d x ≤ 12 → L.count x ≤ 63 ∨ 300 < L.count x := by
  intro d
  induction d with
  | zero =>
    intro k L h hL x hx hk
    by_cases h63 : L.length ≤ 63
    · exact .inl (Nat.le_trans List.count_le_length h63)
    · have h0 : upto 63 L = false := by rw [← Bool.not_eq_true, upto_iff]; exact h63
      have hk2 : Nat.ble 13 k = false := by
        rw [← Bool.not_eq_true, Nat.ble_eq]
        have : ones 0 x = 0 := rfl
        omega
      have h' : (Bool.rec (motive := fun _ => Bool) (Bool.rec (motive := fun _ => Bool) (Bool.rec (motive := fun _ => Bool) true false (upto 300 L)) true (Nat.ble 13 k)) true (upto 63 L)) = true := h
      rw [h0, hk2] at h'
      have h3 : upto 300 L = false := by
        cases hu : upto 300 L with
        | false => rfl
        | true => rw [hu] at h'; exact absurd h' Bool.false_ne_true
      right
      have h4 : ¬ L.length ≤ 300 := by rw [← upto_iff, h3]; exact Bool.false_ne_true
      have hx0 : x = 0 := by simpa using hx
      have : L.count x = L.length := List.count_eq_length.mpr fun y hy => by
        have := hL y hy
        have : y = 0 := by simpa using this
        rw [this, hx0]
      omega
  | succ d ih =>
    intro k L h hL x hx hk
    by_cases h63 : L.length ≤ 63
    · exact .inl (Nat.le_trans List.count_le_length h63)
    · have h0 : upto 63 L = false := by rw [← Bool.not_eq_true, upto_iff]; exact h63
      have ho : ones (d + 1) x = x % 2 + ones d (x / 2) := rfl
      have hk2 : Nat.ble 13 k = false := by
        rw [← Bool.not_eq_true, Nat.ble_eq]
        omega
      have h' : (Bool.rec (motive := fun _ => Bool) (Bool.rec (motive := fun _ => Bool) (Bool.rec (motive := fun _ => Bool) false (chk d (k + 1) (ods L)) (chk d k (evs L))) true (Nat.ble 13 k)) true (upto 63 L)) = true := h
      rw [h0, hk2] at h'
      have h1 : chk d k (evs L) = true := by
        cases hu : chk d k (evs L) with
        | true => rfl
        | false => rw [hu] at h'; exact absurd h' Bool.false_ne_true
      rw [h1] at h'
      have h2 : chk d (k + 1) (ods L) = true := h'
      have hx2 : x / 2 < 2 ^ d := by rw [Nat.pow_succ] at hx; omega
      rcases (show x % 2 = 0 ∨ x % 2 = 1 by omega) with e | e
      · have := ih k (evs L) h1 (evs_lt hL) (x / 2) hx2 (by omega)
        rw [evs_count, show 2 * (x / 2) = x by omega] at this
        exact this
      · have := ih (k + 1) (ods L) h2 (ods_lt hL) (x / 2) hx2 (by omega)
        rw [ods_count, show 2 * (x / 2) + 1 = x by omega] at this
        exact this
theorem gen_is : ∀ (d b : Nat) (acc : List Nat), gen d b acc = (List.range' b (2 ^ d)).map SQ ++ acc
  | 0, b, acc => rfl
  | d + 1, b, acc => by
    rw [show gen (d + 1) b acc = gen d b (gen d (b + 2 ^ d) acc) from rfl, gen_is d, gen_is d, ← List.append_assoc, ← List.map_append, List.range'_append_1, Nat.pow_succ, Nat.mul_two]
theorem gen_small (x : Nat) (hx : x < 2 ^ 15) (h : ones 15 x ≤ 12) : ((List.range 32768).map SQ).count x ≤ 63 ∨ 300 < ((List.range 32768).map SQ).count x := by
  have e := gen_is 15 0 []
  rw [List.append_nil, ← List.range_eq_range'] at e
  have := chk_ok 15 0 (gen 15 0 []) chk_all (fun y hy => ?_) x hx (by omega)
  · rw [e] at this
    exact this
  · rw [e] at hy
    obtain ⟨m, hm, rfl⟩ := List.mem_map.mp hy
    exact SQ_lt (List.mem_range.mp hm)
/-! graphs as numbers -/
def code (l : List Tie) : Nat := l.foldr (fun e s => 2 ^ ixT e.1 e.2 ||| s) 0
theorem code_bit : ∀ (l : List Tie) (i : Nat), (code l).testBit i = true ↔ ∃ e ∈ l, ixT e.1 e.2 = i
  | [], i => by simp [code]
  | e :: l, i => by
    rw [show code (e :: l) = 2 ^ ixT e.1 e.2 ||| code l from rfl, Nat.testBit_or, Bool.or_eq_true, code_bit l i, Nat.testBit_two_pow, decide_eq_true_eq]
    simp
def Ok6 (l : List Tie) : Prop := ∀ e ∈ l, e.1 < e.2 ∧ e.2 < 6
theorem ix_inj0 : ∀ b, b < 6 → ∀ a, a < b → ∀ d, d < 6 → ∀ c, c < d → (!(ixT a b == ixT c d) || (a == c && b == d)) = true := by decide
theorem ix_inj (b : Nat) (hb : b < 6) (a : Nat) (hab : a < b) (d : Nat) (hd : d < 6) (c : Nat) (hcd : c < d) (h : ixT a b = ixT c d) : a = c ∧ b = d := by
  have := ix_inj0 b hb a hab d hd c hcd
  rw [h] at this
  simpa using this
theorem ix_lt : ∀ b, b < 6 → ∀ a, a < b → ixT a b < 15 := by decide
theorem ix_onto : ∀ i, i < 15 → ∃ b, b < 6 ∧ ∃ a, a < b ∧ ixT a b = i := by decide
theorem code_mem {l : List Tie} (h : Ok6 l) {a b : Nat} (hb : b < 6) (hab : a < b) : (code l).testBit (ixT a b) = true ↔ (a, b) ∈ l := by
  rw [code_bit]
  constructor
  · rintro ⟨e, he, h2⟩
    have := h e he
    obtain ⟨h3, h4⟩ := ix_inj e.2 this.2 e.1 this.1 b hb a hab h2
    rw [← h3, ← h4]
    exact he
  · exact fun h => ⟨_, h, rfl⟩
theorem code_lt {l : List Tie} (h : Ok6 l) : code l < 2 ^ 15 := by
  refine Nat.lt_pow_two_of_testBit _ fun i hi => ?_
  rw [← Bool.not_eq_true, code_bit]
  rintro ⟨e, he, rfl⟩
  have := ix_lt e.2 (h e he).2 e.1 (h e he).1
  omega
theorem num_ext {x y : Nat} (hx : x < 2 ^ 15) (hy : y < 2 ^ 15) (h : ∀ a b, a < b → b < 6 → (x.testBit (ixT a b) = true ↔ y.testBit (ixT a b) = true)) : x = y := by
  refine Nat.eq_of_testBit_eq fun i => ?_
  by_cases hi : i < 15
  · obtain ⟨b, hb, a, hab, rfl⟩ := ix_onto i hi
    rw [Bool.eq_iff_iff]
    exact h a b hab hb
  · rw [Nat.testBit_lt_two_pow (Nat.lt_of_lt_of_le hx (Nat.pow_le_pow_right (by omega) (by omega))), Nat.testBit_lt_two_pow (Nat.lt_of_lt_of_le hy (Nat.pow_le_pow_right (by omega) (by omega)))]
theorem am_adj {m : Nat} {P : List Tie} (hP : Ok6 P) (hm : ∀ a b, a < b → b < 6 → (m.testBit (ixT a b) = true ↔ (a, b) ∈ P)) {a c : Nat} (ha : a < 6) (hc : c < 6) : am m a c = true ↔ adj P a c = true := by
  unfold am ixU
  rw [adj_iff, Bool.and_eq_true, decide_eq_true_eq]
  rcases Nat.lt_trichotomy a c with h | h | h
  · rw [if_pos h, hm a c h hc]
    have : (c, a) ∉ P := fun q => by have := (hP _ q).1; omega
    constructor
    · exact fun q => .inl q.2
    · rintro (q | q)
      · exact ⟨by omega, q⟩
      · exact absurd q this
  · subst h
    have : (a, a) ∉ P := fun q => by have := (hP _ q).1; omega
    simp [this]
  · rw [if_neg (by omega), hm c a h ha]
    have : (a, c) ∉ P := fun q => by have := (hP _ q).1; omega
    constructor
    · exact fun q => .inr q.2
    · rintro (q | q)
      · exact absurd q this
      · exact ⟨by omega, q⟩
theorem SQ_near {m n : Nat} {P : List Tie} (hm15 : m < 2 ^ 15) (hn : n ≤ 6) (hP : ∀ e ∈ P, e.1 < e.2 ∧ e.2 < n) (hm : ∀ a b, a < b → b < 6 → (m.testBit (ixT a b) = true ↔ (a, b) ∈ P)) {a b : Nat} (hab : a < b) (hb : b < 6) :
    (SQ m).testBit (ixT a b) = true ↔ (b < n ∧ near P n a b = true) := by
  have hP6 : Ok6 P := fun e he => ⟨(hP e he).1, Nat.lt_of_lt_of_le (hP e he).2 hn⟩
  have lt : ∀ {x y}, adj P x y = true → x < n ∧ y < n := fun {x y} h => by
    rw [adj_iff] at h
    rcases h with h | h
    · have := hP _ h; dsimp only at this; omega
    · have := hP _ h; dsimp only at this; omega
  rw [SQ_bit hm15 hb hab, Bool.or_eq_true, hm a b hab hb, List.any_eq_true, near_iff]
  constructor
  · rintro (h | ⟨c, hc, h⟩)
    · have h1 : adj P a b = true := adj_iff.mpr (.inl h)
      exact ⟨(lt h1).2, .inl h1⟩
    · rw [Bool.and_eq_true] at h
      have hc6 := List.mem_range.mp hc
      have h1 := (am_adj hP6 hm (by omega) hc6).mp h.1
      have h2 := (am_adj hP6 hm hb hc6).mp h.2
      rw [adj_comm] at h2
      exact ⟨(lt h2).2, .inr ⟨c, (lt h2).1, h1, h2⟩⟩
  · rintro ⟨hbn, h | ⟨c, hc, h1, h2⟩⟩
    · left
      rcases adj_iff.mp h with h | h
      · exact h
      · have := (hP _ h).1
        dsimp only at this
        omega
    · right
      rw [adj_comm] at h2
      have hc6 : c < 6 := by omega
      exact ⟨c, List.mem_range.mpr hc6, by rw [Bool.and_eq_true]; exact ⟨(am_adj hP6 hm (by omega) hc6).mpr h1, (am_adj hP6 hm hb hc6).mpr h2⟩⟩
theorem ones_len : ∀ (d x : Nat), ones d x = ((List.range d).filter fun i => x.testBit i).length
  | 0, _ => rfl
  | d + 1, x => by
    rw [List.range_succ_eq_map, List.filter_cons, List.filter_map]
    have e : ((fun i => x.testBit i) ∘ Nat.succ) = fun i => (x / 2).testBit i := funext fun i => by
      show x.testBit (i + 1) = _
      rw [Nat.testBit_succ]
    rw [e, show ones (d + 1) x = x % 2 + ones d (x / 2) from rfl, ones_len d]
    by_cases h : x.testBit 0 = true
    · rw [if_pos h, List.length_cons, List.length_map]
      have : x % 2 = 1 := by simpa [Nat.testBit_zero] using h
      omega
    · rw [if_neg h, List.length_map]
      have : x % 2 ≠ 1 := by simpa [Nat.testBit_zero] using h
      omega
theorem ones_code {l : List Tie} : ones 15 (code l) ≤ l.length := by
  rw [ones_len, ← List.length_map (as := l) (fun e => ixT e.1 e.2)]
  refine sub_length _ _ (List.nodup_range.filter _) fun i hi => ?_
  obtain ⟨_, h⟩ := List.mem_filter.mp hi
  obtain ⟨e, he, rfl⟩ := (code_bit l i).mp h
  exact List.mem_map.mpr ⟨e, he, rfl⟩
theorem count_code {W : Web} (g : Good W) : count W = ((List.range 32768).map SQ).count (code W.2) := by
  have hn := g.hi
  have ok : Ok6 W.2 := fun e he => ⟨(g.inn e he).1, Nat.lt_of_lt_of_le (g.inn e he).2 hn⟩
  have okP : ∀ t, Ok6 (pick W.2 t) := fun t e he => ok e (pick_sub he)
  have e1 : ((List.range 32768).map SQ).count (code W.2) = ((List.range 32768).filter fun m => SQ m == code W.2).length := by
    rw [List.count, List.countP_map, List.countP_eq_length_filter]
    rfl
  have e2 : count W = ((rootsBy W []).map fun t => code (pick W.2 t)).length := by rw [List.length_map]; rfl
  rw [e1, e2]
  refine List.Perm.length_eq ((List.perm_ext_iff_of_nodup ?_ (List.nodup_range.filter _)).mpr fun m => ?_)
  · refine nodup_map_on (fun t ht u hu e => ?_) (nodup_roots g)
    have lt := ((mem_roots g t).mp ht).1
    have lu := ((mem_roots g u).mp hu).1
    rw [line_of g.nd lt, line_of g.nd lu]
    refine List.map_congr_left fun f hf => ?_
    have hf6 := ok f hf
    rw [Bool.eq_iff_iff, List.contains_iff_mem, List.contains_iff_mem]
    have h1 := code_mem (okP t) hf6.2 hf6.1
    have h2 := code_mem (okP u) hf6.2 hf6.1
    rw [e] at h1
    exact h1.symm.trans h2
  · rw [List.mem_map, List.mem_filter, List.mem_range, beq_iff_eq]
    constructor
    · rintro ⟨t, ht, rfl⟩
      obtain ⟨hl, hs⟩ := (mem_roots g t).mp ht
      have m15 := code_lt (okP t)
      refine ⟨m15, num_ext (SQ_lt m15) (code_lt ok) fun a b hab hb => ?_⟩
      rw [SQ_near m15 hn (fun e he => g.inn e (pick_sub he)) (fun a b hab hb => code_mem (okP t) hb hab) hab hb, code_mem ok hb hab]
      rw [← hs] at hs
      have : (a, b) ∈ W.2 ↔ (a, b) ∈ (sq (W.1, pick W.2 t)).2 := by
        rw [(mem_roots g t).mp ht |>.2]
      rw [this, mem_sq]
      constructor
      · rintro ⟨h1, h2⟩
        exact ⟨hab, h1, h2⟩
      · rintro ⟨_, h1, h2⟩
        exact ⟨h1, h2⟩
    · rintro ⟨m15, hS⟩
      have m15 : m < 2 ^ 15 := m15
      have hin : ∀ a b, a < b → b < 6 → m.testBit (ixT a b) = true → (a, b) ∈ W.2 := fun a b hab hb h => by
        rw [← code_mem ok hb hab, ← hS, SQ_bit m15 hb hab, h, Bool.true_or]
      have bit : ∀ a b, a < b → b < 6 → (m.testBit (ixT a b) = true ↔ (a, b) ∈ W.2.filter fun e => m.testBit (ixT e.1 e.2)) := fun a b hab hb => by
        rw [List.mem_filter]
        exact ⟨fun h => ⟨hin a b hab hb h, h⟩, fun h => h.2⟩
      refine ⟨W.2.map fun e => m.testBit (ixT e.1 e.2), (mem_roots g _).mpr ⟨by rw [List.length_map], ?_⟩, ?_⟩
      · rw [pick_map]
        have gP : Good (W.1, W.2.filter fun e => m.testBit (ixT e.1 e.2)) := ⟨g.lo, g.hi, fun e he => g.inn e (List.mem_filter.mp he).1, g.srt.sublist List.filter_sublist⟩
        refine Prod.ext rfl (sorted_ext (sq_good gP).srt g.srt fun e => ?_)
        rw [mem_sq]
        constructor
        · rintro ⟨h1, h2, h3⟩
          have h6 : e.2 < 6 := Nat.lt_of_lt_of_le h2 hn
          have : (SQ m).testBit (ixT e.1 e.2) = true := (SQ_near m15 hn (fun e he => g.inn e (List.mem_filter.mp he).1) bit h1 h6).mpr ⟨h2, h3⟩
          rw [hS, code_mem ok h6 h1] at this
          exact this
        · intro he
          have h1 := g.inn e he
          have h6 : e.2 < 6 := Nat.lt_of_lt_of_le h1.2 hn
          have : (SQ m).testBit (ixT e.1 e.2) = true := by
            rw [hS, code_mem ok h6 h1.1]; exact he
          exact ⟨h1.1, ((SQ_near m15 hn (fun e he => g.inn e (List.mem_filter.mp he).1) bit h1.1 h6).mp this)⟩
      · rw [pick_map]
        refine num_ext (code_lt fun e he => ok e (List.mem_filter.mp he).1) m15 fun a b hab hb => ?_
        rw [code_mem (fun e he => ok e (List.mem_filter.mp he).1) hb hab, bit a b hab hb]
theorem few_count {W : Web} (g : Good W) (h12 : W.2.length ≤ 12) (h : count W ≤ 300) : count W < 64 := by
  have ok : Ok6 W.2 := fun e he => ⟨(g.inn e he).1, Nat.lt_of_lt_of_le (g.inn e he).2 g.hi⟩
  have := gen_small (code W.2) (code_lt ok) (Nat.le_trans ones_code h12)
  rw [← count_code g] at this
  omega
end
end Rw
end
section
set_option maxRecDepth 100000
set_option maxHeartbeats 4000000
/-! Own rules 1: set(..) of nested tuples of whole numbers, from a list or a tuple; turned from the flat case, over its lemmas about the table. -/
namespace Rw
open PySem PySem.Spec PyProof.Rows L2

/-! ### keys of numbers and tuples alone -/
mutual
def noText : NestedKey → Bool
  | .none => true
  | .num _ => true
  | .text _ => false
  | .tup ks => noTexts ks
def noTexts : List NestedKey → Bool
  | [] => true
  | k :: ks => noText k && noTexts ks
end
/-- the tuple at b is the key k -/
def IsN (h : Heap) (k : NestedKey) (b : Addr) : Prop := NestedIs h k (.ref b) ∧ k.depth ≤ 8 ∧ noText k = true
abbrev nhash (w : World) (k : NestedKey) : Int := NestedKey.hash w k
theorem IsN.seq {h : Heap} {k : NestedKey} {b : Addr} (x : IsN h k b) : ∃ o vs n, h.get? b = some o ∧ o.cls = .type "tuple" ∧ o.data = .seq vs n := by
  obtain ⟨x, _⟩ := x
  cases x with
  | tup h1 h2 h3 h4 => exact ⟨_, _, _, h1, h2, h3⟩
theorem IsN.inj {h : Heap} {k k' : NestedKey} {b : Addr} (x : IsN h k b) (y : IsN h k' b) : k = k' := NestedIs.inj _ _ _ x.1 y.1
section
variable {P : Program} {w : World} {A : Around} {E : Value → Shared → Prop} {s : Shared}
theorem IsN.typeIs {k : NestedKey} {b : Addr} (x : IsN s.heap k b) : s.TypeIs (.ref b) "tuple" := by
  obtain ⟨o, _, _, h1, h2, _⟩ := x.seq
  exact ⟨o, h1, h2⟩
theorem ofA_num (n : Nat) {v : Value} (h : carriedByValue v = true) (hr : ∀ a, v ≠ .ref a) : ofAClassStatement n v = pure false := by
  cases v <;> first | (cases n <;> rfl) | exact absurd rfl (hr _)
mutual
theorem ofA_nk : ∀ (k : NestedKey) (v : Value) (n : Nat) (s : Shared) (A : Around) (E : Value → Shared → Prop) (Q : Bool → Shared → Prop), NestedIs s.heap k v → k.depth ≤ n → noText k = true → Q false s → wpAny (model P w) A (ofAClassStatement n v) Q E s
  | .none, _, n, s, A, E, Q, x, _, _, h => by cases x; cases n <;> exact wpAny_pure h
  | .num i, _, n, s, A, E, Q, x, _, _, h => by cases x <;> cases n <;> exact wpAny_pure h
  | .text y, _, n, s, A, E, Q, x, _, ht, h => by cases ht
  | .tup ks, _, n, s, A, E, Q, x, hn, ht, h => by
    cases x with
    | @tup b o vs m _ hg hc hd hk =>
      simp only [NestedKey.depth] at hn
      cases n with
      | zero => omega
      | succ n =>
        have hT : s.TypeIs (.ref b) "tuple" := ⟨o, hg, hc⟩
        unfold ofAClassStatement
        refine wpAny_bind (wpAny_typeOf hT ?_)
        dsimp only
        have e : (("tuple" : String) == "tuple") = true := by decide
        simp only [e, if_true, Bool.not_true, Bool.false_eq_true, if_false]
        try refine wpAny_bind (wpAny_pure ?_)
        try simp only [Bool.not_true, Bool.false_eq_true, if_false]
        show wpAny _ _ (seqItems? (.ref b) >>= _) _ _ s
        refine wpAny_bind (wpAny_seqItems hg hd ?_)
        dsimp only
        refine wpAny_bind ?_
        show wpAny _ _ (forIn vs _ _) _ _ s
        rw [← Array.forIn_toList]
        have all := ofA_nks ks vs.toList n s hk (by omega) (by simpa [noText] using ht)
        refine wpAny_forIn_list _ (fun rest r s' => r.1 = none ∧ s' = s ∧ ∀ v ∈ rest, ∀ A E (Q : Bool → Shared → Prop), Q false s → wpAny (model P w) A (ofAClassStatement n v) Q E s) _ ?_ ?_ _ _ ⟨rfl, rfl, all⟩
        · rintro v rest r s' ⟨hr, rfl, hall⟩
          refine wpAny_bind (hall v List.mem_cons_self _ _ _ ?_)
          simp only [Bool.false_eq_true, if_false]
          exact wpAny_pure ⟨rfl, rfl, fun u hu' => hall u (List.mem_cons_of_mem _ hu')⟩
        · rintro ⟨r1, r2⟩ s' ⟨hr, rfl, _⟩
          simp only at hr
          subst hr
          exact wpAny_pure h
theorem ofA_nks : ∀ (ks : List NestedKey) (vs : List Value) (n : Nat) (s : Shared), NestedAll s.heap ks vs → NestedKey.depthAll ks ≤ n → noTexts ks = true → ∀ v ∈ vs, ∀ A E (Q : Bool → Shared → Prop), Q false s → wpAny (model P w) A (ofAClassStatement n v) Q E s
  | [], _, n, s, x, _, _, v, hv => by cases x; cases hv
  | k :: ks, _, n, s, x, hn, ht, v, hv => by
    cases x with
    | cons x1 x2 =>
      simp only [NestedKey.depthAll] at hn
      simp only [noTexts, Bool.and_eq_true] at ht
      rcases List.mem_cons.mp hv with e | hv
      · subst e
        exact fun A E Q h => ofA_nk k _ n s A E Q x1 (by omega) ht.1 h
      · exact ofA_nks ks _ n s x2 (by omega) ht.2 v hv
end
mutual
theorem hashBy_k : ∀ (k : NestedKey) (v : Value) (n : Nat) (s : Shared) (A : Around) (E : Value → Shared → Prop) (Q : Bool → Shared → Prop), NestedIs s.heap k v → k.depth ≤ n → noText k = true → Q true s → wpAny (model P w) A (hashByValue n v) Q E s
  | .none, _, n, s, A, E, Q, x, _, _, h => by cases x; cases n <;> exact wpAny_pure h
  | .num i, _, n, s, A, E, Q, x, _, _, h => by cases x <;> cases n <;> exact wpAny_pure h
  | .text y, _, n, s, A, E, Q, x, _, ht, h => by cases ht
  | .tup ks, _, n, s, A, E, Q, x, hn, ht, h => by
    cases x with
    | @tup b o vs m _ hg hc hd hk =>
      simp only [NestedKey.depth] at hn
      cases n with
      | zero => omega
      | succ n =>
        have hT : s.TypeIs (.ref b) "tuple" := ⟨o, hg, hc⟩
        unfold hashByValue
        refine wpAny_bind (wpAny_specialOf hT F.slot_tuple_hash.lookup ?_)
        show wpAny _ _ (seqItems? (.ref b) >>= _) _ _ s
        refine wpAny_bind (wpAny_seqItems hg hd ?_)
        refine wpAny_bind ?_
        show wpAny _ _ (forIn vs _ _) _ _ s
        rw [← Array.forIn_toList]
        have all := hashBy_ks ks vs.toList n s hk (by omega) (by simpa [noText] using ht)
        refine wpAny_forIn_list _ (fun rest r s' => r.1 = none ∧ s' = s ∧ ∀ v ∈ rest, ∀ A E (Q : Bool → Shared → Prop), Q true s → wpAny (model P w) A (hashByValue n v) Q E s) _ ?_ ?_ _ _ ⟨rfl, rfl, all⟩
        · rintro v rest r s' ⟨hr, rfl, hall⟩
          refine wpAny_bind (hall v List.mem_cons_self _ _ _ ?_)
          simp only [Bool.not_true, Bool.false_eq_true, if_false]
          exact wpAny_pure ⟨rfl, rfl, fun u hu' => hall u (List.mem_cons_of_mem _ hu')⟩
        · rintro ⟨r1, r2⟩ s' ⟨hr, rfl, _⟩
          simp only at hr
          subst hr
          exact wpAny_pure h
theorem hashBy_ks : ∀ (ks : List NestedKey) (vs : List Value) (n : Nat) (s : Shared), NestedAll s.heap ks vs → NestedKey.depthAll ks ≤ n → noTexts ks = true → ∀ v ∈ vs, ∀ A E (Q : Bool → Shared → Prop), Q true s → wpAny (model P w) A (hashByValue n v) Q E s
  | [], _, n, s, x, _, _, v, hv => by cases x; cases hv
  | k :: ks, _, n, s, x, hn, ht, v, hv => by
    cases x with
    | cons x1 x2 =>
      simp only [NestedKey.depthAll] at hn
      simp only [noTexts, Bool.and_eq_true] at ht
      rcases List.mem_cons.mp hv with e | hv
      · subst e
        exact fun A E Q h => hashBy_k k _ n s A E Q x1 (by omega) ht.1 h
      · exact hashBy_ks ks _ n s x2 (by omega) ht.2 v hv
end
theorem hashBy_nk {k : NestedKey} {b : Addr} {Q : Bool → Shared → Prop} (hk : IsN s.heap k b) (h : Q true s) : wpAny (model P w) A (hashByValue 8 (.ref b)) Q E s := hashBy_k k _ 8 s A E Q hk.1 hk.2.1 hk.2.2 h
theorem eqN {x y : NestedKey} {a b : Addr} {Q : Bool → Shared → Prop} (hu : A.units + 8 < cLine) (hx : IsN s.heap x a) (hy : IsN s.heap y b) (h : Q (decide (x = y)) s) : wpAny (model P w) A (PySem.eqBool (.ref a) (.ref b)) Q E s :=
  (nestedKind P w).eqBool (x := x) (y := y) hu ⟨hx.1, hx.2.1⟩ ⟨hy.1, hy.2.1⟩ h
theorem hashN {k : NestedKey} {a : Addr} {Q : Int → Shared → Prop} (hu : A.units + 8 < cLine) (hx : IsN s.heap k a) (h : Q (nhash w k) { s with toks := s.toks + k.draws }) : wpAny (model P w) A (PySem.pyHash (.ref a)) Q E s :=
  (nestedKind P w).pyHash (k := k) hu ⟨hx.1, hx.2.1⟩ h
theorem quietN {k : NestedKey} {a : Addr} {Q : Bool → Shared → Prop} (hx : IsN s.heap k a) (h : Q true s) : wpAny (model P w) A (eqIsQuiet 8 (.ref a)) Q E s :=
  (nestedKind P w).quiet (k := k) ⟨hx.1, hx.2.1⟩ h
/-- a search among such tuples shows nothing -/
theorem seen_nk {k : NestedKey} {b : Addr} {Q : Bool → Shared → Prop} (hk : IsN s.heap k b) {ys : List Value} (hy : ∀ y ∈ ys, ∃ k' c, y = Value.ref c ∧ IsN s.heap k' c) (h : Q false s) :
    wpAny (model P w) A (searchCouldBeSeen (.ref b) ys) Q E s := by
  unfold searchCouldBeSeen
  refine wpAny_bind ?_
  refine wpAny_forIn_list _ (fun rest r s' => r.1 = none ∧ s' = s ∧ ∀ y ∈ rest, ∃ k' c, y = Value.ref c ∧ IsN s.heap k' c) _ ?_ ?_ _ _ ⟨rfl, rfl, hy⟩
  · rintro v rest r s' ⟨hr, rfl, hall⟩
    obtain ⟨k', c, rfl, hc⟩ := hall v List.mem_cons_self
    have more : ∀ y ∈ rest, ∃ k' c, y = Value.ref c ∧ IsN s'.heap k' c := fun u hu' => hall u (List.mem_cons_of_mem _ hu')
    dsimp only
    by_cases hv : (b == c || (carriedByValue (.ref b) && carriedByValue (.ref c))) = true
    · refine wp_if_pos hv ?_
      exact wpAny_pure ⟨rfl, rfl, more⟩
    · refine wp_if_neg hv ?_
      refine wpAny_bind (quietN hk ?_)
      simp only [Bool.not_true, Bool.false_eq_true, if_false]
      refine wpAny_bind (quietN hc ?_)
      simp only [Bool.not_true, Bool.false_eq_true, if_false]
      refine wpAny_bind (ofA_nk _ _ _ _ _ _ _ hk.1 hk.2.1 hk.2.2 ?_)
      simp only [Bool.false_eq_true, if_false]
      refine wpAny_bind (ofA_nk _ _ _ _ _ _ _ hc.1 hc.2.1 hc.2.2 ?_)
      simp only [Bool.false_eq_true, if_false]
      exact wpAny_pure ⟨rfl, rfl, more⟩
  · rintro ⟨r1, r2⟩ s' ⟨hr, rfl, _⟩
    simp only at hr
    subst hr
    exact wpAny_pure h

/-! ### the set -/
def rowsN (w : World) (L : List (Addr × NestedKey)) : List (Int × Value) := L.map fun p => (nhash w p.2, Value.ref p.1)
structure SetNR (w : World) (h : Heap) (a : Addr) (L : List (Addr × NestedKey)) (es : Array (Int × Value)) (ep : Nat) (t : SetTable) : Prop where
  ob : ∃ o, h.get? a = some o ∧ o.ExactSet ∧ o.data = .set es ep t
  rows : es.toList = rowsN w L
  tab : TabOk t (L.map fun p => nhash w p.2)
  nd : (L.map (·.2)).Nodup
  tup : ∀ p ∈ L, IsN h p.2 p.1
  plain : t.plain = true
  led : w.params.followText "set-order" = true ∨ t.led = true
  room : L.length * 5 < t.mask * 3
  few : L.length < 64
variable {a : Addr} {L : List (Addr × NestedKey)} {es : Array (Int × Value)} {ep : Nat} {t : SetTable}
theorem SetNR.size (R : SetNR w s.heap a L es ep t) : es.size = L.length := by
  have h := congrArg List.length R.rows
  unfold rowsN at h
  rw [Array.length_toList, List.length_map] at h
  exact h
theorem SetNR.fits (R : SetNR w s.heap a L es ep t) : t.fits es.size = true := by
  have h1 := R.tab.sz
  rw [List.length_map] at h1
  have h2 := R.size
  have h3 := R.room
  unfold SetTable.fits SetTable.fill
  rw [R.tab.dm, Bool.and_eq_true, beq_iff_eq, decide_eq_true_eq]
  show t.place.size = es.size ∧ t.place.size + 0 ≤ t.mask
  omega
theorem SetNR.entry (R : SetNR w s.heap a L es ep t) {i : Nat} {p : Addr × NestedKey} (h : L[i]? = some p) : es[i]? = some (nhash w p.2, Value.ref p.1) := by
  rw [← Array.getElem?_toList, R.rows]
  unfold rowsN
  rw [List.getElem?_map, h] <;> rfl
theorem SetNR.gw (R : SetNR w s.heap a L es ep t) : ¬ t.gaveWay = true := by
  unfold SetTable.gaveWay
  rw [mask_odd R.tab.mok]
  decide
theorem sameMem (t : SetTable) : t.sameMemory t.moves t.mask = some true := by
  unfold SetTable.sameMemory
  rw [if_pos (beq_self_eq_true _)]

/-- THE SEARCH: from the c-th step of the way on -/
theorem search_from (R : SetNR w s.heap a L es ep t) {x : Addr} {k : NestedKey} (hx : IsN s.heap k x) (hu : A.units + 8 < cLine) {K : Nat} (hKf : K < 10 * SetTable.turns t.mask)
    (hK : way t.mask (nhash w k) K ∉ t.place.toList) (hKb : ∀ c, c < K → way t.mask (nhash w k) c ∈ t.place.toList) {Q : SetFound → Shared → Prop}
    (hin : k ∈ L.map (·.2) → Q (.there none) s) (hout : k ∉ L.map (·.2) → Q (.free (way t.mask (nhash w k) K) false) s) :
    ∀ (f c : Nat) (stand : Option SetTable.Probe), stand.getD (t.probeStart (nhash w k)) = nth t.mask (runAt t.mask (SetTable.bits (nhash w k) % (t.mask + 1)) (SetTable.bits (nhash w k))) c → c ≤ K → K - c < f →
      (∀ (i : Nat) p, L[i]? = some p → p.2 = k → ∃ c', c ≤ c' ∧ c' < K ∧ t.place.toList[i]? = some (way t.mask (nhash w k) c')) →
      wpAny (model P w) A (setSearchFrom a (.ref x) (nhash w k) true f stand) Q E s
  | 0, c, stand, _, _, hf, _ => absurd hf (Nat.not_lt_zero _)
  | f + 1, c, stand, hst, hc, hf, hre => by
    obtain ⟨o, ho, hex, hd⟩ := R.ob
    rw [setSearchFrom_succ]
    refine wpAny_bind (wpAny_setState_of ho hd R.fits ?_)
    dsimp only
    refine wp_if_neg R.gw ?_
    try refine wpAny_bind (wpAny_pure ?_)
    have hnd : (nth t.mask (runAt t.mask (SetTable.bits (nhash w k) % (t.mask + 1)) (SetTable.bits (nhash w k))) c).dummy = none := by
      have key : ∀ (n : Nat) (p : SetTable.Probe), p.dummy = none → (nth t.mask p n).dummy = none := by
        intro n
        induction n with
        | zero => intro p h; exact h
        | succ n ih =>
          intro p h
          refine ih (adv t.mask p) ?_
          unfold adv
          split <;> exact h
      exact key c _ rfl
    have sh : ∀ q, nth t.mask (nth t.mask (runAt t.mask (SetTable.bits (nhash w k) % (t.mask + 1)) (SetTable.bits (nhash w k))) c) q = nth t.mask (runAt t.mask (SetTable.bits (nhash w k) % (t.mask + 1)) (SetTable.bits (nhash w k))) (c + q) := fun q => (nth_add t.mask c _ q).symm
    have e1 : ∀ q, (nth t.mask (nth t.mask (runAt t.mask (SetTable.bits (nhash w k) % (t.mask + 1)) (SetTable.bits (nhash w k))) c) q).j = way t.mask (nhash w k) (c + q) := fun q => congrArg SetTable.Probe.j (sh q)
    have spec := go_spec t R.tab.ris R.tab.dm (fun i => (es[i]?.map (·.1)).getD 0) (nhash w k) (10 * SetTable.turns t.mask) (K - c) _ hnd (by omega)
      (fun q hq => by rw [e1]; exact hKb (c + q) (by omega)) (by rw [e1, show c + (K - c) = K by omega]; exact hK)
    have hashAt : ∀ (i : Nat) p, L[i]? = some p → (fun i => (es[i]?.map (·.1)).getD 0) i = nhash w p.2 := fun i p hp => by
      show (es[i]?.map (·.1)).getD 0 = _
      rw [R.entry hp] <;> rfl
    rcases spec with ⟨q, i, hq, hi, hh, hno, hpr⟩ | ⟨hno, hpr⟩
    · -- a candidate
      have hpr' : t.probe (fun i => (es[i]?.map (·.1)).getD 0) (nhash w k) (stand.getD (t.probeStart (nhash w k))) = some (.candidate (way t.mask (nhash w k) (c + q)) i (nth t.mask (runAt t.mask (SetTable.bits (nhash w k) % (t.mask + 1)) (SetTable.bits (nhash w k))) (c + (q + 1)))) := by
        rw [hst, ← e1, ← sh]
        exact hpr
      rw [hpr']
      dsimp only
      rw [e1] at hi
      -- the entry
      have hil : i < L.length := by
        have h1 : i < t.place.toList.length := (List.getElem?_eq_some_iff.mp hi).1
        have h2 := R.tab.sz
        rw [List.length_map] at h2
        rw [Array.length_toList] at h1
        omega
      have hp : L[i]? = some L[i] := List.getElem?_eq_getElem hil
      generalize hpe : L[i] = p at hp
      have hmem : p ∈ L := List.mem_of_getElem? hp
      have hpt := R.tup p hmem
      have rest : wpAny (model P w) A (searchRest a (.ref x) (nhash w k) true f es t (way t.mask (nhash w k) (c + q)) i (nth t.mask (runAt t.mask (SetTable.bits (nhash w k) % (t.mask + 1)) (SetTable.bits (nhash w k))) (c + (q + 1)))) Q E s := by
        unfold searchRest
        rw [R.entry hp]
        dsimp only
        refine wpAny_bind (wpAny_holding (eqN hu hpt hx ?_))
        refine wpAny_bind (wpAny_setState_of ho hd R.fits ?_)
        dsimp only
        by_cases hkk : p.2 = k
        · refine wp_if_pos (by simp [hkk]) ?_
          refine wpAny_pure (hin ?_)
          exact List.mem_map.mpr ⟨p, hmem, hkk⟩
        · refine wp_if_neg (by simp [hkk]) ?_
          try refine wpAny_bind (wpAny_pure ?_)
          rw [sameMem]
          dsimp only
          have hsl : t.slot (way t.mask (nhash w k) (c + q)) = .live i := slot_live R.tab.ris hi
          simp only [if_true, hsl, R.entry hp]
          refine wpAny_bind (wpAny_isSame_ref_self (wpAny_bind (wpAny_pure ?_)))
          simp only [if_true]
          refine wp_if_neg (by simp [hkk]) ?_
          refine search_from R hx hu hKf hK hKb hin hout f (c + (q + 1)) _ rfl (by omega) (by omega) fun i0 p0 h0 hk0 => ?_
          obtain ⟨c', a1, a2, a3⟩ := hre i0 p0 h0 hk0
          refine ⟨c', ?_, a2, a3⟩
          -- it isn't passed
          rcases Nat.lt_or_ge c' (c + q) with z | z
          · exfalso
            refine hno (c' - c) i0 (by omega) (by rw [e1, show c + (c' - c) = c' by omega]; exact a3) ?_
            exact (hashAt i0 p0 h0).trans (congrArg (nhash w) hk0)
          · rcases Nat.lt_or_ge (c + q) c' with y | y
            · omega
            · exfalso
              have ec : c' = c + q := Nat.le_antisymm y z
              rw [ec] at a3
              have s0 := slot_live R.tab.ris a3
              rw [hsl] at s0
              injection s0 with s0
              rw [← s0, hp] at h0
              exact hkk ((congrArg Prod.snd (Option.some.inj h0)).trans hk0)
      by_cases hl : t.led = true
      · refine wp_if_neg (by simp [hl]) ?_
        try refine wpAny_bind (wpAny_pure ?_)
        exact rest
      · refine wp_if_pos (by simp [hl]) ?_
        refine wpAny_bind (seen_nk hx (fun y hy => ?_) ?_)
        · obtain ⟨e, he, ee⟩ := List.mem_map.mp hy
          have he1 : e ∈ es ∧ e.1 = nhash w k := by simpa using he
          have he2 : e ∈ es.toList := by simpa using he1.1
          rw [R.rows] at he2
          obtain ⟨p2, hp2, e2⟩ := List.mem_map.mp he2
          refine ⟨p2.2, p2.1, ?_, R.tup p2 hp2⟩
          rw [← ee, ← e2]
        · refine wp_if_neg (by decide) ?_
          try refine wpAny_bind (wpAny_pure ?_)
          exact rest
    · -- the empty slot
      have hpr' : t.probe (fun i => (es[i]?.map (·.1)).getD 0) (nhash w k) (stand.getD (t.probeStart (nhash w k))) = some (.empty (way t.mask (nhash w k) K) none) := by
        have e2 : way t.mask (nhash w k) K = (nth t.mask (nth t.mask (runAt t.mask (SetTable.bits (nhash w k) % (t.mask + 1)) (SetTable.bits (nhash w k))) c) (K - c)).j := by
          rw [e1, show c + (K - c) = K by omega]
        rw [hst, e2]
        exact hpr
      rw [hpr']
      dsimp only
      refine wpAny_pure (hout fun hm => ?_)
      obtain ⟨p0, h0, hk0⟩ := List.mem_map.mp hm
      obtain ⟨i0, hi0, e0⟩ := List.getElem_of_mem h0
      have h00 : L[i0]? = some p0 := by rw [List.getElem?_eq_getElem hi0, e0]
      obtain ⟨c', a1, a2, a3⟩ := hre i0 p0 h00 hk0
      refine hno (c' - c) i0 (by omega) (by rw [e1, show c + (c' - c) = c' by omega]; exact a3) ?_
      exact (hashAt i0 p0 h00).trans (congrArg (nhash w) hk0)

/-- the search as adding asks for it -/
theorem search_at (R : SetNR w s.heap a L es ep t) {x : Addr} {k : NestedKey} (hx : IsN s.heap k x) (hu : A.units + 8 < cLine) {Q : SetFound → Shared → Prop}
    (hin : k ∈ L.map (·.2) → Q (.there none) s)
    (hout : ∀ K, k ∉ L.map (·.2) → way t.mask (nhash w k) K ∉ t.place.toList → (∀ c, c < K → way t.mask (nhash w k) c ∈ t.place.toList) → Q (.free (way t.mask (nhash w k) K) false) s) :
    wpAny (model P w) A (setSearch a (.ref x) (nhash w k) true) Q E s := by
  have hroom := R.room
  obtain ⟨K, hKf, hK, hKb⟩ := R.tab.first (by rw [List.length_map]; omega) (nhash w k)
  have hbig : K < 100000 := by
    have : 10 * SetTable.turns t.mask ≤ 1420 := by
      unfold SetTable.turns
      rcases R.tab.mok with e | e | e <;> omega
    omega
  unfold setSearch
  refine search_from R hx hu hKf hK hKb hin (fun hn => hout K hn hK hKb) 100000 0 none rfl (Nat.zero_le _) (by omega) fun i p hp hk => ?_
  have hi : (L.map fun p => nhash w p.2)[i]? = some (nhash w k) := by rw [List.getElem?_map, hp, ← hk] <;> rfl
  have hil : i < t.place.toList.length := by
    have h1 : i < L.length := (List.getElem?_eq_some_iff.mp hp).1
    have h2 := R.tab.sz
    rw [List.length_map] at h2
    rw [Array.length_toList]
    omega
  have hj := List.getElem?_eq_getElem hil
  obtain ⟨c, hc, e⟩ := R.tab.before hK hi hj
  exact ⟨c, Nat.zero_le _, hc, by rw [hj, e]⟩
end
/-! ### adding -/
section
variable {P : Program} {w : World} {A : Around} {E : Value → Shared → Prop} {s : Shared}
/-- a tuple isn't the set -/
theorem isN_same {h h' : Heap} {k : NestedKey} {a b : Addr} {o : Obj} {es : Array (Int × Value)} {ep : Nat} {t : SetTable} (hb : IsN h k b) (ho : h.get? a = some o) (hd : o.data = .set es ep t) (hs : Heap.SameBut a h h') : IsN h' k b := by
  refine ⟨NestedIs.at (fun c oc vs n hc hs' => (hs.2 c fun z => ?_).trans hc) _ _ hb.1, hb.2⟩
  rw [z, ho] at hc
  cases hc
  rw [hd] at hs'
  cases hs'
theorem rows_put (L : List (Addr × NestedKey)) (p : Nat) (x : Addr) (k : NestedKey) : rowsN w (L.take p ++ (x, k) :: L.drop p) = (rowsN w L).take p ++ (nhash w k, Value.ref x) :: (rowsN w L).drop p := by
  unfold rowsN
  rw [List.map_append, List.map_cons, List.map_take, List.map_drop]
theorem order_rows (L : List (Addr × NestedKey)) (es : Array (Int × Value)) (order : Array Nat) (hr : es.toList = rowsN w L) (hp : order.toList.Perm (List.range L.length)) :
    ∃ L2, (order.filterMap (es[·]?)).toList = rowsN w L2 ∧ L2.Perm L ∧ (L2.map fun p => nhash w p.2) = order.toList.map fun i => (es.map (·.1)).getD i 0 := by
  have hsz : es.size = L.length := by
    have h := congrArg List.length hr
    unfold rowsN at h
    rw [Array.length_toList, List.length_map] at h
    exact h
  have ent : ∀ i (h : i < L.length), es[i]? = some (nhash w (L[i]).2, Value.ref (L[i]).1) := fun i h => by
    rw [← Array.getElem?_toList, hr]
    unfold rowsN
    rw [List.getElem?_map, List.getElem?_eq_getElem h] <;> rfl
  have key : ∀ l : List Nat, (∀ i ∈ l, i < L.length) → ∃ L2 : List (Addr × NestedKey), l.filterMap (fun i => es[i]?) = rowsN w L2 ∧ L2 = l.filterMap (fun i => L[i]?) ∧ (L2.map fun p => nhash w p.2) = l.map fun i => (es.map (·.1)).getD i 0 := by
    intro l
    induction l with
    | nil => intro _; exact ⟨[], rfl, rfl, rfl⟩
    | cons i l ih =>
      intro hl
      have hi := hl i List.mem_cons_self
      obtain ⟨L2, e1, e2, e3⟩ := ih fun j hj => hl j (List.mem_cons_of_mem _ hj)
      refine ⟨L[i] :: L2, ?_, ?_, ?_⟩
      · rw [List.filterMap_cons_some (ent i hi), e1] <;> rfl
      · rw [List.filterMap_cons_some (List.getElem?_eq_getElem hi), e2]
      · rw [List.map_cons, List.map_cons, e3]
        have hi2 : i < (es.map (·.1)).size := by rw [Array.size_map, hsz]; exact hi
        have e4 : (es.map (·.1)).getD i 0 = nhash w (L[i]).2 := by
          have e5 : (es.map (·.1))[i]? = some (nhash w (L[i]).2) := by rw [Array.getElem?_map, ent i hi] <;> rfl
          simp [Array.getD_eq_getD_getElem?, e5]
        rw [e4]
  obtain ⟨L2, e1, e2, e3⟩ := key order.toList fun i hi => List.mem_range.mp (hp.mem_iff.mp hi)
  refine ⟨L2, by first | (rw [Array.toList_filterMap]; exact e1) | simpa using e1, ?_, e3⟩
  have h1 : L2.Perm ((List.range L.length).filterMap fun i => L[i]?) := by
    rw [e2]
    exact hp.filterMap _
  have h2 : (List.range L.length).filterMap (fun i => L[i]?) = L := by
    have key2 : ∀ n, n ≤ L.length → (List.range n).filterMap (fun i => L[i]?) = L.take n := by
      intro n
      induction n with
      | zero => intro _; rfl
      | succ n ih =>
        intro hn
        have hlt : n < L.length := hn
        rw [List.range_succ, List.filterMap_append, ih (Nat.le_of_lt hlt), List.take_succ, List.getElem?_eq_getElem hlt]
        rw [List.filterMap_cons_some (List.getElem?_eq_getElem hlt)] <;> rfl
    rw [key2 L.length (Nat.le_refl _), List.take_length]
  rw [h2] at h1
  exact h1

variable {a : Addr} {L : List (Addr × NestedKey)} {es : Array (Int × Value)} {ep : Nat} {t : SetTable}
/-- the table laid anew, larger -/
theorem relay_at {o : Obj} (ho : s.heap.get? a = some o) (hex : o.ExactSet) (hd : o.data = .set es ep t) (hrows : es.toList = rowsN w L) (hsz : t.place.size = es.size) (hdm : t.dummies = #[]) (hfl : es.size ≤ t.mask)
    (nd : (L.map (·.2)).Nodup) (tup : ∀ p ∈ L, IsN s.heap p.2 p.1) (pl : t.plain = true) (ld : w.params.followText "set-order" = true ∨ t.led = true) (few : L.length < 64) {wanted M : Nat}
    (hw : SetTable.sizeAbove wanted - 1 = M) (hM : MaskOk M) (hw2 : SetTable.sizeAbove wanted ≤ 128) (hn : L.length * 5 < M * 3) {Q : Unit → Shared → Prop}
    (hQ : ∀ h' L' es' ep' t', Heap.SameBut a s.heap h' → SetNR w h' a L' es' ep' t' → L'.Perm L → Q () { s with heap := h' }) : wpAny (model P w) A (setRelay a wanted) Q E s := by
  have hsl : es.size = L.length := by
    have h := congrArg List.length hrows
    unfold rowsN at h
    rw [Array.length_toList, List.length_map] at h
    exact h
  have hfits : t.fits es.size = true := by
    unfold SetTable.fits SetTable.fill
    rw [hdm, Bool.and_eq_true, beq_iff_eq, decide_eq_true_eq]
    show t.place.size = es.size ∧ t.place.size + 0 ≤ t.mask
    omega
  obtain ⟨t', order, e, hp, T, em, el, ep', ed⟩ := relaid_ok t (hs := es.map (·.1)) (wanted := wanted) hw hM (by rw [Array.size_map, hsl]; omega)
  rw [Array.size_map, hsl] at hp
  obtain ⟨L2, r1, r2, r3⟩ := order_rows L es order hrows hp
  rw [← r3] at T
  have hs2 : (order.filterMap (es[·]?)).size = es.size := by
    have h := congrArg List.length r1
    unfold rowsN at h
    rw [Array.length_toList, List.length_map, r2.length_eq] at h
    rw [h, hsl]
  rw [setRelay_eq]
  refine wpAny_bind (wpAny_setState_of ho hd hfits ?_)
  dsimp only
  refine wp_if_neg (by rw [sizeLine_eq]; omega) ?_
  try refine wpAny_bind (wpAny_pure ?_)
  rw [e]
  dsimp only
  refine wpAny_bind ?_
  refine wp_if_neg (by rw [hs2]; simp) ?_
  try refine wpAny_bind (wpAny_pure ?_)
  refine wpAny_pure ?_
  dsimp only
  refine wpAny_storeSet_of ho hd ?_ (by rw [hs2, hsl, sizeLine_eq]; omega)
  have sb : Heap.SameBut a s.heap (s.heap.update a (Obj.putSet (order.filterMap (es[·]?)) t')) := Heap.SameBut.update ..
  refine hQ _ L2 (order.filterMap (es[·]?)) (ep + 1) t' sb ?_ r2
  refine ⟨⟨_, store_at ho hd, ⟨hex.1, hex.2.1, hex.2.2⟩, rfl⟩, r1, T, ?_, fun p hpm => isN_same (tup p (r2.mem_iff.mp hpm)) ho hd sb, by rw [ep']; exact pl, by rw [el]; exact ld, ?_, by rw [r2.length_eq]; exact few⟩
  · exact (r2.map (·.2)).nodup_iff.mpr nd
  · rw [r2.length_eq, em]
    exact hn

/-- ADDING -/
theorem add_at (R : SetNR w s.heap a L es ep t) {x : Addr} {k : NestedKey} (hx : IsN s.heap k x) (hu : A.units + 8 < cLine) (hfew : L.length + 1 < 64) {Q : Bool → Shared → Prop}
    (hQ : ∀ b h' L' es' ep' t', Heap.SameBut a s.heap h' → SetNR w h' a L' es' ep' t' → (k ∈ L.map (·.2) → L' = L) → (k ∉ L.map (·.2) → L'.Perm ((x, k) :: L)) → Q b { s with heap := h' }) :
    wpAny (model P w) A (setAddHashed a (.ref x) (nhash w k)) Q E s := by
  obtain ⟨o, ho, hex, hd⟩ := R.ob
  have hsl := R.size
  have hroom := R.room
  unfold setAddHashed
  refine wpAny_holding ?_
  rw [show (100000 : Nat) = 99999 + 1 from rfl, setAddHashedIn_succ]
  refine wpAny_bind (wpAny_setState_of ho hd R.fits ?_)
  dsimp only
  refine wp_if_neg (by simp [byScan, Value.scannable]) ?_
  try refine wpAny_bind (wpAny_pure ?_)
  refine wpAny_bind (search_at R hx hu (fun hm => ?_) fun K hm hK hb => ?_)
  · dsimp only
    exact wpAny_pure (hQ false s.heap L es ep t (Heap.SameBut.refl a s.heap) R (fun _ => rfl) fun z => absurd hm z)
  · dsimp only
    refine wpAny_bind (wpAny_setState_of ho hd R.fits ?_)
    dsimp only
    obtain ⟨q1, q2, q3, q4, q5, q6, q7, q8, q9⟩ := R.tab.put hK hb
    have hp1 : (t.put (way t.mask (nhash w k) K)).1.plain = true := by rw [q6]; exact R.plain
    generalize hpt : t.put (way t.mask (nhash w k) K) = pt at q1 q3 q4 q5 q6 q7 q8 q9 hp1 ⊢
    obtain ⟨t1, p⟩ := pt
    dsimp only at q1 q3 q4 q5 q6 q7 q8 q9 hp1 ⊢
    subst q1
    first
      | (refine wpAny_bind ?_; refine wp_if_pos hp1 ?_; refine hashBy_nk hx ?_)
      | refine wp_if_pos hp1 (wpAny_bind (hashBy_nk hx ?_))
    simp only [if_true]
    have hin : (SetTable.insertAt es (SetTable.below t.place (way t.mask (nhash w k) K)) (nhash w k, Value.ref x)).toList = rowsN w (L.take (SetTable.below t.place (way t.mask (nhash w k) K)) ++ (x, k) :: L.drop (SetTable.below t.place (way t.mask (nhash w k) K))) := by
      rw [SetTable.toList_insertAt, rows_put, R.rows]
    generalize hpp : SetTable.below t.place (way t.mask (nhash w k) K) = p at q2 q3 hin ⊢
    have pm := put_perm L p (x, k)
    have hlen : (L.take p ++ (x, k) :: L.drop p).length = L.length + 1 := pm.length_eq
    have hhs : (L.take p ++ (x, k) :: L.drop p).map (fun p => nhash w p.2) = (L.map fun p => nhash w p.2).take p ++ nhash w k :: (L.map fun p => nhash w p.2).drop p := by
      rw [List.map_append, List.map_cons, List.map_take, List.map_drop]
    rw [← hhs] at q3
    have nd1 : ((L.take p ++ (x, k) :: L.drop p).map (·.2)).Nodup := by
      refine (pm.map (·.2)).nodup_iff.mpr ?_
      rw [List.map_cons]
      exact List.nodup_cons.mpr ⟨hm, R.nd⟩
    have hes : (SetTable.insertAt es p (nhash w k, Value.ref x)).size = L.length + 1 := by
      have h := congrArg List.length hin
      unfold rowsN at h
      rw [Array.length_toList, List.length_map, hlen] at h
      exact h
    generalize SetTable.insertAt es p (nhash w k, Value.ref x) = es1 at hin hes ⊢
    generalize L.take p ++ (x, k) :: L.drop p = L1 at pm hlen q3 nd1 hin
    refine wpAny_bind (wpAny_storeSet_of ho hd ?_ (by rw [hes, sizeLine_eq]; omega))
    have sb : Heap.SameBut a s.heap (s.heap.update a (Obj.putSet es1 t1)) := Heap.SameBut.update ..
    have ho1 := store_at (es' := es1) (t' := t1) ho hd
    generalize s.heap.update a (Obj.putSet es1 t1) = h1 at sb ho1 ⊢
    have tup1 : ∀ p ∈ L1, IsN h1 p.2 p.1 := fun p hp => by
      rcases List.mem_cons.mp (pm.mem_iff.mp hp) with e | hp
      · rw [e]; exact isN_same hx ho hd sb
      · exact isN_same (R.tup p hp) ho hd sb
    have ld1 : w.params.followText "set-order" = true ∨ t1.led = true := by rw [q5]; exact R.led
    by_cases hf : t1.tooFull = true
    · first
        | (refine wpAny_bind ?_; refine wp_if_pos (by simp [hf]) ?_)
        | (refine wp_if_pos (by simp [hf]) ?_; refine wpAny_bind ?_)
      have hfull : (L.length + 1) * 5 ≥ t1.mask * 3 := by
        have h := hf
        unfold SetTable.tooFull at h
        rw [decide_eq_true_eq, q9, List.length_map] at h
        exact h
      rw [hsl]
      have hsz1 : t1.place.size = es1.size := by
        have h := q3.sz
        rw [List.length_map, hlen] at h
        rw [h, hes]
      have cases2 : (t.mask = 7 ∧ L.length = 4) ∨ (t.mask = 31 ∧ L.length = 18) := by
        rcases R.tab.mok with e | e | e
        · left; rw [q4, e] at hfull; rw [e] at hroom; exact ⟨e, by omega⟩
        · right; rw [q4, e] at hfull; rw [e] at hroom; exact ⟨e, by omega⟩
        · exfalso; rw [q4, e] at hfull; omega
      have go : ∀ M, SetTable.sizeAbove (SetTable.grown (L.length + 1)) - 1 = M → MaskOk M → SetTable.sizeAbove (SetTable.grown (L.length + 1)) ≤ 128 → (L.length + 1) * 5 < M * 3 →
          wpAny (model P w) A (setRelay a (SetTable.grown (L.length + 1))) (fun _ s' => wpAny (model P w) A (pure true) Q E s') E { s with heap := h1 } := fun M h1' h2' h3' h4' => by
        refine relay_at (s := { s with heap := h1 }) ho1 ⟨hex.1, hex.2.1, hex.2.2⟩ rfl hin hsz1 q3.dm (by rw [hes, q4]; rcases cases2 with ⟨e, e2⟩ | ⟨e, e2⟩ <;> omega) nd1 tup1 hp1 ld1 (by rw [hlen]; exact hfew) h1' h2' h3' (by rw [hlen]; exact h4') ?_
        intro h2 L2 es2 ep2 t2 sb2 R2 pm2
        refine wpAny_pure (hQ true h2 L2 es2 ep2 t2 (sb.trans sb2) R2 (fun z => absurd z hm) fun _ => pm2.trans pm)
      rcases cases2 with ⟨_, e2⟩ | ⟨_, e2⟩
      · refine go 31 (by rw [e2, size_20]) (.inr (.inl rfl)) (by rw [e2, size_20]; decide) (by omega)
      · refine go 127 (by rw [e2, size_76]) (.inr (.inr rfl)) (by rw [e2, size_76]; decide) (by omega)
    · first
        | refine wp_if_neg (by simp [hf]) ?_
        | (refine wpAny_bind ?_; refine wp_if_neg (by simp [hf]) ?_; refine wpAny_pure ?_)
      refine wpAny_pure (hQ true h1 L1 es1 (ep + 1) t1 sb ⟨⟨_, ho1, ⟨hex.1, hex.2.1, hex.2.2⟩, rfl⟩, hin, q3, nd1, tup1, hp1, ld1, ?_, by rw [hlen]; exact hfew⟩ (fun z => absurd z hm) fun _ => pm)
      have h := hf
      unfold SetTable.tooFull at h
      rw [decide_eq_true_eq, q9, List.length_map] at h
      rw [hlen]
      omega
end

/-- what the set has got from the first i items -/
structure GotN (ks : List (Addr × NestedKey)) (i : Nat) (L : List (Addr × NestedKey)) : Prop where
  sub : ∀ p ∈ L, p ∈ ks.take i
  all : ∀ p ∈ ks.take i, p.2 ∈ L.map (·.2)
  len : L.length ≤ i
theorem GotN.zero (ks : List (Addr × NestedKey)) : GotN ks 0 [] := ⟨fun p h => (by cases h), fun p h => (by simp at h), Nat.le_refl _⟩
theorem GotN.same {ks L : List (Addr × NestedKey)} {i : Nat} {x : Addr × NestedKey} (g : GotN ks i L) (h : ks[i]? = some x) (hm : x.2 ∈ L.map (·.2)) : GotN ks (i + 1) L := by
  refine ⟨fun p hp => ?_, fun p hp => ?_, Nat.le_succ_of_le g.len⟩
  · rw [take_next h]
    exact List.mem_append_left _ (g.sub p hp)
  · rw [take_next h] at hp
    rcases List.mem_append.mp hp with z | z
    · exact g.all p z
    · rw [List.mem_singleton.mp z]; exact hm
theorem GotN.more {ks L L' : List (Addr × NestedKey)} {i : Nat} {x : Addr × NestedKey} (g : GotN ks i L) (h : ks[i]? = some x) (pm : L'.Perm (x :: L)) : GotN ks (i + 1) L' := by
  refine ⟨fun p hp => ?_, fun p hp => ?_, ?_⟩
  · rw [take_next h]
    rcases List.mem_cons.mp (pm.mem_iff.mp hp) with e | z
    · rw [e]; exact List.mem_append_right _ (List.mem_singleton.mpr rfl)
    · exact List.mem_append_left _ (g.sub p z)
  · rw [(pm.map (·.2)).mem_iff, List.map_cons]
    rw [take_next h] at hp
    rcases List.mem_append.mp hp with z | z
    · exact List.mem_cons_of_mem _ (g.all p z)
    · rw [List.mem_singleton.mp z]; exact List.mem_cons_self
  · rw [pm.length_eq, List.length_cons]
    exact Nat.succ_le_succ g.len

section
variable {P : Program} {w : World} {A : Around} {E : Value → Shared → Prop} {s : Shared}
theorem isN_keep {h h' : Heap} {k : NestedKey} {b : Addr} (x : IsN h k b) (hk : ∀ c o, h.get? c = some o → h'.get? c = some o) : IsN h' k b := by
  exact ⟨NestedIs.at (fun c o _ _ e _ => hk c o e) _ _ x.1, x.2⟩
theorem SetNR.keep {h h' : Heap} {a : Addr} {L : List (Addr × NestedKey)} {es : Array (Int × Value)} {ep : Nat} {t : SetTable} (R : SetNR w h a L es ep t) (ha : ∀ o, h.get? a = some o → h'.get? a = some o) (ht : ∀ p ∈ L, IsN h' p.2 p.1) : SetNR w h' a L es ep t := by
  obtain ⟨o, ho, r⟩ := R.ob
  exact ⟨⟨o, ha o ho, r⟩, R.rows, R.tab, R.nd, ht, R.plain, R.led, R.room, R.few⟩
/-- a new set -/
theorem setNR_fresh {h : Heap} {a : Addr} (ho : h.get? a = some { cls := .type "set", dict := none, data := .set #[] 0 (.fresh 0 0 (!w.params.followText "set-order")) }) : SetNR w h a [] #[] 0 (.fresh 0 0 (!w.params.followText "set-order")) where
  ob := ⟨_, ho, ⟨rfl, rfl, rfl⟩, rfl⟩
  rows := rfl
  tab := ⟨List.Pairwise.nil, rfl, rfl, .inl rfl, fun x hx => (by cases hx), fun i h j hi => (by simp at hi)⟩
  nd := List.nodup_nil
  tup := fun p hp => (by cases hp)
  plain := rfl
  led := by
    show _ ∨ (!w.params.followText "set-order") = true
    cases w.params.followText "set-order"
    · exact .inr rfl
    · exact .inl rfl
  room := by
    show 0 * 5 < 7 * 3
    decide
  few := by
    show 0 < 64
    decide

/-- set.update's loop -/
theorem set_update_nk {I : Addr} {fp wr : List Addr} {G : Array GenState → Array GenState → Prop} {n : Nat} {Pv : Nat → Value → Prop} {St : Nat → Shared → Prop} {R : Result → Shared → Prop}
    (W : WalksS P w A.in1 I fp wr G n Pv St) (S : Addr) (hSf : S ∉ fp) (ks : List (Addr × NestedKey)) (hn : n = ks.length) (hfew : ks.length < 64) (hval : ∀ i v, Pv i v → ∃ p, ks[i]? = some p ∧ v = .ref p.1)
    (h0 : Heap) (hk : ∀ p ∈ ks, IsN h0 p.2 p.1) (hS0 : h0.get? S = none) (hw0 : ∀ b ∈ wr, h0.get? b = none) (hu : A.in1.units + 8 < cLine) :
    ∀ (k i : Nat) (s : Shared), n - i = k → i ≤ n → St i s → (∀ b o, h0.get? b = some o → s.heap.get? b = some o) → (∃ L es ep t, SetNR w s.heap S L es ep t ∧ GotN ks i L) →
      (∀ s' L es ep t, Moved (S :: wr) G s s' → SetNR w s'.heap S L es ep t → GotN ks n L → (∀ b o, h0.get? b = some o → s'.heap.get? b = some o) → R (.ok (.ret .none)) s') →
      codeAny (model P w) A (.builtin "set.update.loop" ⟨[.ref S, .ref I], []⟩) R s := by
  have hSw : S ∉ wr := fun h => hSf (W.sub _ h)
  have hsub : ∀ b ∈ wr, b ∈ S :: wr := fun b hb => List.mem_cons_of_mem _ hb
  have keepM : ∀ {s s' : Shared}, Moved wr G s s' → (∀ b o, h0.get? b = some o → s.heap.get? b = some o) → ∀ b o, h0.get? b = some o → s'.heap.get? b = some o := fun hm hkp b o e =>
    hm.heap b o (fun hb => by rw [hw0 b hb] at e; cases e) (hkp b o e)
  intro k
  induction k with
  | zero =>
    intro i s hk' hi hst hkp ⟨L, es, ep, t, hS, g⟩ hR
    have hin : i = n := by omega
    subst hin
    refine codeAny_builtin F.entry_set_update_loop ?_
    rw [Around.under_plainId F.plain_set_update_loop _]
    show wpAny _ A.in1 (pyNext (.ref I) >>= _) _ _ s
    refine wpAny_bind (W.done s _ _ hst fun s' hm => ?_)
    show wpAny _ A.in1 (ret Value.none) _ _ s'
    have hkp' := keepM hm hkp
    have sub : ∀ p ∈ L, p ∈ ks := fun p hp => List.mem_of_mem_take (g.sub p hp)
    exact wpAny_pure (hR s' L es ep t (hm.mono hsub) (hS.keep (fun o e => hm.heap S o hSw e) fun p hp => isN_keep (hk p (sub p hp)) hkp') g hkp')
  | succ k ih =>
    intro i s hk' hi hst hkp ⟨L, es, ep, t, hS, g⟩ hR
    have hlt : i < n := by omega
    refine codeAny_builtin F.entry_set_update_loop ?_
    rw [Around.under_plainId F.plain_set_update_loop _]
    show wpAny _ A.in1 (pyNext (.ref I) >>= _) _ _ s
    refine wpAny_bind (W.item i s _ _ hlt hst fun v s' hP hst' hm => ?_)
    obtain ⟨p, hp, rfl⟩ := hval i v hP
    have hkp' := keepM hm hkp
    have sub : ∀ p ∈ L, p ∈ ks := fun p hp => List.mem_of_mem_take (g.sub p hp)
    have hS' : SetNR w s'.heap S L es ep t := hS.keep (fun o e => hm.heap S o hSw e) fun q hq => isN_keep (hk q (sub q hq)) hkp'
    have hx : IsN s'.heap p.2 p.1 := isN_keep (hk p (List.mem_of_getElem? hp)) hkp'
    show wpAny _ A.in1 (holding [Value.ref p.1] (setAdd S (.ref p.1)) >>= _) _ _ s'
    refine wpAny_bind (wpAny_holding ?_)
    unfold setAdd
    refine wpAny_holding ?_
    refine wpAny_bind (hashN hu hx ?_)
    refine add_at (s := { s' with toks := s'.toks + p.2.draws }) hS' hx hu (by have := g.len; omega) fun b h' L' es' ep' t' hsb hS2 c1 c2 => ?_
    have g' : GotN ks (i + 1) L' := by
      rcases Classical.em (p.2 ∈ L.map (·.2)) with c | c
      · rw [c1 c]; exact g.same hp c
      · exact g.more hp (c2 c)
    have hkp2 : ∀ b o, h0.get? b = some o → h'.get? b = some o := fun b o e => (hsb.2 b (fun z => by rw [z, hS0] at e; cases e)).trans (hkp' b o e)
    refine wpAny_pure ⟨plainId_quiet F.plain_set_update_loop _, ih (i + 1) _ (by omega) hlt (W.frame _ s' _ _ hst' (Nat.le_add_right _ _) fun b hb o e => ?_) hkp2 ⟨L', es', ep', t', hS2, g'⟩ fun s'' L2 es2 ep2 t2 hm'' hS'' g'' hkp'' => ?_⟩
    · rw [hsb.2 b (fun h : b = S => hSf (by rw [← h]; exact hb))]; exact e
    · refine hR s'' L2 es2 ep2 t2 (Moved.trans W.gtrans ((hm.mono hsub).then_heap (Nat.le_add_right _ _) fun b o hb e => ?_) hm'') hS'' g'' hkp''
      rw [hsb.2 b (fun h : b = S => hb (by rw [h]; exact List.mem_cons_self))]; exact e

set_option maxRecDepth 100000 in
set_option maxHeartbeats 3200000 in
/-- set(xs) -/
theorem call_set_nk {l : Addr} {items : Array Value} (ks : List (Addr × NestedKey)) {Q : Value → Shared → Prop} (hh : A.handled = none) (hl : s.heap.IsList l items) (hit : items.toList = ks.map fun p => Value.ref p.1)
    (hk : ∀ p ∈ ks, IsN s.heap p.2 p.1) (hfew : ks.length < 64) (hu : A.units + 3 + 8 < cLine)
    (h : ∀ (h' : Heap) (tk : Nat) L es ep t, SetNR w h' s.heap.objs.size L es ep t → GotN ks ks.length L → (∀ b o, s.heap.get? b = some o → h'.get? b = some o) → Q (.ref s.heap.objs.size) { s with heap := h', toks := tk }) :
    wpAny (model P w) A (call (.type "set") [.ref l]) Q E s := by
  have hisz : items.size = ks.length := by
    have q := congrArg List.length hit
    rw [Array.length_toList, List.length_map] at q
    exact q
  obtain ⟨c, tl, hmro⟩ := F.called_set.mro
  have hmade := F.called_set.made
  have hsub := F.called_set.sub
  refine wpAny_call (codeAny_of_tree ?_)
  show wpAny _ _ (callAny (.type "set") _) _ _ _
  refine wpAny_pure ⟨Code.quiet_builtin _ (by decide +kernel), codeAny_builtin F.entry_type_call ?_⟩
  rw [Around.under_plain (weight_type_call_type "set" [.ref l] []) rfl]
  have h1 := F.called_set.notType
  have h2 := F.called_set.canCreate
  have hct := F.typeCall_set_1 (.ref l)
  repeat (any_goals (first | assumption | wp_step))

  refine codeAny_mono (code_set_led1 (.ref l) (E := E) (Q₁ := fun obj s₁ => obj = .ref s.heap.objs.size ∧ s₁ = { s with heap := s.heap.push { cls := .type "set", dict := none, data := .set #[] 0 (.fresh 0 0 (!w.params.followText "set-order")) } }) ⟨rfl, rfl⟩) fun r s₁ hr => ?_
  cases r with
  | error e => exact hr
  | ok fl =>
    cases fl with
    | ret obj =>
      obtain ⟨rfl, rfl⟩ := hr
      have hS : (s.heap.push { cls := .type "set", dict := none, data := .set #[] 0 (.fresh 0 0 (!w.params.followText "set-order")) }).get? s.heap.objs.size = some { cls := .type "set", dict := none, data := .set #[] 0 (.fresh 0 0 (!w.params.followText "set-order")) } := Heap.get?_push_size _ rfl
      have hT : Shared.TypeIs { s with heap := s.heap.push { cls := .type "set", dict := none, data := .set #[] 0 (.fresh 0 0 (!w.params.followText "set-order")) } } (.ref s.heap.objs.size) "set" := ⟨_, hS, rfl⟩
      have hli := F.called_set.init.lookup
      have hbi := F.called_set.init.bind (.ref s.heap.objs.size)
      repeat (any_goals (first | assumption | wp_step))

      refine codeAny_mono (codeAny_call_builtin (R := wants (fun r s₂ => r = .none ∧ ∃ h' tk L es ep t, s₂ = { s with heap := h', toks := tk } ∧ SetNR w h' s.heap.objs.size L es ep t ∧ GotN ks ks.length L ∧
          (∀ b o, s.heap.get? b = some o → h'.get? b = some o)) E) F.called_set.init.plain F.entry_set_init (check_set_init_1 hT ?_)) fun r₂ s₂ hr₂ => ?_
      · obtain ⟨ol, hol, hcl, nl, hdl⟩ := hl
        obtain ⟨ocls, odict, odata, oslots⟩ := ol
        simp only at hcl hdl
        subst hcl; subst hdl
        have hol' : (s.heap.push { cls := .type "set", dict := none, data := .set #[] 0 (.fresh 0 0 (!w.params.followText "set-order")) }).get? l = some { cls := .type "list", dict := odict, data := .seq items nl, slots := oslots } := Heap.get?_push_of_some _ hol
        have hsls := F.sub_list_set
        have hslf := F.sub_list_frozenset
        have hne : (Value.type "list" == Value.type "dict") = false := by decide
        have hl1 : (s.heap.push { cls := .type "set", dict := none, data := .set #[] 0 (.fresh 0 0 (!w.params.followText "set-order")) }).IsList l items := ⟨_, hol', rfl, nl, rfl⟩
        unfold Builtin.«set.__init__» noKeywords Builtin.Frozenset.updateFrom
        generalize hPI : pyIter = PI
        wp_walk
        subst hPI

        refine wpAny_pyIter_list hl1 ?_
        refine wpAny_bind (wpAny_runValue ?_)
        have hlS : l < s.heap.objs.size := Heap.lt_size hol
        have hh3 : A.in1.in1.in1.handled = none := by simp [hh]
        have hz1 : (s.heap.push { cls := .type "set", dict := none, data := .set #[] 0 (.fresh 0 0 (!w.params.followText "set-order")) }).objs.size = s.heap.objs.size + 1 := Heap.size_push ..
        have hneI : l ≠ (s.heap.push { cls := .type "set", dict := none, data := .set #[] 0 (.fresh 0 0 (!w.params.followText "set-order")) }).objs.size := by
          rw [Heap.size_push]; exact Nat.ne_of_lt (Nat.lt_succ_of_lt hlS)
        have hSf : s.heap.objs.size ∉ [(s.heap.push { cls := .type "set", dict := none, data := .set #[] 0 (.fresh 0 0 (!w.params.followText "set-order")) }).objs.size, l] := by
          rw [Heap.size_push]; simp only [List.mem_cons, List.mem_singleton, List.not_mem_nil, or_false, not_or]
          exact ⟨Nat.ne_of_lt (Nat.lt_succ_self _), Nat.ne_of_gt hlS⟩
        have hval : ∀ (i : Nat) (v : Value), items[i]? = some v → ∃ p, ks[i]? = some p ∧ v = .ref p.1 := fun i v hv => by
          have q : items.toList[i]? = some v := by rw [Array.getElem?_toList]; exact hv
          rw [hit, List.getElem?_map] at q
          cases hq : ks[i]? with
          | none => rw [hq] at q; cases q
          | some p =>
            rw [hq] at q
            exact ⟨p, rfl, (Option.some.inj q).symm⟩
        have none_of : ∀ b, s.heap.objs.size ≤ b → s.heap.get? b = none := fun b hb => by
          cases q : s.heap.get? b with
          | none => rfl
          | some o => exact absurd (Nat.lt_of_lt_of_le (Heap.lt_size q) hb) (Nat.lt_irrefl _)
        refine set_update_nk ((Walks.list hh3 _ l hneI items).toS) s.heap.objs.size
          hSf ks hisz hfew hval s.heap hk (none_of _ (Nat.le_refl _)) (fun b hb => none_of b (by
            rw [List.mem_singleton.mp hb, Heap.size_push]
            exact Nat.le_succ _)) hu (items.size - 0) 0 _ (by omega) (Nat.zero_le _)
          ⟨⟨_, Heap.get?_push_size _ rfl, rfl, rfl⟩, (hl1.push _)⟩ (fun b o e => Heap.get?_push_of_some _ (Heap.get?_push_of_some _ e)) ?hS0 ?hR
        case hS0 =>
          have hget : ((s.heap.push { cls := .type "set", dict := none, data := .set #[] 0 (.fresh 0 0 (!w.params.followText "set-order")) }).push { cls := .type "list_iterator", data := .fields #[.ref l, .int 0 0] }).get? s.heap.objs.size
              = some { cls := .type "set", dict := none, data := .set #[] 0 (.fresh 0 0 (!w.params.followText "set-order")) } := Heap.get?_push_of_some _ hS
          exact ⟨[], #[], 0, _, setNR_fresh hget, GotN.zero ks⟩
        case hR =>
          intro s' L es ep t hm hS' g' hkp
          obtain ⟨h', g2, d', tk', os'⟩ := s'
          have eg : g2 = s.gens := hm.gens
          have ed : d' = s.drawn := hm.drawn
          have eo : os' = s.os := hm.os
          subst eg; subst ed; subst eo
          show wpAny _ _ _ _ _ _
          refine wpAny_pure ?_
          show wpAny _ _ (ret Value.none) _ _ _
          rw [hisz] at g'
          exact wpAny_pure ⟨rfl, h', tk', L, es, ep, t, rfl, hS', g', hkp⟩

      · cases r₂ with
        | error e => exact hr₂
        | ok fl₂ =>
          cases fl₂ with
          | ret r =>
            obtain ⟨rfl, h', tk, L, es, ep, t, rfl, hS', g', hk'⟩ := hr₂
            repeat (any_goals (first | assumption | wp_step))
            exact h _ _ _ _ _ _ hS' g' hk'
          | _ => exact hr₂.elim
    | _ => exact hr.elim

set_option maxRecDepth 100000 in
set_option maxHeartbeats 3200000 in
/-- set(t), t a tuple -/
theorem call_set_nkT {l : Addr} {items : Array Value} (ks : List (Addr × NestedKey)) {Q : Value → Shared → Prop} (hh : A.handled = none) (hl : s.heap.IsTuple l items) (hit : items.toList = ks.map fun p => Value.ref p.1)
    (hk : ∀ p ∈ ks, IsN s.heap p.2 p.1) (hfew : ks.length < 64) (hu : A.units + 3 + 8 < cLine)
    (h : ∀ (h' : Heap) (tk : Nat) L es ep t, SetNR w h' s.heap.objs.size L es ep t → GotN ks ks.length L → (∀ b o, s.heap.get? b = some o → h'.get? b = some o) → Q (.ref s.heap.objs.size) { s with heap := h', toks := tk }) :
    wpAny (model P w) A (call (.type "set") [.ref l]) Q E s := by
  have hisz : items.size = ks.length := by
    have q := congrArg List.length hit
    rw [Array.length_toList, List.length_map] at q
    exact q
  obtain ⟨c, tl, hmro⟩ := F.called_set.mro
  have hmade := F.called_set.made
  have hsub := F.called_set.sub
  refine wpAny_call (codeAny_of_tree ?_)
  show wpAny _ _ (callAny (.type "set") _) _ _ _
  refine wpAny_pure ⟨Code.quiet_builtin _ (by decide +kernel), codeAny_builtin F.entry_type_call ?_⟩
  rw [Around.under_plain (weight_type_call_type "set" [.ref l] []) rfl]
  have h1 := F.called_set.notType
  have h2 := F.called_set.canCreate
  have hct := F.typeCall_set_1 (.ref l)
  repeat (any_goals (first | assumption | wp_step))

  refine codeAny_mono (code_set_led1 (.ref l) (E := E) (Q₁ := fun obj s₁ => obj = .ref s.heap.objs.size ∧ s₁ = { s with heap := s.heap.push { cls := .type "set", dict := none, data := .set #[] 0 (.fresh 0 0 (!w.params.followText "set-order")) } }) ⟨rfl, rfl⟩) fun r s₁ hr => ?_
  cases r with
  | error e => exact hr
  | ok fl =>
    cases fl with
    | ret obj =>
      obtain ⟨rfl, rfl⟩ := hr
      have hS : (s.heap.push { cls := .type "set", dict := none, data := .set #[] 0 (.fresh 0 0 (!w.params.followText "set-order")) }).get? s.heap.objs.size = some { cls := .type "set", dict := none, data := .set #[] 0 (.fresh 0 0 (!w.params.followText "set-order")) } := Heap.get?_push_size _ rfl
      have hT : Shared.TypeIs { s with heap := s.heap.push { cls := .type "set", dict := none, data := .set #[] 0 (.fresh 0 0 (!w.params.followText "set-order")) } } (.ref s.heap.objs.size) "set" := ⟨_, hS, rfl⟩
      have hli := F.called_set.init.lookup
      have hbi := F.called_set.init.bind (.ref s.heap.objs.size)
      repeat (any_goals (first | assumption | wp_step))

      refine codeAny_mono (codeAny_call_builtin (R := wants (fun r s₂ => r = .none ∧ ∃ h' tk L es ep t, s₂ = { s with heap := h', toks := tk } ∧ SetNR w h' s.heap.objs.size L es ep t ∧ GotN ks ks.length L ∧
          (∀ b o, s.heap.get? b = some o → h'.get? b = some o)) E) F.called_set.init.plain F.entry_set_init (check_set_init_1 hT ?_)) fun r₂ s₂ hr₂ => ?_
      · obtain ⟨ol, hol, hcl, nl, hdl⟩ := hl
        obtain ⟨ocls, odict, odata, oslots⟩ := ol
        simp only at hcl hdl
        subst hcl; subst hdl
        have hol' : (s.heap.push { cls := .type "set", dict := none, data := .set #[] 0 (.fresh 0 0 (!w.params.followText "set-order")) }).get? l = some { cls := .type "tuple", dict := odict, data := .seq items nl, slots := oslots } := Heap.get?_push_of_some _ hol
        have hsls := F.sub_tuple_set
        have hslf := F.sub_tuple_frozenset
        have hne : (Value.type "tuple" == Value.type "dict") = false := by decide
        have hl1 : (s.heap.push { cls := .type "set", dict := none, data := .set #[] 0 (.fresh 0 0 (!w.params.followText "set-order")) }).IsTuple l items := ⟨_, hol', rfl, nl, rfl⟩
        unfold Builtin.«set.__init__» noKeywords Builtin.Frozenset.updateFrom
        generalize hPI : pyIter = PI
        wp_walk
        subst hPI

        refine wpAny_pyIter_tuple hl1 ?_
        refine wpAny_bind (wpAny_runValue ?_)
        have hlS : l < s.heap.objs.size := Heap.lt_size hol
        have hh3 : A.in1.in1.in1.handled = none := by simp [hh]
        have hz1 : (s.heap.push { cls := .type "set", dict := none, data := .set #[] 0 (.fresh 0 0 (!w.params.followText "set-order")) }).objs.size = s.heap.objs.size + 1 := Heap.size_push ..
        have hneI : l ≠ (s.heap.push { cls := .type "set", dict := none, data := .set #[] 0 (.fresh 0 0 (!w.params.followText "set-order")) }).objs.size := by
          rw [Heap.size_push]; exact Nat.ne_of_lt (Nat.lt_succ_of_lt hlS)
        have hSf : s.heap.objs.size ∉ [(s.heap.push { cls := .type "set", dict := none, data := .set #[] 0 (.fresh 0 0 (!w.params.followText "set-order")) }).objs.size, l] := by
          rw [Heap.size_push]; simp only [List.mem_cons, List.mem_singleton, List.not_mem_nil, or_false, not_or]
          exact ⟨Nat.ne_of_lt (Nat.lt_succ_self _), Nat.ne_of_gt hlS⟩
        have hval : ∀ (i : Nat) (v : Value), items[i]? = some v → ∃ p, ks[i]? = some p ∧ v = .ref p.1 := fun i v hv => by
          have q : items.toList[i]? = some v := by rw [Array.getElem?_toList]; exact hv
          rw [hit, List.getElem?_map] at q
          cases hq : ks[i]? with
          | none => rw [hq] at q; cases q
          | some p =>
            rw [hq] at q
            exact ⟨p, rfl, (Option.some.inj q).symm⟩
        have none_of : ∀ b, s.heap.objs.size ≤ b → s.heap.get? b = none := fun b hb => by
          cases q : s.heap.get? b with
          | none => rfl
          | some o => exact absurd (Nat.lt_of_lt_of_le (Heap.lt_size q) hb) (Nat.lt_irrefl _)
        refine set_update_nk ((Walks.tuple hh3 _ l hneI items).toS) s.heap.objs.size
          hSf ks hisz hfew hval s.heap hk (none_of _ (Nat.le_refl _)) (fun b hb => none_of b (by
            rw [List.mem_singleton.mp hb, Heap.size_push]
            exact Nat.le_succ _)) hu (items.size - 0) 0 _ (by omega) (Nat.zero_le _)
          ⟨⟨_, Heap.get?_push_size _ rfl, rfl, rfl⟩, (hl1.push _)⟩ (fun b o e => Heap.get?_push_of_some _ (Heap.get?_push_of_some _ e)) ?hS0 ?hR
        case hS0 =>
          have hget : ((s.heap.push { cls := .type "set", dict := none, data := .set #[] 0 (.fresh 0 0 (!w.params.followText "set-order")) }).push { cls := .type "tuple_iterator", data := .fields #[.ref l, .int 0 0] }).get? s.heap.objs.size
              = some { cls := .type "set", dict := none, data := .set #[] 0 (.fresh 0 0 (!w.params.followText "set-order")) } := Heap.get?_push_of_some _ hS
          exact ⟨[], #[], 0, _, setNR_fresh hget, GotN.zero ks⟩
        case hR =>
          intro s' L es ep t hm hS' g' hkp
          obtain ⟨h', g2, d', tk', os'⟩ := s'
          have eg : g2 = s.gens := hm.gens
          have ed : d' = s.drawn := hm.drawn
          have eo : os' = s.os := hm.os
          subst eg; subst ed; subst eo
          show wpAny _ _ _ _ _ _
          refine wpAny_pure ?_
          show wpAny _ _ (ret Value.none) _ _ _
          rw [hisz] at g'
          exact wpAny_pure ⟨rfl, h', tk', L, es, ep, t, rfl, hS', g', hkp⟩

      · cases r₂ with
        | error e => exact hr₂
        | ok fl₂ =>
          cases fl₂ with
          | ret r =>
            obtain ⟨rfl, h', tk, L, es, ep, t, rfl, hS', g', hk'⟩ := hr₂
            repeat (any_goals (first | assumption | wp_step))
            exact h _ _ _ _ _ _ hS' g' hk'
          | _ => exact hr₂.elim
    | _ => exact hr.elim
end
end Rw
end
section
set_option maxRecDepth 100000
set_option maxHeartbeats 4000000
/-! Own rules 2: sorted(..) of data in a list, a tuple, a set; min, max of a tuple; xs[i] read for xs[i] += e. -/
namespace Rw
open PySem PySem.Spec PyProof.Rows L2

/-! ### data of numbers, truths, None and tuples alone -/
mutual
def td : PyData → Bool
  | .none => true
  | .bool _ => true
  | .int _ => true
  | .tuple xs => tds xs
  | _ => false
def tds : List PyData → Bool
  | [] => true
  | x :: xs => td x && tds xs
end
mutual
theorem reads_td {h : Heap} : ∀ (d : PyData) (v : Value) (as : List Addr), td d = true → Reads h v d as → as = []
  | .none, _, _, _, r => by cases r; rfl
  | .bool _, _, _, _, r => by cases r; rfl
  | .int _, _, _, _, r => by cases r; rfl
  | .str _, _, _, t, _ => by cases t
  | .list _, _, _, t, _ => by cases t
  | .dict _, _, _, t, _ => by cases t
  | .tuple xs, _, _, t, r => by
    cases r with
    | tuple h1 h2 h3 h4 => exact readsAll_td xs _ _ (by simpa [td] using t) h4
theorem readsAll_td {h : Heap} : ∀ (ds : List PyData) (vs : List Value) (as : List Addr), tds ds = true → ReadsAll h vs ds as → as = []
  | [], _, _, _, r => by cases r; rfl
  | d :: ds, _, _, t, r => by
    cases r with
    | cons h1 h2 =>
      simp only [tds, Bool.and_eq_true] at t
      rw [reads_td d _ _ t.1 h1, readsAll_td ds _ _ t.2 h2]
      rfl
end
section
variable {P : Program} {w : World} {A : Around} {E : Value → Shared → Prop} {s : Shared}
open PySem.W in
theorem sorted_core {a : Addr} {τ : Type} {enc : τ → PyData} {Rv : Value → τ → Prop} {Gd : List τ → Prop} {Q : Value → Shared → Prop}
    (col : ∀ Q' : List Value → Shared → Prop, (∀ (s1 : Shared) vs bs, (∀ b o, s.heap.get? b = some o → s1.heap.get? b = some o) → s1.gens = s.gens → s1.os = s.os →
      EachIs Rv vs bs → EachIs (fun v b => ∃ as, Reads s1.heap v (enc b) as) vs bs → Gd bs → Q' vs s1) → wpAny (model P w) A.in1 (collect (.ref a)) Q' E s)
    (few : ∀ bs, Gd bs → bs.length ≤ sizeLine) (htd : ∀ bs, Gd bs → ∀ b ∈ bs, td (enc b) = true) (hal : ∀ bs, Gd bs → AllAlike (bs.map enc)) (hk : ∀ bs, Gd bs → Sortable (bs.map enc)) (hu : ∀ bs, Gd bs → ∀ b ∈ bs, A.units + 2 + (enc b).depth < cLine)
    (hQ : ∀ (s1 s' : Shared) p (out : Array Value) (c : Nat) bs, (∀ b o, s.heap.get? b = some o → s1.heap.get? b = some o) → s1.gens = s.gens → s1.os = s.os → (∀ b o, s1.heap.get? b = some o → s'.heap.get? b = some o) → s'.gens = s1.gens → s'.os = s1.os → s1.heap.objs.size ≤ p →
      s'.heap.get? p = some (seqObj "list" out c) → Gd bs → out.size = bs.length → EachIs Rv out.toList (bs.mergeSort (dataLe false enc)) → Q (.ref p) s') :
    wpAny (model P w) A (call (.builtin "sorted") [.ref a]) Q E s := by
  refine Calls.call_function_entry kind_sorted plain_sorted entry_sorted (args_sorted1 _) ?_
  unfold Builtin.«sorted»
  refine wpAny_bind (m := checkCount "sorted" 1 1 _) (wpAny_pure ?_)
  refine wpAny_bind (col _ fun s1 vs bs k1 g1 o1 ev er gd => ?_)
  have hvl : vs.length = bs.length := ev.length
  have hL : vs.length ≤ sizeLine := by rw [hvl]; exact few bs gd
  refine wpAny_bind (wpAny_newList ?_ hL)
  have hoL : (s1.heap.push (seqObj "list" vs.toArray 0)).get? s1.heap.objs.size = some (seqObj "list" vs.toArray 0) := Heap.get?_push_size _ rfl
  have er2 : EachIs (fun v b => ∃ as, Reads (s1.heap.push (seqObj "list" vs.toArray 0)) v (enc b) as ∧ s1.heap.objs.size ∉ as) vs bs :=
    (each_mem er).mono fun v b ⟨⟨as, r⟩, hb⟩ => ⟨as, PyProof.Rows.Reads.keeps (fun _ _ e => Heap.get?_push_of_some _ e) r, by rw [reads_td _ _ _ (htd bs gd b hb) r]; exact List.not_mem_nil⟩
  refine wpAny_bind (wpAny_holding (list_sort_data (s := { s1 with heap := s1.heap.push (seqObj "list" vs.toArray 0) }) (bs := bs) (enc := enc) hoL ev er2 (hal bs gd) (hk bs gd) (few bs gd) (fun b hb => by have := hu bs gd b hb; show A.units + 1 + 1 + _ < _; omega) fun out ho ev2 => ?_))
  obtain ⟨c, hc⟩ := sortedHeap_at (vs := vs) (out := out.toArray) hoL
  refine wpAny_pure ⟨_, rfl, hQ s1 _ s1.heap.objs.size out.toArray c bs k1 g1 o1 (fun b u q => ?_) rfl rfl (Nat.le_refl _) hc gd (by rw [List.size_toArray]; exact ho) (by simpa using ev2)⟩
  have hlt := Heap.lt_size q
  show (sortedHeap (s1.heap.push (seqObj "list" vs.toArray 0)) s1.heap.objs.size vs out.toArray).get? b = some u
  rw [sortedHeap_old (Nat.ne_of_lt hlt) (by rw [size_push']; exact Nat.lt_succ_of_lt hlt)]
  exact Heap.get?_push_of_some _ q
end

section
variable {X : Cx}
open PySem.W in
theorem vals_each {δ : Type} : ∀ (bs : List (V × δ)) (us : List Value), Vals (bs.map (·.1)) us → EachIs (fun v (b : V × δ) => RelV b.1 v) us bs
  | [], _, r => by cases r; exact .nil
  | b :: bs, _, r => by
    cases r with
    | cons r1 r2 => exact .cons r1 (vals_each bs _ r2)
open PySem.W in
theorem each_vals {δ : Type} : ∀ (bs : List (V × δ)) (us : List Value), EachIs (fun v (b : V × δ) => RelV b.1 v) us bs → Vals (bs.map (·.1)) us
  | _, _, .nil => .nil
  | _, _, .cons h t => .cons h (each_vals _ _ t)
/-- behind a builtin that laid one new list -/
theorem inv_to {pins : List (Addr × Obj)} {σ : L2.St} {H : Hp} {s s' : Shared} (I : Inv X pins σ H s) (k : ∀ b o, s.heap.get? b = some o → s'.heap.get? b = some o) (g : s'.gens = s.gens) (o : s'.os = s.os) : Inv X pins σ H s' :=
  I.call' (ch := []) o (Un.kept k) (I.hok.kept k) (by rw [g]; exact I.bare) (fun _ z => nomatch z)
theorem inv_lay {pins : List (Addr × Obj)} {σ : L2.St} {H : Hp} {s s' : Shared} {p : Addr} {xs : List V} {out : Array Value} {c : Nat} {Q : VK} (I : Inv X pins σ H s) (k : ∀ b o, s.heap.get? b = some o → s'.heap.get? b = some o) (g : s'.gens = s.gens) (o : s'.os = s.os) (hp : s.heap.objs.size ≤ p)
    (hg : s'.heap.get? p = some (seqObj "list" out c)) (hv : Vals xs out.toList) (hlen : xs.length ≤ sizeLine) (q : H p = none → Q (.ref p) (upd H p (.lst xs))) : EP X pins σ Q (.ref p) s' := by
  have hn : H p = none := I.hok.fresh hp
  have ob : ObjOk X.prog X.w (upd H p (.lst xs)) s'.heap p (.lst xs) := ⟨hlen, out.toList, c, hv, hg⟩
  exact ⟨.ref p, _, I.call' (ch := []) o (Un.laid k hp hn) (I.hok.laid k hp ob) (by rw [g]; exact I.bare) (fun _ z => nomatch z), rfl, q hn⟩
/-- sorted(xs) of alike data, xs a list or a tuple: THE sorted list -/
def rSortD {δ : Type} (enc : δ → PyData) (K : PySem.W.Frag) : List V → Hp → VK → Prop := fun vs H Q => ∃ (a : Addr) (bs : List (V × δ)), vs = [.ref a] ∧ (SqL K H a (bs.map (·.1)) ∨ SqT K H a (bs.map (·.1))) ∧ (∀ b ∈ bs, Dp K H b.1 (enc b.2)) ∧
  (∀ b ∈ bs, td (enc b.2) = true ∧ (enc b.2).depth ≤ 8) ∧ PySem.W.AllAlike (bs.map fun b => enc b.2) ∧ PySem.W.Sortable (bs.map fun b => enc b.2) ∧
  ∀ p, H p = none → Q (.ref p) (upd H p (.lst ((bs.mergeSort (PySem.W.dataLe false fun b : V × δ => enc b.2)).map (·.1))))
open PySem.W in
theorem cr_sortD {δ : Type} (enc : δ → PyData) (hu : X.A.units + 64 < cLine) : CallR X (.builtin "sorted") (rSortD enc X.K) := by
  intro pins s σ H vs us Q I r h
  obtain ⟨a, bs, rfl, hS, hD, hT, hal, hk, q⟩ := h
  rw [Vals.ref1 r]
  obtain ⟨its, rv, hseq, hz⟩ : ∃ its : List Value, Vals (bs.map (·.1)) its ∧ (∃ T o n, (T = "list" ∨ T = "tuple") ∧ s.heap.get? a = some o ∧ o.cls = .type T ∧ o.data = .seq its.toArray n) ∧ (bs.map (·.1)).length ≤ sizeLine := by
    rcases hS with hS | hS
    · obtain ⟨its, rv, pl, hz⟩ := I.list hS
      obtain ⟨o, ho, hc, n, hd⟩ := pl.isList
      exact ⟨its, rv, ⟨_, o, n, .inl rfl, ho, hc, hd⟩, hz⟩
    · obtain ⟨its, rv, ⟨o, ho, hc, n, hd⟩, hz⟩ := I.tuple hS
      exact ⟨its, rv, ⟨_, o, n, .inr rfl, ho, hc, hd⟩, hz⟩
  obtain ⟨T, o, n, hT2, ho, hc, hd⟩ := hseq
  have hl := rv.length
  have ev := vals_each bs its rv
  have er : EachIs (fun v (b : V × δ) => ∃ as, Reads s.heap v (enc b.2) as) its bs := (each_mem ev).mono fun v b ⟨r1, hb⟩ => Dp.reads I _ _ _ (hD b hb) r1
  refine sorted_core (P := X.prog) (w := X.w) (enc := fun b : V × δ => enc b.2) (Rv := fun v b => RelV b.1 v) (Gd := fun cs => cs = bs) (fun Q' h => ?_) (fun cs e => ?_) (fun cs e b hb => ?_) (fun cs e => ?_) (fun cs e => ?_) (fun cs e b hb => ?_) fun s1 s' p out c cs k1 g1 o1 k g oo hp hg e hsz eo => ?_
  · refine wpAny_collect_seq a hT2 ho hc hd (fun h' hk' => ?_) (by rw [List.size_toArray]; omega)
    have e : its.toArray.toList = its := by simp
    rw [e]
    exact h { s with heap := h' } its bs hk' rfl rfl ev (er.mono fun v b ⟨as, r⟩ => ⟨as, PyProof.Rows.Reads.keeps hk' r⟩) rfl
  · subst e
    rw [List.length_map] at hz
    exact hz
  · subst e; exact (hT b hb).1
  · subst e; exact hal
  · subst e; exact hk
  · subst e; have := (hT b hb).2; omega
  · subst e
    exact inv_lay (inv_to I k1 g1 o1) k g oo hp hg (each_vals _ _ eo) (by rw [List.length_map, List.length_mergeSort]; rw [List.length_map] at hz; exact hz) fun hn => q p hn

/-! ### a set of nested tuples -/
mutual
theorem nested_of {s : Shared} {pins : List (Addr × Obj)} {σ : L2.St} {H : Hp} (I : Inv X pins σ H s) : ∀ (k : NestedKey) (v : V) (u : Value), Dp X.K H v k.data → RelV v u → NestedIs s.heap k u
  | .none, _, _, h, r => by
    cases h
    cases r
    exact .none
  | .num i, _, _, h, r => by
    cases h
    obtain ⟨t, rfl⟩ := r
    exact .int i t
  | .text x, _, _, h, r => by
    cases h
    obtain ⟨t, rfl⟩ := r
    exact .text x t
  | .tup ks, _, _, h, r => by
    cases h with
    | tup hs ha =>
      cases r
      obtain ⟨its, rv, ⟨o, ho, hc, n, hd⟩, _⟩ := I.tuple hs
      exact .tup ho hc hd (nesteds_of I ks _ its ha rv)
theorem nesteds_of {s : Shared} {pins : List (Addr × Obj)} {σ : L2.St} {H : Hp} (I : Inv X pins σ H s) : ∀ (ks : List NestedKey) (vs : List V) (us : List Value), DpAll X.K H vs (NestedKey.datas ks) → Vals vs us → NestedAll s.heap ks us
  | [], _, _, h, r => by
    cases h
    cases r
    exact .nil
  | k :: ks, _, _, h, r => by
    cases h with
    | cons h1 h2 =>
      cases r with
      | cons r1 r2 => exact .cons (nested_of I k _ _ h1 r1) (nesteds_of I ks _ _ h2 r2)
end
/-- a key that may go into such a set, and stands at b -/
def KeyAt (K : PySem.W.Frag) (H : Hp) (p : Addr × NestedKey) : Prop := Dp K H (.ref p.1) p.2.data ∧ p.2.depth ≤ 8 ∧ noText p.2 = true
theorem KeyAt.isN {s : Shared} {pins : List (Addr × Obj)} {σ : L2.St} {H : Hp} (I : Inv X pins σ H s) {p : Addr × NestedKey} (h : KeyAt X.K H p) : IsN s.heap p.2 p.1 := ⟨nested_of I _ _ _ h.1 rfl, h.2⟩
/-- the set at a, without the tuples themselves -/
structure SetN0 (w : World) (h : Heap) (a : Addr) (L : List (Addr × NestedKey)) : Prop where
  ex : ∃ (es : Array (Int × Value)) (ep : Nat) (t : SetTable), (∃ o, h.get? a = some o ∧ o.ExactSet ∧ o.data = .set es ep t) ∧ es.toList = rowsN w L ∧ TabOk t (L.map fun p => nhash w p.2) ∧ (L.map (·.2)).Nodup ∧ t.plain = true ∧
    (w.params.followText "set-order" = true ∨ t.led = true) ∧ L.length * 5 < t.mask * 3 ∧ L.length < 64
def SetNO (w : World) (a : Addr) (L : List (Addr × NestedKey)) : HO := .ext fun h => SetN0 w h a L
theorem SetNR.t0 {w : World} {h : Heap} {a : Addr} {L : List (Addr × NestedKey)} {es : Array (Int × Value)} {ep : Nat} {t : SetTable} (R : SetNR w h a L es ep t) : SetN0 w h a L :=
  ⟨es, ep, t, R.ob, R.rows, R.tab, R.nd, R.plain, R.led, R.room, R.few⟩
theorem SetN0.full {w : World} {h : Heap} {a : Addr} {L : List (Addr × NestedKey)} (R : SetN0 w h a L) (ht : ∀ p ∈ L, IsN h p.2 p.1) : ∃ es ep t, SetNR w h a L es ep t := by
  obtain ⟨es, ep, t, h1, h2, h3, h4, h5, h6, h7, h8⟩ := R.ex
  exact ⟨es, ep, t, h1, h2, h3, h4, ht, h5, h6, h7, h8⟩
theorem setNO_new {P : Program} {w : World} {H : Hp} {h : Heap} {a : Addr} {L : List (Addr × NestedKey)} (R : SetN0 w h a L) : ObjOk P w H h a (SetNO w a L) := by
  have ⟨es, ep, t, ⟨o, ho, r⟩, q⟩ := R.ex
  refine ⟨R, ⟨o, ho⟩, fun h1 h2 p k => ?_⟩
  have ⟨es', ep', t', ⟨o', ho', r'⟩, q'⟩ := SetN0.ex p
  exact ⟨es', ep', t', ⟨o', k o' ho', r'⟩, q'⟩
theorem refsN_of_vals : ∀ {ks : List (Addr × NestedKey)} {us : List Value}, Vals (ks.map fun p => V.ref p.1) us → us = ks.map fun p => Value.ref p.1
  | [], _, .nil => rfl
  | p :: ks, _, .cons r t => by
    cases r
    rw [refsN_of_vals t] <;> rfl
theorem valsN_of_refs : ∀ (ks : List (Addr × NestedKey)), Vals (ks.map fun p => V.ref p.1) (ks.map fun p => Value.ref p.1)
  | [] => .nil
  | p :: ks => .cons rfl (valsN_of_refs ks)
/-- set(xs), xs a list or a tuple of such tuples -/
def rSetN (K : PySem.W.Frag) (w : World) : List V → Hp → VK → Prop := fun xs H Q => ∃ (l : Addr) (ks : List (Addr × NestedKey)), xs = [V.ref l] ∧ (SqL K H l (ks.map fun p => V.ref p.1) ∨ SqT K H l (ks.map fun p => V.ref p.1)) ∧ (∀ p ∈ ks, KeyAt K H p) ∧ ks.length < 64 ∧
  ∀ a L, H a = none → (∀ p ∈ L, p ∈ ks) → (∀ p ∈ ks, p.2 ∈ L.map (·.2)) → (L.map (·.2)).Nodup → Q (.ref a) (upd H a (SetNO w a L))
theorem cr_setN (hc : X.calm = true) (hu : X.A.units + 64 < cLine) : CallR X (.type "set") (rSetN X.K X.w) := by
  intro pins s σ H xs us Q I r h
  obtain ⟨l, ks, rfl, hl, hk, hf, q⟩ := h
  rw [Vals.ref1 r]
  have hn : H s.heap.objs.size = none := I.hok.fresh (Nat.le_refl _)
  have fin : ∀ (h' : Heap) (tk : Nat) L es ep t, SetNR X.w h' s.heap.objs.size L es ep t → GotN ks ks.length L → (∀ b o, s.heap.get? b = some o → h'.get? b = some o) → EP X pins σ Q (.ref s.heap.objs.size) { s with heap := h', toks := tk } := by
    intro h' tk L es ep t R g k
    refine ⟨.ref s.heap.objs.size, upd H s.heap.objs.size (SetNO X.w s.heap.objs.size L), I.laid (t' := tk) k (Nat.le_refl _) (setNO_new R.t0), rfl, q _ L hn (fun p hp => ?_) (fun p hp => ?_) R.nd⟩
    · exact List.mem_of_mem_take (g.sub p hp)
    · exact g.all p (by rw [List.take_length]; exact hp)
  rcases hl with hl | hl
  · obtain ⟨its, rv, pl, hz⟩ := I.list hl
    exact call_set_nk (P := X.prog) (w := X.w) ks (I.ok.hd hc) pl.isList (by simpa using refsN_of_vals rv) (fun p hp => (hk p hp).isN I) hf (by omega) fin
  · obtain ⟨its, rv, pl, hz⟩ := I.tuple hl
    exact call_set_nkT (P := X.prog) (w := X.w) ks (I.ok.hd hc) pl (by simpa using refsN_of_vals rv) (fun p hp => (hk p hp).isN I) hf (by omega) fin
/-- sorted(s), s such a set -/
def rSortN (K : PySem.W.Frag) (w : World) : List V → Hp → VK → Prop := fun vs H Q => ∃ (a : Addr) (L : List (Addr × NestedKey)), vs = [V.ref a] ∧ H a = some (SetNO w a L) ∧ (∀ p ∈ L, KeyAt K H p) ∧ (∀ p ∈ L, td p.2.data = true ∧ p.2.data.depth ≤ 8) ∧
  PySem.W.AllAlike (L.map fun p => p.2.data) ∧ PySem.W.Sortable (L.map fun p => p.2.data) ∧
  ∀ (L' : List (Addr × NestedKey)) (p : Addr), L'.Perm L → L'.Pairwise (fun q r => PySem.W.dataLe false (fun p : Addr × NestedKey => p.2.data) q r = true) → H p = none → Q (.ref p) (upd H p (.lst (L'.map fun q => V.ref q.1)))
end
section
variable {P : Program} {w : World} {A : Around} {E : Value → Shared → Prop} {s : Shared}
open PySem.W in
theorem each_refs : ∀ (L : List (Addr × NestedKey)), EachIs (fun (v : Value) (q : Addr × NestedKey) => v = .ref q.1) (L.map fun q => Value.ref q.1) L
  | [] => .nil
  | _ :: L => .cons rfl (each_refs L)
open PySem.W in
theorem refs_each : ∀ {vs : List Value} {L : List (Addr × NestedKey)}, EachIs (fun (v : Value) (q : Addr × NestedKey) => v = .ref q.1) vs L → vs = L.map fun q => Value.ref q.1
  | _, _, .nil => rfl
  | _, _, .cons h t => by rw [h, refs_each t]; rfl
/-- what stands for a permutation of a set's rows is a permutation of them -/
theorem perm_rows {h : Heap} {L : List (Addr × NestedKey)} (tup : ∀ p ∈ L, IsN h p.2 p.1) (nd : (L.map (·.2)).Nodup) {vs : List Value} (pm : vs.Perm (L.map fun q => Value.ref q.1)) : ∃ L1 : List (Addr × NestedKey), vs = L1.map (fun q => Value.ref q.1) ∧ L1.Perm L := by
  have ord : ∀ vs : List Value, (∀ v ∈ vs, ∃ q ∈ L, v = Value.ref q.1) → ∃ L1 : List (Addr × NestedKey), vs = L1.map (fun q => Value.ref q.1) ∧ ∀ q ∈ L1, q ∈ L := by
    intro vs
    induction vs with
    | nil => intro _; exact ⟨[], rfl, fun q hq => (by cases hq)⟩
    | cons v vs ih =>
      intro hv
      obtain ⟨q, hq, e⟩ := hv v List.mem_cons_self
      obtain ⟨L1, e1, hs⟩ := ih fun u hu => hv u (List.mem_cons_of_mem _ hu)
      refine ⟨q :: L1, by rw [List.map_cons, e, e1], fun r hr => ?_⟩
      rcases List.mem_cons.mp hr with z | z
      · rw [z]; exact hq
      · exact hs r z
  obtain ⟨L1, e1, hs⟩ := ord vs fun v hv => by
    obtain ⟨q, hq, e⟩ := List.mem_map.mp (pm.mem_iff.mp hv)
    exact ⟨q, hq, e.symm⟩
  refine ⟨L1, e1, ?_⟩
  have one : ∀ q ∈ L, ∀ r ∈ L, q.1 = r.1 → q = r := fun q hq r hr e => by
    have a1 := tup q hq
    have a2 := tup r hr
    rw [e] at a1
    exact Prod.ext e (a1.inj a2)
  have nL : L.Nodup := nodup_of_map nd
  have nref : (L.map fun q => Value.ref q.1).Nodup := by
    refine List.pairwise_map.mpr (List.Pairwise.imp_of_mem (fun {q r} hq hr hne e => ?_) nL)
    injection e with e
    exact hne (one q hq r hr e)
  rw [e1] at pm
  have n1 : L1.Nodup := nodup_of_map (pm.nodup_iff.mpr nref)
  refine (List.perm_ext_iff_of_nodup n1 nL).mpr fun q => ⟨hs q, fun hq => ?_⟩
  have hm : Value.ref q.1 ∈ L1.map (fun q => Value.ref q.1) := pm.mem_iff.mpr (List.mem_map.mpr ⟨q, hq, rfl⟩)
  obtain ⟨r, hr, e⟩ := List.mem_map.mp hm
  injection e with e
  rw [← one r (hs r hr) q hq e]
  exact hr
end
section
variable {X : Cx}
theorem dataLe_total {τ : Type} (enc : τ → PyData) : PySem.W.TotalLe (PySem.W.dataLe false enc) := PySem.W.sortLe_total (listOrd itemOrd) false fun b => PySem.W.keyToks (enc b)
open PySem.W in
theorem cr_sortN (hc : X.calm = true) (hu : X.A.units + 64 < cLine) : CallR X (.builtin "sorted") (rSortN X.K X.w) := by
  intro pins s σ H vs us Q I r h
  obtain ⟨a, L, rfl, ha, hk, ht, hal, hso, q⟩ := h
  have R0 : SetN0 X.w s.heap a L := (I.hok a _ ha).1
  have tup : ∀ p ∈ L, IsN s.heap p.2 p.1 := fun p hp => (hk p hp).isN I
  obtain ⟨es, ep, t, R⟩ := R0.full tup
  rw [Vals.ref1 r]
  obtain ⟨o, ho, hex, hd⟩ := R.ob
  have hsz := R.size
  have hfew := R.few
  have hes : es.toList.map (·.2) = L.map fun q => Value.ref q.1 := by
    rw [R.rows]
    unfold rowsN
    rw [List.map_map] <;> rfl
  have rd : ∀ p ∈ L, ∃ as, Reads s.heap (.ref p.1) p.2.data as := fun p hp => Dp.reads I _ _ _ (hk p hp).1 rfl
  refine sorted_core (P := X.prog) (w := X.w) (enc := fun b : Addr × NestedKey => b.2.data) (Rv := fun v b => v = .ref b.1) (Gd := fun cs => cs.Perm L) (fun Q' h => ?_) (fun cs e => ?_) (fun cs e b hb => ?_) (fun cs e => ?_) (fun cs e => ?_) (fun cs e b hb => ?_) fun s1 s' p out c cs k1 g1 o1 k g oo hp hg e hsz eo => ?_
  · refine collect_set (A := X.A.in1) (I.ok.hd hc) ⟨o, ho, hex.1, hd⟩ R.fits (by unfold scanBound; omega) R.tab.ris R.led fun s1 vs k1 hz g1 o1 pm => ?_
    rw [hes] at pm
    obtain ⟨L1, e1, p1⟩ := perm_rows tup R.nd pm
    subst e1
    exact h s1 _ L1 k1 g1 o1 (each_refs L1) ((each_mem (each_refs L1)).mono fun v b ⟨e, hb⟩ => by
      obtain ⟨as, r⟩ := rd b (p1.mem_iff.mp hb)
      subst e
      exact ⟨as, PyProof.Rows.Reads.keeps k1 r⟩) p1
  · rw [e.length_eq, sizeLine_eq]; omega
  · exact (ht b (e.mem_iff.mp hb)).1
  · intro d h1 d' h2
    exact hal d ((e.map _).mem_iff.mp h1) d' ((e.map _).mem_iff.mp h2)
  · rcases hso with z | z
    · exact .inl fun d h1 => z d ((e.map _).mem_iff.mp h1)
    · exact .inr fun d h1 => z d ((e.map _).mem_iff.mp h1)
  · have := (ht b (e.mem_iff.mp hb)).2; omega
  · have e2 := refs_each eo
    refine inv_lay (inv_to I k1 g1 o1) k g oo hp hg (by rw [e2]; exact valsN_of_refs _) (by rw [List.length_map, List.length_mergeSort, e.length_eq, sizeLine_eq]; omega) fun hn => q _ p ((List.mergeSort_perm cs _).trans e) (sort_pairwise (dataLe_total _) cs) hn

/-! ### min, max of a tuple of two whole numbers -/
def rMin2T (K : PySem.W.Frag) : List V → Hp → VK → Prop := fun vs H Q => ∃ (a : Addr) (i j : Int), vs = [V.ref a] ∧ SqT K H a [.int i, .int j] ∧ Q (.int (min i j)) H
def rMax2T (K : PySem.W.Frag) : List V → Hp → VK → Prop := fun vs H Q => ∃ (a : Addr) (i j : Int), vs = [V.ref a] ∧ SqT K H a [.int i, .int j] ∧ Q (.int (max i j)) H
open PySem.W in
theorem alike2 (i j : Int) : AlikeAll [PyData.int i, PyData.int j] := by
  constructor
  · intro x hx y hy
    simp only [List.mem_cons, List.not_mem_nil, or_false] at hx hy
    rcases hx with rfl | rfl <;> rcases hy with rfl | rfl <;> simp [alike]
  · intro x hx
    simp only [List.mem_cons, List.not_mem_nil, or_false] at hx
    rcases hx with rfl | rfl <;> simp
open PySem.W in
theorem cr_min2T (hc : X.calm = true) (hu : X.A.units + 64 < cLine) : CallR X (.builtin "min") (rMin2T X.K) := by
  intro pins s σ H vs us Q I r h
  obtain ⟨a, i, j, rfl, hs, q⟩ := h
  rw [Vals.ref1 r]
  obtain ⟨its, rv, ht, hz⟩ := I.tuple hs
  obtain ⟨t, u, e⟩ := Vals.int2 rv
  subst e
  refine min_tuple_data (x := .int i) (xs := [.int j]) (as := [] ++ ([] ++ [])) (I.ok.hd hc) (show s.heap.IsTuple a _ from ht) (.cons (.int _ _) (.cons (.int _ _) .nil)) (alike2 i j) (by simp [PyData.depthAll, PyData.depth]; omega) fun n v h' tk bs hv hr hk => ?_
  have e : minD (.int i) [.int j] = .int (min i j) := minD_ints i [j]
  rw [e] at hr
  cases hr
  exact ⟨.int _, H, I.kept hk, ⟨_, rfl⟩, q⟩
open PySem.W in
theorem cr_max2T (hc : X.calm = true) (hu : X.A.units + 64 < cLine) : CallR X (.builtin "max") (rMax2T X.K) := by
  intro pins s σ H vs us Q I r h
  obtain ⟨a, i, j, rfl, hs, q⟩ := h
  rw [Vals.ref1 r]
  obtain ⟨its, rv, ht, hz⟩ := I.tuple hs
  obtain ⟨t, u, e⟩ := Vals.int2 rv
  subst e
  refine max_tuple_data (x := .int i) (xs := [.int j]) (as := [] ++ ([] ++ [])) (I.ok.hd hc) (show s.heap.IsTuple a _ from ht) (.cons (.int _ _) (.cons (.int _ _) .nil)) (alike2 i j) (by simp [PyData.depthAll, PyData.depth]; omega) fun n v h' tk bs hv hr hk => ?_
  have e : maxD (.int i) [.int j] = .int (max i j) := maxD_ints i [j]
  rw [e] at hr
  cases hr
  exact ⟨.int _, H, I.kept hk, ⟨_, rfl⟩, q⟩
/-- xs[i] ahead of xs[i] += e -/
theorem pget_list : PGet X (fun o i H Q => ∃ (p : Addr) (xs : List V) (j : Nat) (v : V), o = .ref p ∧ i = .int (j : Int) ∧ SqL X.K H p xs ∧ xs[j]? = some v ∧ Q v H) := by
  intro pins s σ H o i ov iv Q I ro ri h
  obtain ⟨p, xs, j, v, rfl, rfl, hs, hv, q⟩ := h
  cases ro
  obtain ⟨t, rfl⟩ := ri
  obtain ⟨its, r, pl, hz⟩ := I.list hs
  obtain ⟨u, hu, ru⟩ := r.get hv
  have hj : j < xs.length := (List.getElem?_eq_some_iff.mp hv).1
  have hn := line63
  exact wpAny_getItem_list pl.isList (Int.natCast_nonneg j) (by omega) (by simpa using hu) ⟨v, H, I, ru, q⟩
end
end Rw
end
section
set_option maxRecDepth 100000
set_option maxHeartbeats 4000000
/-! What stands in the heap, typed; loops and comprehensions over typed sources; a def's summary. -/
namespace Rw
open PySem PySem.Spec PyProof.Rows L2

/-! ### heaps -/
/-- tuples stay -/
def Tk (H H' : Hp) : Prop := ∀ a xs, Rd H a (.tup xs) → Rd H' a (.tup xs)
theorem Tk.refl (H : Hp) : Tk H H := fun _ _ h => h
theorem Tk.trans {H H1 H2 : Hp} (a : Tk H H1) (b : Tk H1 H2) : Tk H H2 := fun x xs h => b x xs (a x xs h)
theorem rd_same {H H' : Hp} {a : Addr} {u : HO} (e : Same H H') (h : Rd H a u) : Rd H' a u := by
  rcases h with h | ⟨o, h⟩
  · exact .inl (e _ _ h)
  · exact .inr ⟨o, e _ _ h⟩
theorem tk_same {H H' : Hp} (e : Same H H') : Tk H H' := fun a xs h => rd_same e h
theorem Tk.seq {K : PySem.W.Frag} {H H' : Hp} {a : Addr} {xs : List V} (e : Tk H H') (h : SqT K H a xs) : SqT K H' a xs := by
  rcases h with h | h
  · exact .inl (e _ _ h)
  · exact .inr h
theorem same_new {H : Hp} {p : Addr} {o : HO} (h : H p = none) : Same H (upd H p o) := fun b x e => by
  rw [upd_ne (ne_of_none e h)]
  exact e
/-- an object that the older heap doesn't know may change -/
theorem same_mut {H H' : Hp} {p : Addr} {o : HO} (e : Same H H') (h : H p = none) : Same H (upd H' p o) := fun a u ha => by
  rw [upd_ne (ne_of_none ha h)]
  exact e a u ha
/-- a list may change -/
theorem tk_lst {H : Hp} {p : Addr} {ys : List V} {o : HO} (h : H p = some (.lst ys)) : Tk H (upd H p o) := fun a xs r => by
  have ne : a ≠ p := by
    rintro rfl
    rcases r with r | ⟨o, r⟩ <;> (rw [h] at r; cases r)
  rcases r with r | ⟨o, r⟩
  · exact .inl (by rw [upd_ne ne]; exact r)
  · exact .inr ⟨o, by rw [upd_ne ne]; exact r⟩
/-- all but the objects of S are as they were -/
def SameBut (S : Addr → Prop) (H H' : Hp) : Prop := ∀ b o, ¬ S b → H b = some o → H' b = some o
theorem SameBut.of {S : Addr → Prop} {H H' : Hp} (e : Same H H') : SameBut S H H' := fun b o _ h => e b o h
theorem SameBut.trans {S : Addr → Prop} {H H1 H2 : Hp} (a : SameBut S H H1) (b : SameBut S H1 H2) : SameBut S H H2 := fun x o n h => b x o n (a x o n h)
theorem SameBut.refl {S : Addr → Prop} (H : Hp) : SameBut S H H := fun _ _ _ h => h
theorem SameBut.mono {S S' : Addr → Prop} {H H' : Hp} (h : SameBut S H H') (m : ∀ b, S b → S' b) : SameBut S' H H' := fun b o n e => h b o (fun s => n (m b s)) e

/-! ### lists that go together -/
section
variable {α β : Type} {F : α → β → Prop}
theorem paired_at : ∀ {xs : List α} {ys : List β} {i : Nat} {x : α}, Paired F xs ys → xs[i]? = some x → ∃ y, ys[i]? = some y ∧ F x y
  | _, _, _, _, .nil, e => by simp at e
  | _, _, 0, _, .cons r _, e => by simp at e; subst e; exact ⟨_, rfl, r⟩
  | _, _, i + 1, x, .cons _ t, e => by
    obtain ⟨y, h1, h2⟩ := paired_at (i := i) (x := x) t (by simpa using e)
    exact ⟨y, by simpa using h1, h2⟩
theorem paired_at' : ∀ {xs : List α} {ys : List β} {i : Nat} {y : β}, Paired F xs ys → ys[i]? = some y → ∃ x, xs[i]? = some x ∧ F x y
  | _, _, _, _, .nil, e => by simp at e
  | _, _, 0, _, .cons r _, e => by simp at e; subst e; exact ⟨_, rfl, r⟩
  | _, _, i + 1, x, .cons _ t, e => by
    obtain ⟨y, h1, h2⟩ := paired_at' (i := i) (y := x) t (by simpa using e)
    exact ⟨y, by simpa using h1, h2⟩
theorem paired_app : ∀ {xs xs' : List α} {ys ys' : List β}, Paired F xs ys → Paired F xs' ys' → Paired F (xs ++ xs') (ys ++ ys')
  | _, _, _, _, .nil, s => s
  | _, _, _, _, .cons r t, s => .cons r (paired_app t s)
theorem paired_take (n : Nat) : ∀ {xs : List α} {ys : List β}, Paired F xs ys → Paired F (xs.take n) (ys.take n) := by
  induction n with
  | zero => intros; exact .nil
  | succ n ih =>
    intro xs ys h
    cases h with
    | nil => exact .nil
    | cons r t => exact .cons r (ih t)
theorem paired_drop (n : Nat) : ∀ {xs : List α} {ys : List β}, Paired F xs ys → Paired F (xs.drop n) (ys.drop n) := by
  induction n with
  | zero => intro _ _ h; exact h
  | succ n ih =>
    intro xs ys h
    cases h with
    | nil => exact .nil
    | cons r t => exact ih t
theorem paired_map {γ : Type} {G : α → γ → Prop} {f : β → γ} (h : ∀ a b, F a b → G a (f b)) : ∀ {xs : List α} {ys : List β}, Paired F xs ys → Paired G xs (ys.map f)
  | _, _, .nil => .nil
  | _, _, .cons r t => .cons (h _ _ r) (paired_map h t)
theorem paired_self {f : β → α} (h : ∀ b, F (f b) b) : ∀ ys : List β, Paired F (ys.map f) ys
  | [] => .nil
  | y :: ys => .cons (h y) (paired_self h ys)
theorem paired_nil {ys : List β} (h : Paired F [] ys) : ys = [] := by cases h; rfl
theorem paired_nil' {xs : List α} (h : Paired F xs []) : xs = [] := by cases h; rfl
/-- as pairs -/
theorem paired_zip : ∀ {xs : List α} {ys : List β}, Paired F xs ys → ∃ zs : List (α × β), xs = zs.map (·.1) ∧ ys = zs.map (·.2) ∧ ∀ z ∈ zs, F z.1 z.2
  | _, _, .nil => ⟨[], rfl, rfl, fun _ h => nomatch h⟩
  | _, _, .cons (a := a) (b := b) r t => by
    obtain ⟨zs, h1, h2, h3⟩ := paired_zip t
    refine ⟨(a, b) :: zs, by rw [h1]; rfl, by rw [h2]; rfl, fun z hz => ?_⟩
    rcases List.mem_cons.mp hz with e | hz
    · rw [e]; exact r
    · exact h3 z hz
theorem paired_of_zip : ∀ {zs : List (α × β)}, (∀ z ∈ zs, F z.1 z.2) → Paired F (zs.map (·.1)) (zs.map (·.2))
  | [], _ => .nil
  | z :: zs, h => .cons (h z List.mem_cons_self) (paired_of_zip fun w hw => h w (List.mem_cons_of_mem _ hw))
end

/-! ### typed values -/
section
variable (K : PySem.W.Frag)
def IsTie (H : Hp) (v : V) (e : Tie) : Prop := ∃ a, v = .ref a ∧ SqT K H a [.int (e.1 : Int), .int (e.2 : Int)]
def IsTies (H : Hp) (v : V) (l : List Tie) : Prop := ∃ a xs, v = .ref a ∧ SqT K H a xs ∧ Paired (IsTie K H) xs l
def IsWeb (H : Hp) (v : V) (W : Web) : Prop := ∃ a u, v = .ref a ∧ SqT K H a [.int (W.1 : Int), u] ∧ IsTies K H u W.2
def IsLine (H : Hp) (v : V) (t : List Bool) : Prop := ∃ a, v = .ref a ∧ SqT K H a (t.map V.bl)
def IsNats (H : Hp) (v : V) (ns : List Nat) : Prop := ∃ a, v = .ref a ∧ SqT K H a (ns.map fun n : Nat => V.int (n : Int))
end
def IsNat (_ : Hp) (v : V) (n : Nat) : Prop := v = .int (n : Int)
def IsBool (_ : Hp) (v : V) (b : Bool) : Prop := v = .bl b
section
variable {K : PySem.W.Frag} {H H' : Hp} {v : V}
theorem IsTie.k {e : Tie} (t : Tk H H') (h : IsTie K H v e) : IsTie K H' v e := by
  obtain ⟨a, e1, h⟩ := h
  exact ⟨a, e1, t.seq h⟩
theorem ties_k {xs : List V} {l : List Tie} (t : Tk H H') (h : Paired (IsTie K H) xs l) : Paired (IsTie K H') xs l := Paired.mapP h fun _ _ q => q.k t
theorem IsTies.k {l : List Tie} (t : Tk H H') (h : IsTies K H v l) : IsTies K H' v l := by
  obtain ⟨a, xs, e1, h, p⟩ := h
  exact ⟨a, xs, e1, t.seq h, ties_k t p⟩
theorem IsWeb.k {W : Web} (t : Tk H H') (h : IsWeb K H v W) : IsWeb K H' v W := by
  obtain ⟨a, u, e1, h, p⟩ := h
  exact ⟨a, u, e1, t.seq h, p.k t⟩
theorem IsLine.k {l : List Bool} (t : Tk H H') (h : IsLine K H v l) : IsLine K H' v l := by
  obtain ⟨a, e1, h⟩ := h
  exact ⟨a, e1, t.seq h⟩
theorem IsNats.k {l : List Nat} (t : Tk H H') (h : IsNats K H v l) : IsNats K H' v l := by
  obtain ⟨a, e1, h⟩ := h
  exact ⟨a, e1, t.seq h⟩
end

/-! ### as data -/
def eTie (e : Tie) : PyData := .tuple [.int (e.1 : Int), .int (e.2 : Int)]
def eTies (l : List Tie) : PyData := .tuple (l.map eTie)
def eWeb (W : Web) : PyData := .tuple [.int (W.1 : Int), eTies W.2]
def eLine (t : List Bool) : PyData := .tuple (t.map PyData.bool)
section
variable {K : PySem.W.Frag} {H : Hp} {v : V}
theorem IsTie.dp {e : Tie} (h : IsTie K H v e) : Dp K H v (eTie e) := by
  obtain ⟨a, rfl, h⟩ := h
  exact .tup h (.cons (.int _) (.cons (.int _) .nil))
theorem dpAll_of {τ : Type} {R : V → τ → Prop} {enc : τ → PyData} (h : ∀ v t, R v t → Dp K H v (enc t)) : ∀ {xs : List V} {ts : List τ}, Paired R xs ts → DpAll K H xs (ts.map enc)
  | _, _, .nil => .nil
  | _, _, .cons r t => .cons (h _ _ r) (dpAll_of h t)
theorem IsTies.dp {l : List Tie} (h : IsTies K H v l) : Dp K H v (eTies l) := by
  obtain ⟨a, xs, rfl, h, p⟩ := h
  exact .tup h (dpAll_of (fun _ _ q => q.dp) p)
theorem IsWeb.dp {W : Web} (h : IsWeb K H v W) : Dp K H v (eWeb W) := by
  obtain ⟨a, u, rfl, h, p⟩ := h
  exact .tup h (.cons (.int _) (.cons p.dp .nil))
theorem dpAll_bools : ∀ t : List Bool, DpAll K H (t.map V.bl) (t.map PyData.bool)
  | [] => .nil
  | b :: t => .cons (.bl b) (dpAll_bools t)
theorem IsLine.dp {t : List Bool} (h : IsLine K H v t) : Dp K H v (eLine t) := by
  obtain ⟨a, rfl, h⟩ := h
  exact .tup h (dpAll_bools t)
end
theorem eqv_list {τ : Type} [DecidableEq τ] {enc : τ → PyData} (h : ∀ a b, PyData.eqv (enc a) (enc b) = decide (a = b)) : ∀ xs ys : List τ, PyData.eqvAll (xs.map enc) (ys.map enc) = decide (xs = ys)
  | [], [] => by simp [PyData.eqvAll]
  | [], _ :: _ => by simp [PyData.eqvAll]
  | _ :: _, [] => by simp [PyData.eqvAll]
  | x :: xs, y :: ys => by
    rw [List.map_cons, List.map_cons, PyData.eqvAll, h, eqv_list h xs ys]
    rw [Bool.eq_iff_iff]; simp
theorem eqv_tie (a b : Tie) : PyData.eqv (eTie a) (eTie b) = decide (a = b) := by
  obtain ⟨x, y⟩ := a
  obtain ⟨z, u⟩ := b
  simp only [eTie, PyData.eqv, PyData.eqvAll, Bool.and_true]
  rw [Bool.eq_iff_iff]; simp; omega
theorem eqv_ties (a b : List Tie) : PyData.eqv (eTies a) (eTies b) = decide (a = b) := by
  simp only [eTies, PyData.eqv]
  exact eqv_list eqv_tie a b
theorem eqv_web (a b : Web) : PyData.eqv (eWeb a) (eWeb b) = decide (a = b) := by
  obtain ⟨x, y⟩ := a
  obtain ⟨z, u⟩ := b
  simp only [eWeb, PyData.eqv, PyData.eqvAll, Bool.and_true, eqv_ties]
  rw [Bool.eq_iff_iff]; simp; omega
theorem eqv_bool (a b : Bool) : PyData.eqv (.bool a) (.bool b) = decide (a = b) := by simp [PyData.eqv]; cases a <;> cases b <;> rfl
theorem eqv_line (a b : List Bool) : PyData.eqv (eLine a) (eLine b) = decide (a = b) := by
  simp only [eLine, PyData.eqv]
  exact eqv_list eqv_bool a b
/-! shapes -/
mutual
theorem lay_td : ∀ d : PyData, td d = true → d.canLay0 = true
  | .none, _ => by simp [PyData.canLay0]
  | .bool _, _ => by simp [PyData.canLay0]
  | .int _, _ => by simp [PyData.canLay0]
  | .str _, h => by cases h
  | .list _, h => by cases h
  | .dict _, h => by cases h
  | .tuple xs, h => by
    rw [PyData.canLay0]
    exact lay_tds xs (by simpa [td] using h)
theorem lay_tds : ∀ ds : List PyData, tds ds = true → PyData.canLayAll0 ds = true
  | [], _ => by simp [PyData.canLayAll0]
  | d :: ds, h => by
    simp only [tds, Bool.and_eq_true] at h
    rw [PyData.canLayAll0, lay_td d h.1, lay_tds ds h.2]
    rfl
end
theorem tds_map {τ : Type} {enc : τ → PyData} (h : ∀ t, td (enc t) = true) : ∀ ts : List τ, tds (ts.map enc) = true
  | [] => rfl
  | t :: ts => by rw [List.map_cons, tds, h t, tds_map h ts]; rfl
theorem depth_map {τ : Type} {enc : τ → PyData} {n : Nat} (h : ∀ t, (enc t).depth ≤ n) : ∀ ts : List τ, PyData.depthAll (ts.map enc) ≤ n
  | [] => by simp [PyData.depthAll]
  | t :: ts => by
    rw [List.map_cons, PyData.depthAll]
    have := h t
    have := depth_map h ts
    omega
theorem td_tie (e : Tie) : td (eTie e) = true := by simp [eTie, td, tds]
theorem td_ties (l : List Tie) : td (eTies l) = true := by simpa [eTies, td] using tds_map td_tie l
theorem td_web (W : Web) : td (eWeb W) = true := by simp [eWeb, td, tds, td_ties]
theorem td_line (t : List Bool) : td (eLine t) = true := by simpa [eLine, td] using tds_map (enc := PyData.bool) (fun _ => rfl) t
theorem dep_tie (e : Tie) : (eTie e).depth ≤ 1 := by simp [eTie, PyData.depth, PyData.depthAll]
theorem dep_ties (l : List Tie) : (eTies l).depth ≤ 2 := by
  have := depth_map dep_tie l
  simp only [eTies, PyData.depth]; omega
theorem dep_web (W : Web) : (eWeb W).depth ≤ 3 := by
  have := dep_ties W.2
  simp only [eWeb, PyData.depth, PyData.depthAll]; omega
theorem dep_line (t : List Bool) : (eLine t).depth ≤ 1 := by
  have := depth_map (enc := PyData.bool) (n := 0) (fun _ => by simp [PyData.depth]) t
  simp only [eLine, PyData.depth]; omega
theorem shaped_td {d : PyData} (h : td d = true) (hd : d.depth ≤ 64) : SeqAt.shaped d = true := by
  unfold SeqAt.shaped
  rw [lay_td d h, decide_eq_true hd]; rfl
theorem sh_tie (e : Tie) : SeqAt.shaped (eTie e) = true := shaped_td (td_tie e) (by have := dep_tie e; omega)
theorem sh_ties (e : List Tie) : SeqAt.shaped (eTies e) = true := shaped_td (td_ties e) (by have := dep_ties e; omega)
theorem sh_web (e : Web) : SeqAt.shaped (eWeb e) = true := shaped_td (td_web e) (by have := dep_web e; omega)
theorem sh_line (e : List Bool) : SeqAt.shaped (eLine e) = true := shaped_td (td_line e) (by have := dep_line e; omega)
theorem sh_list {τ : Type} {enc : τ → PyData} (h : ∀ t, td (enc t) = true) (n : Nat) (hn : n ≤ 63) (hd : ∀ t, (enc t).depth ≤ n) (ts : List τ) : SeqAt.shaped (.list (ts.map enc)) = true := by
  unfold SeqAt.shaped
  have := depth_map hd ts
  rw [show (PyData.list (ts.map enc)).canLay0 = true by rw [PyData.canLay0]; exact lay_tds _ (tds_map h ts), decide_eq_true (by rw [PyData.depth]; omega)]; rfl
section
variable {X : Cx}
/-- x in t, t a tuple of data -/
def rInDT (K : PySem.W.Frag) : R2 := fun x y H Q => ∃ d ds, Dp K H x d ∧ Dp K H y (.tuple ds) ∧ SeqAt.shaped d = true ∧ SeqAt.shaped (.tuple ds) = true ∧ Q (.bl (ds.any fun z => PyData.eqv z d)) H
theorem op_inDT (hu : X.A.units + 65 < cLine) : OpR X (compareOp .In) (rInDT X.K) := by
  intro pins s σ H x y v u Q I rx ry h
  obtain ⟨d, ds, hd, he, sd, se, q⟩ := h
  obtain ⟨as, r1⟩ := Dp.reads I d x v hd rx
  obtain ⟨bs, r2⟩ := Dp.reads I (.tuple ds) y u he ry
  exact SeqAt.in_tuple_reads r2 r1 (SeqAt.canLay_of_shaped se) (SeqAt.canLay_of_shaped sd) (room_in_shaped sd hu) ⟨.bl _, H, I, rfl, q⟩
end
theorem any_eqv {τ : Type} [DecidableEq τ] {enc : τ → PyData} (h : ∀ a b, PyData.eqv (enc a) (enc b) = decide (a = b)) (xs : List τ) (t : τ) : (((xs.map enc).any fun z => PyData.eqv z (enc t)) = true) ↔ t ∈ xs := by
  rw [List.any_eq_true]
  constructor
  · rintro ⟨z, hz, e⟩
    obtain ⟨y, hy, rfl⟩ := List.mem_map.mp hz
    rw [h, decide_eq_true_eq] at e
    rw [← e]; exact hy
  · intro hm
    exact ⟨enc t, List.mem_map.mpr ⟨t, hm, rfl⟩, by rw [h]; simp⟩
theorem any_tie (xs : List Tie) (t : Tie) : ((xs.map eTie).any fun z => PyData.eqv z (eTie t)) = xs.contains t := by
  rw [Bool.eq_iff_iff, any_eqv eqv_tie, List.contains_iff_mem]
theorem any_web (xs : List Web) (t : Web) : ((xs.map eWeb).any fun z => PyData.eqv z (eWeb t)) = xs.contains t := by
  rw [Bool.eq_iff_iff, any_eqv eqv_web, List.contains_iff_mem]
end Rw
end
section
set_option maxRecDepth 100000
set_option maxHeartbeats 4000000
/-! Loops and comprehensions over typed sources; a def's summary and its call. -/
namespace Rw
open PySem PySem.Spec PyProof.Rows L2

/-! ### sources -/
structure Src {τ : Type} (J : It) (Ok : Hp → Prop) (ts : List τ) (RI : Hp → V → τ → Prop) : Prop where
  go : ∀ H i t, Ok H → ts[i]? = some t → J.go i H
  yl : ∀ H i t x H', Ok H → ts[i]? = some t → J.yld i H x H' → Same H H' ∧ RI H' x t
  st : ∀ H, Ok H → J.stop ts.length H
section
variable {K : PySem.W.Frag} {τ : Type} {RI : Hp → V → τ → Prop} {ts : List τ}
theorem src_tup {a : Addr} {Ok : Hp → Prop} (h : ∀ H, Ok H → ∃ xs, SqT K H a xs ∧ Paired (RI H) xs ts) : Src (Itt K a) Ok ts RI where
  go := fun H i t ok e => by
    obtain ⟨xs, q, p⟩ := h H ok
    obtain ⟨x, e1, _⟩ := paired_at' p e
    exact ⟨xs, x, q, e1⟩
  yl := fun H i t x H' ok e y => by
    obtain ⟨xs, q, p⟩ := h H ok
    obtain ⟨rfl, y⟩ := y
    obtain ⟨x', e1, r⟩ := paired_at' p e
    have := y xs q
    rw [e1] at this
    cases this
    exact ⟨Same.refl _, r⟩
  st := fun H ok => by
    obtain ⟨xs, q, p⟩ := h H ok
    exact ⟨xs, q, by rw [p.length]; exact Nat.le_refl _⟩
theorem src_lst {a : Addr} {Ok : Hp → Prop} (h : ∀ H, Ok H → ∃ xs, SqL K H a xs ∧ Paired (RI H) xs ts) : Src (Itl K a) Ok ts RI where
  go := fun H i t ok e => by
    obtain ⟨xs, q, p⟩ := h H ok
    obtain ⟨x, e1, _⟩ := paired_at' p e
    exact ⟨xs, x, q, e1⟩
  yl := fun H i t x H' ok e y => by
    obtain ⟨xs, q, p⟩ := h H ok
    obtain ⟨rfl, y⟩ := y
    obtain ⟨x', e1, r⟩ := paired_at' p e
    have := y xs q
    rw [e1] at this
    cases this
    exact ⟨Same.refl _, r⟩
  st := fun H ok => by
    obtain ⟨xs, q, p⟩ := h H ok
    exact ⟨xs, q, by rw [p.length]; exact Nat.le_refl _⟩
/-- range(lo, hi): the places from lo on -/
theorem src_rng {lo n : Nat} {Ok : Hp → Prop} : Src (Itr (lo : Int) n) Ok (List.range' lo n) IsNat where
  go := fun H i t ok e => by
    have := (List.getElem?_eq_some_iff.mp e).1
    rw [List.length_range'] at this
    exact this
  yl := fun H i t x H' ok e y => by
    obtain ⟨rfl, rfl⟩ := y
    have h1 := (List.getElem?_eq_some_iff.mp e)
    obtain ⟨h1, h2⟩ := h1
    rw [List.getElem_range'] at h2
    refine ⟨Same.refl _, ?_⟩
    show V.int _ = V.int _
    rw [← h2]
    congr 1
    push_cast
    omega
  st := fun H ok => by show n ≤ _; rw [List.length_range']; exact Nat.le_refl _
/-- zip of two tuples -/
def IsPair2 {σ' τ : Type} (R1 : Hp → V → σ' → Prop) (R2 : Hp → V → τ → Prop) (H : Hp) (v : V) (p : σ' × τ) : Prop := ∃ T x y, v = .ref T ∧ H T = some (.tup [x, y]) ∧ R1 H x p.1 ∧ R2 H y p.2
theorem src_zip {σ' : Type} {R1 : Hp → V → σ' → Prop} {R2 : Hp → V → τ → Prop} {a b : Addr} {ss : List σ'} {Ok : Hp → Prop} (m1 : ∀ H H' v e, Same H H' → R1 H v e → R1 H' v e) (m2 : ∀ H H' v e, Same H H' → R2 H v e → R2 H' v e)
    (h : ∀ H, Ok H → ∃ xs ys, SqT K H a xs ∧ SqT K H b ys ∧ Paired (R1 H) xs ss ∧ Paired (R2 H) ys ts) : Src (RZ.ItzT K a b) Ok (ss.zip ts) (IsPair2 R1 R2) where
  go := fun H i t ok e => by
    obtain ⟨xs, ys, q1, q2, p1, p2⟩ := h H ok
    rw [List.getElem?_zip_eq_some] at e
    obtain ⟨x, e1, _⟩ := paired_at' p1 e.1
    obtain ⟨y, e2, _⟩ := paired_at' p2 e.2
    exact ⟨xs, ys, x, y, q1, q2, e1, e2⟩
  yl := fun H i t v H' ok e y => by
    obtain ⟨xs, ys, q1, q2, p1, p2⟩ := h H ok
    rw [List.getElem?_zip_eq_some] at e
    obtain ⟨T, x, y', rfl, hT, rfl, f1, f2⟩ := y
    obtain ⟨x1, e1, r1⟩ := paired_at' p1 e.1
    obtain ⟨y1, e2, r2⟩ := paired_at' p2 e.2
    have h1 : x1 = x := Option.some.inj (e1.symm.trans (f1 xs q1))
    have h2 : y1 = y' := Option.some.inj (e2.symm.trans (f2 ys q2))
    rw [h1] at r1
    rw [h2] at r2
    exact ⟨same_new hT, T, x, y', rfl, upd_same, m1 _ _ _ _ (same_new hT) r1, m2 _ _ _ _ (same_new hT) r2⟩
  st := fun H ok => by
    obtain ⟨xs, ys, q1, q2, p1, p2⟩ := h H ok
    refine ⟨xs, ys, q1, q2, ?_⟩
    rw [p1.length, p2.length, List.length_zip]
    omega
/-- enumerate of a list -/
theorem src_enum {a : Addr} {Ok : Hp → Prop} (m : ∀ H H' v e, Same H H' → RI H v e → RI H' v e) (h : ∀ H, Ok H → ∃ xs, SqL K H a xs ∧ Paired (RI H) xs ts) :
    Src (Ite K a) Ok ts.zipIdx (fun H v p => ∃ T x, v = .ref T ∧ H T = some (.tup [.int (p.2 : Int), x]) ∧ RI H x p.1) where
  go := fun H i t ok e => by
    obtain ⟨xs, q, p⟩ := h H ok
    rw [List.getElem?_zipIdx] at e
    obtain ⟨t0, e0, _⟩ := Option.map_eq_some_iff.mp e
    obtain ⟨x, e1, _⟩ := paired_at' p e0
    exact ⟨xs, x, q, e1⟩
  yl := fun H i t v H' ok e y => by
    obtain ⟨xs, q, p⟩ := h H ok
    rw [List.getElem?_zipIdx] at e
    obtain ⟨t0, e0, rfl⟩ := Option.map_eq_some_iff.mp e
    obtain ⟨x1, e1, r1⟩ := paired_at' p e0
    obtain ⟨T, x, rfl, hT, rfl, f1⟩ := y
    have h1 := f1 xs q
    rw [e1] at h1
    cases h1
    refine ⟨same_new hT, T, x1, rfl, ?_, m _ _ _ _ (same_new hT) r1⟩
    rw [upd_same]
    simp
  st := fun H ok => by
    obtain ⟨xs, q, p⟩ := h H ok
    exact ⟨xs, q, by rw [p.length, List.length_zipIdx]; exact Nat.le_refl _⟩
end

/-! ### for -/
theorem for_src {τ : Type} {J : It} {Ok : Hp → Prop} {ts : List τ} {RI : Hp → V → τ → Prop} (S : Src J Ok ts RI) {g : TG} {tb : TS} {D : Ends} {σ : L2.St} {H : Hp} (Pv : Nat → L2.St → Hp → Prop) (hOk : ∀ i σ H, Pv i σ H → Ok H) (h0 : Pv 0 σ H)
    (hs : ∀ i t x σ H H', ts[i]? = some t → Pv i σ H → Same H H' → RI H' x t → g x σ H' fun σ2 H2 => tb { D with nx := Pv (i + 1), ct := Pv (i + 1), bk := D.nx } σ2 H2) (hd : ∀ σ H, Pv ts.length σ H → D.nx σ H) :
    ∃ W : Nat → Nat → L2.St → Hp → Prop, (∃ m, W 0 m σ H) ∧ ∀ i m σ H, W i m σ H →
      (J.stop i H ∧ D.nx σ H) ∨ (J.go i H ∧ ∃ N : L2.St → Hp → Prop, (∀ σ' H', N σ' H' → ∃ m', m' < m ∧ W (i + 1) m' σ' H') ∧ ∀ x H', J.yld i H x H' → g x σ H' fun σ2 H2 => tb { D with nx := N, ct := N, bk := D.nx } σ2 H2) := by
  refine ⟨fun i m σ H => m = ts.length - i ∧ i ≤ ts.length ∧ Pv i σ H, ⟨ts.length, rfl, Nat.zero_le _, h0⟩, ?_⟩
  rintro i m σ H ⟨rfl, hi, p⟩
  have ok := hOk i σ H p
  by_cases hlt : i < ts.length
  · have e : ts[i]? = some ts[i] := List.getElem?_eq_getElem hlt
    refine .inr ⟨S.go H i _ ok e, Pv (i + 1), fun σ' H' p' => ⟨ts.length - (i + 1), by omega, rfl, hlt, p'⟩, fun x H' y => ?_⟩
    obtain ⟨y1, y2⟩ := S.yl H i _ x H' ok e y
    exact hs i _ x σ H H' e p y1 y2
  · have e : i = ts.length := by omega
    subst e
    exact .inl ⟨S.st H ok, hd σ H p⟩

/-! ### comprehensions -/
theorem lc_src {τ : Type} {J : It} {Ok : Hp → Prop} {ts : List τ} {RI : Hp → V → τ → Prop} (S : Src J Ok ts RI) {g : TG} {tt : TT} {te : TE} {vs : List Nat} {σ : L2.St} {H1 : Hp} {D : Addr} {Qd : Hp → Prop} 
    (Pv : Nat → Hp → Prop) (hOk : ∀ i H, Pv i H → Ok H) (h0 : Pv 0 (upd H1 D (.lst [])))
    (hs : ∀ i t x H H', ts[i]? = some t → Pv i H → Same H H' → RI H' x t → g x (wipe σ vs) H' fun σ2 H2 => wipe σ2 vs = wipe σ vs ∧ tt σ2 H2 fun b H3 =>
      if b = true then te σ2 H3 fun y H4 => ∃ acc, H4 D = some (.lst acc) ∧ acc.length < sizeLine ∧ Pv (i + 1) (upd H4 D (.lst (acc ++ [y]))) else Pv (i + 1) H3) (hd : ∀ H, Pv ts.length H → Qd H) :
    ∃ W : Nat → Nat → Hp → Prop, (∃ m, W 0 m (upd H1 D (.lst []))) ∧ ∀ i m H, W i m H →
      (J.stop i H ∧ Qd H) ∨ (J.go i H ∧ ∃ Nx : Hp → Prop, (∀ H', Nx H' → ∃ m', m' < m ∧ W (i + 1) m' H') ∧ ∀ x H', J.yld i H x H' → g x (wipe σ vs) H' fun σ2 H2 => wipe σ2 vs = wipe σ vs ∧ tt σ2 H2 fun b H3 =>
        if b = true then te σ2 H3 fun y H4 => ∃ acc, H4 D = some (.lst acc) ∧ acc.length < sizeLine ∧ Nx (upd H4 D (.lst (acc ++ [y]))) else Nx H3) := by
  refine ⟨fun i m H => m = ts.length - i ∧ i ≤ ts.length ∧ Pv i H, ⟨ts.length, rfl, Nat.zero_le _, h0⟩, ?_⟩
  rintro i m H ⟨rfl, hi, p⟩
  have ok := hOk i H p
  by_cases hlt : i < ts.length
  · have e : ts[i]? = some ts[i] := List.getElem?_eq_getElem hlt
    refine .inr ⟨S.go H i _ ok e, Pv (i + 1), fun H' p' => ⟨ts.length - (i + 1), by omega, rfl, hlt, p'⟩, fun x H' y => ?_⟩
    obtain ⟨y1, y2⟩ := S.yl H i _ x H' ok e y
    exact hs i _ x H H' e p y1 y2
  · have e : i = ts.length := by omega
    subst e
    exact .inl ⟨S.st H ok, hd H p⟩
/-- a comprehension that changes nothing: what is so far -/
structure CompS {τ ρ : Type} (H0 : Hp) (D : Addr) (RO : Hp → V → ρ → Prop) (f : τ → Option ρ) (ts : List τ) (i : Nat) (H : Hp) : Prop where
  same : Same H0 H
  acc : ∃ acc, H D = some (.lst acc) ∧ Paired (RO H) acc ((ts.take i).filterMap f)
theorem take_snoc {α : Type} {l : List α} {i : Nat} {x : α} (h : l[i]? = some x) : l.take (i + 1) = l.take i ++ [x] := by
  rw [List.take_succ, h]; rfl
section
variable {τ ρ : Type} {H0 H H' : Hp} {D : Addr} {RO : Hp → V → ρ → Prop} {f : τ → Option ρ} {ts : List τ} {i : Nat} {t : τ}
theorem comp_add {r : ρ} {y : V} (p : CompS H0 D RO f ts i H) (hD : H0 D = none) (e : ts[i]? = some t) (s : Same H H') (ef : f t = some r) (ro : RO H' y r) (mono : ∀ H H' v r, Tk H H' → RO H v r → RO H' v r) (hl : ts.length ≤ 100000) :
    ∃ acc, H' D = some (.lst acc) ∧ acc.length < sizeLine ∧ CompS H0 D RO f ts (i + 1) (upd H' D (.lst (acc ++ [y]))) := by
  obtain ⟨p1, acc, p2, p3⟩ := p
  have hd := s _ _ p2
  have tk : Tk H' (upd H' D (.lst (acc ++ [y]))) := tk_lst hd
  refine ⟨acc, hd, ?_, same_mut (p1.trans s) hD, acc ++ [y], upd_same, ?_⟩
  · rw [p3.length, sizeLine_eq]
    have h1 : ((ts.take i).filterMap f).length ≤ (ts.take i).length := List.length_filterMap_le _ _
    have h2 : (ts.take i).length ≤ ts.length := by rw [List.length_take]; exact Nat.min_le_right _ _
    omega
  · rw [take_snoc e, List.filterMap_append, List.filterMap_cons_some ef, List.filterMap_nil]
    exact paired_app (Paired.mapP p3 fun _ _ q => mono _ _ _ _ ((tk_same s).trans tk) q) (.cons (mono _ _ _ _ tk ro) .nil)
theorem comp_skip (p : CompS H0 D RO f ts i H) (e : ts[i]? = some t) (s : Same H H') (ef : f t = none) (mono : ∀ H H' v r, Tk H H' → RO H v r → RO H' v r) : CompS H0 D RO f ts (i + 1) H' := by
  obtain ⟨p1, acc, p2, p3⟩ := p
  refine ⟨p1.trans s, acc, s _ _ p2, ?_⟩
  rw [take_snoc e, List.filterMap_append, List.filterMap_cons_none ef, List.filterMap_nil, List.append_nil]
  exact Paired.mapP p3 fun _ _ q => mono _ _ _ _ (tk_same s) q
end
theorem lc_pure {τ ρ : Type} {J : It} {ts : List τ} {RI : Hp → V → τ → Prop} {H1 : Hp} (S : Src J (fun H => Same H1 H) ts RI) {g : TG} {tt : TT} {te : TE} {vs : List Nat} {σ : L2.St} {D : Addr} {Qd : Hp → Prop} (hD : H1 D = none)
    (RO : Hp → V → ρ → Prop) (f : τ → Option ρ)
    (hs : ∀ i t x H H', ts[i]? = some t → CompS H1 D RO f ts i H → Same H H' → RI H' x t → g x (wipe σ vs) H' fun σ2 H2 => wipe σ2 vs = wipe σ vs ∧ tt σ2 H2 fun b H3 =>
      if b = true then te σ2 H3 fun y H4 => ∃ acc, H4 D = some (.lst acc) ∧ acc.length < sizeLine ∧ CompS H1 D RO f ts (i + 1) (upd H4 D (.lst (acc ++ [y]))) else CompS H1 D RO f ts (i + 1) H3)
    (hd : ∀ acc H, Same H1 H → H D = some (.lst acc) → Paired (RO H) acc (ts.filterMap f) → Qd H) :
    ∃ W : Nat → Nat → Hp → Prop, (∃ m, W 0 m (upd H1 D (.lst []))) ∧ ∀ i m H, W i m H →
      (J.stop i H ∧ Qd H) ∨ (J.go i H ∧ ∃ Nx : Hp → Prop, (∀ H', Nx H' → ∃ m', m' < m ∧ W (i + 1) m' H') ∧ ∀ x H', J.yld i H x H' → g x (wipe σ vs) H' fun σ2 H2 => wipe σ2 vs = wipe σ vs ∧ tt σ2 H2 fun b H3 =>
        if b = true then te σ2 H3 fun y H4 => ∃ acc, H4 D = some (.lst acc) ∧ acc.length < sizeLine ∧ Nx (upd H4 D (.lst (acc ++ [y]))) else Nx H3) :=
  lc_src S (CompS H1 D RO f ts) (fun i H p => p.same) ⟨same_new hD, [], upd_same, .nil⟩ hs fun H p => by
    obtain ⟨p1, acc, p2, p3⟩ := p
    rw [List.take_length] at p3
    exact hd acc H p1 p2 p3

/-! ### a def's summary, and its call -/
/-- at most k levels, the def named x keeps the promise sp -/
def Has (P : Program) (w : World) (K : PySem.W.Frag) (mg : Str → Option Value) (base : Heap) (k : Nat) (x : Str) (ps : List Str) (sp : Sp) : Prop :=
  ∃ (f : Addr) (fd : FuncData), mg x = some (.ref f) ∧ PySem.W.keepIn K (.ref f) = true ∧ Binds K fd ps [] ∧ FnOk P w K mg base CX0 k f fd ps sp
/-- the def x of the text stands -/
def Stands (K : PySem.W.Frag) (mg : Str → Option Value) (x : Str) (st : Stmt) (ps : List Str) : Prop := ∃ (f : Addr) (fd : FuncData), mg x = some (.ref f) ∧ Fun K x x st f fd ∧ Binds K fd ps []
section
variable {P : Program} {w : World} {K : PySem.W.Frag} {mg : Str → Option Value} {base : Heap}
theorem Has.imp {k : Nat} {x : Str} {ps : List Str} {sp sp' : Sp} (h : Has P w K mg base k x ps sp) (i : ∀ vs H Q E, sp' vs H Q E → sp vs H Q E) : Has P w K mg base k x ps sp' := by
  obtain ⟨f, fd, a, b, c, F⟩ := h
  exact ⟨f, fd, a, b, c, F.imp i⟩
theorem Has.mono {j k : Nat} {x : Str} {ps : List Str} {sp : Sp} (h : Has P w K mg base j x ps sp) (i : j ≤ k) : Has P w K mg base k x ps sp := by
  obtain ⟨f, fd, a, b, c, F⟩ := h
  exact ⟨f, fd, a, b, c, F.mono i⟩
theorem has_of {x : Str} {st : Stmt} {N ps : List Str} {k : Nat} {sp : Sp} (S : Stands K mg x st ps) (sc : FnScope N ps (defScope st)) (len : ∀ vs H Q E, sp vs H Q E → vs.length = ps.length)
    (hbody : ∀ (f : Addr) (cdv : Value) (A : Around) (outer : List Env) (s : Shared) (H : Hp) (vs : List V) (Q : VK) (E : XK), Room k (A.deeper (envOfC x (defScope st) s.heap.objs.size f cdv)) → sp vs H Q E →
      ∃ t, PSs (cxOf CX0 P w K mg base N x (defScope st) f cdv A outer s H E).nox (defBody st) t ∧ t { nx := fun _ H' => Q .non H', rt := Q } (start N vs) H) : Has P w K mg base (k + 1) x ps sp := by
  obtain ⟨f, fd, a, F, b⟩ := S
  exact ⟨f, fd, a, F.kp, b, F.ok sc len (hbody f)⟩
end
section
variable {X : Cx} {k : Nat} {x : Str} {ps : List Str} {sp : Sp} {p pos : Pos} {e : Expr} {es : List Expr} {t : TA}
theorem pe_own (h : Has X.prog X.w X.K X.mg X.base k x ps sp) (hr : Room k X.A) (ha : PA X (e :: es) t) (hg : Gl X x := by rfl) (hdb : (x == ("__debug__" : Str)) = false := by decide) (he : starEach (e :: es) X.env = (false, eval e X.env) :: starEach es X.env := by rfl) (hpl : (backTo pos (starEach es X.env)).any (·.1) = false := by rfl) :
    PE X (.Call (.Name x p) (e :: es) [] pos) (tCall sp [] E0 t) := by
  obtain ⟨f, fd, a, b, c, F⟩ := h
  exact pe_call F hr hg a b c .nil pass0 ha hdb he hpl
end
end Rw
end
section
set_option maxRecDepth 100000
set_option maxHeartbeats 4000000
/-! The text by places; what the module's names hold. -/
namespace Rw
open PySem PySem.Spec PyProof.Rows L2
def topS (i : Nat) : Stmt := PySem.Challenge.pw_rootwebs_k20_whole_all_roots.main.body.getD i (.Pass ⟨0, 0, 0, 0⟩)
abbrev s_is_whole : Stmt := topS 6
theorem sc_is_whole : FnScope ["thing"] ["thing"] (defScope s_is_whole) := ⟨rfl, rfl, rfl, by decide +kernel, rfl, by decide +kernel, by decide +kernel⟩
abbrev s_nears : Stmt := topS 7
theorem sc_nears : FnScope ["web", "place", "one", "other"] ["web", "place"] (defScope s_nears) := ⟨rfl, rfl, rfl, by decide +kernel, rfl, by decide +kernel, by decide +kernel⟩
abbrev s_fars : Stmt := topS 8
theorem sc_fars : FnScope ["web", "place", "found", "row", "at", "there"] ["web", "place"] (defScope s_fars) := ⟨rfl, rfl, rfl, by decide +kernel, rfl, by decide +kernel, by decide +kernel⟩
abbrev s_stepped : Stmt := topS 9
theorem sc_stepped : FnScope ["web", "k", "ties", "one", "far", "other"] ["web", "k"] (defScope s_stepped) := ⟨rfl, rfl, rfl, by decide +kernel, rfl, by decide +kernel, by decide +kernel⟩
abbrev s_two_step : Stmt := topS 10
theorem sc_two_step : FnScope ["web"] ["web"] (defScope s_two_step) := ⟨rfl, rfl, rfl, by decide +kernel, rfl, by decide +kernel, by decide +kernel⟩
abbrev s_is_still : Stmt := topS 11
theorem sc_is_still : FnScope ["web"] ["web"] (defScope s_is_still) := ⟨rfl, rfl, rfl, by decide +kernel, rfl, by decide +kernel, by decide +kernel⟩
abbrev s_names_good : Stmt := topS 12
theorem sc_names_good : FnScope ["web", "thing", "place"] ["web", "thing"] (defScope s_names_good) := ⟨rfl, rfl, rfl, by decide +kernel, rfl, by decide +kernel, by decide +kernel⟩
abbrev s_named_by : Stmt := topS 13
theorem sc_named_by : FnScope ["web", "names", "ties", "one", "other", "tie"] ["web", "names"] (defScope s_named_by) := ⟨rfl, rfl, rfl, by decide +kernel, rfl, by decide +kernel, by decide +kernel⟩
abbrev s_renamed : Stmt := topS 14
theorem sc_renamed : FnScope ["web", "names"] ["web", "names"] (defScope s_renamed) := ⟨rfl, rfl, rfl, by decide +kernel, rfl, by decide +kernel, by decide +kernel⟩
abbrev s_check_ties : Stmt := topS 18
theorem sc_check_ties : FnScope ["web"] ["web"] (defScope s_check_ties) := ⟨rfl, rfl, rfl, by decide +kernel, rfl, by decide +kernel, by decide +kernel⟩
abbrev s_masks_of : Stmt := topS 19
theorem sc_masks_of : FnScope ["many", "ties", "found", "one", "other"] ["many", "ties"] (defScope s_masks_of) := ⟨rfl, rfl, rfl, by decide +kernel, rfl, by decide +kernel, by decide +kernel⟩
abbrev s_lone_masks : Stmt := topS 20
theorem sc_lone_masks : FnScope ["web", "full", "place", "mask"] ["web"] (defScope s_lone_masks) := ⟨rfl, rfl, rfl, by decide +kernel, rfl, by decide +kernel, by decide +kernel⟩
abbrev s_goes : Stmt := topS 21
theorem sc_goes : FnScope ["web", "lone", "begun", "chosen", "tie", "truth", "held", "free", "one", "other"] ["web", "lone", "begun"] (defScope s_goes) := ⟨rfl, rfl, rfl, by decide +kernel, rfl, by decide +kernel, by decide +kernel⟩
abbrev s_roots_from : Stmt := topS 22
theorem sc_roots_from : FnScope ["web", "lone", "begun"] ["web", "lone", "begun"] (defScope s_roots_from) := ⟨rfl, rfl, rfl, by decide +kernel, rfl, by decide +kernel, by decide +kernel⟩
abbrev s_roots_by : Stmt := topS 23
theorem sc_roots_by : FnScope ["web", "begun"] ["web", "begun"] (defScope s_roots_by) := ⟨rfl, rfl, rfl, by decide +kernel, rfl, by decide +kernel, by decide +kernel⟩
abbrev s_web_by : Stmt := topS 24
theorem sc_web_by : FnScope ["web", "truths", "tie", "truth"] ["web", "truths"] (defScope s_web_by) := ⟨rfl, rfl, rfl, by decide +kernel, rfl, by decide +kernel, by decide +kernel⟩
abbrev s_roots_of : Stmt := topS 25
theorem sc_roots_of : FnScope ["web", "truths"] ["web"] (defScope s_roots_of) := ⟨rfl, rfl, rfl, by decide +kernel, rfl, by decide +kernel, by decide +kernel⟩
abbrev s_roots_many : Stmt := topS 26
theorem sc_roots_many : FnScope ["web"] ["web"] (defScope s_roots_many) := ⟨rfl, rfl, rfl, by decide +kernel, rfl, by decide +kernel, by decide +kernel⟩
abbrev s_first_of : Stmt := topS 27
theorem sc_first_of : FnScope ["some"] ["some"] (defScope s_first_of) := ⟨rfl, rfl, rfl, by decide +kernel, rfl, by decide +kernel, by decide +kernel⟩
abbrev s_first_root : Stmt := topS 28
theorem sc_first_root : FnScope ["web"] ["web"] (defScope s_first_root) := ⟨rfl, rfl, rfl, by decide +kernel, rfl, by decide +kernel, by decide +kernel⟩
abbrev s_listed : Stmt := topS 29
theorem sc_listed : FnScope ["some"] ["some"] (defScope s_listed) := ⟨rfl, rfl, rfl, by decide +kernel, rfl, by decide +kernel, by decide +kernel⟩
abbrev s_all_roots : Stmt := topS 30
theorem sc_all_roots : FnScope ["web"] ["web"] (defScope s_all_roots) := ⟨rfl, rfl, rfl, by decide +kernel, rfl, by decide +kernel, by decide +kernel⟩
abbrev s_ties_tally : Stmt := topS 31
theorem sc_ties_tally : FnScope ["web", "found", "root"] ["web"] (defScope s_ties_tally) := ⟨rfl, rfl, rfl, by decide +kernel, rfl, by decide +kernel, by decide +kernel⟩
abbrev s_fewest_of : Stmt := topS 32
theorem sc_fewest_of : FnScope ["some", "size", "web"] ["some"] (defScope s_fewest_of) := ⟨rfl, rfl, rfl, by decide +kernel, rfl, by decide +kernel, by decide +kernel⟩
abbrev s_fewest_root : Stmt := topS 33
theorem sc_fewest_root : FnScope ["web"] ["web"] (defScope s_fewest_root) := ⟨rfl, rfl, rfl, by decide +kernel, rfl, by decide +kernel, by decide +kernel⟩
abbrev s_must_have : Stmt := topS 34
theorem sc_must_have : FnScope ["web", "found", "tie", "root"] ["web"] (defScope s_must_have) := ⟨rfl, rfl, rfl, by decide +kernel, rfl, by decide +kernel, by decide +kernel⟩
abbrev s_may_have : Stmt := topS 35
theorem sc_may_have : FnScope ["web", "found", "tie", "root"] ["web"] (defScope s_may_have) := ⟨rfl, rfl, rfl, by decide +kernel, rfl, by decide +kernel, by decide +kernel⟩
abbrev s_check_begun : Stmt := topS 36
theorem sc_check_begun : FnScope ["web", "begun", "truth"] ["web", "begun"] (defScope s_check_begun) := ⟨rfl, rfl, rfl, by decide +kernel, rfl, by decide +kernel, by decide +kernel⟩
abbrev s_roots_begun : Stmt := topS 37
theorem sc_roots_begun : FnScope ["web", "begun"] ["web", "begun"] (defScope s_roots_begun) := ⟨rfl, rfl, rfl, by decide +kernel, rfl, by decide +kernel, by decide +kernel⟩
abbrev s_next_truths : Stmt := topS 38
theorem sc_next_truths : FnScope ["web", "begun", "truth"] ["web", "begun"] (defScope s_next_truths) := ⟨rfl, rfl, rfl, by decide +kernel, rfl, by decide +kernel, by decide +kernel⟩
abbrev s_lcell_at : Stmt := topS 40
theorem sc_lcell_at : FnScope ["_law_script", "_law_k"] ["_law_script", "_law_k"] (defScope s_lcell_at) := ⟨rfl, rfl, rfl, by decide +kernel, rfl, by decide +kernel, by decide +kernel⟩
abbrev s_lnext : Stmt := topS 41
theorem sc_lnext : FnScope ["_law_seed"] ["_law_seed"] (defScope s_lnext) := ⟨rfl, rfl, rfl, by decide +kernel, rfl, by decide +kernel, by decide +kernel⟩
abbrev s_lpen_of : Stmt := topS 42
theorem sc_lpen_of : FnScope ["_law_cell", "_law_left"] ["_law_cell"] (defScope s_lpen_of) := ⟨rfl, rfl, rfl, by decide +kernel, rfl, by decide +kernel, by decide +kernel⟩
abbrev s_ldraw : Stmt := topS 43
theorem sc_ldraw : FnScope ["_law_pen", "_law_many", "_law_found"] ["_law_pen", "_law_many"] (defScope s_ldraw) := ⟨rfl, rfl, rfl, by decide +kernel, rfl, by decide +kernel, by decide +kernel⟩
abbrev s_lnamed : Stmt := topS 44
theorem sc_lnamed : FnScope ["_law_web", "_law_names", "_law_ties", "_law_one", "_law_other", "_law_tie"] ["_law_web", "_law_names"] (defScope s_lnamed) := ⟨rfl, rfl, rfl, by decide +kernel, rfl, by decide +kernel, by decide +kernel⟩
abbrev s_lnames_by : Stmt := topS 45
theorem sc_lnames_by : FnScope ["_law_pen", "_law_many", "_law_left", "_law_place"] ["_law_pen", "_law_many"] (defScope s_lnames_by) := ⟨rfl, rfl, rfl, by decide +kernel, rfl, by decide +kernel, by decide +kernel⟩
abbrev s_lfar : Stmt := topS 46
theorem sc_lfar : FnScope ["_law_web", "_law_many", "_law_far_here", "_law_place", "_law_size", "_law_one", "_law_other", "_law_a", "_law_b"] ["_law_web"] (defScope s_lfar) := ⟨rfl, rfl, rfl, by decide +kernel, rfl, by decide +kernel, by decide +kernel⟩
abbrev s_lsteps : Stmt := topS 47
theorem sc_lsteps : FnScope ["_law_web", "_law_k", "_law_far_here", "_law_ties", "_law_one", "_law_b"] ["_law_web", "_law_k"] (defScope s_lsteps) := ⟨rfl, rfl, rfl, by decide +kernel, rfl, by decide +kernel, by decide +kernel⟩
abbrev s_lsparse_by : Stmt := topS 48
theorem sc_lsparse_by : FnScope ["_law_pen", "_law_way", "_law_many", "_law_every", "_law_other", "_law_one", "_law_ties", "_law_pair", "_law_place"] ["_law_pen"] (defScope s_lsparse_by) := ⟨rfl, rfl, rfl, by decide +kernel, rfl, by decide +kernel, by decide +kernel⟩
abbrev s_lweb_by : Stmt := topS 49
theorem sc_lweb_by : FnScope ["_law_pen", "_law_web", "_law_way", "_law_spot", "_law_one", "_law_pair"] ["_law_pen"] (defScope s_lweb_by) := ⟨rfl, rfl, rfl, by decide +kernel, rfl, by decide +kernel, by decide +kernel⟩
abbrev s_llisted_right : Stmt := topS 50
theorem sc_llisted_right : FnScope ["_law_web", "_law_many", "_law_every", "_law_root", "_law_few", "_law_sizes", "_law_must", "_law_may", "_law_tie", "_law_having"] ["_law_web", "_law_many"] (defScope s_llisted_right) := ⟨rfl, rfl, rfl, by decide +kernel, rfl, by decide +kernel, by decide +kernel⟩
abbrev s_lright : Stmt := topS 51
theorem sc_lright : FnScope ["_law_web", "_law_names", "_law_many", "_law_truths", "_law_truth"] ["_law_web", "_law_names"] (defScope s_lright) := ⟨rfl, rfl, rfl, by decide +kernel, rfl, by decide +kernel, by decide +kernel⟩
abbrev s_law : Stmt := topS 52
theorem sc_law : FnScope ["_law_script", "_law_cell", "_law_pen", "_law_web", "_law_steps_here", "_law_held", "_law_tie"] ["_law_script"] (defScope s_law) := ⟨rfl, rfl, rfl, by decide +kernel, rfl, by decide +kernel, by decide +kernel⟩

/-- the scope of the comprehension within must_have, may_have -/
abbrev blkScope (q : Str) : Scope := { kind := .function, names := [(PySem.Str.ofString ".0", .local), (PySem.Str.ofString "tie", .cell), (q, .globalImplicit), (PySem.Str.ofString "found", .cell)], isGenerator := false, isCoroutine := false }
/-- the built-in names are still the built-in ones; the two constants -/
structure Blt (mg : Str → Option Value) : Prop where
  len : mg "len" = none
  range : mg "range" = none
  zip : mg "zip" = none
  enumerate : mg "enumerate" = none
  sorted : mg "sorted" = none
  list : mg "list" = none
  tuple : mg "tuple" = none
  set : mg "set" = none
  all : mg "all" = none
  any : mg "any" = none
  sum : mg "sum" = none
  min : mg "min" = none
  max : mg "max" = none
  int : mg "int" = none
  bool : mg "bool" = none
  isinstance : mg "isinstance" = none
  MOST_TIES : ∃ t, mg "MOST_TIES" = some (.int 12 t)
  MOST_LISTED : ∃ t, mg "MOST_LISTED" = some (.int 300 t)
theorem units1 {k : Nat} {A : Around} (r : Room k A) : A.units + 65 < cLine := by have := r.un; omega
theorem szs {n : Nat} (h : n ≤ 1000) : n ≤ sizeLine := by rw [sizeLine_eq]; omega
theorem in2_int (i j k : Int) : inV (.int i) [.int j, .int k] = decide (j = i ∨ k = i) := by
  rw [Bool.eq_iff_iff]
  simp [inV, eqV]
theorem ixN_nat {n j : Nat} (h : j < n) : ixN n (j : Int) = some j := by
  unfold ixN
  rw [if_pos (Int.natCast_nonneg j), if_pos (by omega)]
  simp
theorem atI_n {xs : List V} {j : Nat} {v : V} {z : Int} (e : z = (j : Int)) (h : xs[j]? = some v) : atI xs z = some v := by
  rw [e]; exact atI_nat h
abbrev nV (n : Nat) : V := .int (n : Int)
def oV : Option Nat → V
  | none => .non
  | some d => .int (d : Int)
theorem oV_none (x : Option Nat) : decide (oV x = .non) = x.isNone := by cases x <;> simp [oV]
theorem src_rng' {i : Int} {m lo n : Nat} {Ok : Hp → Prop} (hi : i = (lo : Int)) (hm : m = n) : Src (Itr i m) Ok (List.range' lo n) IsNat := by
  subst hi hm
  exact src_rng
theorem rng_at {lo n i t : Nat} (h : (List.range' lo n)[i]? = some t) : t = lo + i ∧ i < n := by
  obtain ⟨h1, h2⟩ := List.getElem?_eq_some_iff.mp h
  rw [List.getElem_range'] at h2
  rw [List.length_range'] at h1
  omega
theorem iteTo {c : Bool} {A B : Prop} (e : c = true) (h : A) : if c = true then A else B := by rw [if_pos e]; exact h
theorem iteFo {c : Bool} {A B : Prop} (e : c = false) (h : B) : if c = true then A else B := by rw [if_neg (by rw [e]; exact Bool.false_ne_true)]; exact h
theorem yesT {σ : L2.St} {H : Hp} {A B : Hp → Prop} (h : A H) : tYes σ H (fun b H3 => if b = true then A H3 else B H3) := by
  show if true = true then A H else B H
  rw [if_pos rfl]
  exact h
def eNat (n : Nat) : PyData := .int (n : Int)
/-- a list whose items stand for ds -/
def IsL {δ : Type} (R : Hp → V → δ → Prop) (H : Hp) (p : Addr) (ds : List δ) : Prop := ∃ xs, H p = some (.lst xs) ∧ Paired (R H) xs ds
theorem IsL.same {δ : Type} {R : Hp → V → δ → Prop} {H H' : Hp} {p : Addr} {ds : List δ} (h : IsL R H p ds) (s : Same H H') (m : ∀ v d, R H v d → R H' v d) : IsL R H' p ds := by
  obtain ⟨xs, h1, h2⟩ := h
  exact ⟨xs, s _ _ h1, Paired.mapP h2 m⟩
theorem IsL.webs {K : PySem.W.Frag} {H H' : Hp} {p : Addr} {ds : List Web} (h : IsL (IsWeb K) H p ds) (s : Same H H') : IsL (IsWeb K) H' p ds := h.same s fun _ _ q => q.k (tk_same s)
theorem IsL.dp {K : PySem.W.Frag} {δ : Type} {R : Hp → V → δ → Prop} {enc : δ → PyData} {H : Hp} {p : Addr} {ds : List δ} (h : IsL R H p ds) (m : ∀ v d, R H v d → Dp K H v (enc d)) : Dp K H (.ref p) (.list (ds.map enc)) := by
  obtain ⟨xs, h1, h2⟩ := h
  exact .lst (SqL.of h1) (dpAll_of m h2)
theorem sort_typed {δ : Type} {R : V → δ → Prop} {enc : δ → PyData} (zs : List (V × δ)) (h : ∀ z ∈ zs, R z.1 z.2) :
    Paired R ((zs.mergeSort (PySem.W.dataLe false fun b : V × δ => enc b.2)).map (·.1)) ((zs.map (·.2)).mergeSort (PySem.W.dataLe false enc)) := by
  rw [← PySem.W.sort_maps (r := PySem.W.dataLe false fun b : V × δ => enc b.2) (s := PySem.W.dataLe false enc) (fun z : V × δ => z.2) (fun _ _ _ _ => rfl)]
  exact paired_of_zip fun z hz => h z ((List.mergeSort_perm _ _).mem_iff.mp hz)
theorem sortD_go {K : PySem.W.Frag} {δ : Type} {R : Hp → V → δ → Prop} {enc : δ → PyData} {H : Hp} {a : Addr} {xs : List V} {ds : List δ} {Q : VK} (hS : SqL K H a xs ∨ SqT K H a xs) (hP : Paired (R H) xs ds) (hdp : ∀ v d, R H v d → Dp K H v (enc d))
    (htd : ∀ d, td (enc d) = true ∧ (enc d).depth ≤ 8) (hal : ∀ d d', PySem.W.alike (enc d) (enc d') = true) (hso : PySem.W.Sortable (ds.map enc)) (q : ∀ p ys, H p = none → Paired (R H) ys (ds.mergeSort (PySem.W.dataLe false enc)) → Q (.ref p) (upd H p (.lst ys))) :
    rSortD enc K [.ref a] H Q := by
  obtain ⟨zs, rfl, rfl, hz⟩ := paired_zip hP
  refine ⟨a, zs, rfl, hS, fun z hz' => hdp _ _ (hz z hz'), fun z _ => htd _, PySem.W.AllAlike.of fun _ _ => hal _ _, ?_, fun p hp => q p _ hp (sort_typed zs hz)⟩
  have e : zs.map (fun b : V × δ => enc b.2) = (zs.map (·.2)).map enc := by rw [List.map_map]; rfl
  rw [e]
  exact hso
/-! sets: typed -/
theorem typed_sub {τ : Type} {key : τ → NestedKey} {ks : List (Addr × τ)} : ∀ L0 : List (Addr × NestedKey), (∀ p ∈ L0, p ∈ ks.map fun p => (p.1, key p.2)) → ∃ L : List (Addr × τ), L0 = (L.map fun p => (p.1, key p.2)) ∧ ∀ p ∈ L, p ∈ ks
  | [], _ => ⟨[], rfl, fun _ h => nomatch h⟩
  | p :: L0, h => by
    obtain ⟨L, e, hs⟩ := typed_sub L0 fun q hq => h q (List.mem_cons_of_mem _ hq)
    obtain ⟨q, hq, eq⟩ := List.mem_map.mp (h p List.mem_cons_self)
    refine ⟨q :: L, by rw [List.map_cons, e, eq], fun r hr => ?_⟩
    rcases List.mem_cons.mp hr with z | z
    · rw [z]; exact hq
    · exact hs r z
theorem refs_paired {τ : Type} {R : V → τ → Prop} (href : ∀ v t, R v t → ∃ a, v = .ref a) {xs : List V} {ts : List τ} (h : Paired R xs ts) : ∃ ks : List (Addr × τ), xs = (ks.map fun p => V.ref p.1) ∧ ts = ks.map (·.2) ∧ ∀ p ∈ ks, R (.ref p.1) p.2 := by
  induction h with
  | nil => exact ⟨[], rfl, rfl, fun _ h => nomatch h⟩
  | @cons v t xs ts r _ ih =>
    obtain ⟨ks, e1, e2, hk⟩ := ih
    obtain ⟨a, rfl⟩ := href v t r
    refine ⟨(a, t) :: ks, by rw [e1]; rfl, by rw [e2]; rfl, fun p hp => ?_⟩
    rcases List.mem_cons.mp hp with z | z
    · rw [z]; exact r
    · exact hk p z
structure KeyKind0 {τ : Type} (key : τ → NestedKey) : Prop where
  dep : ∀ t, (key t).depth ≤ 8
  txt : ∀ t, noText (key t) = true
  td : ∀ t, td (key t).data = true
  ddep : ∀ t, (key t).data.depth ≤ 8
  alike : ∀ t u, PySem.W.alike (key t).data (key u).data = true
  tup : ∀ t, ∃ x r, (key t).data = .tuple (x :: r)
theorem setN_go {τ : Type} {key : τ → NestedKey} (kk : KeyKind0 key) {K : PySem.W.Frag} {w : World} {H : Hp} {a : Addr} {ks : List (Addr × τ)} {Q : VK} (hS : SqL K H a (ks.map fun p => V.ref p.1) ∨ SqT K H a (ks.map fun p => V.ref p.1)) (hdp : ∀ p ∈ ks, Dp K H (.ref p.1) (key p.2).data) (few : ks.length < 64)
    (q : ∀ s (L : List (Addr × τ)), H s = none → (∀ p ∈ L, p ∈ ks) → (∀ p ∈ ks, key p.2 ∈ L.map fun p => key p.2) → (L.map fun p => key p.2).Nodup → Q (.ref s) (upd H s (SetNO w s (L.map fun p => (p.1, key p.2))))) : rSetN K w [.ref a] H Q := by
  have e1 : (ks.map fun p => (p.1, key p.2)).map (fun p : Addr × NestedKey => V.ref p.1) = ks.map fun p => V.ref p.1 := by rw [List.map_map]; rfl
  refine ⟨a, ks.map fun p => (p.1, key p.2), rfl, by rw [e1]; exact hS, fun p hp => ?_, by rw [List.length_map]; exact few, fun s L0 hs h1 h2 h3 => ?_⟩
  · obtain ⟨p', hp', rfl⟩ := List.mem_map.mp hp
    exact ⟨hdp p' hp', kk.dep _, kk.txt _⟩
  · obtain ⟨L, rfl, hL⟩ := typed_sub L0 h1
    have e2 : (L.map fun p => (p.1, key p.2)).map (·.2) = L.map fun p => key p.2 := by rw [List.map_map]; rfl
    rw [e2] at h3
    refine q s L hs hL (fun p hp => ?_) h3
    rw [← e2]
    exact h2 _ (List.mem_map.mpr ⟨p, hp, rfl⟩)
theorem sortN_go {τ : Type} {key : τ → NestedKey} (kk : KeyKind0 key) {K : PySem.W.Frag} {w : World} {H : Hp} {a : Addr} {L : List (Addr × τ)} {Q : VK} (hS : H a = some (SetNO w a (L.map fun p => (p.1, key p.2)))) (hdp : ∀ p ∈ L, Dp K H (.ref p.1) (key p.2).data) (nd : (L.map fun p => key p.2).Nodup)
    (q : ∀ p (M : List (Addr × τ)), (∀ p ∈ M, p ∈ L) → (∀ p ∈ L, key p.2 ∈ M.map fun p => key p.2) → (M.map fun p => key p.2).Nodup → M.length = L.length → M.Pairwise (fun x y => PySem.W.dataLe false (fun p : Addr × τ => (key p.2).data) x y = true) → H p = none → Q (.ref p) (upd H p (.lst (M.map fun p => V.ref p.1)))) : rSortN K w [.ref a] H Q := by
  have e3 : (L.map fun p => (p.1, key p.2)).map (fun p : Addr × NestedKey => p.2.data) = (L.map (·.2)).map fun t => (key t).data := by rw [List.map_map, List.map_map]; rfl
  refine ⟨a, _, rfl, hS, fun p hp => ?_, fun p hp => ?_, ?_, ?_, fun L' p pm pw hp => ?_⟩
  · obtain ⟨p', hp', rfl⟩ := List.mem_map.mp hp
    exact ⟨hdp p' hp', kk.dep _, kk.txt _⟩
  · obtain ⟨p, hp, rfl⟩ := List.mem_map.mp hp
    exact ⟨kk.td _, kk.ddep _⟩
  · rw [e3]
    exact PySem.W.AllAlike.of fun _ _ => kk.alike _ _
  · rw [e3]
    exact PySem.W.Sortable.tuples fun _ => kk.tup _
  · obtain ⟨M, rfl, hM⟩ := typed_sub L' fun p hp => pm.mem_iff.mp hp
    have e2 : ∀ M : List (Addr × τ), (M.map fun p => (p.1, key p.2)).map (·.2) = M.map fun p => key p.2 := fun M => by rw [List.map_map]; rfl
    have e1 : (M.map fun p => (p.1, key p.2)).map (fun p : Addr × NestedKey => V.ref p.1) = M.map fun p => V.ref p.1 := by rw [List.map_map]; rfl
    rw [e1]
    have pm2 := pm.map (fun p : Addr × NestedKey => p.2)
    rw [e2, e2] at pm2
    refine q p M hM (fun x hx => pm2.mem_iff.mpr (List.mem_map.mpr ⟨x, hx, rfl⟩)) (pm2.nodup_iff.mpr nd) (by have := pm.length_eq; rw [List.length_map, List.length_map] at this; exact this) ?_ hp
    exact List.pairwise_map.mp pw
def kTie (e : Tie) : NestedKey := .tup [.num (e.1 : Int), .num (e.2 : Int)]
theorem kTie_data (e : Tie) : (kTie e).data = eTie e := by simp [kTie, NestedKey.data, NestedKey.datas, eTie]
def kTies (l : List Tie) : NestedKey := .tup (l.map kTie)
theorem datas_map {τ : Type} {key : τ → NestedKey} : ∀ l : List τ, NestedKey.datas (l.map key) = l.map fun t => (key t).data
  | [] => by simp [NestedKey.datas]
  | t :: l => by rw [List.map_cons, NestedKey.datas, datas_map l]; rfl
theorem kTies_data (l : List Tie) : (kTies l).data = eTies l := by
  simp only [kTies, NestedKey.data, datas_map, kTie_data, eTies]
def kWeb (W : Web) : NestedKey := .tup [.num (W.1 : Int), kTies W.2]
theorem kWeb_data (W : Web) : (kWeb W).data = eWeb W := by simp [kWeb, NestedKey.data, NestedKey.datas, kTies_data, eWeb]
theorem kdepth_map {τ : Type} {key : τ → NestedKey} {n : Nat} (h : ∀ t, (key t).depth ≤ n) : ∀ l : List τ, NestedKey.depthAll (l.map key) ≤ n
  | [] => by simp [NestedKey.depthAll]
  | t :: l => by
    rw [List.map_cons, NestedKey.depthAll]
    have := h t
    have := kdepth_map h l
    omega
theorem noTexts_map {τ : Type} {key : τ → NestedKey} (h : ∀ t, noText (key t) = true) : ∀ l : List τ, noTexts (l.map key) = true
  | [] => by simp [noTexts]
  | t :: l => by rw [List.map_cons, noTexts, h t, noTexts_map h l]; rfl
theorem kTie_dep (e : Tie) : (kTie e).depth ≤ 1 := by simp [kTie, NestedKey.depth, NestedKey.depthAll]
theorem kTie_txt (e : Tie) : noText (kTie e) = true := by simp [kTie, noText, noTexts]
theorem kTie_inj {e f : Tie} (h : kTie e = kTie f) : e = f := by
  have := congrArg NestedKey.data h
  rw [kTie_data, kTie_data] at this
  have h2 := eqv_tie e f
  rw [this, eqv_tie] at h2
  simpa using h2
theorem kWeb_inj {e f : Web} (h : kWeb e = kWeb f) : e = f := by
  have := congrArg NestedKey.data h
  rw [kWeb_data, kWeb_data] at this
  have h2 := eqv_web e f
  rw [this, eqv_web] at h2
  simpa using h2
theorem alike_tie (a b : Tie) : PySem.W.alike (eTie a) (eTie b) = true := by simp [eTie, PySem.W.alike, PySem.W.alikeAll]
theorem alike_all {τ : Type} {enc : τ → PyData} (h : ∀ a b, PySem.W.alike (enc a) (enc b) = true) : ∀ xs ys : List τ, PySem.W.alikeAll (xs.map enc) (ys.map enc) = true
  | [], _ => by simp [PySem.W.alikeAll]
  | _ :: _, [] => by simp [PySem.W.alikeAll]
  | x :: xs, y :: ys => by
    rw [List.map_cons, List.map_cons, PySem.W.alikeAll, h, alike_all h xs ys]
    rfl
theorem alike_web (a b : Web) : PySem.W.alike (eWeb a) (eWeb b) = true := by
  simp only [eWeb, eTies, PySem.W.alike, PySem.W.alikeAll, alike_all alike_tie]
  rfl
theorem tieKind : KeyKind0 kTie where
  dep := fun t => by have := kTie_dep t; omega
  txt := kTie_txt
  td := fun t => by rw [kTie_data]; exact td_tie t
  ddep := fun t => by rw [kTie_data]; have := dep_tie t; omega
  alike := fun t u => by rw [kTie_data, kTie_data]; exact alike_tie t u
  tup := fun t => by rw [kTie_data]; exact ⟨_, _, rfl⟩
theorem webKind : KeyKind0 kWeb where
  dep := fun t => by
    have := kdepth_map kTie_dep t.2
    simp only [kWeb, kTies, NestedKey.depth, NestedKey.depthAll]
    omega
  txt := fun t => by simp [kWeb, kTies, noText, noTexts, noTexts_map kTie_txt]
  td := fun t => by rw [kWeb_data]; exact td_web t
  ddep := fun t => by rw [kWeb_data]; have := dep_web t; omega
  alike := fun t u => by rw [kWeb_data, kWeb_data]; exact alike_web t u
  tup := fun t => by rw [kWeb_data]; exact ⟨_, _, rfl⟩
section
variable {X : Cx}
theorem pe_gint {x : Str} {i : Int} {pos : Pos} (hg : Gl X x) (h : ∃ t, X.mg x = some (.int i t)) (hd : (x == ("__debug__" : Str)) = false := by decide) : PE X (.Name x pos) (tC (.int i)) := by
  obtain ⟨t, h⟩ := h
  exact pe_glob hg h ⟨t, rfl⟩ hd
end
section
variable {X : Cx} {tg l : Expr} {tl : TE}
/-- what is walked is a list or a tuple -/
def iSeq (K : PySem.W.Frag) (tl : TE) : TI := fun σ H R => tl σ H fun x H1 => ∃ a, x = .ref a ∧ ∃ J, (((∃ xs, SqL K H1 a xs) ∧ J = Itl K a) ∨ ((∃ xs, SqT K H1 a xs) ∧ J = Itt K a)) ∧ R J H1
theorem pi_seq (hl : PE X l tl) : PI X tg l (iSeq X.K tl) := by
  refine ⟨fun pins s σ H R I h => ?_⟩
  refine thn (hl.run pins s σ H _ I h) fun v s1 ⟨x, H1, I1, r1, q1⟩ => ?_
  obtain ⟨a, e, J, ⟨⟨xs, hq⟩, rfl⟩ | ⟨⟨xs, hq⟩, rfl⟩, q⟩ := q1
  · subst e
    cases r1
    obtain ⟨its, rv, p, hz⟩ := I1.list hq
    refine wpAny_pyIter_list p.isList ?_
    refine ⟨s1.heap.objs.size, [s1.heap.objs.size], _, _, H1, rfl, I1.kept (t' := s1.toks) fun b o e => Heap.get?_push_of_some _ e, turn_list a _, ⟨_, Heap.get?_push_size _ rfl, rfl, rfl⟩, fun b hb => ?_, q⟩
    have e : b = s1.heap.objs.size := by simpa using hb
    subst e
    exact I1.fpOk (Nat.le_refl _) (I1.hok.fresh (Nat.le_refl _))
  · subst e
    cases r1
    obtain ⟨its, rv, p, hz⟩ := I1.tuple hq
    refine wpAny_pyIter_tuple (show s1.heap.IsTuple a its.toArray from p) ?_
    refine ⟨s1.heap.objs.size, [s1.heap.objs.size], _, _, H1, rfl, I1.kept (t' := s1.toks) fun b o e => Heap.get?_push_of_some _ e, turn_tuple a _, ⟨_, Heap.get?_push_size _ rfl, rfl, rfl⟩, fun b hb => ?_, q⟩
    have e : b = s1.heap.objs.size := by simpa using hb
    subst e
    exact I1.fpOk (Nat.le_refl _) (I1.hok.fresh (Nat.le_refl _))
end

/-! ### sorted ties -/
theorem le_tie (a b : Tie) (h : (!PySem.W.dataLt (eTie b) (eTie a)) = true) : a = b ∨ tlt a b := by
  unfold eTie at h
  rw [PySem.W.dataLt_ii] at h
  have h1 : ¬ ((b.1 : Int) < (a.1 : Int) ∨ ((b.1 : Int) = (a.1 : Int) ∧ (b.2 : Int) < (a.2 : Int))) := by
    rw [Bool.not_eq_true', decide_eq_false_iff_not] at h
    exact h
  unfold tlt
  by_cases e : a = b
  · exact .inl e
  · right
    have : ¬ (a.1 = b.1 ∧ a.2 = b.2) := fun q => e (Prod.ext q.1 q.2)
    omega
theorem ties_sorted {α : Type} {f : α → Tie} {bs : List α} (h : bs.Pairwise fun a b => PySem.W.dataLe false (fun b : α => eTie (f b)) a b = true) (nd : (bs.map f).Nodup) : (bs.map f).Pairwise tlt := by
  rw [List.pairwise_map]
  have nd' : bs.Pairwise fun a b => f a ≠ f b := List.pairwise_map.mp nd
  exact (h.and nd').imp fun {a b} q => (le_tie _ _ q.1).elim (fun e => absurd e q.2) id
theorem tyx_tup {K : PySem.W.Frag} {H : Hp} {a : Addr} {xs : List V} (h : SqT K H a xs) : TyX K H (.ref a) (.type "tuple") := by
  rcases h with (h | ⟨o, h⟩) | ⟨o, its, n, h, hc, _⟩
  · exact .base (.tup h)
  · exact .fTuple h
  · exact .kTuple h hc

/-! ### slices, sums of tuples: some tuple that holds them -/
theorem slA_go {K : PySem.W.Frag} {H : Hp} {a : Addr} {xs : List V} {lo hi : Option Int} {Q : VK} (h : SqT K H a xs) (q : ∀ p H', Same H H' → SqT K H' p (cutV xs lo hi) → Q (.ref p) H') : rSlA K (.ref a) lo hi H Q :=
  ⟨a, xs, rfl, h, fun e => q a H (Same.refl H) (by
    have : cutV xs lo hi = xs := by
      unfold cutV
      rw [e.1, e.2, List.drop_zero, Nat.sub_zero, List.take_length]
    rw [this]
    exact h), fun _ p hp => q p _ (same_new hp) (SqT.of upd_same)⟩
theorem catA_go {K : PySem.W.Frag} {H : Hp} {a b : Addr} {xs ys : List V} {Q : VK} (h1 : SqT K H a xs) (h2 : SqT K H b ys) (hl : xs.length + ys.length ≤ 1000) (q : ∀ p H', Same H H' → SqT K H' p (xs ++ ys) → Q (.ref p) H') : rCatA K (.ref a) (.ref b) H Q :=
  ⟨a, b, xs, ys, rfl, rfl, h1, h2, by rw [sizeLine_eq]; omega, fun e => q b H (Same.refl H) (by rw [e]; exact h2), fun _ e => q a H (Same.refl H) (by rw [e, List.append_nil]; exact h1), fun _ _ p hp => q p _ (same_new hp) (SqT.of upd_same)⟩
theorem cut_drop (xs : List V) (n : Nat) (h : n ≤ xs.length) : cutV xs (some (n : Int)) none = xs.drop n := by
  unfold cutV
  rw [HT.sIx_nat, HT.sIx_none, show min n xs.length = n by omega, List.take_of_length_le (by rw [List.length_drop]; omega)]
theorem cut_take (xs : List V) (n : Nat) (h : n ≤ xs.length) : cutV xs none (some (n : Int)) = xs.take n := by
  unfold cutV
  rw [HT.sIx_nat, HT.sIx_none, show min n xs.length = n by omega, List.drop_zero, Nat.sub_zero]

/-! ### the rules with the written part said (they stand under binders) -/
section
variable (K : PySem.W.Frag) {X : Cx} {e : Expr} {te : TE}
theorem kIxL (h : X.K = K := by rfl) : IxR X (rIxL K) := h ▸ ix_list
theorem kIxT (h : X.K = K := by rfl) : IxR X (rIxT K) := h ▸ ix_tup
theorem kSlL (h : X.K = K := by rfl) : SlR X (rSlL K) := h ▸ sl_list
theorem kSlA (h : X.K = K := by rfl) : SlR X (rSlA K) := h ▸ sl_tupA
theorem kCatA (h : X.K = K := by rfl) : OpR X (binaryOp .Add) (rCatA K) := h ▸ op_catA
theorem kIn (h : X.K = K := by rfl) : OpR X (compareOp .In) (rIn K false) := h ▸ op_in_seq
theorem kInD (hu : X.A.units + 65 < cLine) (h : X.K = K := by rfl) : OpR X (compareOp .In) (rInD K) := h ▸ op_inD hu
theorem kNotInD (hu : X.A.units + 65 < cLine) (h : X.K = K := by rfl) : OpR X (compareOp .NotIn) (rNotInD K) := h ▸ op_notInD hu
theorem kInDT (hu : X.A.units + 65 < cLine) (h : X.K = K := by rfl) : OpR X (compareOp .In) (rInDT K) := h ▸ op_inDT hu
theorem kEqD (hu : X.A.units + 64 < cLine) (h : X.K = K := by rfl) : OpR X (compareOp .Eq) (rEqD K) := h ▸ op_eqD hu
theorem kNeD (hu : X.A.units + 64 < cLine) (h : X.K = K := by rfl) : OpR X (compareOp .NotEq) (rNeD K) := h ▸ op_neD hu
def rLenQ : List V → Hp → VK → Prop := fun xs H Q => ∃ p ys, xs = [.ref p] ∧ (SqL K H p ys ∨ SqT K H p ys) ∧ Q (.int ys.length) H
theorem kLen (h : X.K = K := by rfl) : CallR X (.builtin "len") (rLenQ K) := h ▸ call_len_seq
def rListQ : List V → Hp → VK → Prop := fun xs H Q => ∃ p ys, xs = [.ref p] ∧ (SqL K H p ys ∨ SqT K H p ys) ∧ ∀ l, H l = none → Q (.ref l) (upd H l (.lst ys))
theorem kListOf (h : X.K = K := by rfl) : CallR X (.type "list") (rListQ K) := h ▸ call_list_of
def rTupQ : List V → Hp → VK → Prop := fun xs H Q => ∃ p ys, xs = [.ref p] ∧ ((SqL K H p ys ∧ ∀ l, H l = none → Q (.ref l) (upd H l (.tup ys))) ∨ (SqT K H p ys ∧ Q (.ref p) H))
theorem kTupleOf (h : X.K = K := by rfl) : CallR X (.type "tuple") (rTupQ K) := h ▸ call_tuple_of
theorem kAll (hc : X.calm = true) (h : X.K = K := by rfl) : CallR X (.builtin "all") (rAll K) := h ▸ cr_all hc
theorem kAny (hc : X.calm = true) (h : X.K = K := by rfl) : CallR X (.builtin "any") (rAny K) := h ▸ cr_any hc
theorem kSum (hc : X.calm = true) (h : X.K = K := by rfl) : CallR X (.builtin "sum") (rSum K) := h ▸ cr_sum hc
theorem kMin (hc : X.calm = true) (h : X.K = K := by rfl) : CallR X (.builtin "min") (rMin K) := h ▸ cr_min hc
theorem kSortD {δ : Type} (enc : δ → PyData) (hu : X.A.units + 64 < cLine) (h : X.K = K := by rfl) : CallR X (.builtin "sorted") (rSortD enc K) := h ▸ cr_sortD enc hu
theorem kMin2T (hc : X.calm = true) (hu : X.A.units + 64 < cLine) (h : X.K = K := by rfl) : CallR X (.builtin "min") (rMin2T K) := h ▸ cr_min2T hc hu
theorem kMax2T (hc : X.calm = true) (hu : X.A.units + 64 < cLine) (h : X.K = K := by rfl) : CallR X (.builtin "max") (rMax2T K) := h ▸ cr_max2T hc hu
theorem kIsi (h : X.K = K := by rfl) : CallR X (.builtin "isinstance") (rIsi K) := h ▸ call_isi
theorem kSetN (w : World) (hc : X.calm = true) (hu : X.A.units + 64 < cLine) (h : X.K = K := by rfl) (hw : X.w = w := by rfl) : CallR X (.type "set") (rSetN K w) := by
  subst h hw; exact cr_setN hc hu
theorem kSortN (w : World) (hc : X.calm = true) (hu : X.A.units + 64 < cLine) (h : X.K = K := by rfl) (hw : X.w = w := by rfl) : CallR X (.builtin "sorted") (rSortN K w) := by
  subst h hw; exact cr_sortN hc hu
theorem kTup (n : Nat) {es : List Expr} {k : Nat} {t : TGs} {pos : Pos} (hc : X.calm = true) (hh : PGs X es t) (h : X.K = K := by rfl)
    (hn : (assignEach es X.env).length = n := by rfl) (hst : (assignEach es X.env).findIdx? (·.1) = none := by rfl) : PG X (.Tuple es k pos) (gTup K n t) := h ▸ pg_tup hc hh hn hst
theorem kpiL {tg : Expr} (he : PE X e te) (h : X.K = K := by rfl) : PI X tg e (iList K te) := h ▸ pi_list he
theorem kpiT {tg : Expr} (he : PE X e te) (h : X.K = K := by rfl) : PI X tg e (iTup K te) := h ▸ pi_tup he
theorem kpiQ {tg : Expr} (he : PE X e te) (h : X.K = K := by rfl) : PI X tg e (iSeq K te) := h ▸ pi_seq he
end
end Rw
end
section
set_option maxRecDepth 100000
set_option maxHeartbeats 4000000
/-! The walk: webs. -/
namespace Rw
open PySem PySem.Spec PyProof.Rows L2
section
variable {P : Program} {w : World} {K : PySem.W.Frag} {mg : Str → Option Value} {base : Heap}
def spNears (K : PySem.W.Frag) : Sp := fun vs H Q _ => ∃ (v : V) (W : Web) (p : Nat), vs = [v, .int (p : Int)] ∧ IsWeb K H v W ∧ Good W ∧ p < W.1 ∧
  ∀ H' l (ys : List Nat), Same H H' → H l = none → H' l = some (.lst (ys.map fun n : Nat => V.int (n : Int))) → (∀ y, y ∈ ys ↔ adj W.2 p y = true) → ys.length ≤ 15 → Q (.ref l) H'
theorem ok_nears (S : Stands K mg "nears" s_nears ["web", "place"]) (T : Blt mg) : Has P w K mg base 1 "nears" ["web", "place"] (spNears K) := by
  refine has_of S sc_nears (fun vs H Q E h => ?_) (fun f cdv A outer s H vs Q E hr h => ?_)
  · obtain ⟨v, W, p, rfl, _⟩ := h
    rfl
  · obtain ⟨v, W, p, rfl, ⟨a, u, rfl, hW, b, xs, rfl, hT, hP⟩, g, hp, q⟩ := h
    refine ⟨_, (pss_one (ps_ret (pe_callB (kSortD K eNat hr.units) (by rfl) T.sorted (by decide +kernel) (pa_cons (pe_lc (own := [("one", 2), ("other", 3)]) rfl sc_nears.nd (kpiT K (pe_ix (kIxT K) (pv 0) pe_int (fun _ _ => rfl))) (blkOk_by (own := [("one", 2), ("other", 3)]) (N := ["web", "place", "one", "other"]) (sc := defScope s_nears) (by decide +kernel)) (fun _ _ _ _ _ => (kTup K 2 rfl (pgs_cons (pg_name (i := 2) sc_nears.nd rfl (Or.inl rfl)) (pgs_cons (pg_name (i := 3) sc_nears.nd rfl (Or.inl rfl)) pgs_nil)))) (fun _ _ _ _ _ => (pts_one (pt_cmpR (kIn K) (pv 1) (pe_tup (pa_cons (pv 2) (pa_cons (pv 3) pa_nil))) (by rfl)))) (fun _ _ _ _ _ => (pe_op op_sub (pe_op op_add (pv 2) (pv 3)) (pv 1)))) pa_nil)))), ?_⟩
    refine ⟨.ref a, rfl, a, _, 1, .ref b, rfl, rfl, hW, rfl, b, rfl, ⟨xs, hT⟩, fun D hD => ?_⟩
    refine lc_pure (ts := W.2) (RI := IsTie K) (src_tup fun H' s => ⟨xs, (tk_same s).seq hT, ties_k (tk_same s) hP⟩) hD IsNat (fun e => if e.1 = p ∨ e.2 = p then some (e.1 + e.2 - p) else none) (fun i t x H1 H' e c s r => ?_) (fun acc H1 s1 hacc hpa => ?_)
    · obtain ⟨d, rfl, hd⟩ := r
      refine ⟨d, _, rfl, hd, rfl, _, _, rfl, _, _, rfl, rfl, rfl, .int p, rfl, _, rfl, _, rfl, szs (by simp), fun T hT => ⟨T, _, rfl, .inr (SqT.of upd_same), rfl, rfl, _, rfl, ?_⟩⟩
      have hi := g.inn t (List.mem_of_getElem? e)
      have hb : (if false = true then !inV (V.int (p : Int)) [V.int (t.1 : Int), V.int (t.2 : Int)] else inV (V.int (p : Int)) [V.int (t.1 : Int), V.int (t.2 : Int)]) = decide (t.1 = p ∨ t.2 = p) := by
        rw [if_neg Bool.false_ne_true, in2_int]
        rw [Bool.eq_iff_iff]; simp; omega
      rw [hb]
      have s2 := s.trans (same_new (o := .tup [V.int (t.1 : Int), V.int (t.2 : Int)]) hT)
      by_cases hc : t.1 = p ∨ t.2 = p
      · rw [decide_eq_true hc]
        refine iteT ?_
        refine ⟨_, rfl, _, rfl, _, _, rfl, rfl, _, rfl, _, _, rfl, rfl, ?_⟩
        refine comp_add c hD e s2 (if_pos hc) ?_ (fun _ _ _ _ _ h => h) (by have := g.len; omega)
        show V.int _ = V.int _
        congr 1
        omega
      · rw [decide_eq_false hc]
        exact iteF (comp_skip c e s2 (if_neg hc) (fun _ _ _ _ _ h => h))
    · obtain ⟨zs, rfl, hz2, hz⟩ := paired_zip hpa
      refine ⟨D, zs, rfl, .inl (SqL.of hacc), fun z hz' => by rw [hz z hz']; exact .int _, fun z _ => ⟨by simp [eNat, td], by simp [eNat, PyData.depth]⟩, PySem.W.AllAlike.of (enc := fun b : V × Nat => eNat b.2) (fun _ _ => by simp [eNat, PySem.W.alike]), PySem.W.Sortable.others (enc := fun b : V × Nat => eNat b.2) (fun _ => by simp [eNat]), fun l hl => ?_⟩
      have pm := List.mergeSort_perm zs (PySem.W.dataLe false fun b : V × Nat => eNat b.2)
      have hv : ∀ l : List (V × Nat), (∀ z ∈ l, z ∈ zs) → l.map (·.1) = (l.map (·.2)).map (fun n : Nat => V.int (n : Int)) := fun l hl => by
        rw [List.map_map]
        refine List.map_congr_left fun z h => ?_
        exact hz z (hl z h)
      rw [hv _ fun z h => pm.mem_iff.mp h]
      refine q _ l _ (s1.trans (same_new hl)) (s1.free hl) upd_same (fun y => ?_) ?_
      · rw [(pm.map (·.2)).mem_iff, ← hz2, List.mem_filterMap]
        constructor
        · rintro ⟨e, he, h⟩
          have hi := g.inn e he
          split at h
          · rename_i hc
            have hy : e.1 + e.2 - p = y := Option.some.inj h
            rw [adj_iff]
            obtain ⟨x, y'⟩ := e
            simp only at *
            rcases hc with rfl | rfl
            · left
              rw [← hy, Nat.add_sub_cancel_left]
              exact he
            · right
              rw [← hy, Nat.add_sub_cancel]
              exact he
          · cases h
        · intro h
          rw [adj_iff] at h
          rcases h with h | h
          · exact ⟨_, h, by rw [if_pos (.inl rfl)]; simp⟩
          · exact ⟨_, h, by rw [if_pos (.inr rfl)]; simp⟩
      · rw [List.length_map, List.length_mergeSort]
        have h1 := congrArg List.length hz2
        rw [List.length_map] at h1
        rw [← h1]
        exact Nat.le_trans (List.length_filterMap_le _ _) g.len
def spFars (K : PySem.W.Frag) : Sp := fun vs H Q _ => ∃ (v : V) (W : Web) (p : Nat), vs = [v, .int (p : Int)] ∧ IsWeb K H v W ∧ Good W ∧ p < W.1 ∧
  ∀ H' l (f : List (Option Nat)), Same H H' → H l = none → H' l = some (.lst (f.map oV)) → FarSpec W p f → Q (.ref l) H'
theorem ok_fars (S : Stands K mg "fars" s_fars ["web", "place"]) (T : Blt mg) (G_nears : Has P w K mg base 1 "nears" ["web", "place"] (spNears K)) : Has P w K mg base 2 "fars" ["web", "place"] (spFars K) := by
  refine has_of S sc_fars (fun vs H Q E h => ?_) (fun f cdv A outer s H vs Q E hr h => ?_)
  · obtain ⟨v, W, p, rfl, _⟩ := h
    rfl
  · obtain ⟨v, W, p, rfl, hw, g, hp, q⟩ := h
    have hw0 := hw
    obtain ⟨a, u, rfl, hW, hT⟩ := hw0
    have hn := g.hi
    refine ⟨_, (pss_cons (ps_set (i := 2) sc_fars.nd rfl (Or.inl rfl) (pe_op op_rep (pe_lst (pa_cons pe_non pa_nil)) (pe_ix (kIxT K) (pv 0) pe_int (fun _ _ => rfl))))
      (pss_cons (ps_asg pe_int (pg_sub (pv 2) (pv 1) set_list))
      (pss_cons (ps_set (i := 3) sc_fars.nd rfl (Or.inl rfl) (pe_lst (pa_cons (pv 1) pa_nil)))
      (pss_cons (ps_set (i := 4) sc_fars.nd rfl (Or.inl rfl) pe_int)
      (pss_cons (ps_while PassesOwn.never (pt_cmpR op_lt (pv 4) (pe_callB (kLen K) (by rfl) T.len (by decide +kernel) (pa_cons (pv 3) pa_nil)) (nomark _))
        (pss_cons (ps_for PassesOwn.never rfl (kpiL K (pe_own G_nears (hr.mono (by omega)) (pa_cons (pv 0) (pa_cons (pe_ix (kIxL K) (pv 3) (pv 4) (fun _ _ => rfl)) pa_nil)))) (pg_name (i := 5) sc_fars.nd rfl (Or.inl rfl))
          (pss_one (ps_if (pt_cmpR op_isN (pe_ix (kIxL K) (pv 2) (pv 5) (fun _ _ => rfl)) pe_non (nomark _))
            (pss_cons (ps_asg (pe_op op_add (pe_ix (kIxL K) (pv 2) (pe_ix (kIxL K) (pv 3) (pv 4) (fun _ _ => rfl)) (fun _ _ => rfl)) pe_int) (pg_sub (pv 2) (pv 5) set_list))
            (pss_one (ps_expr (pe_bm PySem.F.plainAttrs_list PySem.F.slot_list_append PySem.F.type_list_append mt_append (pv 3) (pa_cons (pv 5) pa_nil)))))
            pss_nil)))
        (pss_one (ps_aug (i := 4) sc_fars.nd rfl (Or.inl rfl) pe_int ip_add))))
      (pss_one (ps_ret (pv 2)))))))), ?_⟩
    -- found = [None] * web[0]; found[place] = 0
    refine ⟨szs (by simp), fun l0 hl0 => ⟨.ref a, rfl, a, _, 0, _, rfl, rfl, (tk_same (same_new hl0)).seq hW, rfl, l0, _, _, rfl, rfl, upd_same, by omega, by omega, szs (by simp; omega), fun fo hfo => ?_⟩⟩
    have efo : H fo = none := (same_new hl0).free hfo
    have e0 : (List.replicate (W.1 : Int).toNat [V.non]).flatten = (List.replicate W.1 (none : Option Nat)).map oV := by
      rw [List.map_replicate]
      show _ = List.replicate W.1 V.non
      rw [show (W.1 : Int).toNat = W.1 by omega]
      induction W.1 with
      | zero => rfl
      | succ n ih => rw [List.replicate_succ, List.flatten_cons, ih]; rfl
    rw [e0]
    refine ⟨.ref fo, rfl, .int p, rfl, fo, _, _, p, rfl, rfl, upd_same, ixN_nat (by simpa using hp), ?_⟩
    -- row = [place]; at = 0
    refine ⟨.int p, rfl, szs (by simp), fun ro hro => ?_⟩
    have efr : ro ≠ fo := fun e => by
      rw [e, upd_same] at hro
      cases hro
    have s0 : Same H (upd (upd (upd (upd H l0 (.lst [V.non])) fo (.lst ((List.replicate W.1 (none : Option Nat)).map oV))) fo (.lst (((List.replicate W.1 (none : Option Nat)).map oV).set p (V.int 0)))) ro (.lst [V.int p])) :=
      (same_mut (same_mut (same_new hl0) efo) efo).trans (same_new hro)
    have ero : H ro = none := (same_mut (same_mut (same_new hl0) efo) efo).free hro
    refine ⟨fun m σ H1 => ∃ (f : List (Option Nat)) (row : List Nat) (k : Nat) (y5 : Option V), σ = [some (.ref a), some (.int p), some (.ref fo), some (.ref ro), some (.int (k : Int)), y5] ∧ Same H H1 ∧ H1 fo = some (.lst (f.map oV)) ∧ H1 ro = some (.lst (row.map nV)) ∧ BW W p f row k ∧ m = W.1 + 1 - k,
      ⟨_, _, [p], 0, none, rfl, s0, ?_, upd_same, bw_start hp, rfl⟩, fun m σ H1 hW1 => ?_⟩
    · rw [upd_ne efr.symm, upd_same, List.map_set]
      rfl
    · obtain ⟨f, row, k, y5, rfl, s1, hf, hrow, bw, rfl⟩ := hW1
      refine ⟨_, rfl, .ref ro, rfl, ro, _, rfl, .inl (SqL.of hrow), _, _, rfl, rfl, _, rfl, ite2 (fun e => ?_) (fun e => ?_)⟩
      · have hk : k < row.length := by
          have := of_decide_eq_true e
          rw [List.length_map] at this
          omega
        have hle := bw.bi.le
        obtain ⟨x, hx⟩ : ∃ x, row[k]? = some x := ⟨_, List.getElem?_eq_getElem hk⟩
        have hxm := List.mem_of_getElem? hx
        have hxn := bw.bi.rng x hxm
        refine ⟨fun σ' H' => ∃ m', m' < W.1 + 1 - k ∧ ∃ (f : List (Option Nat)) (row : List Nat) (k : Nat) (y5 : Option V), σ' = [some (.ref a), some (.int p), some (.ref fo), some (.ref ro), some (.int (k : Int)), y5] ∧ Same H H' ∧ H' fo = some (.lst (f.map oV)) ∧ H' ro = some (.lst (row.map nV)) ∧ BW W p f row k ∧ m' = W.1 + 1 - k, fun _ _ h => h, ?_⟩
        -- for there in nears(web, row[at])
        refine ⟨_, rfl, _, rfl, _, rfl, ro, _, _, nV x, rfl, rfl, SqL.of hrow, atI_n rfl (by rw [List.getElem?_map, hx]; rfl), .ref a, W, x, rfl, hw.k (tk_same s1), g, hxn, fun H2 l ys s2 hl hly hys hylen => ?_⟩
        have hl0' : H l = none := s1.free hl
        have nlf : l ≠ fo := fun e => by rw [e, hf] at hl; cases hl
        have nlr : l ≠ ro := fun e => by rw [e, hrow] at hl; cases hl
        refine ⟨l, rfl, ⟨_, SqL.of hly⟩, for_src (ts := ys) (RI := IsNat) (src_lst (Ok := fun H => H l = some (.lst (ys.map nV))) fun H h => ⟨_, SqL.of h, paired_self (F := IsNat H) (f := nV) (fun _ => rfl) ys⟩)
          (fun j σ H3 => ∃ (f : List (Option Nat)) (row : List Nat) (y5 : Option V), σ = [some (.ref a), some (.int p), some (.ref fo), some (.ref ro), some (.int (k : Int)), y5] ∧ Same H H3 ∧ H3 fo = some (.lst (f.map oV)) ∧ H3 ro = some (.lst (row.map nV)) ∧ H3 l = some (.lst (ys.map nV)) ∧ BT W p f row k x (ys.take j))
          (fun j σ H3 h => by obtain ⟨_, _, _, _, _, _, _, h, _⟩ := h; exact h) ⟨f, row, y5, rfl, s1.trans s2, s2 _ _ hf, s2 _ _ hrow, hly, bw.turn hx⟩ (fun j y yv σ H3 H3' ey hP s3 hy => ?_) (fun σ H3 hP => ?_)⟩
        · obtain ⟨f, row, y5, rfl, s4, hf, hrow, hly, bt⟩ := hP
          obtain rfl : yv = .int y := hy
          have hf := s3 _ _ hf
          have hrow := s3 _ _ hrow
          have hly := s3 _ _ hly
          have s4 := s4.trans s3
          have hxy : adj W.2 x y = true := (hys y).mp (List.mem_of_getElem? ey)
          have hyn : y < W.1 := (g.lt hxy).2.1
          have hfy : f[y]? = some (f[y]'(by rw [bt.bi.len]; exact hyn)) := List.getElem?_eq_getElem _
          generalize f[y]'(by rw [bt.bi.len]; exact hyn) = o at hfy
          have hk' : k < row.length := (List.getElem?_eq_some_iff.mp bt.cur).1
          refine ⟨_, rfl, _, rfl, fo, _, _, oV o, rfl, rfl, SqL.of hf, atI_n rfl (by rw [List.getElem?_map, hfy]; rfl), rfl, _, rfl, ite2 (fun e => ?_) (fun e => ?_)⟩
          · have ho : o = none := by
              rw [oV_none] at e
              cases o with
              | none => rfl
              | some d => cases e
            subst ho
            have hyl : y < f.length := by rw [bt.bi.len]; exact hyn
            -- found[there] = found[row[at]] + 1
            refine ⟨_, rfl, _, rfl, _, rfl, ro, _, _, nV x, rfl, rfl, SqL.of hrow, atI_n rfl (by rw [List.getElem?_map, bt.cur]; rfl), fo, _, _, .int (lab f x : Int), rfl, rfl, SqL.of hf, atI_n rfl (by rw [List.getElem?_map, bt.bi.lt (List.mem_of_getElem? bt.cur)]; rfl), _, _, rfl, rfl,
              _, rfl, _, rfl, fo, _, _, y, rfl, rfl, hf, ixN_nat (by rw [List.length_map]; exact hyl), ?_⟩
            -- row.append(there)
            have hr1 : (upd H3' fo (.lst ((f.map oV).set y (.int ((lab f x : Int) + 1))))) ro = some (.lst (row.map nV)) := by rw [upd_ne efr]; exact hrow
            refine ⟨_, rfl, .inl ⟨rfl, _, .inl (.inl hr1)⟩, _, rfl, ro, _, _, rfl, rfl, hr1, ?_, ?_⟩
            · have := bt.bi.le
              rw [List.length_map, sizeLine_eq]; omega
            · refine ⟨f.set y (some (lab f x + 1)), row ++ [y], some (.int y), rfl, same_mut (same_mut s4 efo) ero, ?_, ?_, ?_, ?_⟩
              · rw [upd_ne efr.symm, upd_same, List.map_set]
                rfl
              · rw [upd_same, List.map_append]
                rfl
              · rw [upd_ne nlr, upd_ne nlf]
                exact hly
              · rw [take_snoc ey]
                exact bt.new g hxy hfy
          · have ho : ∃ d, o = some d := by
              rw [oV_none] at e
              cases o with
              | none => exact absurd rfl e
              | some d => exact ⟨d, rfl⟩
            obtain ⟨d, rfl⟩ := ho
            refine ⟨f, row, some (.int y), rfl, s4, hf, hrow, hly, ?_⟩
            rw [take_snoc ey]
            exact bt.old hfy
        · obtain ⟨f, row, y5, rfl, s4, hf, hrow, hly, bt⟩ := hP
          rw [List.take_length] at bt
          refine ⟨_, rfl, _, _, rfl, rfl, W.1 + 1 - (k + 1), by omega, f, row, k + 1, y5, rfl, s4, hf, hrow, bt.next fun y hy => (hys y).mpr hy, rfl⟩
      · have hk : k = row.length := by
          have h1 : ¬ ((k : Int) < ((row.map nV).length : Int)) := fun z => e (decide_eq_true z)
          have h2 := bw.le
          rw [List.length_map] at h1
          omega
        have d := bw.done
        rw [hk] at d
        exact ⟨_, rfl, q H1 fo f s1 efo hf (bw.bi.fin d g)⟩
/-- the ties of the square that begin with the places below i -/
def rowsTo (W : Web) (i : Nat) : List Tie := (List.range i).flatMap fun x => (List.range' (x + 1) (W.1 - (x + 1))).filterMap fun b => if near W.2 W.1 x b = true then some (x, b) else none
theorem rowsTo_succ (W : Web) (i : Nat) : rowsTo W (i + 1) = rowsTo W i ++ (List.range' (i + 1) (W.1 - (i + 1))).filterMap fun b => if near W.2 W.1 i b = true then some (i, b) else none := by
  unfold rowsTo
  rw [List.range_succ, List.flatMap_append, List.flatMap_cons, List.flatMap_nil, List.append_nil]
theorem rowsTo_all (W : Web) : rowsTo W W.1 = (sq W).2 := by
  unfold rowsTo sq pairs
  rw [List.filter_flatMap]
  congr 1
  funext x
  rw [List.filter_map]
  generalize List.range' (x + 1) (W.1 - (x + 1)) = l
  induction l with
  | nil => rfl
  | cons b l ih =>
    rw [List.filterMap_cons, List.filter_cons]
    by_cases h : near W.2 W.1 x b = true
    · simp only [h, if_true, Function.comp, List.map_cons]
      rw [ih]
      try rfl
    · simp only [Function.comp] at ih ⊢
      simp only [h, Bool.false_eq_true, if_false]
      try exact ih
theorem rowsTo_len {W : Web} (g : Good W) {i : Nat} (hi : i ≤ W.1) : (rowsTo W i).length ≤ 15 := by
  have : (rowsTo W i).length ≤ (rowsTo W W.1).length := by
    obtain ⟨d, hd⟩ : ∃ d, W.1 = i + d := ⟨W.1 - i, by omega⟩
    rw [hd]
    clear hd hi
    induction d with
    | zero => exact Nat.le_refl _
    | succ d ih =>
      rw [← Nat.add_assoc, rowsTo_succ, List.length_append]
      omega
  rw [rowsTo_all] at this
  exact Nat.le_trans this (sq_good g).len
theorem far_near {W : Web} (g : Good W) {p : Nat} {f : List (Option Nat)} (h : FarSpec W p f) {b : Nat} (hb : b < W.1) (hpb : p < b) : (∃ d, f[b]? = some (some d) ∧ d ≤ 2) ↔ near W.2 W.1 p b = true := by
  rw [h.far b hb, near_iff]
  constructor
  · rintro (rfl | q | ⟨c, q1, q2⟩)
    · omega
    · exact .inl q
    · exact .inr ⟨c, (g.lt q1).2.1, q1, q2⟩
  · rintro (q | ⟨c, _, q1, q2⟩)
    · exact .inr (.inl q)
    · exact .inr (.inr ⟨c, q1, q2⟩)
def spStepped (K : PySem.W.Frag) : Sp := fun vs H Q _ => ∃ (v : V) (W : Web), vs = [v, .int 2] ∧ IsWeb K H v W ∧ Good W ∧ ∀ H' u, Same H H' → IsWeb K H' u (sq W) → Q u H'
theorem ok_stepped (S : Stands K mg "stepped" s_stepped ["web", "k"]) (T : Blt mg) (G_fars : Has P w K mg base 2 "fars" ["web", "place"] (spFars K)) : Has P w K mg base 3 "stepped" ["web", "k"] (spStepped K) := by
  refine has_of S sc_stepped (fun vs H Q E h => ?_) (fun f cdv A outer s H vs Q E hr h => ?_)
  · obtain ⟨v, W, rfl, _⟩ := h
    rfl
  · obtain ⟨v, W, rfl, hw, g, q⟩ := h
    have hw0 := hw
    obtain ⟨a, u, rfl, hW, hT⟩ := hw0
    have hn := g.hi
    refine ⟨_, (pss_cons (ps_set (i := 2) sc_stepped.nd rfl (Or.inl rfl) (pe_lst pa_nil))
      (pss_cons (ps_for PassesOwn.never rfl (pi_range1 (by rfl) T.range (pa_cons (pe_ix (kIxT K) (pv 0) pe_int (fun _ _ => rfl)) pa_nil)) (pg_name (i := 3) sc_stepped.nd rfl (Or.inr rfl))
        (pss_cons (ps_set (i := 4) sc_stepped.nd rfl (Or.inr rfl) (pe_own G_fars (hr.mono (by omega)) (pa_cons (pv 0) (pa_cons (pv 3) pa_nil))))
        (pss_one (ps_expr (pe_bm PySem.F.plainAttrs_list PySem.F.slot_list_extend PySem.F.type_list_extend mt_extend (pv 2) (pa_cons (pe_lc (own := [("other", 5)]) rfl sc_stepped.nd (pi_range2 (by rfl) T.range (pa_cons (pe_op op_add (pv 3) pe_int) (pa_cons (pe_ix (kIxT K) (pv 0) pe_int (fun _ _ => rfl)) pa_nil))) (blkOk_by (own := [("other", 5)]) (N := ["web", "k", "ties", "one", "far", "other"]) (sc := defScope s_stepped) (by decide +kernel)) (fun _ _ _ _ _ => (pg_name (i := 5) sc_stepped.nd rfl (Or.inl rfl))) (fun _ _ _ _ _ => (pts_one (PW.pt (pw_and (pt_cmpR op_notN (pe_ix (kIxL K) (pv 4) (pv 5) (fun _ _ => rfl)) pe_non (nomark _)) (pw_and1 (pt_cmpR op_le (pe_ix (kIxL K) (pv 4) (pv 5) (fun _ _ => rfl)) (pv 1) (nomark _))))))) (fun _ _ _ _ _ => (pe_tup (pa_cons (pv 3) (pa_cons (pv 5) pa_nil))))) pa_nil))))))
      (pss_one (ps_ret (pe_tup (pa_cons (pe_ix (kIxT K) (pv 0) pe_int (fun _ _ => rfl)) (pa_cons (pe_callTy (kTupleOf K) (by rfl) T.tuple (by decide +kernel) (pa_cons (pv 2) pa_nil)) pa_nil))))))), ?_⟩
    refine ⟨szs (by simp), fun tl htl => ?_⟩
    have s0 : Same H (upd H tl (.lst [])) := same_new htl
    refine ⟨.ref a, rfl, a, _, 0, _, rfl, rfl, (tk_same s0).seq hW, rfl, (W.1 : Int), rfl, by omega, by omega, for_src (ts := List.range' 0 W.1) (RI := IsNat) (src_rng' (Ok := fun _ => True) rfl (by omega))
      (fun i σ H1 => ∃ (y3 y4 y5 : Option V) (acc : List V), σ = [some (.ref a), some (.int 2), some (.ref tl), y3, y4, y5] ∧ Same H H1 ∧ H1 tl = some (.lst acc) ∧ Paired (IsTie K H1) acc (rowsTo W i)) (fun _ _ _ _ => trivial)
      ⟨none, none, none, [], rfl, s0, upd_same, .nil⟩ (fun i x xv σ H1 H1' ex hP s1 hx => ?_) (fun σ H1 hP => ?_)⟩
    · obtain ⟨y3, y4, y5, acc, rfl, sH, hacc, hpa⟩ := hP
      obtain ⟨rfl, hi⟩ := rng_at ex
      obtain rfl : xv = .int ((0 + i : Nat) : Int) := hx
      rw [Nat.zero_add] at *
      have sH1 := sH.trans s1
      -- far = fars(web, one)
      refine ⟨_, rfl, _, rfl, .ref a, W, i, rfl, hw.k (tk_same sH1), g, hi, fun H2 fl f s2 hfl hf F => ?_⟩
      have sH2 := sH1.trans s2
      have hacc2 := s2 _ _ (s1 _ _ hacc)
      -- ties.extend([..])
      refine ⟨.ref tl, rfl, .inl ⟨rfl, _, .inl (.inl hacc2)⟩, _, rfl, _, _, rfl, rfl, .ref a, rfl, a, _, 0, _, rfl, rfl, (tk_same sH2).seq hW, rfl, _, _, rfl, ⟨by omega, by omega, by omega, by omega⟩, fun D hD => ?_⟩
      refine lc_pure (ts := List.range' (i + 1) (W.1 - (i + 1))) (RI := IsNat) (src_rng' (by omega) (by omega)) hD (IsTie K) (fun b => if near W.2 W.1 i b = true then some (i, b) else none) (fun j b bv H3 H3' eb c s3 hb => ?_) (fun zs H3 s3 hzs hzp => ?_)
      · obtain ⟨eb', hj⟩ := rng_at eb
        obtain rfl : bv = .int (b : Int) := hb
        have hbn : b < W.1 := by omega
        have hib : i < b := by omega
        have hfb : f[b]? = some (f[b]'(by rw [F.len]; exact hbn)) := List.getElem?_eq_getElem _
        generalize f[b]'(by rw [F.len]; exact hbn) = o at hfb
        have hfn := far_near g F hbn hib
        have hf3 : SqL K H3' fl (f.map oV) := SqL.of ((c.same.trans s3) _ _ hf)
        have hat : atI (f.map oV) (b : Int) = some (oV o) := atI_n rfl (by rw [List.getElem?_map, hfb]; rfl)
        refine ⟨rfl, ?_⟩
        refine ⟨_, rfl, _, rfl, fl, _, _, oV o, rfl, rfl, hf3, hat, rfl, _, rfl, ?_⟩
        cases o with
        | none =>
          rw [show (!decide (oV none = V.non)) = false from rfl]
          refine iteF (iteF (comp_skip c eb s3 (if_neg fun h => ?_) (fun _ _ _ _ t h => h.k t)))
          obtain ⟨d, h1, _⟩ := hfn.mpr h
          rw [hfb] at h1
          cases h1
        | some d =>
          rw [show (!decide (oV (some d) = V.non)) = true from rfl]
          refine iteT ⟨_, rfl, _, rfl, fl, _, _, oV (some d), rfl, rfl, hf3, hat, _, rfl, _, _, rfl, rfl, _, rfl, ?_⟩
          by_cases hd : d ≤ 2
          · rw [decide_eq_true (show (d : Int) ≤ 2 by omega)]
            refine iteT ⟨_, rfl, _, rfl, szs (by simp), fun t ht => ?_⟩
            exact comp_add c hD eb (s3.trans (same_new ht)) (if_pos (hfn.mp ⟨d, hfb, hd⟩)) ⟨t, rfl, SqT.of upd_same⟩ (fun _ _ _ _ t h => h.k t) (by rw [List.length_range']; omega)
          · rw [decide_eq_false (show ¬ (d : Int) ≤ 2 by omega)]
            refine iteF (comp_skip c eb s3 (if_neg fun h => ?_) (fun _ _ _ _ t h => h.k t))
            obtain ⟨d', h1, h2⟩ := hfn.mpr h
            rw [hfb] at h1
            have := Option.some.inj (Option.some.inj h1)
            omega
      · have hacc3 := s3 _ _ hacc2
        have hl1 := rowsTo_len g (show i + 1 ≤ W.1 by omega)
        rw [rowsTo_succ, List.length_append] at hl1
        refine ⟨tl, D, acc, zs, rfl, rfl, hacc3, hzs, ?_, ?_⟩
        · rw [hpa.length, hzp.length, sizeLine_eq]; omega
        · have tk := tk_lst (o := .lst (acc ++ zs)) hacc3
          refine ⟨_, _, _, acc ++ zs, rfl, same_mut (sH2.trans s3) htl, upd_same, ?_⟩
          rw [rowsTo_succ]
          exact paired_app (ties_k ((tk_same ((s1.trans s2).trans s3)).trans tk) hpa) (ties_k tk hzp)
    · obtain ⟨y3, y4, y5, acc, rfl, sH, hacc, hpa⟩ := hP
      rw [List.length_range', rowsTo_all] at hpa
      -- return (web[0], tuple(ties))
      refine ⟨.ref a, rfl, a, _, 0, _, rfl, rfl, (tk_same sH).seq hW, rfl, .ref tl, rfl, tl, acc, rfl, .inl ⟨SqL.of hacc, fun t ht => ⟨szs (by simp), fun r hrn => ?_⟩⟩⟩
      refine q _ _ ((sH.trans (same_new ht)).trans (same_new hrn)) ⟨r, .ref t, rfl, SqT.of upd_same, t, acc, rfl, SqT.of ?_, ?_⟩
      · exact same_new hrn _ _ upd_same
      · exact ties_k (tk_same ((same_new ht).trans (same_new hrn))) hpa
def spTwo (K : PySem.W.Frag) : Sp := fun vs H Q _ => ∃ (v : V) (W : Web), vs = [v] ∧ IsWeb K H v W ∧ Good W ∧ ∀ H' u, Same H H' → IsWeb K H' u (sq W) → Q u H'
theorem ok_two_step (S : Stands K mg "two_step" s_two_step ["web"]) (T : Blt mg) (G_stepped : Has P w K mg base 3 "stepped" ["web", "k"] (spStepped K)) : Has P w K mg base 4 "two_step" ["web"] (spTwo K) := by
  refine has_of S sc_two_step (fun vs H Q E h => ?_) (fun f cdv A outer s H vs Q E hr h => ?_)
  · obtain ⟨v, W, rfl, _⟩ := h
    rfl
  · obtain ⟨v, W, rfl, hw, g, q⟩ := h
    exact ⟨_, (pss_one (ps_ret (pe_own G_stepped (hr.mono (by omega)) (pa_cons (pv 0) (pa_cons pe_int pa_nil))))), v, rfl, v, W, rfl, hw, g, q⟩
def spStill (K : PySem.W.Frag) : Sp := fun vs H Q _ => ∃ (v : V) (W : Web), vs = [v] ∧ IsWeb K H v W ∧ Good W ∧ ∀ H', Same H H' → Q (.bl (decide (sq W = W))) H'
theorem ok_is_still (S : Stands K mg "is_still" s_is_still ["web"]) (T : Blt mg) (G_two_step : Has P w K mg base 4 "two_step" ["web"] (spTwo K)) : Has P w K mg base 5 "is_still" ["web"] (spStill K) := by
  refine has_of S sc_is_still (fun vs H Q E h => ?_) (fun f cdv A outer s H vs Q E hr h => ?_)
  · obtain ⟨v, W, rfl, _⟩ := h
    rfl
  · obtain ⟨v, W, rfl, hw, g, q⟩ := h
    refine ⟨_, (pss_one (ps_ret (pe_cmpR (kEqD K hr.units) (pe_own G_two_step (hr.mono (by omega)) (pa_cons (pv 0) pa_nil)) (pv 0) (nomark _)))), v, rfl, v, W, rfl, hw, g, fun H1 u s1 hu => ⟨v, rfl, eWeb (sq W), eWeb W, hu.dp, (hw.k (tk_same s1)).dp, sh_web _, sh_web _, ?_⟩⟩
    rw [eqv_web]
    exact q H1 s1
end
end Rw
end
section
set_option maxRecDepth 100000
set_option maxHeartbeats 4000000
/-! The walk: other names. -/
namespace Rw
open PySem PySem.Spec PyProof.Rows L2
section
variable {P : Program} {w : World} {K : PySem.W.Frag} {mg : Str → Option Value} {base : Heap}
def spWhole : Sp := fun vs H Q _ => ∃ i : Int, vs = [.int i] ∧ Q (.bl true) H
theorem ok_is_whole (S : Stands K mg "is_whole" s_is_whole ["thing"]) (T : Blt mg) : Has P w K mg base 1 "is_whole" ["thing"] spWhole := by
  refine has_of S sc_is_whole (fun vs H Q E h => ?_) (fun f cdv A outer s H vs Q E hr h => ?_)
  · obtain ⟨i, rfl, _⟩ := h
    rfl
  · obtain ⟨i, rfl, q⟩ := h
    exact ⟨_, (pss_one (ps_ret (pe_and (pe_callB (kIsi K) (by rfl) T.isinstance (by decide +kernel) (pa_cons (pv 0) (pa_cons (pe_bltn (v := .ty "int") (u := .type "int") (by rfl) T.int (by decide +kernel) rfl) pa_nil))) (pe_one (pe_not (pe_callB (kIsi K) (by rfl) T.isinstance (by decide +kernel) (pa_cons (pv 0) (pa_cons (pe_bltn (v := .ty "bool") (u := .type "bool") (by rfl) T.bool (by decide +kernel) rfl) pa_nil)))))))), .int i, rfl, .int i, .ty "int", .type "int", .type "int", true, rfl, .ty _, .base (.int _), kit_ty (by decide +kernel), true, rfl, iteT ⟨.int i, rfl, .int i, .ty "bool", .type "int", .type "bool", false, rfl, .ty _, .base (.int _), kit_ty (by decide +kernel), false, rfl, q⟩⟩
def spNames (K : PySem.W.Frag) : Sp := fun vs H Q _ => ∃ (v u : V) (W : Web) (names : List Nat), vs = [v, u] ∧ IsWeb K H v W ∧ Good W ∧ IsNats K H u names ∧ IsPerm W.1 names ∧ ∀ H', Same H H' → Q (.bl true) H'
theorem ok_names_good (S : Stands K mg "names_good" s_names_good ["web", "thing"]) (T : Blt mg) (G_is_whole : Has P w K mg base 1 "is_whole" ["thing"] spWhole) : Has P w K mg base 2 "names_good" ["web", "thing"] (spNames K) := by
  refine has_of S sc_names_good (fun vs H Q E h => ?_) (fun f cdv A outer s H vs Q E hr h => ?_)
  · obtain ⟨v, u, W, names, rfl, _⟩ := h
    rfl
  · obtain ⟨v, u, W, names, rfl, ⟨a, u2, rfl, hW, hT⟩, g, ⟨b, rfl, hb⟩, hp, q⟩ := h
    have hn := g.hi
    refine ⟨_, (pss_cons (ps_if (PW.pt (pw_or (pt_not (pt_val (pe_callB (kIsi K) (by rfl) T.isinstance (by decide +kernel) (pa_cons (pv 1) (pa_cons (pe_bltn (v := .ty "tuple") (u := .type "tuple") (by rfl) T.tuple (by decide +kernel) rfl) pa_nil))))) (pw_or1 (pt_not (pt_val (pe_callB (kAll K rfl) (by rfl) T.all (by decide +kernel) (pa_cons (pe_lc (own := [("place", 2)]) rfl sc_names_good.nd (kpiT K (pv 1)) (blkOk_by (own := [("place", 2)]) (N := ["web", "thing", "place"]) (sc := defScope s_names_good) (by decide +kernel)) (fun _ _ _ _ _ => (pg_name (i := 2) sc_names_good.nd rfl (Or.inl rfl))) (fun _ _ _ _ _ => pts_nil) (fun _ _ _ _ _ => (pe_own G_is_whole (hr.mono (by omega)) (pa_cons (pv 2) pa_nil)))) pa_nil)))))))
        (pss_one (ps_ret pe_bl))
        pss_nil)
      (pss_one (ps_ret (pe_cmpR (kEqD K hr.units) (pe_callB (kSortD K eNat hr.units) (by rfl) T.sorted (by decide +kernel) (pa_cons (pv 1) pa_nil)) (pe_listRg rfl (by rfl) T.list (prg_1 (by rfl) T.range (pe_ix (kIxT K) (pv 0) pe_int (fun _ _ => rfl)))) (nomark _))))), ?_⟩
    refine ⟨.ref b, rfl, .ref b, .ty "tuple", .type "tuple", .type "tuple", true, rfl, .ty _, tyx_tup hb, kit_ty (by decide +kernel), true, rfl, iteF ⟨.ref b, rfl, b, rfl, ⟨_, hb⟩, fun D hD => ?_⟩⟩
    refine lc_pure (ts := names) (RI := IsNat) (src_tup fun H' s => ⟨_, (tk_same s).seq hb, paired_self (F := IsNat H') (f := nV) (fun _ => rfl) names⟩) hD IsBool (fun _ => some true) (fun i t x H1 H' e c s r => ?_) (fun acc H1 s1 hacc hpa => ?_)
    · obtain rfl : x = .int t := r
      exact ⟨rfl, yesT ⟨_, rfl, _, rfl, comp_add c hD e s rfl rfl (fun _ _ _ _ _ h => h) (by rw [hp.len]; omega)⟩⟩
    · have e1 : acc = (names.map fun _ => true).map V.bl := by
        rw [List.filterMap_eq_map' (f := fun _ => true)] at hpa
        generalize names.map (fun _ => true) = ts at hpa
        clear hacc
        induction hpa with
        | nil => rfl
        | cons r t ih => rw [ih, List.map_cons]; congr 1
      rw [e1] at hacc
      have e2 : ((names.map fun _ => true).all id) = true := by simp
      refine ⟨D, _, rfl, SqL.of hacc, true, by rw [e2], ?_⟩
      refine iteF ⟨.ref b, rfl, b, names.map fun n : Nat => (nV n, n), rfl, .inr ?_, fun z hz => ?_, fun z hz => ⟨by simp [eNat, td], by simp [eNat, PyData.depth]⟩, PySem.W.AllAlike.of (enc := fun b : V × Nat => eNat b.2) (fun _ _ => by simp [eNat, PySem.W.alike]), PySem.W.Sortable.others (enc := fun b : V × Nat => eNat b.2) (fun _ => by simp [eNat]), fun l hl => ?_⟩
      · rw [List.map_map]
        exact (tk_same s1).seq hb
      · obtain ⟨n, _, rfl⟩ := List.mem_map.mp hz
        exact .int _
      · have s2 := s1.trans (same_new (o := .lst ((List.mergeSort (names.map fun n : Nat => (nV n, n)) (PySem.W.dataLe false fun b : V × Nat => eNat b.2)).map (·.1))) hl)
        refine ⟨.ref a, rfl, a, _, 0, _, rfl, rfl, (tk_same s2).seq hW, rfl, (W.1 : Int), rfl, RgOk.of_le (by omega) (by omega) (by omega) (by omega), fun l2 hl2 => ?_⟩
        have ht : ((List.mergeSort (names.map fun n : Nat => (nV n, n)) (PySem.W.dataLe false fun b : V × Nat => eNat b.2)).map (·.1)) = (List.range W.1).map nV := by
          have e0 : (PySem.W.dataLe false fun b : V × Nat => eNat b.2) = fun p q => decide ((p.2 : Int) ≤ (q.2 : Int)) := PySem.W.dataLe_int fun b : V × Nat => (b.2 : Int)
          have pm := List.mergeSort_perm (names.map fun n : Nat => (nV n, n)) (PySem.W.dataLe false fun b : V × Nat => eNat b.2)
          have so := PySem.W.sort_pairwise (dataLe_total fun b : V × Nat => eNat b.2) (names.map fun n : Nat => (nV n, n))
          have hv : ∀ z ∈ List.mergeSort (names.map fun n : Nat => (nV n, n)) (PySem.W.dataLe false fun b : V × Nat => eNat b.2), z.1 = nV z.2 := fun z hz => by
            obtain ⟨n, _, rfl⟩ := List.mem_map.mp (pm.mem_iff.mp hz)
            rfl
          have e3 : (List.mergeSort (names.map fun n : Nat => (nV n, n)) (PySem.W.dataLe false fun b : V × Nat => eNat b.2)).map (·.2) = List.range W.1 := by
            refine List.Perm.eq_of_pairwise (le := fun x y : Nat => x ≤ y) (fun a b _ _ h1 h2 => Nat.le_antisymm h1 h2) ?_ (List.pairwise_lt_range.imp fun h => Nat.le_of_lt h) ?_
            · rw [List.pairwise_map]
              refine so.imp fun {x y} h => ?_
              rw [e0] at h
              have := of_decide_eq_true h
              omega
            · refine (pm.map (·.2)).trans ?_
              rw [List.map_map]
              have : names.map ((fun x : V × Nat => x.2) ∘ fun n : Nat => (nV n, n)) = names := by
                rw [show ((fun x : V × Nat => x.2) ∘ fun n : Nat => (nV n, n)) = id from rfl, List.map_id]
              rw [this]
              exact hp.perm
          rw [← e3, List.map_map]
          exact List.map_congr_left fun z hz => hv z hz
        have hrg : rgV 0 (W.1 : Int) = (List.range W.1).map nV := by
          unfold rgV
          rw [show ((W.1 : Int) - 0).toNat = W.1 by omega]
          refine List.map_congr_left fun i _ => ?_
          show V.int _ = V.int _
          congr 1
          omega
        rw [ht] at hl2 s2 ⊢
        rw [hrg]
        have d1 : ∀ {H : Hp} {p : Addr}, H p = some (.lst ((List.range W.1).map nV)) → Dp K H (.ref p) (.list ((List.range W.1).map eNat)) := fun h => .lst (SqL.of h) (dpAll_of (fun _ _ e => by rw [e]; exact .int _) (paired_self (F := fun v n => v = nV n) (f := nV) (fun _ => rfl) _))
        have sh : SeqAt.shaped (.list ((List.range W.1).map eNat)) = true := sh_list (fun _ => by simp [eNat, td]) 0 (by omega) (fun _ => by simp [eNat, PyData.depth]) _
        refine ⟨_, _, d1 (by rw [upd_ne (fun e => by rw [e, upd_same] at hl2; cases hl2), upd_same]), d1 upd_same, sh, sh, ?_⟩
        have ev : PyData.eqv (.list ((List.range W.1).map eNat)) (.list ((List.range W.1).map eNat)) = true := by
          rw [PyData.eqv, eqv_list (fun a b => by simp [eNat, PyData.eqv]; rw [Bool.eq_iff_iff]; simp; omega)]
          simp
        rw [ev]
        exact q _ (s2.trans (same_new hl2))
theorem mm_map_nodup {names : List Nat} {W : Web} (g : Good W) (h : IsPerm W.1 names) : (W.2.map fun f => mm (nm names f.1) (nm names f.2)).Nodup := nodup_map_on (fun x hx y hy e => by
  have h1 := g.inn x hx
  have h2 := g.inn y hy
  rw [mm_eq] at e
  rcases e with ⟨e1, e2⟩ | ⟨e1, e2⟩
  · exact Prod.ext (h.inj (by omega) (by omega) e1) (h.inj h1.2 h2.2 e2)
  · have a1 := h.inj (by omega) h2.2 e1
    have a2 := h.inj h1.2 (by omega) e2
    omega) g.nd
theorem ren_ties {names : List Nat} {W : Web} (g : Good W) (h : IsPerm W.1 names) {l : List Tie} (hs : l.Pairwise tlt) (pm : l.Perm (W.2.map fun f => mm (nm names f.1) (nm names f.2))) : l = (ren names W).2 :=
  sorted_ext hs (ren_good g).srt fun e => by
    rw [pm.mem_iff, mem_ren g h, List.mem_map]
def spNamed (K : PySem.W.Frag) : Sp := fun vs H Q _ => ∃ (v u : V) (W : Web) (names : List Nat), vs = [v, u] ∧ IsWeb K H v W ∧ Good W ∧ IsNats K H u names ∧ IsPerm W.1 names ∧ ∀ H' u, Same H H' → IsWeb K H' u (ren names W) → Q u H'
theorem ok_named_by (S : Stands K mg "named_by" s_named_by ["web", "names"]) (T : Blt mg) : Has P w K mg base 1 "named_by" ["web", "names"] (spNamed K) := by
  refine has_of S sc_named_by (fun vs H Q E h => ?_) (fun f cdv A outer s H vs Q E hr h => ?_)
  · obtain ⟨v, u, W, names, rfl, _⟩ := h
    rfl
  · obtain ⟨v, u, W, names, rfl, ⟨a, u2, rfl, hW, b, xs, rfl, hT, hP⟩, g, ⟨d, rfl, hd⟩, hp, q⟩ := h
    have hn := g.hi
    refine ⟨_, (pss_cons (ps_setLc (i := 2) (own := [("one", 3), ("other", 4)]) rfl sc_named_by.nd rfl rfl (sw_true rfl rfl rfl (by decide +kernel)) (kpiT K (pe_ix (kIxT K) (pv 0) pe_int (fun _ _ => rfl))) (blkOk_by (own := [("one", 3), ("other", 4)]) (N := ["web", "names", "ties", "one", "other", "tie"]) (sc := defScope s_named_by) (by decide +kernel)) (fun _ _ _ _ _ => (kTup K 2 rfl (pgs_cons (pg_name (i := 3) sc_named_by.nd rfl (Or.inl rfl)) (pgs_cons (pg_name (i := 4) sc_named_by.nd rfl (Or.inl rfl)) pgs_nil)))) (fun _ _ _ _ _ => pts_nil) (fun _ _ _ _ _ => (pe_tup (pa_cons (pe_ix (kIxT K) (pv 1) (pv 3) (fun _ _ => rfl)) (pa_cons (pe_ix (kIxT K) (pv 1) (pv 4) (fun _ _ => rfl)) pa_nil)))))
      (pss_one (ps_ret (pe_tup (pa_cons (pe_ix (kIxT K) (pv 0) pe_int (fun _ _ => rfl)) (pa_cons (pe_callTy (kTupleOf K) (by rfl) T.tuple (by decide +kernel) (pa_cons (pe_callB (kSortD K eTie hr.units) (by rfl) T.sorted (by decide +kernel) (pa_cons (pe_lc (own := [("tie", 5)]) rfl sc_named_by.nd (kpiL K (pv 2)) (blkOk_by (own := [("tie", 5)]) (N := ["web", "names", "ties", "one", "other", "tie"]) (sc := defScope s_named_by) (by decide +kernel)) (fun _ _ _ _ _ => (pg_name (i := 5) sc_named_by.nd rfl (Or.inl rfl))) (fun _ _ _ _ _ => pts_nil) (fun _ _ _ _ _ => (pe_tup (pa_cons (pe_callB (kMin2T K rfl hr.units) (by rfl) T.min (by decide +kernel) (pa_cons (pv 5) pa_nil)) (pa_cons (pe_callB (kMax2T K rfl hr.units) (by rfl) T.max (by decide +kernel) (pa_cons (pv 5) pa_nil)) pa_nil))))) pa_nil)) pa_nil)) pa_nil)))))), ?_⟩
    -- ties = [(names[one], names[other]) ..]
    refine ⟨.ref a, rfl, a, _, 1, .ref b, rfl, rfl, hW, rfl, b, rfl, ⟨xs, hT⟩, fun D hD => ?_⟩
    refine lc_pure (ts := W.2) (RI := IsTie K) (src_tup fun H' s => ⟨xs, (tk_same s).seq hT, ties_k (tk_same s) hP⟩) hD (IsTie K) (fun e => some (nm names e.1, nm names e.2)) (fun i t x H1 H' e c s r => ?_) (fun acc H1 s1 hacc hpa => ?_)
    · obtain ⟨y, rfl, hy⟩ := r
      have hi := g.inn t (List.mem_of_getElem? e)
      have h1 : (names.map nV)[t.1]? = some (nV (nm names t.1)) := by rw [List.getElem?_map, hp.at (by omega)]; rfl
      have h2 : (names.map nV)[t.2]? = some (nV (nm names t.2)) := by rw [List.getElem?_map, hp.at (by omega)]; rfl
      have hd' := (tk_same (c.same.trans s)).seq hd
      refine ⟨y, _, rfl, hy, rfl, _, _, rfl, _, _, rfl, rfl, rfl, yesT ⟨_, rfl, _, rfl, d, _, _, _, rfl, rfl, hd', atI_n rfl h1, _, rfl, _, rfl, d, _, _, _, rfl, rfl, hd', atI_n rfl h2, szs (by simp), fun T hT => ?_⟩⟩
      exact comp_add c hD e (s.trans (same_new hT)) rfl ⟨T, rfl, SqT.of upd_same⟩ (fun _ _ _ _ t h => h.k t) (by have := g.len; omega)
    · rw [List.filterMap_eq_map' (f := fun e : Tie => (nm names e.1, nm names e.2))] at hpa
      -- (web[0], tuple(sorted([(min(tie), max(tie)) ..])))
      refine ⟨.ref a, rfl, a, _, 0, _, rfl, rfl, (tk_same s1).seq hW, rfl, .ref D, rfl, D, rfl, ⟨_, SqL.of hacc⟩, fun D2 hD2 => ?_⟩
      refine lc_pure (ts := W.2.map fun e => (nm names e.1, nm names e.2)) (RI := IsTie K) (src_lst fun H' s => ⟨acc, SqL.of (s _ _ hacc), ties_k (tk_same s) hpa⟩) hD2 (IsTie K) (fun e => some (mm e.1 e.2)) (fun i t x H2 H' e c s r => ?_) (fun acc2 H2 s2 hacc2 hpa2 => ?_)
      · obtain ⟨y, rfl, hy⟩ := r
        refine ⟨rfl, yesT ⟨_, rfl, y, _, _, rfl, hy, _, rfl, y, _, _, rfl, hy, szs (by simp), fun T hT => ?_⟩⟩
        refine comp_add c hD2 e (s.trans (same_new hT)) rfl ⟨T, rfl, SqT.of ?_⟩ (fun _ _ _ _ t h => h.k t) (by rw [List.length_map]; have := g.len; omega)
        rw [upd_same]
        show some (HO.tup [.int (min (t.1 : Int) (t.2 : Int)), .int (max (t.1 : Int) (t.2 : Int))]) = some (HO.tup [.int ((min t.1 t.2 : Nat) : Int), .int ((max t.1 t.2 : Nat) : Int)])
        rw [show (min (t.1 : Int) (t.2 : Int)) = ((min t.1 t.2 : Nat) : Int) by omega, show (max (t.1 : Int) (t.2 : Int)) = ((max t.1 t.2 : Nat) : Int) by omega]
      · rw [List.filterMap_eq_map' (f := fun e : Tie => mm e.1 e.2), List.map_map] at hpa2
        obtain ⟨zs, rfl, hz2, hz⟩ := paired_zip hpa2
        have hz2 : W.2.map (fun f => mm (nm names f.1) (nm names f.2)) = zs.map (·.2) := hz2
        refine ⟨D2, zs, rfl, .inl (SqL.of hacc2), fun z hz' => (hz z hz').dp, fun z _ => ⟨td_tie _, Nat.le_trans (dep_tie _) (by omega)⟩, PySem.W.AllAlike.of (enc := fun b : V × Tie => eTie b.2) (fun _ _ => by simp [eTie, PySem.W.alike, PySem.W.alikeAll]), PySem.W.Sortable.tuples (enc := fun b : V × Tie => eTie b.2) (fun _ => ⟨_, _, rfl⟩), fun l hl => ?_⟩
        have pm := List.mergeSort_perm zs (PySem.W.dataLe false fun b : V × Tie => eTie b.2)
        have so := ties_sorted (f := fun b : V × Tie => b.2) (PySem.W.sort_pairwise (dataLe_total fun b : V × Tie => eTie b.2) zs) ((pm.map _).nodup_iff.mpr (by rw [← hz2]; exact mm_map_nodup g hp))
        have et := ren_ties g hp so (by rw [hz2]; exact pm.map _)
        generalize zs.mergeSort (PySem.W.dataLe false fun b : V × Tie => eTie b.2) = ms at pm so et hl ⊢
        refine ⟨l, _, rfl, .inl ⟨SqL.of upd_same, fun t ht => ⟨szs (by simp), fun r hrn => ?_⟩⟩⟩
        have s3 := (s1.trans s2).trans (same_new (o := .lst (ms.map (·.1))) hl)
        have s4 := s3.trans (same_new (o := .tup (ms.map (·.1))) ht)
        refine q _ _ (s4.trans (same_new hrn)) ⟨r, .ref t, rfl, SqT.of upd_same, t, _, rfl, SqT.of (same_new hrn _ _ upd_same), ?_⟩
        show Paired _ _ (ren names W).2
        rw [← et]
        refine paired_of_zip fun z hz' => (hz z (pm.mem_iff.mp hz')).k (tk_same ?_)
        exact ((same_new hl).trans (same_new ht)).trans (same_new hrn)
theorem ok_renamed (S : Stands K mg "renamed" s_renamed ["web", "names"]) (T : Blt mg) (G_names_good : Has P w K mg base 2 "names_good" ["web", "thing"] (spNames K)) (G_named_by : Has P w K mg base 1 "named_by" ["web", "names"] (spNamed K)) :
    Has P w K mg base 3 "renamed" ["web", "names"] (spNamed K) := by
  refine has_of S sc_renamed (fun vs H Q E h => ?_) (fun f cdv A outer s H vs Q E hr h => ?_)
  · obtain ⟨v, u, W, names, rfl, _⟩ := h
    rfl
  · obtain ⟨v, u, W, names, rfl, hw, g, hu, hp, q⟩ := h
    refine ⟨_, (pss_cons (ps_if (pt_not (pt_val (pe_own G_names_good (hr.mono (by omega)) (pa_cons (pv 0) (pa_cons (pv 1) pa_nil)))))
        (pss_one ps_never)
        pss_nil)
      (pss_one (ps_ret (pe_own G_named_by (hr.mono (by omega)) (pa_cons (pv 0) (pa_cons (pv 1) pa_nil)))))), ?_⟩
    refine ⟨_, rfl, _, rfl, v, u, W, names, rfl, hw, g, hu, hp, fun H1 s1 => ⟨true, rfl, iteF ⟨_, rfl, _, rfl, v, u, W, names, rfl, hw.k (tk_same s1), g, hu.k (tk_same s1), hp, fun H2 x s2 hx => q H2 x (s1.trans s2) hx⟩⟩⟩
end
end Rw
end
section
set_option maxRecDepth 100000
set_option maxHeartbeats 4000000
/-! The walk: masks, the test of a line. -/
namespace Rw
open PySem PySem.Spec PyProof.Rows L2
theorem orN (a b : Nat) : Builtin.bitOr (a : Int) (b : Int) = ((a ||| b : Nat) : Int) := by
  rw [Bits.bitOr_pp (by omega) (by omega), Int.toNat_natCast, Int.toNat_natCast]
theorem andN (a b : Nat) : Builtin.bitAnd (a : Int) (b : Int) = ((a &&& b : Nat) : Int) := by
  rw [bitAnd_pp (by omega) (by omega), Int.toNat_natCast, Int.toNat_natCast]
theorem xorN (a b : Nat) : Builtin.bitXor (a : Int) (b : Int) = ((a ^^^ b : Nat) : Int) := by
  rw [Bits.bitXor_pp (by omega) (by omega), Int.toNat_natCast, Int.toNat_natCast]
theorem shlN (j : Nat) : (1 : Int) * 2 ^ ((j : Int).toNat) = ((2 ^ j : Nat) : Int) := by
  rw [Int.toNat_natCast, Int.one_mul]
  push_cast
  rfl
theorem cpow1 {j : Nat} (h : j ≤ 1000) : CPow 1 (j : Int) := ⟨by omega, by omega, by decide⟩
theorem rep_flat {α : Type} (v : α) : ∀ n : Nat, (List.replicate n [v]).flatten = List.replicate n v
  | 0 => rfl
  | n + 1 => by rw [List.replicate_succ, List.flatten_cons, rep_flat v n]; rfl
theorem getD_at {f : List Nat} {i : Nat} (h : i < f.length) : (f.map nV)[i]? = some (nV (f.getD i 0)) := by
  rw [List.getElem?_map, List.getElem?_eq_getElem h, List.getD_eq_getElem?_getD, List.getElem?_eq_getElem h]
  rfl
section
variable {P : Program} {w : World} {K : PySem.W.Frag} {mg : Str → Option Value} {base : Heap}
def IsSeqTies (K : PySem.W.Frag) (H : Hp) (v : V) (l : List Tie) : Prop := ∃ a xs, v = .ref a ∧ (SqL K H a xs ∨ SqT K H a xs) ∧ Paired (IsTie K H) xs l
def spMasks (K : PySem.W.Frag) : Sp := fun vs H Q _ => ∃ (v : V) (n : Nat) (l : List Tie), vs = [.int (n : Int), v] ∧ IsSeqTies K H v l ∧ n ≤ 6 ∧ (∀ e ∈ l, e.1 < n ∧ e.2 < n) ∧
  ∀ H' p, Same H H' → H p = none → H' p = some (.lst ((masks n l).map nV)) → Q (.ref p) H'
theorem masks_snoc (n : Nat) (l : List Tie) (e : Tie) : masks n (l ++ [e]) = maskStep (masks n l) e := by
  unfold masks
  rw [List.foldl_append]
  rfl
theorem ok_masks_of (S : Stands K mg "masks_of" s_masks_of ["many", "ties"]) (T : Blt mg) : Has P w K mg base 1 "masks_of" ["many", "ties"] (spMasks K) := by
  refine has_of S sc_masks_of (fun vs H Q E h => ?_) (fun f cdv A outer s H vs Q E hr h => ?_)
  · obtain ⟨v, n, l, rfl, _⟩ := h
    rfl
  · obtain ⟨v, n, l, rfl, ⟨a, xs, rfl, hS, hP⟩, hn, hl, q⟩ := h
    refine ⟨_, (pss_cons (ps_set (i := 2) sc_masks_of.nd rfl (Or.inl rfl) (pe_op op_rep (pe_lst (pa_cons pe_int pa_nil)) (pv 0)))
      (pss_cons (ps_for PassesOwn.never rfl (kpiQ K (pv 1)) (kTup K 2 rfl (pgs_cons (pg_name (i := 3) sc_masks_of.nd rfl (Or.inl rfl)) (pgs_cons (pg_name (i := 4) sc_masks_of.nd rfl (Or.inl rfl)) pgs_nil)))
        (pss_cons (ps_asg (pe_op op_or (pe_ix (kIxL K) (pv 2) (pv 3) (fun _ _ => rfl)) (pe_op op_shl pe_int (pv 4))) (pg_sub (pv 2) (pv 3) set_list))
        (pss_one (ps_asg (pe_op op_or (pe_ix (kIxL K) (pv 2) (pv 4) (fun _ _ => rfl)) (pe_op op_shl pe_int (pv 3))) (pg_sub (pv 2) (pv 4) set_list)))))
      (pss_one (ps_ret (pv 2))))), ?_⟩
    refine ⟨szs (by simp), fun l0 hl0 => ⟨_, rfl, l0, _, _, rfl, rfl, upd_same, by omega, by omega, szs (by simp; omega), fun fo hfo => ?_⟩⟩
    have efo : H fo = none := (same_new hl0).free hfo
    rw [show (List.replicate (n : Int).toNat [V.int 0]).flatten = (masks n []).map nV by
      rw [Int.toNat_natCast, rep_flat]
      show _ = (List.replicate n 0).map nV
      rw [List.map_replicate]
      rfl]
    have s0 : Same H (upd (upd H l0 (.lst [V.int 0])) fo (.lst ((masks n []).map nV))) := (same_new hl0).trans (same_new hfo)
    obtain ⟨J, hJ, SJ⟩ : ∃ J, (((∃ xs, SqL K (upd (upd H l0 (.lst [V.int 0])) fo (.lst ((masks n []).map nV))) a xs) ∧ J = Itl K a) ∨ ((∃ xs, SqT K (upd (upd H l0 (.lst [V.int 0])) fo (.lst ((masks n []).map nV))) a xs) ∧ J = Itt K a)) ∧ Src J (fun H' => Same H H') l (IsTie K) := by
      rcases hS with hS | hS
      · exact ⟨_, .inl ⟨⟨xs, s0.seq hS⟩, rfl⟩, src_lst fun H' s => ⟨xs, s.seq hS, ties_k (tk_same s) hP⟩⟩
      · exact ⟨_, .inr ⟨⟨xs, (tk_same s0).seq hS⟩, rfl⟩, src_tup fun H' s => ⟨xs, (tk_same s).seq hS, ties_k (tk_same s) hP⟩⟩
    refine ⟨_, rfl, a, rfl, J, hJ, for_src SJ (fun i σ H1 => ∃ y3 y4 : Option V, σ = [some (.int (n : Int)), some (.ref a), some (.ref fo), y3, y4] ∧ Same H H1 ∧ H1 fo = some (.lst ((masks n (l.take i)).map nV))) (fun i σ H1 h => by obtain ⟨_, _, _, h, _⟩ := h; exact h)
      ⟨none, none, rfl, s0, upd_same⟩ (fun i e x σ H1 H1' ee hP1 s1 hx => ?_) (fun σ H1 hP1 => ?_)⟩
    · obtain ⟨y3, y4, rfl, s2, hf⟩ := hP1
      obtain ⟨b, rfl, hb⟩ := hx
      have hf := s1 _ _ hf
      have s2 := s2.trans s1
      have hi := hl e (List.mem_of_getElem? ee)
      have ml := masks_len n (l.take i)
      rw [take_snoc ee, masks_snoc]
      generalize masks n (l.take i) = f at hf ml
      refine ⟨b, _, rfl, hb, rfl, _, _, rfl, _, _, rfl, rfl, ?_⟩
      -- found[one] = found[one] | 1 << other
      refine ⟨_, rfl, _, rfl, fo, _, _, _, rfl, rfl, SqL.of hf, atI_n rfl (getD_at (by omega)), _, rfl, _, _, rfl, rfl, cpow1 (by omega), _, _, rfl, rfl, _, rfl, _, rfl, fo, _, _, e.1, rfl, rfl, hf, ixN_nat (by rw [List.length_map]; omega), ?_⟩
      dsimp only
      rw [shlN, orN, show (f.map nV).set e.1 (.int ((f.getD e.1 0 ||| 2 ^ e.2 : Nat) : Int)) = (f.set e.1 (f.getD e.1 0 ||| 2 ^ e.2)).map nV by rw [List.map_set]]
      generalize hf1 : f.set e.1 (f.getD e.1 0 ||| 2 ^ e.2) = f1
      have ml1 : f1.length = n := by rw [← hf1, List.length_set]; exact ml
      refine ⟨_, rfl, _, rfl, fo, _, _, _, rfl, rfl, SqL.of upd_same, atI_n rfl (getD_at (by omega)), _, rfl, _, _, rfl, rfl, cpow1 (by omega), _, _, rfl, rfl, _, rfl, _, rfl, fo, _, _, e.2, rfl, rfl, upd_same, ixN_nat (by rw [List.length_map]; omega), ?_⟩
      dsimp only
      rw [shlN, orN, show (f1.map nV).set e.2 (.int ((f1.getD e.2 0 ||| 2 ^ e.1 : Nat) : Int)) = (f1.set e.2 (f1.getD e.2 0 ||| 2 ^ e.1)).map nV by rw [List.map_set]]
      refine ⟨_, _, rfl, same_mut (same_mut s2 efo) efo, ?_⟩
      rw [upd_same]
      unfold maskStep
      rw [hf1]
    · obtain ⟨y3, y4, rfl, s2, hf⟩ := hP1
      rw [List.take_length] at hf
      exact ⟨_, rfl, q _ fo s2 efo hf⟩
def spLone (K : PySem.W.Frag) : Sp := fun vs H Q _ => ∃ (v : V) (W : Web), vs = [v] ∧ IsWeb K H v W ∧ Good W ∧ ∀ H' p, Same H H' → H p = none → H' p = some (.lst ((lone W).map nV)) → Q (.ref p) H'
theorem ok_lone_masks (S : Stands K mg "lone_masks" s_lone_masks ["web"]) (T : Blt mg) (G_masks_of : Has P w K mg base 1 "masks_of" ["many", "ties"] (spMasks K)) : Has P w K mg base 2 "lone_masks" ["web"] (spLone K) := by
  refine has_of S sc_lone_masks (fun vs H Q E h => ?_) (fun f cdv A outer s H vs Q E hr h => ?_)
  · obtain ⟨v, W, rfl, _⟩ := h
    rfl
  · obtain ⟨v, W, rfl, ⟨a, u, rfl, hW, b, xs, rfl, hT, hP⟩, g, q⟩ := h
    have hn := g.hi
    refine ⟨_, (pss_cons (ps_set (i := 1) sc_lone_masks.nd rfl (Or.inr rfl) (pe_op op_sub (pe_op op_shl pe_int (pe_ix (kIxT K) (pv 0) pe_int (fun _ _ => rfl))) pe_int))
      (pss_one (ps_ret (pe_lc (own := [("place", 2), ("mask", 3)]) rfl sc_lone_masks.nd (pi_enum (by rfl) T.enumerate (pa_cons (pe_own G_masks_of (hr.mono (by omega)) (pa_cons (pe_ix (kIxT K) (pv 0) pe_int (fun _ _ => rfl)) (pa_cons (pe_ix (kIxT K) (pv 0) pe_int (fun _ _ => rfl)) pa_nil))) pa_nil)) (blkOk_by (own := [("place", 2), ("mask", 3)]) (N := ["web", "full", "place", "mask"]) (sc := defScope s_lone_masks) (by decide +kernel)) (fun _ _ _ _ _ => (kTup K 2 rfl (pgs_cons (pg_name (i := 2) sc_lone_masks.nd rfl (Or.inl rfl)) (pgs_cons (pg_name (i := 3) sc_lone_masks.nd rfl (Or.inl rfl)) pgs_nil)))) (fun _ _ _ _ _ => pts_nil) (fun _ _ _ _ _ => (pe_op op_xor (pe_op op_xor (pv 1) (pv 3)) (pe_op op_shl pe_int (pv 2)))))))), ?_⟩
    refine ⟨_, rfl, a, _, 0, _, rfl, rfl, hW, rfl, _, _, rfl, rfl, cpow1 (by omega), _, _, rfl, rfl, ?_⟩
    dsimp only
    rw [shlN, show ((2 ^ W.1 : Nat) : Int) - 1 = ((2 ^ W.1 - 1 : Nat) : Int) by have := Nat.two_pow_pos W.1; omega]
    refine ⟨_, rfl, a, _, 0, _, rfl, rfl, hW, rfl, _, rfl, a, _, 1, _, rfl, rfl, hW, rfl, .ref b, W.1, W.2, rfl, ⟨b, xs, rfl, .inr hT, hP⟩, hn, fun e he => by have := g.inn e he; omega, fun H1 m s1 hm hml => ?_⟩
    refine ⟨m, _, rfl, SqL.of hml, fun D hD => ?_⟩
    refine lc_pure (ts := (masks W.1 W.2).zipIdx) (src_enum (RI := IsNat) (fun _ _ _ _ _ h => h) fun H' s => ⟨_, SqL.of (s _ _ hml), paired_self (F := IsNat H') (f := nV) (fun _ => rfl) _⟩) hD IsNat (fun p => some (((2 ^ W.1 - 1) ^^^ p.1) ^^^ 2 ^ p.2)) (fun i t x H2 H' e c s r => ?_) (fun acc H2 s2 hacc hpa => ?_)
    · obtain ⟨y, x2, rfl, hy, rfl⟩ := r
      have hlt : t.2 < W.1 := by
        have h1 := List.mem_of_getElem? e
        rw [List.mem_zipIdx_iff_getElem?] at h1
        have := (List.getElem?_eq_some_iff.mp h1).1
        rw [masks_len] at this
        exact this
      refine ⟨y, _, rfl, SqT.of hy, rfl, _, _, rfl, _, _, rfl, rfl, rfl, yesT ⟨_, rfl, _, rfl, _, _, rfl, rfl, _, rfl, _, _, rfl, rfl, cpow1 (by omega), _, _, rfl, rfl, ?_⟩⟩
      dsimp only
      rw [shlN, xorN, xorN]
      exact comp_add c hD e s rfl rfl (fun _ _ _ _ _ h => h) (by rw [List.length_zipIdx, masks_len]; omega)
    · rw [List.filterMap_eq_map' (f := fun p : Nat × Nat => ((2 ^ W.1 - 1) ^^^ p.1) ^^^ 2 ^ p.2)] at hpa
      refine q _ _ (s1.trans s2) (s1.free hD) ?_
      rw [hacc]
      congr 2
      generalize hl : (masks W.1 W.2).zipIdx.map (fun p : Nat × Nat => ((2 ^ W.1 - 1) ^^^ p.1) ^^^ 2 ^ p.2) = ls at hpa
      have : lone W = ls := hl
      rw [this]
      clear hacc hl this
      induction hpa with
      | nil => rfl
      | cons r t ih => rw [ih, List.map_cons]; congr 1
def spGoes (K : PySem.W.Frag) : Sp := fun vs H Q _ => ∃ (v u : V) (b : Addr) (W : Web) (t : List Bool), vs = [v, .ref b, u] ∧ IsWeb K H v W ∧ Good W ∧ SqL K H b ((lone W).map nV) ∧ IsLine K H u t ∧ t.length ≤ W.2.length ∧ ∀ H', Same H H' → Q (.bl (goes W t)) H'
theorem line_paired {H : Hp} (t : List Bool) : Paired (IsBool H) (t.map V.bl) t := paired_self (F := IsBool H) (f := V.bl) (fun _ => rfl) t
theorem zip_len {l : List Tie} {t : List Bool} (h : t.length ≤ l.length) : (l.zip t).length = t.length := by rw [List.length_zip]; omega
theorem filterMap_pick (zs : List (Tie × Bool)) : zs.filterMap (fun p => if p.2 = true then some p.1 else none) = (zs.filter (·.2)).map (·.1) := by
  induction zs with
  | nil => rfl
  | cons z zs ih =>
    obtain ⟨e, b⟩ := z
    rw [List.filterMap_cons, List.filter_cons]
    cases b
    · simp only [Bool.false_eq_true, if_false]
      exact ih
    · simp only [if_true, List.map_cons]
      rw [ih]
theorem ne_zero (a b : Nat) : (!decide (V.int ((a &&& b : Nat) : Int) = V.int 0)) = !(a &&& b == 0) := by
  congr 1
  rw [Bool.eq_iff_iff]
  simp
theorem eq_zero (a b : Nat) : decide (V.int ((a &&& b : Nat) : Int) = V.int 0) = (a &&& b == 0) := by
  rw [Bool.eq_iff_iff]
  simp
theorem ne_zero' (a b : Nat) : (!decide (V.int (Builtin.bitAnd (a : Int) (b : Int)) = V.int 0)) = !(a &&& b == 0) := by
  rw [andN]
  exact ne_zero a b
theorem eq_zero' (a b : Nat) : decide (V.int (Builtin.bitAnd (a : Int) (b : Int)) = V.int 0) = (a &&& b == 0) := by
  rw [andN]
  exact eq_zero a b
set_option maxHeartbeats 8000000 in
theorem ok_goes (S : Stands K mg "goes" s_goes ["web", "lone", "begun"]) (T : Blt mg) (G_masks_of : Has P w K mg base 1 "masks_of" ["many", "ties"] (spMasks K)) : Has P w K mg base 2 "goes" ["web", "lone", "begun"] (spGoes K) := by
  refine has_of S sc_goes (fun vs H Q E h => ?_) (fun f cdv A outer s H vs Q E hr h => ?_)
  · obtain ⟨v, u, b, W, t, rfl, _⟩ := h
    rfl
  · obtain ⟨v, u, b, W, t, rfl, ⟨a, tu, rfl, hW, tb, xs, rfl, hT, hP⟩, g, hL, ⟨c, rfl, hc⟩, hlen, q⟩ := h
    have hn := g.hi
    have gl := g.len
    refine ⟨_, (pss_cons (ps_setLc (i := 3) (own := [("tie", 4), ("truth", 5)]) rfl sc_goes.nd rfl rfl (sw_true rfl rfl rfl (by decide +kernel)) (RZ.pi_zipA (by rfl) T.zip (pa_cons (pe_ix (kIxT K) (pv 0) pe_int (fun _ _ => rfl)) (pa_cons (pv 2) pa_nil))) (blkOk_by (own := [("tie", 4), ("truth", 5)]) (N := ["web", "lone", "begun", "chosen", "tie", "truth", "held", "free", "one", "other"]) (sc := defScope s_goes) (by decide +kernel)) (fun _ _ _ _ _ => (kTup K 2 rfl (pgs_cons (pg_name (i := 4) sc_goes.nd rfl (Or.inl rfl)) (pgs_cons (pg_name (i := 5) sc_goes.nd rfl (Or.inl rfl)) pgs_nil)))) (fun _ _ _ _ _ => (pts_one (pt_val (pv 5)))) (fun _ _ _ _ _ => (pv 4)))
      (pss_cons (ps_set (i := 6) sc_goes.nd rfl (Or.inl rfl) (pe_own G_masks_of (hr.mono (by omega)) (pa_cons (pe_ix (kIxT K) (pv 0) pe_int (fun _ _ => rfl)) (pa_cons (pv 3) pa_nil))))
      (pss_cons (ps_set (i := 7) sc_goes.nd rfl (Or.inl rfl) (pe_own G_masks_of (hr.mono (by omega)) (pa_cons (pe_ix (kIxT K) (pv 0) pe_int (fun _ _ => rfl)) (pa_cons (pe_op op_cat (pv 3) (pe_callTy (kListOf K) (by rfl) T.list (by decide +kernel) (pa_cons (pe_slice (kSlA K) (pe_ix (kIxT K) (pv 0) pe_int (fun _ _ => rfl)) (po_some (pe_callB (kLen K) (by rfl) T.len (by decide +kernel) (pa_cons (pv 2) pa_nil))) po_none) pa_nil))) pa_nil))))
      (pss_cons (ps_for PassesOwn.never rfl (RZ.pi_zipA (by rfl) T.zip (pa_cons (pe_ix (kIxT K) (pv 0) pe_int (fun _ _ => rfl)) (pa_cons (pv 2) pa_nil))) (kTup K 2 rfl (pgs_cons (pg_name (i := 4) sc_goes.nd rfl (Or.inl rfl)) (pgs_cons (pg_name (i := 5) sc_goes.nd rfl (Or.inl rfl)) pgs_nil)))
        (pss_cons (ps_asg (pv 4) (kTup K 2 rfl (pgs_cons (pg_name (i := 8) sc_goes.nd rfl (Or.inl rfl)) (pgs_cons (pg_name (i := 9) sc_goes.nd rfl (Or.inl rfl)) pgs_nil))))
        (pss_cons (ps_if (PW.pt (pw_and (pt_val (pv 5)) (pw_and1 (PW.pt (pw_or (pt_cmpR op_ne (pe_op op_and (pe_ix (kIxL K) (pv 6) (pv 8) (fun _ _ => rfl)) (pe_ix (kIxL K) (pv 1) (pv 9) (fun _ _ => rfl))) pe_int (nomark _)) (pw_or1 (pt_cmpR op_ne (pe_op op_and (pe_ix (kIxL K) (pv 6) (pv 9) (fun _ _ => rfl)) (pe_ix (kIxL K) (pv 1) (pv 8) (fun _ _ => rfl))) pe_int (nomark _))))))))
          (pss_one (ps_ret pe_bl))
          pss_nil)
        (pss_one (ps_if (PW.pt (pw_and (pt_not (pt_val (pv 5))) (pw_and1 (pt_cmpR op_eq (pe_op op_and (pe_ix (kIxL K) (pv 7) (pv 8) (fun _ _ => rfl)) (pe_ix (kIxL K) (pv 7) (pv 9) (fun _ _ => rfl))) pe_int (nomark _)))))
          (pss_one (ps_ret pe_bl))
          pss_nil)))))
      (pss_one (ps_ret pe_bl)))))), ?_⟩
    -- chosen = [tie for tie, truth in zip(web[1], begun) if truth]
    have srcZ : ∀ H0, Same H H0 → Src (RZ.ItzT K tb c) (fun H' => Same H0 H') (W.2.zip t) (IsPair2 (IsTie K) IsBool) := fun H0 s0 => src_zip (fun _ _ _ _ s h => h.k (tk_same s)) (fun _ _ _ _ _ h => h) fun H' s =>
      ⟨xs, t.map V.bl, (tk_same (s0.trans s)).seq hT, (tk_same (s0.trans s)).seq hc, ties_k (tk_same (s0.trans s)) hP, line_paired t⟩
    refine ⟨.ref a, rfl, a, _, 1, _, rfl, rfl, hW, rfl, .ref c, rfl, tb, c, xs, _, rfl, .inr ⟨hT, hc, fun D hD => ?_⟩⟩
    refine lc_pure (srcZ H (Same.refl H)) hD (IsTie K) (fun p => if p.2 = true then some p.1 else none) (fun i p x H1 H' e cs s r => ?_) (fun acc H1 s1 hacc hpa => ?_)
    · obtain ⟨y, x1, x2, rfl, hy, r1, r2⟩ := r
      obtain rfl : x2 = .bl p.2 := r2
      refine ⟨y, _, rfl, SqT.of hy, rfl, _, _, rfl, _, _, rfl, rfl, rfl, _, rfl, p.2, rfl, ?_⟩
      cases hp2 : p.2 with
      | true => exact iteT ⟨_, rfl, comp_add cs hD e s (by rw [hp2]; rfl) r1 (fun _ _ _ _ t h => h.k t) (by rw [List.length_zip]; omega)⟩
      | false => exact iteF (comp_skip cs e s (by rw [hp2]; rfl) (fun _ _ _ _ t h => h.k t))
    · rw [filterMap_pick] at hpa
      have hpa : Paired (IsTie K H1) acc (pick W.2 t) := hpa
      have pin : ∀ e ∈ pick W.2 t, e.1 < W.1 ∧ e.2 < W.1 := fun e he => by have := g.inn e (pick_sub he); omega
      -- held = masks_of(web[0], chosen)
      refine ⟨_, rfl, a, _, 0, _, rfl, rfl, (tk_same s1).seq hW, rfl, .ref D, rfl, .ref D, W.1, pick W.2 t, rfl, ⟨D, acc, rfl, .inl (SqL.of hacc), hpa⟩, hn, pin, fun H2 hd s2 hhd hhm => ?_⟩
      have t2 := s1.trans s2
      have hacc2 := s2 _ _ hacc
      -- free = masks_of(web[0], chosen + list(web[1][len(begun):]))
      refine ⟨_, rfl, a, _, 0, _, rfl, rfl, (tk_same t2).seq hW, rfl, .ref D, rfl, .ref a, rfl, a, _, 1, _, rfl, rfl, (tk_same t2).seq hW, rfl, .ref c, rfl, c, t.map V.bl, rfl, .inr ((tk_same t2).seq hc), _, rfl, ?_⟩
      dsimp only [tNoPart]
      refine slA_go ((tk_same t2).seq hT) fun dr H3 s3 hdr => ?_
      rw [show ((t.map V.bl).length : Int) = (t.length : Int) by rw [List.length_map], cut_drop xs t.length (by rw [hP.length]; exact hlen)] at hdr
      refine ⟨dr, _, rfl, .inr hdr, fun dl hdl => ?_⟩
      have t4 := (t2.trans s3).trans (same_new (o := .lst (xs.drop t.length)) hdl)
      have hacc4 := same_new (o := .lst (xs.drop t.length)) hdl _ _ (s3 _ _ hacc2)
      have hP4 := ties_k (tk_same t4) (paired_drop t.length hP)
      refine ⟨D, dl, acc, _, rfl, rfl, hacc4, upd_same, ?_, fun cl hcl => ?_⟩
      · have h1 := hpa.length
        have h2 := (pick_sublist W.2 t).length_le
        rw [List.length_drop, hP.length, sizeLine_eq]
        omega
      have t5 := t4.trans (same_new (o := .lst (acc ++ xs.drop t.length)) hcl)
      have fin5 : ∀ e ∈ pick W.2 t ++ W.2.drop t.length, e.1 < W.1 ∧ e.2 < W.1 := fun e he => by
        rcases List.mem_append.mp he with he | he
        · exact pin e he
        · have := g.inn e (List.mem_of_mem_drop he); omega
      have tk25 := tk_same (s2.trans ((s3.trans (same_new (o := .lst (xs.drop t.length)) hdl)).trans (same_new (o := .lst (acc ++ xs.drop t.length)) hcl)))
      refine ⟨.ref cl, W.1, pick W.2 t ++ W.2.drop t.length, rfl, ⟨cl, _, rfl, .inl (SqL.of upd_same), paired_app (ties_k tk25 hpa) (ties_k (tk_same (same_new hcl)) hP4)⟩, hn, fin5, fun H6 fr s6 hfr hfm => ?_⟩
      have t6 := t5.trans s6
      have hhm6 := s6 _ _ (same_new (o := .lst (acc ++ xs.drop t.length)) hcl _ _ (same_new (o := .lst (xs.drop t.length)) hdl _ _ (s3 _ _ hhm)))
      have hL6 : SqL K H6 b ((lone W).map nV) := t6.seq hL
      have lh := masks_len W.1 (pick W.2 t)
      have lf := masks_len W.1 (pick W.2 t ++ W.2.drop t.length)
      have ll := lone_len W
      have hgoes : goes W t = (W.2.zip t).all (goesAt (masks W.1 (pick W.2 t)) (masks W.1 (pick W.2 t ++ W.2.drop t.length)) (lone W)) := rfl
      generalize masks W.1 (pick W.2 t) = held at hhm6 lh hgoes
      generalize masks W.1 (pick W.2 t ++ W.2.drop t.length) = free at hfm lf hgoes
      generalize lone W = ln at hL6 ll hgoes
      -- for tie, truth in zip(web[1], begun)
      refine ⟨.ref a, rfl, a, _, 1, _, rfl, rfl, (tk_same t6).seq hW, rfl, .ref c, rfl, tb, c, xs, _, rfl, .inr ⟨(tk_same t6).seq hT, (tk_same t6).seq hc, ?_⟩⟩
      refine for_src (srcZ H6 t6) (fun i σ H7 => ∃ y4 y5 y8 y9 : Option V, σ = [some (.ref a), some (.ref b), some (.ref c), some (.ref D), y4, y5, some (.ref hd), some (.ref fr), y8, y9] ∧ Same H6 H7 ∧ ∀ p ∈ (W.2.zip t).take i, goesAt held free ln p = true) (fun i σ H7 h => by obtain ⟨_, _, _, _, _, h, _⟩ := h; exact h)
        ⟨none, none, none, none, rfl, Same.refl _, fun p hp => by cases hp⟩ (fun i p x σ H7 H7' e hPv s7 r => ?_) (fun σ H7 hPv => ?_)
      · obtain ⟨y4, y5, y8, y9, rfl, s67, hgo⟩ := hPv
        obtain ⟨y, x1, x2, rfl, hy, ⟨z, rfl, hz⟩, r2⟩ := r
        obtain rfl : x2 = .bl p.2 := r2
        have s67 := s67.trans s7
        have hi := g.inn p.1 (zip_mem (List.mem_of_getElem? e))
        have hh := SqL.of (K := K) (s67 _ _ hhm6)
        have hf := SqL.of (K := K) (s67 _ _ hfm)
        have hl := s67.seq hL6
        have step : goesAt held free ln p = true → ∀ q ∈ (W.2.zip t).take (i + 1), goesAt held free ln q = true := fun h q hq => by
          rw [take_snoc e] at hq
          rcases List.mem_append.mp hq with hq | hq
          · exact hgo q hq
          · rw [List.mem_singleton.mp hq]; exact h
        have bad : goesAt held free ln p = false → goes W t = false := fun h => by
          rw [hgoes]
          refine Bool.eq_false_iff.mpr fun h2 => ?_
          rw [List.all_eq_true.mp h2 p (List.mem_of_getElem? e)] at h
          cases h
        have sH := t6.trans s67
        -- tie, truth; one, other = tie
        refine ⟨y, _, rfl, SqT.of hy, rfl, _, _, rfl, _, _, rfl, rfl, _, rfl, z, _, rfl, hz, rfl, _, _, rfl, _, _, rfl, rfl, ?_⟩
        cases hp2 : p.2 with
        | true =>
          have hg : goesAt held free ln p = ((held.getD p.1.1 0 &&& ln.getD p.1.2 0 == 0) && (held.getD p.1.2 0 &&& ln.getD p.1.1 0 == 0)) := by
            unfold goesAt
            rw [hp2, if_pos rfl]
          refine ⟨_, rfl, true, rfl, iteT ⟨_, rfl, _, rfl, hd, _, _, _, rfl, rfl, hh, atI_n rfl (getD_at (by omega)), _, rfl, _, rfl, b, _, _, _, rfl, rfl, hl, atI_n rfl (getD_at (by omega)), _, _, rfl, rfl, rfl, _, rfl, ?_⟩⟩
          cases hA : (held.getD p.1.1 0 &&& ln.getD p.1.2 0 == 0) with
          | false =>
            rw [hA, Bool.false_and] at hg
            refine iteTo ((ne_zero' _ _).trans (by rw [hA]; rfl)) (iteT ?_)
            have := q H7' sH
            rw [bad hg] at this
            exact this
          | true =>
            rw [hA, Bool.true_and] at hg
            refine iteFo ((ne_zero' _ _).trans (by rw [hA]; rfl)) ⟨_, rfl, _, rfl, hd, _, _, _, rfl, rfl, hh, atI_n rfl (getD_at (by omega)), _, rfl, _, rfl, b, _, _, _, rfl, rfl, hl, atI_n rfl (getD_at (by omega)), _, _, rfl, rfl, rfl, _, rfl, ?_⟩
            cases hB : (held.getD p.1.2 0 &&& ln.getD p.1.1 0 == 0) with
            | false =>
              rw [hB] at hg
              refine iteTo ((ne_zero' _ _).trans (by rw [hB]; rfl)) ?_
              have := q H7' sH
              rw [bad hg] at this
              exact this
            | true =>
              rw [hB] at hg
              refine iteFo ((ne_zero' _ _).trans (by rw [hB]; rfl)) ⟨_, rfl, true, rfl, iteF (iteF ?_)⟩
              exact ⟨_, _, _, _, rfl, s67, step hg⟩
        | false =>
          have hg : goesAt held free ln p = !(free.getD p.1.1 0 &&& free.getD p.1.2 0 == 0) := by
            unfold goesAt
            rw [hp2, if_neg Bool.false_ne_true]
          refine ⟨_, rfl, false, rfl, iteF (iteF ⟨_, rfl, false, rfl, iteT ⟨_, rfl, _, rfl, fr, _, _, _, rfl, rfl, hf, atI_n rfl (getD_at (by omega)), _, rfl, _, rfl, fr, _, _, _, rfl, rfl, hf, atI_n rfl (getD_at (by omega)), _, _, rfl, rfl, rfl, _, rfl, ?_⟩⟩)⟩
          cases hA : (free.getD p.1.1 0 &&& free.getD p.1.2 0 == 0) with
          | true =>
            rw [hA] at hg
            refine iteTo ((eq_zero' _ _).trans hA) ?_
            have := q H7' sH
            rw [bad hg] at this
            exact this
          | false =>
            rw [hA] at hg
            exact iteFo ((eq_zero' _ _).trans hA) ⟨_, _, _, _, rfl, s67, step hg⟩
      · obtain ⟨y4, y5, y8, y9, rfl, s67, hgo⟩ := hPv
        rw [List.take_length] at hgo
        have : goes W t = true := by
          rw [hgoes]
          exact List.all_eq_true.mpr hgo
        rw [this] at q
        exact q H7 (t6.trans s67)
end
end Rw
end
section
set_option maxRecDepth 100000
set_option maxHeartbeats 4000000
/-! The walk: all roots. -/
namespace Rw
open PySem PySem.Spec PyProof.Rows L2
theorem rootsFrom_len (W : Web) : ∀ (d : Nat) (t : List Bool), (rootsFrom W d t).length ≤ 2 ^ d
  | 0, t => by unfold rootsFrom; split <;> simp
  | d + 1, t => by
    unfold rootsFrom
    split
    · rw [List.length_append]
      have := rootsFrom_len W d (t ++ [false])
      have := rootsFrom_len W d (t ++ [true])
      rw [Nat.pow_succ]
      omega
    · exact Nat.zero_le _
theorem pow15 {d : Nat} (h : d ≤ 15) : 2 ^ d ≤ 32768 := Nat.pow_le_pow_right (n := 2) (by omega) h
section
variable {P : Program} {w : World} {K : PySem.W.Frag} {mg : Str → Option Value} {base : Heap}
def spRoots (K : PySem.W.Frag) (d : Nat) : Sp := fun vs H Q _ => ∃ (v u : V) (b : Addr) (W : Web) (t : List Bool), vs = [v, .ref b, u] ∧ IsWeb K H v W ∧ Good W ∧ SqL K H b ((lone W).map nV) ∧ IsLine K H u t ∧ t.length + d = W.2.length ∧
  ∀ H' p, Same H H' → H p = none → IsL (IsLine K) H' p (rootsFrom W d t) → Q (.ref p) H'
theorem ok_roots_from (S : Stands K mg "roots_from" s_roots_from ["web", "lone", "begun"]) (T : Blt mg) (G_goes : Has P w K mg base 2 "goes" ["web", "lone", "begun"] (spGoes K)) : ∀ d, Has P w K mg base (3 + d) "roots_from" ["web", "lone", "begun"] (spRoots K d)
  | 0 => by
    refine has_of (k := 2) S sc_roots_from (fun vs H Q E h => ?_) (fun f cdv A outer s H vs Q E hr h => ?_)
    · obtain ⟨v, u, b, W, t, rfl, _⟩ := h
      rfl
    · obtain ⟨v, u, b, W, t, rfl, hw, g, hL, ht, hlen, q⟩ := h
      have gl := g.len
      refine ⟨_, (pss_cons (ps_if (pt_not (pt_val (pe_own G_goes (hr.mono (by omega)) (pa_cons (pv 0) (pa_cons (pv 1) (pa_cons (pv 2) pa_nil))))))
        (pss_one (ps_ret (pe_lst pa_nil)))
        pss_nil)
      (pss_cons (ps_if (pt_cmpR op_eq (pe_callB (kLen K) (by rfl) T.len (by decide +kernel) (pa_cons (pv 2) pa_nil)) (pe_callB (kLen K) (by rfl) T.len (by decide +kernel) (pa_cons (pe_ix (kIxT K) (pv 0) pe_int (fun _ _ => rfl)) pa_nil)) (nomark _))
        (pss_one (ps_ret (pe_lst (pa_cons (pv 2) pa_nil))))
        pss_nil)
      (pss_one ps_never))), ?_⟩
      refine ⟨_, rfl, _, rfl, _, rfl, v, u, b, W, t, rfl, hw, g, hL, ht, by omega, fun H1 s1 => ⟨_, rfl, ?_⟩⟩
      have e0 : rootsFrom W 0 t = if goes W t = true then [t] else [] := rfl
      cases hg : goes W t with
      | false =>
        rw [hg, if_neg Bool.false_ne_true] at e0
        refine iteT ⟨szs (by simp), fun p hp => q _ p (s1.trans (same_new hp)) (s1.free hp) ?_⟩
        rw [e0]
        exact ⟨[], upd_same, .nil⟩
      | true =>
        rw [hg, if_pos rfl] at e0
        obtain ⟨c, rfl, hc⟩ := ht
        obtain ⟨a, tu, rfl, hW, tb, xs, rfl, hT, hP⟩ := hw
        refine iteF ⟨_, rfl, c, _, rfl, .inr ((tk_same s1).seq hc), .ref a, rfl, a, _, 1, _, rfl, rfl, (tk_same s1).seq hW, rfl, tb, xs, rfl, .inr ((tk_same s1).seq hT), rfl, _, rfl, iteTo ?_ ⟨_, rfl, szs (by simp), fun p hp => q _ p (s1.trans (same_new hp)) (s1.free hp) ?_⟩⟩
        · rw [hP.length, List.length_map, show t.length = W.2.length by omega]
          simp
        · rw [e0]
          exact ⟨[.ref c], upd_same, .cons ⟨c, rfl, (tk_same (s1.trans (same_new hp))).seq hc⟩ .nil⟩
  | d + 1 => by
    have G_roots_from := ok_roots_from S T G_goes d
    refine has_of (k := 3 + d) S sc_roots_from (fun vs H Q E h => ?_) (fun f cdv A outer s H vs Q E hr h => ?_)
    · obtain ⟨v, u, b, W, t, rfl, _⟩ := h
      rfl
    · obtain ⟨v, u, b, W, t, rfl, hw, g, hL, ht, hlen, q⟩ := h
      have gl := g.len
      refine ⟨_, (pss_cons (ps_if (pt_not (pt_val (pe_own G_goes (hr.mono (by omega)) (pa_cons (pv 0) (pa_cons (pv 1) (pa_cons (pv 2) pa_nil))))))
        (pss_one (ps_ret (pe_lst pa_nil)))
        pss_nil)
      (pss_cons (ps_if (pt_cmpR op_eq (pe_callB (kLen K) (by rfl) T.len (by decide +kernel) (pa_cons (pv 2) pa_nil)) (pe_callB (kLen K) (by rfl) T.len (by decide +kernel) (pa_cons (pe_ix (kIxT K) (pv 0) pe_int (fun _ _ => rfl)) pa_nil)) (nomark _))
        (pss_one (ps_ret (pe_lst (pa_cons (pv 2) pa_nil))))
        pss_nil)
      (pss_one (ps_ret (pe_op op_cat (pe_own G_roots_from (hr.mono (by omega)) (pa_cons (pv 0) (pa_cons (pv 1) (pa_cons (pe_op (kCatA K) (pv 2) (pe_tup (pa_cons pe_bl pa_nil))) pa_nil)))) (pe_own G_roots_from (hr.mono (by omega)) (pa_cons (pv 0) (pa_cons (pv 1) (pa_cons (pe_op (kCatA K) (pv 2) (pe_tup (pa_cons pe_bl pa_nil))) pa_nil))))))))), ?_⟩
      refine ⟨_, rfl, _, rfl, _, rfl, v, u, b, W, t, rfl, hw, g, hL, ht, by omega, fun H1 s1 => ⟨_, rfl, ?_⟩⟩
      have e0 : rootsFrom W (d + 1) t = if goes W t = true then rootsFrom W d (t ++ [false]) ++ rootsFrom W d (t ++ [true]) else [] := rfl
      cases hg : goes W t with
      | false =>
        rw [hg, if_neg Bool.false_ne_true] at e0
        refine iteT ⟨szs (by simp), fun p hp => q _ p (s1.trans (same_new hp)) (s1.free hp) ?_⟩
        rw [e0]
        exact ⟨[], upd_same, .nil⟩
      | true =>
        rw [hg, if_pos rfl] at e0
        obtain ⟨c, rfl, hc⟩ := ht
        have hw0 := hw
        obtain ⟨a, tu, rfl, hW, tb, xs, rfl, hT, hP⟩ := hw0
        refine iteF ⟨_, rfl, c, _, rfl, .inr ((tk_same s1).seq hc), .ref a, rfl, a, _, 1, _, rfl, rfl, (tk_same s1).seq hW, rfl, tb, xs, rfl, .inr ((tk_same s1).seq hT), rfl, _, rfl, iteFo ?_ ?_⟩
        · rw [hP.length, List.length_map]
          refine decide_eq_false fun h => ?_
          have := V.int.inj h
          omega
        refine ⟨_, rfl, _, rfl, _, rfl, szs (by simp), fun p1 hp1 => ?_⟩
        have s2 := s1.trans (same_new (o := .tup [V.bl false]) hp1)
        refine catA_go (xs := t.map V.bl) (ys := [V.bl false]) ((tk_same s2).seq hc) (SqT.of upd_same) (by simp; omega) fun c1 H3 s3 hc1 => ?_
        have s13 := s2.trans s3
        refine ⟨.ref a, .ref c1, b, W, t ++ [false], rfl, hw.k (tk_same s13), g, s13.seq hL, ⟨c1, rfl, by rw [List.map_append]; exact hc1⟩, by simp; omega, fun H4 l1 s4 hl1 r1 => ?_⟩
        have s14 := s13.trans s4
        refine ⟨_, rfl, _, rfl, _, rfl, szs (by simp), fun p2 hp2 => ?_⟩
        have s5 := s14.trans (same_new (o := .tup [V.bl true]) hp2)
        refine catA_go (xs := t.map V.bl) (ys := [V.bl true]) ((tk_same s5).seq hc) (SqT.of upd_same) (by simp; omega) fun c2 H6 s6 hc2 => ?_
        have s16 := s5.trans s6
        refine ⟨.ref a, .ref c2, b, W, t ++ [true], rfl, hw.k (tk_same s16), g, s16.seq hL, ⟨c2, rfl, by rw [List.map_append]; exact hc2⟩, by simp; omega, fun H7 l2 s7 hl2 r2 => ?_⟩
        have s17 := s16.trans s7
        have s47 := ((same_new (o := .tup [V.bl true]) hp2).trans s6).trans s7
        obtain ⟨xs1, h1, q1⟩ := r1
        obtain ⟨xs2, h2, q2⟩ := r2
        have b1 := rootsFrom_len W d (t ++ [false])
        have b2 := rootsFrom_len W d (t ++ [true])
        have b3 := pow15 (show d ≤ 15 by omega)
        refine ⟨l1, l2, xs1, xs2, rfl, rfl, s47 _ _ h1, h2, by rw [q1.length, q2.length, sizeLine_eq]; omega, fun p hp => q _ p (s17.trans (same_new hp)) (s17.free hp) ?_⟩
        rw [e0]
        have tk := tk_same (same_new (o := .lst (xs1 ++ xs2)) hp)
        exact ⟨_, upd_same, paired_app (Paired.mapP q1 fun _ _ z => z.k ((tk_same s47).trans tk)) (Paired.mapP q2 fun _ _ z => z.k tk)⟩
def spRootsBy (K : PySem.W.Frag) : Sp := fun vs H Q _ => ∃ (v u : V) (W : Web) (t : List Bool), vs = [v, u] ∧ IsWeb K H v W ∧ Good W ∧ IsLine K H u t ∧ t.length ≤ W.2.length ∧
  ∀ H' p, Same H H' → H p = none → IsL (IsLine K) H' p (rootsBy W t) → Q (.ref p) H'
theorem ok_roots_by (S : Stands K mg "roots_by" s_roots_by ["web", "begun"]) (T : Blt mg) (G_lone_masks : Has P w K mg base 2 "lone_masks" ["web"] (spLone K)) (GR : ∀ d, Has P w K mg base (3 + d) "roots_from" ["web", "lone", "begun"] (spRoots K d)) :
    Has P w K mg base 19 "roots_by" ["web", "begun"] (spRootsBy K) := by
  refine has_of S sc_roots_by (fun vs H Q E h => ?_) (fun f cdv A outer s H vs Q E hr h => ?_)
  · obtain ⟨v, u, W, t, rfl, _⟩ := h
    rfl
  · obtain ⟨v, u, W, t, rfl, hw, g, ht, hlen, q⟩ := h
    have gl := g.len
    have G_roots_from := (GR (W.2.length - t.length)).mono (show 3 + (W.2.length - t.length) ≤ 18 by omega)
    refine ⟨_, (pss_one (ps_ret (pe_own G_roots_from (hr.mono (by omega)) (pa_cons (pv 0) (pa_cons (pe_own G_lone_masks (hr.mono (by omega)) (pa_cons (pv 0) pa_nil)) (pa_cons (pv 1) pa_nil)))))), ?_⟩
    refine ⟨_, rfl, _, rfl, v, W, rfl, hw, g, fun H1 b s1 hb hL => ⟨_, rfl, v, u, b, W, t, rfl, hw.k (tk_same s1), g, SqL.of hL, ht.k (tk_same s1), by omega, fun H2 p s2 hp r => q H2 p (s1.trans s2) (s1.free hp) r⟩⟩
def spWebBy (K : PySem.W.Frag) : Sp := fun vs H Q _ => ∃ (v u : V) (W : Web) (t : List Bool), vs = [v, u] ∧ IsWeb K H v W ∧ Good W ∧ IsLine K H u t ∧ ∀ H' x, Same H H' → IsWeb K H' x (W.1, pick W.2 t) → Q x H'
theorem ok_web_by (S : Stands K mg "web_by" s_web_by ["web", "truths"]) (T : Blt mg) : Has P w K mg base 1 "web_by" ["web", "truths"] (spWebBy K) := by
  refine has_of S sc_web_by (fun vs H Q E h => ?_) (fun f cdv A outer s H vs Q E hr h => ?_)
  · obtain ⟨v, u, W, t, rfl, _⟩ := h
    rfl
  · obtain ⟨v, u, W, t, rfl, ⟨a, tu, rfl, hW, tb, xs, rfl, hT, hP⟩, g, ⟨c, rfl, hc⟩, q⟩ := h
    have gl := g.len
    refine ⟨_, (pss_one (ps_ret (pe_tup (pa_cons (pe_ix (kIxT K) (pv 0) pe_int (fun _ _ => rfl)) (pa_cons (pe_callTy (kTupleOf K) (by rfl) T.tuple (by decide +kernel) (pa_cons (pe_lc (own := [("tie", 2), ("truth", 3)]) rfl sc_web_by.nd (RZ.pi_zipA (by rfl) T.zip (pa_cons (pe_ix (kIxT K) (pv 0) pe_int (fun _ _ => rfl)) (pa_cons (pv 1) pa_nil))) (blkOk_by (own := [("tie", 2), ("truth", 3)]) (N := ["web", "truths", "tie", "truth"]) (sc := defScope s_web_by) (by decide +kernel)) (fun _ _ _ _ _ => (kTup K 2 rfl (pgs_cons (pg_name (i := 2) sc_web_by.nd rfl (Or.inl rfl)) (pgs_cons (pg_name (i := 3) sc_web_by.nd rfl (Or.inl rfl)) pgs_nil)))) (fun _ _ _ _ _ => (pts_one (pt_val (pv 3)))) (fun _ _ _ _ _ => (pv 2))) pa_nil)) pa_nil))))), ?_⟩
    refine ⟨.ref a, rfl, a, _, 0, _, rfl, rfl, hW, rfl, .ref a, rfl, a, _, 1, _, rfl, rfl, hW, rfl, .ref c, rfl, tb, c, xs, _, rfl, .inr ⟨hT, hc, fun D hD => ?_⟩⟩
    refine lc_pure (src_zip (R1 := IsTie K) (R2 := IsBool) (ss := W.2) (ts := t) (fun _ _ _ _ s h => h.k (tk_same s)) (fun _ _ _ _ _ h => h) fun H' s => ⟨xs, t.map V.bl, (tk_same s).seq hT, (tk_same s).seq hc, ties_k (tk_same s) hP, line_paired t⟩) hD (IsTie K) (fun p => if p.2 = true then some p.1 else none)
      (fun i p x H1 H' e cs s r => ?_) (fun acc H1 s1 hacc hpa => ?_)
    · obtain ⟨y, x1, x2, rfl, hy, r1, r2⟩ := r
      obtain rfl : x2 = .bl p.2 := r2
      refine ⟨y, _, rfl, SqT.of hy, rfl, _, _, rfl, _, _, rfl, rfl, rfl, _, rfl, p.2, rfl, ?_⟩
      cases hp2 : p.2 with
      | true => exact iteT ⟨_, rfl, comp_add cs hD e s (by rw [hp2]; rfl) r1 (fun _ _ _ _ t h => h.k t) (by rw [List.length_zip]; omega)⟩
      | false => exact iteF (comp_skip cs e s (by rw [hp2]; rfl) (fun _ _ _ _ t h => h.k t))
    · rw [filterMap_pick] at hpa
      refine ⟨D, acc, rfl, .inl ⟨SqL.of hacc, fun l hl => ⟨szs (by simp), fun r hrn => ?_⟩⟩⟩
      have s2 := s1.trans (same_new (o := .tup acc) hl)
      refine q _ _ (s2.trans (same_new hrn)) ⟨r, .ref l, rfl, SqT.of upd_same, l, acc, rfl, SqT.of (same_new hrn _ _ upd_same), ?_⟩
      exact ties_k (tk_same ((same_new hl).trans (same_new hrn))) hpa
end
end Rw
end
section
set_option maxRecDepth 100000
set_option maxHeartbeats 4000000
/-! The walk: what is told of all roots. -/
namespace Rw
open PySem PySem.Spec PyProof.Rows L2
def rootsList (W : Web) : List Web := (rootsBy W []).map fun t => (W.1, pick W.2 t)
def rootsOf (W : Web) : List Web := (rootsList W).mergeSort (PySem.W.dataLe false eWeb)
theorem rootsOf_perm (W : Web) : (rootsOf W).Perm (rootsList W) := List.mergeSort_perm _ _
theorem rootsOf_len (W : Web) : (rootsOf W).length = count W := by
  rw [(rootsOf_perm W).length_eq]
  unfold rootsList count
  rw [List.length_map]
theorem count_bd (W : Web) (g : Good W) : count W ≤ 32768 := by
  have := rootsFrom_len W (W.2.length - 0) []
  have := pow15 (show W.2.length - 0 ≤ 15 by have := g.len; omega)
  unfold count rootsBy
  simp only [List.length_nil]
  omega
def IsOpt (K : PySem.W.Frag) (H : Hp) (v : V) : Option Web → Prop
  | none => v = .non
  | some W => IsWeb K H v W
theorem IsOpt.k {K : PySem.W.Frag} {H H' : Hp} {v : V} {o : Option Web} (t : Tk H H') (h : IsOpt K H v o) : IsOpt K H' v o := by
  cases o with
  | none => exact h
  | some W => exact IsWeb.k t h
def eSized (p : Nat × Web) : PyData := .tuple [.int (p.1 : Int), eWeb p.2]
def IsSized (K : PySem.W.Frag) (H : Hp) (v : V) (p : Nat × Web) : Prop := ∃ a u, v = .ref a ∧ SqT K H a [.int (p.1 : Int), u] ∧ IsWeb K H u p.2
theorem IsSized.k {K : PySem.W.Frag} {H H' : Hp} {v : V} {p : Nat × Web} (t : Tk H H') (h : IsSized K H v p) : IsSized K H' v p := by
  obtain ⟨a, u, e, h1, h2⟩ := h
  exact ⟨a, u, e, t.seq h1, h2.k t⟩
theorem IsSized.dp {K : PySem.W.Frag} {H : Hp} {v : V} {p : Nat × Web} (h : IsSized K H v p) : Dp K H v (eSized p) := by
  obtain ⟨a, u, rfl, h1, h2⟩ := h
  exact .tup h1 (.cons (.int _) (.cons h2.dp .nil))
def sizedOf (Ws : List Web) : List (Nat × Web) := (Ws.map fun W => (W.2.length, W)).mergeSort (PySem.W.dataLe false eSized)
def fewestOf (Ws : List Web) : Option Web := ((sizedOf Ws).map (·.2)).head?
theorem filterMap_if {α : Type} (p : α → Bool) (l : List α) : l.filterMap (fun x => if p x = true then some x else none) = l.filter p := by
  induction l with
  | nil => rfl
  | cons x l ih =>
    rw [List.filterMap_cons, List.filter_cons]
    cases h : p x
    · simp only [Bool.false_eq_true, if_false]
      exact ih
    · simp only [if_true]
      rw [ih]
section
variable {P : Program} {w : World} {K : PySem.W.Frag} {mg : Str → Option Value} {base : Heap}
def spRootsOf (K : PySem.W.Frag) : Sp := fun vs H Q _ => ∃ (v : V) (W : Web), vs = [v] ∧ IsWeb K H v W ∧ Good W ∧ ∀ H' p, Same H H' → H p = none → IsL (IsWeb K) H' p (rootsOf W) → Q (.ref p) H'
theorem ok_roots_of (S : Stands K mg "roots_of" s_roots_of ["web"]) (T : Blt mg) (G_roots_by : Has P w K mg base 19 "roots_by" ["web", "begun"] (spRootsBy K)) (G_web_by : Has P w K mg base 1 "web_by" ["web", "truths"] (spWebBy K)) :
    Has P w K mg base 20 "roots_of" ["web"] (spRootsOf K) := by
  refine has_of S sc_roots_of (fun vs H Q E h => ?_) (fun f cdv A outer s H vs Q E hr h => ?_)
  · obtain ⟨v, W, rfl, _⟩ := h
    rfl
  · obtain ⟨v, W, rfl, hw, g, q⟩ := h
    refine ⟨_, (pss_one (ps_ret (pe_callB (kSortD K eWeb hr.units) (by rfl) T.sorted (by decide +kernel) (pa_cons (pe_lc (own := [("truths", 1)]) rfl sc_roots_of.nd (kpiL K (pe_own G_roots_by (hr.mono (by omega)) (pa_cons (pv 0) (pa_cons (pe_tup pa_nil) pa_nil)))) (blkOk_by (own := [("truths", 1)]) (N := ["web", "truths"]) (sc := defScope s_roots_of) (by decide +kernel)) (fun _ _ _ _ _ => (pg_name (i := 1) sc_roots_of.nd rfl (Or.inl rfl))) (fun _ _ _ _ _ => pts_nil) (fun _ _ _ _ _ => (pe_own G_web_by (hr.mono (by omega)) (pa_cons (pv 0) (pa_cons (pv 1) pa_nil))))) pa_nil)))), ?_⟩
    refine ⟨_, rfl, szs (by simp), fun e0 he0 => ?_⟩
    have s0 : Same H (upd H e0 (.tup [])) := same_new he0
    refine ⟨v, .ref e0, W, [], rfl, hw.k (tk_same s0), g, ⟨e0, rfl, SqT.of upd_same⟩, Nat.zero_le _, fun H1 p s1 hp r => ?_⟩
    obtain ⟨xs, h1, h2⟩ := r
    have s01 := s0.trans s1
    refine ⟨p, rfl, ⟨xs, SqL.of h1⟩, fun D hD => ?_⟩
    refine lc_pure (ts := rootsBy W []) (RI := IsLine K) (src_lst fun H' s => ⟨xs, SqL.of (s _ _ h1), Paired.mapP h2 fun _ _ q => q.k (tk_same s)⟩) hD (IsWeb K) (fun t => some (W.1, pick W.2 t)) (fun i t x H2 H' e c s r => ?_) (fun acc H2 s2 hacc hpa => ?_)
    · refine ⟨rfl, yesT ⟨_, rfl, _, rfl, v, x, W, t, rfl, hw.k (tk_same (s01.trans (c.same.trans s))), g, r, fun H3 y s3 hy => ?_⟩⟩
      exact comp_add c hD e (s.trans s3) rfl hy (fun _ _ _ _ t h => h.k t) (by have := count_bd W g; unfold count at this; omega)
    · rw [List.filterMap_eq_map' (f := fun t => (W.1, pick W.2 t))] at hpa
      refine sortD_go (R := IsWeb K) (.inl (SqL.of hacc)) hpa (fun _ _ h => h.dp) (fun d => ⟨td_web d, by have := dep_web d; omega⟩) alike_web (PySem.W.Sortable.tuples fun _ => ⟨_, _, rfl⟩) fun l ys hl hys => ?_
      exact q _ l ((s01.trans s2).trans (same_new hl)) ((s01.trans s2).free hl) ⟨ys, upd_same, Paired.mapP hys fun _ _ z => z.k (tk_same (same_new hl))⟩
def spCheck (K : PySem.W.Frag) : Sp := fun vs H Q _ => ∃ (v : V) (W : Web), vs = [v] ∧ IsWeb K H v W ∧ W.2.length ≤ 12 ∧ ∀ H', Same H H' → Q .non H'
theorem ok_check_ties (S : Stands K mg "check_ties" s_check_ties ["web"]) (T : Blt mg) : Has P w K mg base 1 "check_ties" ["web"] (spCheck K) := by
  refine has_of S sc_check_ties (fun vs H Q E h => ?_) (fun f cdv A outer s H vs Q E hr h => ?_)
  · obtain ⟨v, W, rfl, _⟩ := h
    rfl
  · obtain ⟨v, W, rfl, ⟨a, tu, rfl, hW, tb, xs, rfl, hT, hP⟩, h12, q⟩ := h
    refine ⟨_, (pss_one (ps_if (pt_cmpR op_gt (pe_callB (kLen K) (by rfl) T.len (by decide +kernel) (pa_cons (pe_ix (kIxT K) (pv 0) pe_int (fun _ _ => rfl)) pa_nil)) (pe_gint rfl T.MOST_TIES) (nomark _))
        (pss_one ps_never)
        pss_nil)), ?_⟩
    refine ⟨.ref a, rfl, a, _, 1, _, rfl, rfl, hW, rfl, tb, xs, rfl, .inr hT, _, _, rfl, rfl, _, rfl, iteFo ?_ (q H (Same.refl H))⟩
    rw [hP.length]
    exact decide_eq_false (by omega)
def spMany (K : PySem.W.Frag) : Sp := fun vs H Q _ => ∃ (v : V) (W : Web), vs = [v] ∧ IsWeb K H v W ∧ Good W ∧ W.2.length ≤ 12 ∧ ∀ H', Same H H' → Q (.int (count W : Int)) H'
theorem ok_roots_many (S : Stands K mg "roots_many" s_roots_many ["web"]) (T : Blt mg) (G_check_ties : Has P w K mg base 1 "check_ties" ["web"] (spCheck K)) (G_roots_by : Has P w K mg base 19 "roots_by" ["web", "begun"] (spRootsBy K)) :
    Has P w K mg base 20 "roots_many" ["web"] (spMany K) := by
  refine has_of S sc_roots_many (fun vs H Q E h => ?_) (fun f cdv A outer s H vs Q E hr h => ?_)
  · obtain ⟨v, W, rfl, _⟩ := h
    rfl
  · obtain ⟨v, W, rfl, hw, g, h12, q⟩ := h
    refine ⟨_, (pss_cons (ps_expr (pe_own G_check_ties (hr.mono (by omega)) (pa_cons (pv 0) pa_nil)))
      (pss_one (ps_ret (pe_callB (kLen K) (by rfl) T.len (by decide +kernel) (pa_cons (pe_own G_roots_by (hr.mono (by omega)) (pa_cons (pv 0) (pa_cons (pe_tup pa_nil) pa_nil))) pa_nil))))), ?_⟩
    refine ⟨_, rfl, v, W, rfl, hw, h12, fun H1 s1 => ⟨_, rfl, szs (by simp), fun e0 he0 => ?_⟩⟩
    have s2 := s1.trans (same_new (o := .tup []) he0)
    refine ⟨v, .ref e0, W, [], rfl, hw.k (tk_same s2), g, ⟨e0, rfl, SqT.of upd_same⟩, Nat.zero_le _, fun H3 p s3 hp r => ?_⟩
    obtain ⟨xs, h1, h2⟩ := r
    refine ⟨p, xs, rfl, .inl (SqL.of h1), ?_⟩
    rw [h2.length]
    exact q H3 (s2.trans s3)
def spFirstOf (K : PySem.W.Frag) : Sp := fun vs H Q _ => ∃ (p : Addr) (Ws : List Web), vs = [.ref p] ∧ IsL (IsWeb K) H p Ws ∧ ∀ H' v, Same H H' → IsOpt K H' v Ws.head? → Q v H'
theorem ok_first_of (S : Stands K mg "first_of" s_first_of ["some"]) (T : Blt mg) : Has P w K mg base 1 "first_of" ["some"] (spFirstOf K) := by
  refine has_of S sc_first_of (fun vs H Q E h => ?_) (fun f cdv A outer s H vs Q E hr h => ?_)
  · obtain ⟨p, Ws, rfl, _⟩ := h
    rfl
  · obtain ⟨p, Ws, rfl, hL, q⟩ := h
    refine ⟨_, (pss_cons (ps_if (pt_cmpR (kEqD K hr.units) (pv 0) (pe_lst pa_nil) (nomark _))
        (pss_one (ps_ret pe_non))
        pss_nil)
      (pss_one (ps_ret (pe_ix (kIxL K) (pv 0) pe_int (fun _ _ => rfl))))), ?_⟩
    refine ⟨_, rfl, szs (by simp), fun e0 he0 => ?_⟩
    have s0 : Same H (upd H e0 (.lst [])) := same_new he0
    have hL1 := hL.webs s0
    refine ⟨.list (Ws.map eWeb), .list (([] : List Web).map eWeb), hL1.dp fun _ _ h => h.dp, .lst (SqL.of upd_same) .nil, sh_list td_web 3 (by omega) dep_web Ws, sh_list td_web 3 (by omega) dep_web [], ?_⟩
    rw [PyData.eqv, eqv_list eqv_web]
    refine ⟨_, rfl, ?_⟩
    obtain ⟨xs, h1, h2⟩ := hL1
    cases Ws with
    | nil => exact iteTo (by simp) (q _ _ s0 rfl)
    | cons W r =>
      cases h2 with
      | cons r1 r2 =>
        refine iteFo (by simp) ⟨_, rfl, p, _, 0, _, rfl, rfl, SqL.of h1, atI_nat (j := 0) rfl, q _ _ s0 r1⟩
def spFirst (K : PySem.W.Frag) : Sp := fun vs H Q _ => ∃ (v : V) (W : Web), vs = [v] ∧ IsWeb K H v W ∧ Good W ∧ W.2.length ≤ 12 ∧ ∀ H' x, Same H H' → IsOpt K H' x (rootsOf W).head? → Q x H'
theorem ok_first_root (S : Stands K mg "first_root" s_first_root ["web"]) (T : Blt mg) (G_check_ties : Has P w K mg base 1 "check_ties" ["web"] (spCheck K)) (G_first_of : Has P w K mg base 1 "first_of" ["some"] (spFirstOf K)) (G_roots_of : Has P w K mg base 20 "roots_of" ["web"] (spRootsOf K)) :
    Has P w K mg base 21 "first_root" ["web"] (spFirst K) := by
  refine has_of S sc_first_root (fun vs H Q E h => ?_) (fun f cdv A outer s H vs Q E hr h => ?_)
  · obtain ⟨v, W, rfl, _⟩ := h
    rfl
  · obtain ⟨v, W, rfl, hw, g, h12, q⟩ := h
    refine ⟨_, (pss_cons (ps_expr (pe_own G_check_ties (hr.mono (by omega)) (pa_cons (pv 0) pa_nil)))
      (pss_one (ps_ret (pe_own G_first_of (hr.mono (by omega)) (pa_cons (pe_own G_roots_of (hr.mono (by omega)) (pa_cons (pv 0) pa_nil)) pa_nil))))), ?_⟩
    exact ⟨_, rfl, v, W, rfl, hw, h12, fun H1 s1 => ⟨_, rfl, v, W, rfl, hw.k (tk_same s1), g, fun H2 p s2 hp r => ⟨p, _, rfl, r, fun H3 x s3 hx => q H3 x ((s1.trans s2).trans s3) hx⟩⟩⟩
def spListed (K : PySem.W.Frag) : Sp := fun vs H Q _ => ∃ (p : Addr) (Ws : List Web), vs = [.ref p] ∧ IsL (IsWeb K) H p Ws ∧ Ws.length ≤ 300 ∧ Q (.ref p) H
theorem ok_listed (S : Stands K mg "listed" s_listed ["some"]) (T : Blt mg) : Has P w K mg base 1 "listed" ["some"] (spListed K) := by
  refine has_of S sc_listed (fun vs H Q E h => ?_) (fun f cdv A outer s H vs Q E hr h => ?_)
  · obtain ⟨p, Ws, rfl, _⟩ := h
    rfl
  · obtain ⟨p, Ws, rfl, ⟨xs, h1, h2⟩, hl, q⟩ := h
    refine ⟨_, (pss_cons (ps_if (pt_cmpR op_gt (pe_callB (kLen K) (by rfl) T.len (by decide +kernel) (pa_cons (pv 0) pa_nil)) (pe_gint rfl T.MOST_LISTED) (nomark _))
        (pss_one ps_never)
        pss_nil)
      (pss_one (ps_ret (pv 0)))), ?_⟩
    refine ⟨_, rfl, p, xs, rfl, .inl (SqL.of h1), _, _, rfl, rfl, _, rfl, iteFo ?_ ⟨_, rfl, q⟩⟩
    rw [h2.length]
    exact decide_eq_false (by omega)
def spAllRoots (K : PySem.W.Frag) : Sp := fun vs H Q _ => ∃ (v : V) (W : Web), vs = [v] ∧ IsWeb K H v W ∧ Good W ∧ W.2.length ≤ 12 ∧ count W ≤ 300 ∧ ∀ H' p, Same H H' → H p = none → IsL (IsWeb K) H' p (rootsOf W) → Q (.ref p) H'
theorem ok_all_roots (S : Stands K mg "all_roots" s_all_roots ["web"]) (T : Blt mg) (G_check_ties : Has P w K mg base 1 "check_ties" ["web"] (spCheck K)) (G_listed : Has P w K mg base 1 "listed" ["some"] (spListed K)) (G_roots_of : Has P w K mg base 20 "roots_of" ["web"] (spRootsOf K)) :
    Has P w K mg base 21 "all_roots" ["web"] (spAllRoots K) := by
  refine has_of S sc_all_roots (fun vs H Q E h => ?_) (fun f cdv A outer s H vs Q E hr h => ?_)
  · obtain ⟨v, W, rfl, _⟩ := h
    rfl
  · obtain ⟨v, W, rfl, hw, g, h12, h300, q⟩ := h
    refine ⟨_, (pss_cons (ps_expr (pe_own G_check_ties (hr.mono (by omega)) (pa_cons (pv 0) pa_nil)))
      (pss_one (ps_ret (pe_own G_listed (hr.mono (by omega)) (pa_cons (pe_own G_roots_of (hr.mono (by omega)) (pa_cons (pv 0) pa_nil)) pa_nil))))), ?_⟩
    exact ⟨_, rfl, v, W, rfl, hw, h12, fun H1 s1 => ⟨_, rfl, v, W, rfl, hw.k (tk_same s1), g, fun H2 p s2 hp r => ⟨p, _, rfl, r, by rw [rootsOf_len]; exact h300, q H2 p (s1.trans s2) (s1.free hp) r⟩⟩⟩
def spTally (K : PySem.W.Frag) : Sp := fun vs H Q _ => ∃ (v : V) (W : Web), vs = [v] ∧ IsWeb K H v W ∧ Good W ∧ W.2.length ≤ 12 ∧ ∀ H' p (ns : List Int), Same H H' → H p = none → H' p = some (.lst (ns.map V.int)) → ns.sum = (count W : Int) → Q (.ref p) H'
theorem sum_replicate0 : ∀ n : Nat, (List.replicate n (0 : Int)).sum = 0
  | 0 => rfl
  | n + 1 => by rw [List.replicate_succ, List.sum_cons, sum_replicate0 n]; rfl
theorem ok_ties_tally (S : Stands K mg "ties_tally" s_ties_tally ["web"]) (T : Blt mg) (G_check_ties : Has P w K mg base 1 "check_ties" ["web"] (spCheck K)) (G_roots_of : Has P w K mg base 20 "roots_of" ["web"] (spRootsOf K)) :
    Has P w K mg base 21 "ties_tally" ["web"] (spTally K) := by
  refine has_of S sc_ties_tally (fun vs H Q E h => ?_) (fun f cdv A outer s H vs Q E hr h => ?_)
  · obtain ⟨v, W, rfl, _⟩ := h
    rfl
  · obtain ⟨v, W, rfl, hw, g, h12, q⟩ := h
    have hw0 := hw
    obtain ⟨a, tu, rfl, hW, tb, xs, rfl, hT, hP⟩ := hw0
    refine ⟨_, (pss_cons (ps_expr (pe_own G_check_ties (hr.mono (by omega)) (pa_cons (pv 0) pa_nil)))
      (pss_cons (ps_set (i := 1) sc_ties_tally.nd rfl (Or.inl rfl) (pe_op op_rep (pe_lst (pa_cons pe_int pa_nil)) (pe_op op_add (pe_callB (kLen K) (by rfl) T.len (by decide +kernel) (pa_cons (pe_ix (kIxT K) (pv 0) pe_int (fun _ _ => rfl)) pa_nil)) pe_int)))
      (pss_cons (ps_for PassesOwn.never rfl (kpiL K (pe_own G_roots_of (hr.mono (by omega)) (pa_cons (pv 0) pa_nil))) (pg_name (i := 2) sc_ties_tally.nd rfl (Or.inl rfl))
        (pss_one (ps_augS (pv 1) (pe_callB (kLen K) (by rfl) T.len (by decide +kernel) (pa_cons (pe_ix (kIxT K) (pv 2) pe_int (fun _ _ => rfl)) pa_nil)) pget_list pe_int ip_add set_list)))
      (pss_one (ps_ret (pv 1)))))), ?_⟩
    refine ⟨_, rfl, .ref a, W, rfl, hw, h12, fun H1 s1 => ⟨szs (by simp), fun l0 hl0 => ?_⟩⟩
    have s2 := s1.trans (same_new (o := .lst [V.int 0]) hl0)
    refine ⟨.ref a, rfl, a, _, 1, _, rfl, rfl, (tk_same s2).seq hW, rfl, tb, xs, rfl, .inr ((tk_same s2).seq hT), _, _, rfl, rfl, l0, _, _, rfl, rfl, upd_same, by have := hP.length; omega, by have := hP.length; omega, szs (by have := hP.length; simp; omega), fun fo hfo => ?_⟩
    have efo : H fo = none := s2.free hfo
    have e0 : (List.replicate ((xs.length : Int) + 1).toNat [V.int 0]).flatten = (List.replicate (W.2.length + 1) (0 : Int)).map V.int := by
      rw [rep_flat, List.map_replicate, hP.length, show ((W.2.length : Int) + 1).toNat = W.2.length + 1 by omega]
    rw [e0]
    have s3 := s2.trans (same_new (o := .lst ((List.replicate (W.2.length + 1) (0 : Int)).map V.int)) hfo)
    -- for root in roots_of(web)
    refine ⟨_, rfl, .ref a, W, rfl, hw.k (tk_same s3), g, fun H4 p s4 hp r => ?_⟩
    obtain ⟨ys, h1, h2⟩ := r
    have pne : p ≠ fo := fun e => by rw [e, upd_same] at hp; cases hp
    refine ⟨p, rfl, ⟨ys, SqL.of h1⟩, for_src (ts := rootsOf W) (RI := IsWeb K) (src_lst (Ok := fun H' => Tk H4 H' ∧ H' p = some (.lst ys)) fun H' h => ⟨ys, SqL.of h.2, Paired.mapP h2 fun _ _ q => q.k h.1⟩)
      (fun i σ H5 => ∃ (y2 : Option V) (ns : List Int), σ = [some (.ref a), some (.ref fo), y2] ∧ Same H H5 ∧ Tk H4 H5 ∧ H5 p = some (.lst ys) ∧ H5 fo = some (.lst (ns.map V.int)) ∧ ns.length = W.2.length + 1 ∧ ns.sum = (i : Int)) (fun i σ H5 h => by obtain ⟨_, _, _, _, h1, h2, _⟩ := h; exact ⟨h1, h2⟩)
      ⟨none, _, rfl, s3.trans s4, Tk.refl _, h1, s4 _ _ upd_same, by simp, sum_replicate0 _⟩ (fun i R x σ H5 H5' e hPv s5 hx => ?_) (fun σ H5 hPv => ?_)⟩
    · obtain ⟨y2, ns, rfl, sH, t4, hpp, hf, hlen, hsum⟩ := hPv
      have hpp := s5 _ _ hpp
      have hf := s5 _ _ hf
      have hR : R ∈ rootsList W := (rootsOf_perm W).mem_iff.mp (List.mem_of_getElem? e)
      obtain ⟨t, _, rfl⟩ := List.mem_map.mp hR
      have hl := (pick_sublist W.2 t).length_le
      obtain ⟨b, tu, rfl, hb, tb2, zs, rfl, hz, hzp⟩ := hx
      have hj : zs.length < ns.length := by rw [hzp.length, hlen]; show (pick W.2 t).length < _; omega
      have hnz : (ns.map V.int)[zs.length]? = some (.int (ns[zs.length])) := by rw [List.getElem?_map, List.getElem?_eq_getElem hj]; rfl
      refine ⟨_, rfl, _, rfl, b, _, 1, _, rfl, rfl, hb, rfl, tb2, zs, rfl, .inr hz, fo, _, zs.length, _, rfl, rfl, SqL.of hf, hnz, _, _, rfl, rfl, fo, _, _, zs.length, rfl, rfl, hf, ixN_nat (by rw [List.length_map]; exact hj), ?_⟩
      refine ⟨_, ns.set zs.length (ns[zs.length] + 1), rfl, same_mut (sH.trans s5) efo, (t4.trans (tk_same s5)).trans (tk_lst hf), by rw [upd_ne pne]; exact hpp, by rw [upd_same, List.map_set], by rw [List.length_set]; exact hlen, ?_⟩
      rw [sum_set (List.getElem?_eq_getElem hj), hsum]
      push_cast
      omega
    · obtain ⟨y2, ns, rfl, sH, t4, hpp, hf, hlen, hsum⟩ := hPv
      rw [rootsOf_len] at hsum
      exact ⟨_, rfl, q _ fo ns sH efo hf hsum⟩
def spFewestOf (K : PySem.W.Frag) : Sp := fun vs H Q _ => ∃ (p : Addr) (Ws : List Web), vs = [.ref p] ∧ IsL (IsWeb K) H p Ws ∧ Ws.length ≤ 100000 ∧ ∀ H' v, Same H H' → IsOpt K H' v (fewestOf Ws) → Q v H'
theorem ok_fewest_of (S : Stands K mg "fewest_of" s_fewest_of ["some"]) (T : Blt mg) (G_first_of : Has P w K mg base 1 "first_of" ["some"] (spFirstOf K)) : Has P w K mg base 2 "fewest_of" ["some"] (spFewestOf K) := by
  refine has_of S sc_fewest_of (fun vs H Q E h => ?_) (fun f cdv A outer s H vs Q E hr h => ?_)
  · obtain ⟨p, Ws, rfl, _⟩ := h
    rfl
  · obtain ⟨p, Ws, rfl, ⟨xs, h1, h2⟩, hlen, q⟩ := h
    refine ⟨_, (pss_one (ps_ret (pe_own G_first_of (hr.mono (by omega)) (pa_cons (pe_lc (own := [("size", 1), ("web", 2)]) rfl sc_fewest_of.nd (kpiL K (pe_callB (kSortD K eSized hr.units) (by rfl) T.sorted (by decide +kernel) (pa_cons (pe_lc (own := [("web", 2)]) rfl sc_fewest_of.nd (kpiL K (pv 0)) (blkOk_by (own := [("web", 2)]) (N := ["some", "size", "web"]) (sc := defScope s_fewest_of) (by decide +kernel)) (fun _ _ _ _ _ => (pg_name (i := 2) sc_fewest_of.nd rfl (Or.inl rfl))) (fun _ _ _ _ _ => pts_nil) (fun _ _ _ _ _ => (pe_tup (pa_cons (pe_callB (kLen K) (by rfl) T.len (by decide +kernel) (pa_cons (pe_ix (kIxT K) (pv 2) pe_int (fun _ _ => rfl)) pa_nil)) (pa_cons (pv 2) pa_nil))))) pa_nil))) (blkOk_by (own := [("size", 1), ("web", 2)]) (N := ["some", "size", "web"]) (sc := defScope s_fewest_of) (by decide +kernel)) (fun _ _ _ _ _ => (kTup K 2 rfl (pgs_cons (pg_name (i := 1) sc_fewest_of.nd rfl (Or.inl rfl)) (pgs_cons (pg_name (i := 2) sc_fewest_of.nd rfl (Or.inl rfl)) pgs_nil)))) (fun _ _ _ _ _ => pts_nil) (fun _ _ _ _ _ => (pv 2))) pa_nil)))), ?_⟩
    refine ⟨_, rfl, p, rfl, ⟨xs, SqL.of h1⟩, fun D hD => ?_⟩
    refine lc_pure (ts := Ws) (RI := IsWeb K) (src_lst fun H' s => ⟨xs, SqL.of (s _ _ h1), Paired.mapP h2 fun _ _ q => q.k (tk_same s)⟩) hD (IsSized K) (fun W => some (W.2.length, W)) (fun i R x H1 H' e c s r => ?_) (fun acc H1 s1 hacc hpa => ?_)
    · have r0 := r
      obtain ⟨b, tu, rfl, hb, tb2, zs, rfl, hz, hzp⟩ := r0
      refine ⟨rfl, yesT ⟨_, rfl, b, _, 1, _, rfl, rfl, hb, rfl, tb2, zs, rfl, .inr hz, _, rfl, szs (by simp), fun t ht => ?_⟩⟩
      refine comp_add c hD e (s.trans (same_new ht)) rfl ⟨t, .ref b, rfl, SqT.of ?_, r.k (tk_same (same_new ht))⟩ (fun _ _ _ _ t h => h.k t) hlen
      rw [upd_same, hzp.length]
    · rw [List.filterMap_eq_map' (f := fun W : Web => (W.2.length, W))] at hpa
      dsimp only [tNil]
      refine sortD_go (R := IsSized K) (.inl (SqL.of hacc)) hpa (fun _ _ h => h.dp) (fun d => ⟨by simp [eSized, td, tds, td_web], by have := dep_web d.2; simp only [eSized, PyData.depth, PyData.depthAll]; omega⟩) (fun a b => by simp only [eSized, PySem.W.alike, PySem.W.alikeAll, alike_web]; rfl) (PySem.W.Sortable.tuples fun _ => ⟨_, _, rfl⟩) fun l ys hl hys => ?_
      have s2 := s1.trans (same_new (o := .lst ys) hl)
      have hys2 : Paired (IsSized K (upd H1 l (.lst ys))) ys (sizedOf Ws) := Paired.mapP hys fun _ _ z => z.k (tk_same (same_new hl))
      refine ⟨l, rfl, ⟨ys, SqL.of upd_same⟩, fun D2 hD2 => ?_⟩
      refine lc_pure (ts := sizedOf Ws) (RI := IsSized K) (src_lst fun H' s => ⟨ys, SqL.of (s _ _ upd_same), Paired.mapP hys2 fun _ _ q => q.k (tk_same s)⟩) hD2 (IsWeb K) (fun p => some p.2) (fun i R x H2 H' e c s r => ?_) (fun acc2 H2 s3 hacc2 hpa2 => ?_)
      · obtain ⟨b, u, rfl, hb, hu⟩ := r
        refine ⟨b, _, rfl, hb, rfl, _, _, rfl, _, _, rfl, rfl, rfl, yesT ⟨_, rfl, comp_add c hD2 e s rfl hu (fun _ _ _ _ t h => h.k t) ?_⟩⟩
        have := (List.mergeSort_perm (Ws.map fun W => (W.2.length, W)) (PySem.W.dataLe false eSized)).length_eq
        unfold sizedOf
        rw [this, List.length_map]
        exact hlen
      · rw [List.filterMap_eq_map' (f := fun p : Nat × Web => p.2)] at hpa2
        exact ⟨D2, _, rfl, ⟨acc2, hacc2, hpa2⟩, fun H4 v s4 hv => q H4 v ((s2.trans s3).trans s4) hv⟩
def spFewest (K : PySem.W.Frag) : Sp := fun vs H Q _ => ∃ (v : V) (W : Web), vs = [v] ∧ IsWeb K H v W ∧ Good W ∧ W.2.length ≤ 12 ∧ ∀ H' x, Same H H' → IsOpt K H' x (fewestOf (rootsOf W)) → Q x H'
theorem ok_fewest_root (S : Stands K mg "fewest_root" s_fewest_root ["web"]) (T : Blt mg) (G_check_ties : Has P w K mg base 1 "check_ties" ["web"] (spCheck K)) (G_fewest_of : Has P w K mg base 2 "fewest_of" ["some"] (spFewestOf K)) (G_roots_of : Has P w K mg base 20 "roots_of" ["web"] (spRootsOf K)) :
    Has P w K mg base 21 "fewest_root" ["web"] (spFewest K) := by
  refine has_of S sc_fewest_root (fun vs H Q E h => ?_) (fun f cdv A outer s H vs Q E hr h => ?_)
  · obtain ⟨v, W, rfl, _⟩ := h
    rfl
  · obtain ⟨v, W, rfl, hw, g, h12, q⟩ := h
    refine ⟨_, (pss_cons (ps_expr (pe_own G_check_ties (hr.mono (by omega)) (pa_cons (pv 0) pa_nil)))
      (pss_one (ps_ret (pe_own G_fewest_of (hr.mono (by omega)) (pa_cons (pe_own G_roots_of (hr.mono (by omega)) (pa_cons (pv 0) pa_nil)) pa_nil))))), ?_⟩
    exact ⟨_, rfl, v, W, rfl, hw, h12, fun H1 s1 => ⟨_, rfl, v, W, rfl, hw.k (tk_same s1), g, fun H2 p s2 hp r => ⟨p, _, rfl, r, by rw [rootsOf_len]; have := count_bd W g; omega, fun H3 x s3 hx => q H3 x ((s1.trans s2).trans s3) hx⟩⟩⟩
def mustOf (W : Web) : List Tie := W.2.filter fun e => (rootsOf W).all fun R => R.2.contains e
def mayOf (W : Web) : List Tie := W.2.filter fun e => (rootsOf W).any fun R => R.2.contains e
def spTies (K : PySem.W.Frag) (f : Web → List Tie) : Sp := fun vs H Q _ => ∃ (v : V) (W : Web), vs = [v] ∧ IsWeb K H v W ∧ Good W ∧ W.2.length ≤ 12 ∧ ∀ H' x, Same H H' → IsTies K H' x (f W) → Q x H'
theorem bools_of {K : PySem.W.Frag} {H : Hp} {acc : List V} {bs : List Bool} (h : Paired (IsBool H) acc bs) : acc = bs.map V.bl := by
  induction h with
  | nil => rfl
  | cons r t ih => rw [ih, List.map_cons]; congr 1
theorem ok_must_have (S : Stands K mg "must_have" s_must_have ["web"]) (T : Blt mg) (G_check_ties : Has P w K mg base 1 "check_ties" ["web"] (spCheck K)) (G_roots_of : Has P w K mg base 20 "roots_of" ["web"] (spRootsOf K)) :
    Has P w K mg base 21 "must_have" ["web"] (spTies K mustOf) := by
  refine has_of S sc_must_have (fun vs H Q E h => ?_) (fun f cdv A outer s H vs Q E hr h => ?_)
  · obtain ⟨v, W, rfl, _⟩ := h
    rfl
  · obtain ⟨v, W, rfl, hw, g, h12, q⟩ := h
    have hw0 := hw
    obtain ⟨a, tu, rfl, hW, tb, xs, rfl, hT, hP⟩ := hw0
    refine ⟨_, (pss_cons (ps_expr (pe_own G_check_ties (hr.mono (by omega)) (pa_cons (pv 0) pa_nil)))
      (pss_cons (ps_set (i := 1) sc_must_have.nd rfl (Or.inr rfl) (pe_own G_roots_of (hr.mono (by omega)) (pa_cons (pv 0) pa_nil)))
      (pss_one (ps_ret (pe_callTy (kTupleOf K) (by rfl) T.tuple (by decide +kernel) (pa_cons (pe_lc (own := [("tie", 2)]) rfl sc_must_have.nd (kpiT K (pe_ix (kIxT K) (pv 0) pe_int (fun _ _ => rfl))) (blkOk_by (own := [("tie", 2)]) (N := ["web", "found", "tie", "root"]) (sc := defScope s_must_have) (by decide +kernel)) (fun _ _ _ _ _ => (pg_name (i := 2) sc_must_have.nd rfl (Or.inr rfl))) (fun _ _ _ _ _ => (pts_one (pt_val (pe_callB (kAll K rfl) (by rfl) T.all (by decide +kernel) (pa_cons (pe_lc (own := [("root", 3)]) rfl sc_must_have.nd (kpiL K (pv 1)) (blkOk_by (own := [("root", 3)]) (N := ["web", "found", "tie", "root"]) (sc := blkScope "all") (by decide +kernel)) (fun _ _ _ _ _ => (pg_name (i := 3) sc_must_have.nd rfl (Or.inl rfl))) (fun _ _ _ _ _ => pts_nil) (fun _ _ _ _ _ => (pe_cmpR (kInDT K (units1 hr)) (pv 2) (pe_ix (kIxT K) (pv 3) pe_int (fun _ _ => rfl)) (by rfl)))) pa_nil))))) (fun _ _ _ _ _ => (pv 2))) pa_nil)))))), ?_⟩
    refine ⟨_, rfl, .ref a, W, rfl, hw, h12, fun H1 s1 => ⟨_, rfl, .ref a, W, rfl, hw.k (tk_same s1), g, fun H2 p s2 hp r => ?_⟩⟩
    obtain ⟨ys, h1, h2⟩ := r
    have s12 := s1.trans s2
    refine ⟨_, rfl, a, _, 1, _, rfl, rfl, (tk_same s12).seq hW, rfl, tb, rfl, ⟨xs, (tk_same s12).seq hT⟩, fun D hD => ?_⟩
    refine lc_pure (ts := W.2) (RI := IsTie K) (src_tup fun H' s => ⟨xs, (tk_same (s12.trans s)).seq hT, ties_k (tk_same (s12.trans s)) hP⟩) hD (IsTie K) (fun e => if ((rootsOf W).all fun R => R.2.contains e) = true then some e else none) (fun i t x H3 H3' e c s r => ?_) (fun acc H3 s3 hacc hpa => ?_)
    · have s23 := c.same.trans s
      refine ⟨rfl, _, rfl, p, rfl, ⟨ys, SqL.of (s23 _ _ h1)⟩, fun D2 hD2 => ?_⟩
      refine lc_pure (ts := rootsOf W) (RI := IsWeb K) (src_lst fun H' s => ⟨ys, SqL.of (s _ _ (s23 _ _ h1)), Paired.mapP h2 fun _ _ q => q.k (tk_same (s23.trans s))⟩) hD2 IsBool (fun R => some (R.2.contains t)) (fun j R y H4 H4' e4 c4 s4 r4 => ?_) (fun acc4 H4 s4 hacc4 hpa4 => ?_)
      · obtain ⟨b, u, rfl, hb, hu⟩ := r4
        have s34 := c4.same.trans s4
        have hu0 := hu
        obtain ⟨tb2, zs, rfl, hz, hzp⟩ := hu0
        refine ⟨rfl, yesT ⟨_, rfl, _, rfl, b, _, 1, _, rfl, rfl, hb, rfl, eTie t, R.2.map eTie, (r.k (tk_same s34)).dp, hu.dp, sh_tie t, sh_ties R.2, ?_⟩⟩
        rw [any_tie]
        exact comp_add c4 hD2 e4 s4 rfl (show IsBool _ _ _ from rfl) (fun _ _ _ _ _ h => h) (by rw [rootsOf_len]; have := count_bd W g; omega)
      · rw [List.filterMap_eq_map' (f := fun R : Web => R.2.contains t)] at hpa4
        rw [bools_of (K := K) hpa4] at hacc4
        refine ⟨D2, _, rfl, SqL.of hacc4, _, rfl, ?_⟩
        have eb : ((rootsOf W).map fun R : Web => R.2.contains t).all id = (rootsOf W).all fun R => R.2.contains t := by rw [List.all_map]; rfl
        rw [eb]
        cases hb : ((rootsOf W).all fun R => R.2.contains t) with
        | true => exact iteT ⟨_, rfl, comp_add c hD e (s.trans s4) (if_pos hb) (r.k (tk_same s4)) (fun _ _ _ _ t h => h.k t) (by omega)⟩
        | false => exact iteF (comp_skip c e (s.trans s4) (if_neg (by rw [hb]; exact Bool.false_ne_true)) (fun _ _ _ _ t h => h.k t))
    · rw [filterMap_if (fun e => (rootsOf W).all fun R => R.2.contains e)] at hpa
      refine ⟨D, acc, rfl, .inl ⟨SqL.of hacc, fun l hl => ?_⟩⟩
      exact q _ _ ((s12.trans s3).trans (same_new hl)) ⟨l, acc, rfl, SqT.of upd_same, ties_k (tk_same (same_new hl)) hpa⟩
theorem ok_may_have (S : Stands K mg "may_have" s_may_have ["web"]) (T : Blt mg) (G_check_ties : Has P w K mg base 1 "check_ties" ["web"] (spCheck K)) (G_roots_of : Has P w K mg base 20 "roots_of" ["web"] (spRootsOf K)) :
    Has P w K mg base 21 "may_have" ["web"] (spTies K mayOf) := by
  refine has_of S sc_may_have (fun vs H Q E h => ?_) (fun f cdv A outer s H vs Q E hr h => ?_)
  · obtain ⟨v, W, rfl, _⟩ := h
    rfl
  · obtain ⟨v, W, rfl, hw, g, h12, q⟩ := h
    have hw0 := hw
    obtain ⟨a, tu, rfl, hW, tb, xs, rfl, hT, hP⟩ := hw0
    refine ⟨_, (pss_cons (ps_expr (pe_own G_check_ties (hr.mono (by omega)) (pa_cons (pv 0) pa_nil)))
      (pss_cons (ps_set (i := 1) sc_may_have.nd rfl (Or.inr rfl) (pe_own G_roots_of (hr.mono (by omega)) (pa_cons (pv 0) pa_nil)))
      (pss_one (ps_ret (pe_callTy (kTupleOf K) (by rfl) T.tuple (by decide +kernel) (pa_cons (pe_lc (own := [("tie", 2)]) rfl sc_may_have.nd (kpiT K (pe_ix (kIxT K) (pv 0) pe_int (fun _ _ => rfl))) (blkOk_by (own := [("tie", 2)]) (N := ["web", "found", "tie", "root"]) (sc := defScope s_may_have) (by decide +kernel)) (fun _ _ _ _ _ => (pg_name (i := 2) sc_may_have.nd rfl (Or.inr rfl))) (fun _ _ _ _ _ => (pts_one (pt_val (pe_callB (kAny K rfl) (by rfl) T.any (by decide +kernel) (pa_cons (pe_lc (own := [("root", 3)]) rfl sc_may_have.nd (kpiL K (pv 1)) (blkOk_by (own := [("root", 3)]) (N := ["web", "found", "tie", "root"]) (sc := blkScope "any") (by decide +kernel)) (fun _ _ _ _ _ => (pg_name (i := 3) sc_may_have.nd rfl (Or.inl rfl))) (fun _ _ _ _ _ => pts_nil) (fun _ _ _ _ _ => (pe_cmpR (kInDT K (units1 hr)) (pv 2) (pe_ix (kIxT K) (pv 3) pe_int (fun _ _ => rfl)) (by rfl)))) pa_nil))))) (fun _ _ _ _ _ => (pv 2))) pa_nil)))))), ?_⟩
    refine ⟨_, rfl, .ref a, W, rfl, hw, h12, fun H1 s1 => ⟨_, rfl, .ref a, W, rfl, hw.k (tk_same s1), g, fun H2 p s2 hp r => ?_⟩⟩
    obtain ⟨ys, h1, h2⟩ := r
    have s12 := s1.trans s2
    refine ⟨_, rfl, a, _, 1, _, rfl, rfl, (tk_same s12).seq hW, rfl, tb, rfl, ⟨xs, (tk_same s12).seq hT⟩, fun D hD => ?_⟩
    refine lc_pure (ts := W.2) (RI := IsTie K) (src_tup fun H' s => ⟨xs, (tk_same (s12.trans s)).seq hT, ties_k (tk_same (s12.trans s)) hP⟩) hD (IsTie K) (fun e => if ((rootsOf W).any fun R => R.2.contains e) = true then some e else none) (fun i t x H3 H3' e c s r => ?_) (fun acc H3 s3 hacc hpa => ?_)
    · have s23 := c.same.trans s
      refine ⟨rfl, _, rfl, p, rfl, ⟨ys, SqL.of (s23 _ _ h1)⟩, fun D2 hD2 => ?_⟩
      refine lc_pure (ts := rootsOf W) (RI := IsWeb K) (src_lst fun H' s => ⟨ys, SqL.of (s _ _ (s23 _ _ h1)), Paired.mapP h2 fun _ _ q => q.k (tk_same (s23.trans s))⟩) hD2 IsBool (fun R => some (R.2.contains t)) (fun j R y H4 H4' e4 c4 s4 r4 => ?_) (fun acc4 H4 s4 hacc4 hpa4 => ?_)
      · obtain ⟨b, u, rfl, hb, hu⟩ := r4
        have s34 := c4.same.trans s4
        have hu0 := hu
        obtain ⟨tb2, zs, rfl, hz, hzp⟩ := hu0
        refine ⟨rfl, yesT ⟨_, rfl, _, rfl, b, _, 1, _, rfl, rfl, hb, rfl, eTie t, R.2.map eTie, (r.k (tk_same s34)).dp, hu.dp, sh_tie t, sh_ties R.2, ?_⟩⟩
        rw [any_tie]
        exact comp_add c4 hD2 e4 s4 rfl (show IsBool _ _ _ from rfl) (fun _ _ _ _ _ h => h) (by rw [rootsOf_len]; have := count_bd W g; omega)
      · rw [List.filterMap_eq_map' (f := fun R : Web => R.2.contains t)] at hpa4
        rw [bools_of (K := K) hpa4] at hacc4
        refine ⟨D2, _, rfl, SqL.of hacc4, _, rfl, ?_⟩
        have eb : ((rootsOf W).map fun R : Web => R.2.contains t).any id = (rootsOf W).any fun R => R.2.contains t := by rw [List.any_map]; rfl
        rw [eb]
        cases hb : ((rootsOf W).any fun R => R.2.contains t) with
        | true => exact iteT ⟨_, rfl, comp_add c hD e (s.trans s4) (if_pos hb) (r.k (tk_same s4)) (fun _ _ _ _ t h => h.k t) (by omega)⟩
        | false => exact iteF (comp_skip c e (s.trans s4) (if_neg (by rw [hb]; exact Bool.false_ne_true)) (fun _ _ _ _ t h => h.k t))
    · rw [filterMap_if (fun e => (rootsOf W).any fun R => R.2.contains e)] at hpa
      refine ⟨D, acc, rfl, .inl ⟨SqL.of hacc, fun l hl => ?_⟩⟩
      exact q _ _ ((s12.trans s3).trans (same_new hl)) ⟨l, acc, rfl, SqT.of upd_same, ties_k (tk_same (same_new hl)) hpa⟩

end
end Rw
end
section
set_option maxRecDepth 100000
set_option maxHeartbeats 4000000
/-! The walk: beginnings. -/
namespace Rw
open PySem PySem.Spec PyProof.Rows L2
section
variable {P : Program} {w : World} {K : PySem.W.Frag} {mg : Str → Option Value} {base : Heap}
def spBegun (K : PySem.W.Frag) : Sp := fun vs H Q _ => ∃ (v u : V) (W : Web) (t : List Bool), vs = [v, u] ∧ IsWeb K H v W ∧ IsLine K H u t ∧ t.length ≤ W.2.length ∧ t.length ≤ 15 ∧ ∀ H', Same H H' → Q .non H'
theorem ok_check_begun (S : Stands K mg "check_begun" s_check_begun ["web", "begun"]) (T : Blt mg) : Has P w K mg base 1 "check_begun" ["web", "begun"] (spBegun K) := by
  refine has_of S sc_check_begun (fun vs H Q E h => ?_) (fun f cdv A outer s H vs Q E hr h => ?_)
  · obtain ⟨v, u, W, t, rfl, _⟩ := h
    rfl
  · obtain ⟨v, u, W, t, rfl, ⟨a, tu, rfl, hW, tb, xs, rfl, hT, hP⟩, ⟨c, rfl, hc⟩, hl, h15, q⟩ := h
    refine ⟨_, (pss_cons (ps_if (PW.pt (pw_or (pt_not (pt_val (pe_callB (kIsi K) (by rfl) T.isinstance (by decide +kernel) (pa_cons (pv 1) (pa_cons (pe_bltn (v := .ty "tuple") (u := .type "tuple") (by rfl) T.tuple (by decide +kernel) rfl) pa_nil))))) (pw_or1 (pt_cmpR op_gt (pe_callB (kLen K) (by rfl) T.len (by decide +kernel) (pa_cons (pv 1) pa_nil)) (pe_callB (kLen K) (by rfl) T.len (by decide +kernel) (pa_cons (pe_ix (kIxT K) (pv 0) pe_int (fun _ _ => rfl)) pa_nil)) (nomark _)))))
        (pss_one ps_never)
        pss_nil)
      (pss_one (ps_if (pt_not (pt_val (pe_callB (kAll K rfl) (by rfl) T.all (by decide +kernel) (pa_cons (pe_lc (own := [("truth", 2)]) rfl sc_check_begun.nd (kpiT K (pv 1)) (blkOk_by (own := [("truth", 2)]) (N := ["web", "begun", "truth"]) (sc := defScope s_check_begun) (by decide +kernel)) (fun _ _ _ _ _ => (pg_name (i := 2) sc_check_begun.nd rfl (Or.inl rfl))) (fun _ _ _ _ _ => pts_nil) (fun _ _ _ _ _ => (pe_callB (kIsi K) (by rfl) T.isinstance (by decide +kernel) (pa_cons (pv 2) (pa_cons (pe_bltn (v := .ty "bool") (u := .type "bool") (by rfl) T.bool (by decide +kernel) rfl) pa_nil))))) pa_nil))))
        (pss_one ps_never)
        pss_nil))), ?_⟩
    refine ⟨.ref c, rfl, .ref c, .ty "tuple", .type "tuple", .type "tuple", true, rfl, .ty _, tyx_tup hc, kit_ty (by decide +kernel), true, rfl, iteF ⟨.ref c, rfl, c, _, rfl, .inr hc, .ref a, rfl, a, _, 1, _, rfl, rfl, hW, rfl, tb, xs, rfl, .inr hT, _, _, rfl, rfl, _, rfl, iteFo ?_ ?_⟩⟩
    · rw [hP.length, List.length_map]
      exact decide_eq_false (by omega)
    refine ⟨.ref c, rfl, c, rfl, ⟨_, hc⟩, fun D hD => ?_⟩
    refine lc_pure (ts := t) (RI := IsBool) (src_tup fun H' s => ⟨_, (tk_same s).seq hc, line_paired t⟩) hD IsBool (fun _ => some true) (fun i b x H1 H' e cs s r => ?_) (fun acc H1 s1 hacc hpa => ?_)
    · obtain rfl : x = .bl b := r
      exact ⟨rfl, yesT ⟨_, rfl, .bl b, .ty "bool", .type "bool", .type "bool", true, rfl, .ty _, .base (.bl _), kit_ty (by decide +kernel), comp_add cs hD e s rfl rfl (fun _ _ _ _ _ h => h) (by omega)⟩⟩
    · rw [List.filterMap_eq_map' (f := fun _ => true)] at hpa
      rw [bools_of (K := K) hpa] at hacc
      have e2 : ((t.map fun _ => true).all id) = true := by simp
      exact ⟨D, _, rfl, SqL.of hacc, true, by rw [e2], iteF (q H1 s1)⟩
def spRootsBegun (K : PySem.W.Frag) : Sp := fun vs H Q _ => ∃ (v u : V) (W : Web) (t : List Bool), vs = [v, u] ∧ IsWeb K H v W ∧ Good W ∧ W.2.length ≤ 12 ∧ IsLine K H u t ∧ t.length ≤ W.2.length ∧ ∀ H', Same H H' → Q (.int ((rootsBy W t).length : Int)) H'
theorem ok_roots_begun (S : Stands K mg "roots_begun" s_roots_begun ["web", "begun"]) (T : Blt mg) (G_check_ties : Has P w K mg base 1 "check_ties" ["web"] (spCheck K)) (G_check_begun : Has P w K mg base 1 "check_begun" ["web", "begun"] (spBegun K)) (G_roots_by : Has P w K mg base 19 "roots_by" ["web", "begun"] (spRootsBy K)) :
    Has P w K mg base 20 "roots_begun" ["web", "begun"] (spRootsBegun K) := by
  refine has_of S sc_roots_begun (fun vs H Q E h => ?_) (fun f cdv A outer s H vs Q E hr h => ?_)
  · obtain ⟨v, u, W, t, rfl, _⟩ := h
    rfl
  · obtain ⟨v, u, W, t, rfl, hw, g, h12, ht, hl, q⟩ := h
    refine ⟨_, (pss_cons (ps_expr (pe_own G_check_ties (hr.mono (by omega)) (pa_cons (pv 0) pa_nil)))
      (pss_cons (ps_expr (pe_own G_check_begun (hr.mono (by omega)) (pa_cons (pv 0) (pa_cons (pv 1) pa_nil))))
      (pss_one (ps_ret (pe_callB (kLen K) (by rfl) T.len (by decide +kernel) (pa_cons (pe_own G_roots_by (hr.mono (by omega)) (pa_cons (pv 0) (pa_cons (pv 1) pa_nil))) pa_nil)))))), ?_⟩
    refine ⟨_, rfl, v, W, rfl, hw, h12, fun H1 s1 => ⟨_, rfl, _, rfl, v, u, W, t, rfl, hw.k (tk_same s1), ht.k (tk_same s1), hl, by omega, fun H2 s2 => ?_⟩⟩
    have s12 := s1.trans s2
    refine ⟨_, rfl, _, rfl, v, u, W, t, rfl, hw.k (tk_same s12), g, ht.k (tk_same s12), hl, fun H3 p s3 hp r => ?_⟩
    obtain ⟨xs, h1, h2⟩ := r
    refine ⟨p, xs, rfl, .inl (SqL.of h1), ?_⟩
    rw [h2.length]
    exact q H3 (s12.trans s3)
def nextOf (W : Web) (t : List Bool) : List Bool := if t.length = W.2.length then [] else [false, true].filter fun b => !decide (rootsBy W (t ++ [b]) = [])
def spNext (K : PySem.W.Frag) : Sp := fun vs H Q _ => ∃ (v u : V) (W : Web) (t : List Bool), vs = [v, u] ∧ IsWeb K H v W ∧ Good W ∧ W.2.length ≤ 12 ∧ IsLine K H u t ∧ t.length ≤ W.2.length ∧ ∀ H' p, Same H H' → H p = none → H' p = some (.lst ((nextOf W t).map V.bl)) → Q (.ref p) H'
theorem ok_next_truths (S : Stands K mg "next_truths" s_next_truths ["web", "begun"]) (T : Blt mg) (G_check_ties : Has P w K mg base 1 "check_ties" ["web"] (spCheck K)) (G_check_begun : Has P w K mg base 1 "check_begun" ["web", "begun"] (spBegun K)) (G_roots_by : Has P w K mg base 19 "roots_by" ["web", "begun"] (spRootsBy K)) :
    Has P w K mg base 20 "next_truths" ["web", "begun"] (spNext K) := by
  refine has_of S sc_next_truths (fun vs H Q E h => ?_) (fun f cdv A outer s H vs Q E hr h => ?_)
  · obtain ⟨v, u, W, t, rfl, _⟩ := h
    rfl
  · obtain ⟨v, u, W, t, rfl, hw, g, h12, ht, hl, q⟩ := h
    refine ⟨_, (pss_cons (ps_expr (pe_own G_check_ties (hr.mono (by omega)) (pa_cons (pv 0) pa_nil)))
      (pss_cons (ps_expr (pe_own G_check_begun (hr.mono (by omega)) (pa_cons (pv 0) (pa_cons (pv 1) pa_nil))))
      (pss_cons (ps_if (pt_cmpR op_eq (pe_callB (kLen K) (by rfl) T.len (by decide +kernel) (pa_cons (pv 1) pa_nil)) (pe_callB (kLen K) (by rfl) T.len (by decide +kernel) (pa_cons (pe_ix (kIxT K) (pv 0) pe_int (fun _ _ => rfl)) pa_nil)) (nomark _))
        (pss_one (ps_ret (pe_lst pa_nil)))
        pss_nil)
      (pss_one (ps_ret (pe_lc (own := [("truth", 2)]) rfl sc_next_truths.nd (kpiT K (pe_tup (pa_cons pe_bl (pa_cons pe_bl pa_nil)))) (blkOk_by (own := [("truth", 2)]) (N := ["web", "begun", "truth"]) (sc := defScope s_next_truths) (by decide +kernel)) (fun _ _ _ _ _ => (pg_name (i := 2) sc_next_truths.nd rfl (Or.inl rfl))) (fun _ _ _ _ _ => (pts_one (pt_cmpR (kNeD K hr.units) (pe_own G_roots_by (hr.mono (by omega)) (pa_cons (pv 0) (pa_cons (pe_op (kCatA K) (pv 1) (pe_tup (pa_cons (pv 2) pa_nil))) pa_nil))) (pe_lst pa_nil) (nomark _)))) (fun _ _ _ _ _ => (pv 2)))))))), ?_⟩
    refine ⟨_, rfl, v, W, rfl, hw, h12, fun H1 s1 => ⟨_, rfl, _, rfl, v, u, W, t, rfl, hw.k (tk_same s1), ht.k (tk_same s1), hl, by omega, fun H2 s2 => ?_⟩⟩
    have s12 := s1.trans s2
    have hw0 := hw
    have ht0 := ht
    obtain ⟨a, tu, rfl, hW, tb, xs, rfl, hT, hP⟩ := hw0
    obtain ⟨c, rfl, hc⟩ := ht0
    refine ⟨.ref c, rfl, c, _, rfl, .inr ((tk_same s12).seq hc), .ref a, rfl, a, _, 1, _, rfl, rfl, (tk_same s12).seq hW, rfl, tb, xs, rfl, .inr ((tk_same s12).seq hT), rfl, _, rfl, ?_⟩
    have e0 : decide (V.int ((t.map V.bl).length : Int) = V.int (xs.length : Int)) = decide (t.length = W.2.length) := by
      rw [hP.length, List.length_map, Bool.eq_iff_iff]
      simp
      omega
    by_cases hlen : t.length = W.2.length
    · refine iteTo (e0.trans (decide_eq_true hlen)) ⟨szs (by simp), fun p hp => q _ p (s12.trans (same_new hp)) (s12.free hp) ?_⟩
      unfold nextOf
      rw [if_pos hlen, upd_same]
      rfl
    · refine iteFo (e0.trans (decide_eq_false hlen)) ⟨szs (by simp), fun p2 hp2 => ?_⟩
      have s3 := s12.trans (same_new (o := .tup [V.bl false, V.bl true]) hp2)
      refine ⟨p2, rfl, ⟨_, SqT.of upd_same⟩, fun D hD => ?_⟩
      refine lc_pure (ts := [false, true]) (RI := IsBool) (src_tup fun H' s => ⟨[V.bl false, V.bl true], SqT.of (s _ _ upd_same), line_paired [false, true]⟩) hD IsBool (fun b => if (!decide (rootsBy W (t ++ [b]) = [])) = true then some b else none) (fun i b x H4 H4' e cs s r => ?_) (fun acc H4 s4 hacc hpa => ?_)
      · obtain rfl : x = .bl b := r
        have sH := s3.trans (cs.same.trans s)
        refine ⟨rfl, _, rfl, _, rfl, _, rfl, szs (by simp), fun p5 hp5 => ?_⟩
        have s5 := sH.trans (same_new (o := .tup [V.bl b]) hp5)
        refine catA_go (xs := t.map V.bl) (ys := [V.bl b]) ((tk_same s5).seq hc) (SqT.of upd_same) (by simp; omega) fun c6 H6 s6 hc6 => ?_
        have s56 := s5.trans s6
        refine ⟨.ref a, .ref c6, W, t ++ [b], rfl, hw.k (tk_same s56), g, ⟨c6, rfl, by rw [List.map_append]; exact hc6⟩, by simp; omega, fun H7 p7 s7 hp7 r7 => ⟨szs (by simp), fun p8 hp8 => ?_⟩⟩
        have s78 : Same H7 (upd H7 p8 (.lst [])) := same_new hp8
        obtain ⟨ys, h1, h2⟩ := r7
        have d1 : Dp K (upd H7 p8 (.lst [])) (.ref p7) (.list ((rootsBy W (t ++ [b])).map eLine)) := .lst (SqL.of (s78 _ _ h1)) (dpAll_of (R := IsLine K H7) (enc := eLine) (fun _ _ h => (IsLine.k (tk_same s78) h).dp) h2)
        refine ⟨_, .list (([] : List (List Bool)).map eLine), d1, .lst (SqL.of upd_same) .nil, sh_list td_line 1 (by omega) dep_line _, sh_list td_line 1 (by omega) dep_line _, ?_⟩
        rw [PyData.eqv, eqv_list eqv_line]
        have sAll : Same H4' (upd H7 p8 (.lst [])) := (((same_new hp5).trans s6).trans s7).trans s78
        refine ⟨_, rfl, ?_⟩
        cases hb : (!decide (rootsBy W (t ++ [b]) = [])) with
        | true => exact iteT ⟨_, rfl, comp_add cs hD e (s.trans sAll) (if_pos hb) (show IsBool _ _ _ from rfl) (fun _ _ _ _ _ h => h) (by simp)⟩
        | false => exact iteF (comp_skip cs e (s.trans sAll) (if_neg (by rw [hb]; exact Bool.false_ne_true)) (fun _ _ _ _ _ h => h))
      · rw [filterMap_if (fun b => !decide (rootsBy W (t ++ [b]) = []))] at hpa
        rw [bools_of (K := K) hpa] at hacc
        refine q _ D (s3.trans s4) (s3.free hD) ?_
        unfold nextOf
        rw [if_neg hlen]
        exact hacc
end
end Rw
end
section
set_option maxRecDepth 100000
set_option maxHeartbeats 4000000
/-! The walk: the law's draws and names. -/
namespace Rw
open PySem PySem.Spec PyProof.Rows L2
section
variable {X : Cx} {o e : Expr} {es : List Expr} {to : TE} {t : TA} {T name id : String} {r : V → List V → Hp → VK → Prop} {apos cpos : Pos}
theorem kBm (K : PySem.W.Frag) (pa : PlainAttrs T) (slot : Slot T name id) (hty : typeOf (.builtin id) = pure (.type "method_descriptor")) (hm : MtM X id r) (ho : PE X o to) (ha : PA X (e :: es) t) (h : X.K = K := by rfl)
    (hbase : attributeBase o name X.env (eval o X.env) = eval o X.env := by rfl)
    (hfew : ((backTo cpos (starEach (e :: es) X.env)).all (fun x => !x.1) && (backToKw cpos (keywordEach [] X.env)).all (fun x => x.1.isSome)
      && decide ((e :: es).length + ([] : List Keyword).length + (if ([] : List Keyword).isEmpty then 0 else 1) < 30)) = true := by rfl)
    (hline : (apos.endLine == cpos.line) = true := by rfl) (hs : starEach (e :: es) X.env = (false, eval e X.env) :: starEach es X.env := by rfl) (hplain : (backTo cpos (starEach es X.env)).any (·.1) = false := by rfl) :
    PE X (.Call (.Attribute o name apos) (e :: es) [] cpos) (tBM K T r to t) := h ▸ pe_bm pa slot hty hm ho ha hbase hfew hline hs hplain
end
/-! ### the pen -/
def IsPen (H : Hp) (pn : Addr) : Prop := ∃ a b c : Int, H pn = some (.lst [.int a, .int b, .int c])
structure PenStep (pn : Addr) (H H' : Hp) : Prop where
  but : SameBut (· = pn) H H'
  pen : IsPen H' pn
theorem PenStep.trans {pn : Addr} {H H1 H2 : Hp} (a : PenStep pn H H1) (b : PenStep pn H1 H2) : PenStep pn H H2 := ⟨a.but.trans b.but, b.pen⟩
theorem IsPen.k {pn : Addr} {H H' : Hp} (h : IsPen H pn) (s : Same H H') : IsPen H' pn := by
  obtain ⟨a, b, c, h⟩ := h
  exact ⟨a, b, c, s _ _ h⟩
theorem PenStep.of {pn : Addr} {H H' : Hp} (h : IsPen H pn) (s : Same H H') : PenStep pn H H' := ⟨.of s, h.k s⟩
theorem PenStep.same {pn : Addr} {H H1 H2 : Hp} (a : PenStep pn H H1) (s : Same H1 H2) : PenStep pn H H2 := a.trans (.of a.pen s)
theorem PenStep.tk {pn : Addr} {H H' : Hp} (s : PenStep pn H H') (h : IsPen H pn) : Tk H H' := fun a xs r => by
  obtain ⟨i, j, k, h⟩ := h
  have ne : a ≠ pn := by
    rintro rfl
    rcases r with r | ⟨o, r⟩ <;> (rw [h] at r; cases r)
  rcases r with r | ⟨o, r⟩
  · exact .inl (s.but _ _ ne r)
  · exact .inr ⟨o, s.but _ _ ne r⟩
theorem PenStep.free {pn : Addr} {H H' : Hp} (s : PenStep pn H H') {p : Addr} (h : H' p = none) : H p = none := by
  by_cases e : p = pn
  · obtain ⟨i, j, k, h2⟩ := s.pen
    rw [e, h2] at h
    cases h
  · cases h3 : H p with
    | none => rfl
    | some o =>
      rw [s.but _ _ e h3] at h
      cases h
section
variable {P : Program} {w : World} {K : PySem.W.Frag} {mg : Str → Option Value} {base : Heap}
def spCell (K : PySem.W.Frag) : Sp := fun vs H Q _ => ∃ (a : Addr) (is : List Int) (k : Nat), vs = [.ref a, .int (k : Int)] ∧ SqL K H a (is.map V.int) ∧ ∀ i : Int, Q (.int i) H
theorem ok_lcell_at (S : Stands K mg "_law_cell_at" s_lcell_at ["_law_script", "_law_k"]) (T : Blt mg) : Has P w K mg base 1 "_law_cell_at" ["_law_script", "_law_k"] (spCell K) := by
  refine has_of S sc_lcell_at (fun vs H Q E h => ?_) (fun f cdv A outer s H vs Q E hr h => ?_)
  · obtain ⟨a, is, k, rfl, _⟩ := h
    rfl
  · obtain ⟨a, is, k, rfl, hs, q⟩ := h
    refine ⟨_, (pss_cons (ps_if (pt_cmpR op_lt (pv 1) (pe_callB (kLen K) (by rfl) T.len (by decide +kernel) (pa_cons (pv 0) pa_nil)) (nomark _))
        (pss_one (ps_ret (pe_ix (kIxL K) (pv 0) (pv 1) (fun _ _ => rfl))))
        pss_nil)
      (pss_one (ps_ret pe_int))), ?_⟩
    refine ⟨_, rfl, .ref a, rfl, a, _, rfl, .inl hs, _, _, rfl, rfl, _, rfl, ?_⟩
    by_cases hk : k < is.length
    · refine iteTo (by rw [List.length_map]; exact decide_eq_true (by omega)) ⟨_, rfl, _, rfl, a, _, _, .int is[k], rfl, rfl, hs, atI_n rfl ?_, q _⟩
      rw [List.getElem?_map, List.getElem?_eq_getElem hk]; rfl
    · exact iteFo (by rw [List.length_map]; exact decide_eq_false (by omega)) (q 0)
def spNextI : Sp := fun vs H Q _ => ∃ i : Int, vs = [.int i] ∧ ∀ j : Int, Q (.int j) H
theorem ok_lnext (S : Stands K mg "_law_next" s_lnext ["_law_seed"]) (T : Blt mg) : Has P w K mg base 1 "_law_next" ["_law_seed"] spNextI := by
  refine has_of S sc_lnext (fun vs H Q E h => ?_) (fun f cdv A outer s H vs Q E hr h => ?_)
  · obtain ⟨i, rfl, _⟩ := h
    rfl
  · obtain ⟨i, rfl, q⟩ := h
    refine ⟨_, (pss_cons (ps_set (i := 0) sc_lnext.nd rfl (Or.inl rfl) (pe_op op_modN (pe_op op_add (pv 0) pe_int) pe_int))
      (pss_one (ps_ret (pe_op op_modN (pe_op op_add (pe_op op_add (pe_op op_mul (pv 0) (pv 0)) (pe_op op_mul pe_int (pv 0))) pe_int) pe_int)))), ?_⟩
    have h1 : 0 ≤ (i + 7919).fmod 2147483647 := Int.fmod_nonneg_of_pos _ (by omega)
    have h2 : (i + 7919).fmod 2147483647 < 2147483647 := Int.fmod_lt_of_pos _ (by omega)
    generalize hz : (i + 7919).fmod 2147483647 = z at h1 h2
    refine ⟨_, rfl, _, _, rfl, rfl, _, _, rfl, rfl, (show (2147483647 : Int) ≠ 0 by decide), _, rfl, _, rfl, _, _, rfl, rfl, .inl ⟨?_, ?_⟩, _, rfl, _, _, rfl, rfl, .inl ⟨by decide, by decide⟩, _, _, rfl, rfl, _, _, rfl, rfl, _, _, rfl, rfl, (show (2147483629 : Int) ≠ 0 by decide), q _⟩
    · rw [hz]; omega
    · rw [hz]; omega
def spPenOf : Sp := fun vs H Q _ => ∃ i : Int, vs = [.int i] ∧ ∀ p (a b c : Int), H p = none → Q (.ref p) (upd H p (.lst [.int a, .int b, .int c]))
theorem ok_lpen_of (S : Stands K mg "_law_pen_of" s_lpen_of ["_law_cell"]) (T : Blt mg) : Has P w K mg base 1 "_law_pen_of" ["_law_cell"] spPenOf := by
  refine has_of S sc_lpen_of (fun vs H Q E h => ?_) (fun f cdv A outer s H vs Q E hr h => ?_)
  · obtain ⟨i, rfl, _⟩ := h
    rfl
  · obtain ⟨i, rfl, q⟩ := h
    refine ⟨_, (pss_cons (ps_set (i := 1) sc_lpen_of.nd rfl (Or.inl rfl) (pe_callB (call_max2 rfl) (by rfl) T.max (by decide +kernel) (pa_cons (pv 0) (pa_cons (pe_op op_sub pe_int (pv 0)) pa_nil))))
      (pss_one (ps_ret (pe_lst (pa_cons (pv 1) (pa_cons (pe_callTy call_int1 (by rfl) T.int (by decide +kernel) (pa_cons (pe_cmpR op_ge (pv 1) (pe_op op_pow pe_int pe_int) (nomark _)) pa_nil)) (pa_cons (pe_op op_modN (pv 1) pe_int) pa_nil))))))), ?_⟩
    refine ⟨_, rfl, _, rfl, _, _, rfl, rfl, _, _, rfl, _, rfl, _, rfl, _, _, rfl, rfl, ⟨by decide, by decide, by decide⟩, _, _, rfl, rfl, .inr ⟨_, rfl, _, rfl, _, _, rfl, rfl, (show (1000003 : Int) ≠ 0 by decide), szs (by simp), fun p hp => q p _ _ _ hp⟩⟩
def spDraw : Sp := fun vs H Q _ => ∃ (pn : Addr) (m : Nat), vs = [.ref pn, .int (m : Int)] ∧ IsPen H pn ∧ 1 ≤ m ∧ m ≤ 1000 ∧ ∀ H' (r : Nat), r < m → PenStep pn H H' → Q (.int (r : Int)) H'
theorem fmod_nat (i : Int) {m : Nat} (h : 1 ≤ m) : ∃ r : Nat, r < m ∧ i.fmod (m : Int) = (r : Int) := by
  have h1 : 0 ≤ i.fmod (m : Int) := Int.fmod_nonneg_of_pos _ (by omega)
  have h2 : i.fmod (m : Int) < m := Int.fmod_lt_of_pos _ (by omega)
  exact ⟨(i.fmod (m : Int)).toNat, by omega, by omega⟩
theorem pen_upd {pn : Addr} {H : Hp} {a b c a' b' c' : Int} (h : H pn = some (.lst [.int a, .int b, .int c])) : PenStep pn H (upd H pn (.lst [.int a', .int b', .int c'])) :=
  ⟨fun x o n e => by rw [upd_ne n]; exact e, a', b', c', upd_same⟩
theorem ok_ldraw (S : Stands K mg "_law_draw" s_ldraw ["_law_pen", "_law_many"]) (T : Blt mg) (G_lnext : Has P w K mg base 1 "_law_next" ["_law_seed"] spNextI) : Has P w K mg base 2 "_law_draw" ["_law_pen", "_law_many"] spDraw := by
  refine has_of S sc_ldraw (fun vs H Q E h => ?_) (fun f cdv A outer s H vs Q E hr h => ?_)
  · obtain ⟨pn, m, rfl, _⟩ := h
    rfl
  · obtain ⟨pn, m, rfl, ⟨a, b, c, hp⟩, h1, h2, q⟩ := h
    refine ⟨_, (pss_cons (ps_if (pt_cmpR op_eq (pe_ix (kIxL K) (pv 0) pe_int (fun _ _ => rfl)) pe_int (nomark _))
        (pss_cons (ps_set (i := 2) sc_ldraw.nd rfl (Or.inl rfl) (pe_op op_modN (pe_ix (kIxL K) (pv 0) pe_int (fun _ _ => rfl)) (pv 1)))
        (pss_cons (ps_asg (pe_op op_fdivN (pe_ix (kIxL K) (pv 0) pe_int (fun _ _ => rfl)) (pv 1)) (pg_sub (pv 0) pe_int set_list))
        (pss_one (ps_ret (pv 2)))))
        pss_nil)
      (pss_cons (ps_asg (pe_own G_lnext (hr.mono (by omega)) (pa_cons (pe_op op_add (pe_own G_lnext (hr.mono (by omega)) (pa_cons (pe_ix (kIxL K) (pv 0) pe_int (fun _ _ => rfl)) pa_nil)) pe_int) pa_nil)) (pg_sub (pv 0) pe_int set_list))
      (pss_one (ps_ret (pe_op op_modN (pe_op op_fdivN (pe_ix (kIxL K) (pv 0) pe_int (fun _ _ => rfl)) pe_int) (pv 1)))))), ?_⟩
    refine ⟨_, rfl, pn, _, 1, .int b, rfl, rfl, SqL.of hp, rfl, rfl, _, rfl, ?_⟩
    by_cases hb : b = 1
    · refine iteTo (decide_eq_true (by rw [hb])) ⟨_, rfl, pn, _, 0, .int a, rfl, rfl, SqL.of hp, rfl, _, rfl, _, _, rfl, rfl, by omega, ?_⟩
      obtain ⟨r, hr1, hr2⟩ := fmod_nat a h1
      refine ⟨_, rfl, pn, _, 0, .int a, rfl, rfl, SqL.of hp, rfl, _, rfl, _, _, rfl, rfl, ⟨by omega, by omega⟩, _, rfl, pn, _, 0, 0, rfl, rfl, hp, rfl, _, rfl, ?_⟩
      show Q (.int (a.fmod (m : Int))) _
      rw [hr2]
      exact q _ r hr1 (pen_upd hp)
    · refine iteFo (decide_eq_false (fun e => hb (V.int.inj e))) ⟨_, rfl, pn, _, 2, .int c, rfl, rfl, SqL.of hp, rfl, c, rfl, fun j => ⟨_, _, rfl, rfl, _, rfl, fun j2 => ⟨_, rfl, pn, _, 2, 2, rfl, rfl, hp, rfl, ?_⟩⟩⟩
      refine ⟨_, rfl, pn, _, 2, .int j2, rfl, rfl, SqL.of upd_same, rfl, _, _, rfl, rfl, ⟨by decide, by decide⟩, _, rfl, _, _, rfl, rfl, by omega, ?_⟩
      obtain ⟨r, hr1, hr2⟩ := fmod_nat (j2.fdiv 64) h1
      show Q (.int ((j2.fdiv 64).fmod (m : Int))) _
      rw [hr2]
      exact q _ r hr1 (pen_upd hp)

/-! ### sorted(set(..)) of ties -/
theorem setsort_ties {H : Hp} {a : Addr} {xs : List V} {l : List Tie} {Q : VK} (hS : SqL K H a xs ∨ SqT K H a xs) (hP : Paired (IsTie K H) xs l) (few : l.length < 64)
    (q : ∀ H' p ys (m : List Tie), Same H H' → H p = none → H' p = some (.lst ys) → Paired (IsTie K H') ys m → m.Pairwise tlt → (∀ e, e ∈ m ↔ e ∈ l) → Q (.ref p) H') : rSetN K w [.ref a] H fun v H1 => rSortN K w [v] H1 Q := by
  obtain ⟨ks, rfl, rfl, hk⟩ := refs_paired (R := IsTie K H) (fun v t h => by obtain ⟨a, e, _⟩ := h; exact ⟨a, e⟩) hP
  refine setN_go tieKind hS (fun p hp => by rw [kTie_data]; exact (hk p hp).dp) (by rw [List.length_map] at few; exact few) fun s L hs l1 l2 nd => ?_
  have s1 : Same H (upd H s (SetNO w s (L.map fun p => (p.1, kTie p.2)))) := same_new hs
  refine sortN_go tieKind upd_same (fun p hp => by rw [kTie_data]; exact ((hk p (l1 p hp)).k (tk_same s1)).dp) nd fun p M m1 m2 md ml pw hp => ?_
  have s2 := s1.trans (same_new (o := .lst (M.map fun p => V.ref p.1)) hp)
  have e0 : (fun p : Addr × Tie => (kTie p.2).data) = fun p => eTie p.2 := funext fun p => kTie_data p.2
  rw [e0] at pw
  have nd2 : (M.map fun p => p.2).Nodup := nodup_of_map (f := kTie) (by rw [List.map_map]; exact md)
  refine q _ p _ (M.map fun p => p.2) s2 (s1.free hp) upd_same ?_ (ties_sorted pw nd2) fun e => ?_
  · have := paired_of_zip (F := fun v t => IsTie K (upd (upd H s (SetNO w s (L.map fun p => (p.1, kTie p.2)))) p (.lst (M.map fun p => V.ref p.1))) v t) (zs := M.map fun p => (V.ref p.1, p.2)) (fun z hz => by
      obtain ⟨y, hy, rfl⟩ := List.mem_map.mp hz
      exact (hk y (l1 y (m1 y hy))).k (tk_same s2))
    rw [List.map_map, List.map_map] at this
    exact this
  · rw [List.mem_map, List.mem_map]
    constructor
    · rintro ⟨y, hy, rfl⟩
      exact ⟨y, l1 y (m1 y hy), rfl⟩
    · rintro ⟨y, hy, rfl⟩
      obtain ⟨y2, hy2, e2⟩ := List.mem_map.mp (l2 y hy)
      obtain ⟨y3, hy3, e3⟩ := List.mem_map.mp (m2 y2 hy2)
      exact ⟨y3, hy3, kTie_inj (e3.trans e2)⟩
def spLNamed (K : PySem.W.Frag) : Sp := fun vs H Q _ => ∃ (v u : V) (n : Nat) (l : List Tie) (names : List Nat), vs = [v, u] ∧ IsWeb K H v (n, l) ∧ (1 ≤ n ∧ n ≤ 6) ∧ (∀ e ∈ l, e.1 ≠ e.2 ∧ e.1 < n ∧ e.2 < n) ∧ l.length < 64 ∧ IsNats K H u names ∧ IsPerm n names ∧ ∀ H' x (W : Web), Same H H' → IsWeb K H' x W → Good W → W.1 = n → Q x H'
theorem ok_lnamed (S : Stands K mg "_law_named" s_lnamed ["_law_web", "_law_names"]) (T : Blt mg) : Has P w K mg base 1 "_law_named" ["_law_web", "_law_names"] (spLNamed K) := by
  refine has_of S sc_lnamed (fun vs H Q E h => ?_) (fun f cdv A outer s H vs Q E hr h => ?_)
  · obtain ⟨v, u, n, l, names, rfl, _⟩ := h
    rfl
  · obtain ⟨v, u, n, l, names, rfl, ⟨a, u2, rfl, hW, b, xs, rfl, hT, hP⟩, hn, hl, h64, ⟨d, rfl, hd⟩, hp, q⟩ := h
    dsimp only at hW hP
    refine ⟨_, (pss_cons (ps_setLc (i := 2) (own := [("_law_one", 3), ("_law_other", 4)]) rfl sc_lnamed.nd rfl rfl (sw_true rfl rfl rfl (by decide +kernel)) (kpiT K (pe_ix (kIxT K) (pv 0) pe_int (fun _ _ => rfl))) (blkOk_by (own := [("_law_one", 3), ("_law_other", 4)]) (N := ["_law_web", "_law_names", "_law_ties", "_law_one", "_law_other", "_law_tie"]) (sc := defScope s_lnamed) (by decide +kernel)) (fun _ _ _ _ _ => (kTup K 2 rfl (pgs_cons (pg_name (i := 3) sc_lnamed.nd rfl (Or.inl rfl)) (pgs_cons (pg_name (i := 4) sc_lnamed.nd rfl (Or.inl rfl)) pgs_nil)))) (fun _ _ _ _ _ => pts_nil) (fun _ _ _ _ _ => (pe_tup (pa_cons (pe_ix (kIxT K) (pv 1) (pv 3) (fun _ _ => rfl)) (pa_cons (pe_ix (kIxT K) (pv 1) (pv 4) (fun _ _ => rfl)) pa_nil)))))
      (pss_one (ps_ret (pe_tup (pa_cons (pe_ix (kIxT K) (pv 0) pe_int (fun _ _ => rfl)) (pa_cons (pe_callTy (kTupleOf K) (by rfl) T.tuple (by decide +kernel) (pa_cons (pe_callB (kSortN K w rfl hr.units) (by rfl) T.sorted (by decide +kernel) (pa_cons (pe_callTy (kSetN K w rfl hr.units) (by rfl) T.set (by decide +kernel) (pa_cons (pe_lc (own := [("_law_tie", 5)]) rfl sc_lnamed.nd (kpiL K (pv 2)) (blkOk_by (own := [("_law_tie", 5)]) (N := ["_law_web", "_law_names", "_law_ties", "_law_one", "_law_other", "_law_tie"]) (sc := defScope s_lnamed) (by decide +kernel)) (fun _ _ _ _ _ => (pg_name (i := 5) sc_lnamed.nd rfl (Or.inl rfl))) (fun _ _ _ _ _ => pts_nil) (fun _ _ _ _ _ => (pe_tup (pa_cons (pe_callB (kMin2T K rfl hr.units) (by rfl) T.min (by decide +kernel) (pa_cons (pv 5) pa_nil)) (pa_cons (pe_callB (kMax2T K rfl hr.units) (by rfl) T.max (by decide +kernel) (pa_cons (pv 5) pa_nil)) pa_nil))))) pa_nil)) pa_nil)) pa_nil)) pa_nil)))))), ?_⟩
    refine ⟨.ref a, rfl, a, _, 1, .ref b, rfl, rfl, hW, rfl, b, rfl, ⟨xs, hT⟩, fun D hD => ?_⟩
    refine lc_pure (ts := l) (RI := IsTie K) (src_tup fun H' s => ⟨xs, (tk_same s).seq hT, ties_k (tk_same s) hP⟩) hD (IsTie K) (fun e => some (nm names e.1, nm names e.2)) (fun i t x H1 H' e c s r => ?_) (fun acc H1 s1 hacc hpa => ?_)
    · obtain ⟨y, rfl, hy⟩ := r
      have hi := hl t (List.mem_of_getElem? e)
      have h1 : (names.map nV)[t.1]? = some (nV (nm names t.1)) := by rw [List.getElem?_map, hp.at (by omega)]; rfl
      have h2 : (names.map nV)[t.2]? = some (nV (nm names t.2)) := by rw [List.getElem?_map, hp.at (by omega)]; rfl
      have hd' := (tk_same (c.same.trans s)).seq hd
      refine ⟨y, _, rfl, hy, rfl, _, _, rfl, _, _, rfl, rfl, rfl, yesT ⟨_, rfl, _, rfl, d, _, _, _, rfl, rfl, hd', atI_n rfl h1, _, rfl, _, rfl, d, _, _, _, rfl, rfl, hd', atI_n rfl h2, szs (by simp), fun T hT => ?_⟩⟩
      exact comp_add c hD e (s.trans (same_new hT)) rfl ⟨T, rfl, SqT.of upd_same⟩ (fun _ _ _ _ t h => h.k t) (by omega)
    · rw [List.filterMap_eq_map' (f := fun e : Tie => (nm names e.1, nm names e.2))] at hpa
      refine ⟨.ref a, rfl, a, _, 0, _, rfl, rfl, (tk_same s1).seq hW, rfl, .ref D, rfl, D, rfl, ⟨_, SqL.of hacc⟩, fun D2 hD2 => ?_⟩
      refine lc_pure (ts := l.map fun e => (nm names e.1, nm names e.2)) (RI := IsTie K) (src_lst fun H' s => ⟨acc, SqL.of (s _ _ hacc), ties_k (tk_same s) hpa⟩) hD2 (IsTie K) (fun e => some (mm e.1 e.2)) (fun i t x H2 H' e c s r => ?_) (fun acc2 H2 s2 hacc2 hpa2 => ?_)
      · obtain ⟨y, rfl, hy⟩ := r
        refine ⟨rfl, yesT ⟨_, rfl, y, _, _, rfl, hy, _, rfl, y, _, _, rfl, hy, szs (by simp), fun T hT => ?_⟩⟩
        refine comp_add c hD2 e (s.trans (same_new hT)) rfl ⟨T, rfl, SqT.of ?_⟩ (fun _ _ _ _ t h => h.k t) (by rw [List.length_map]; omega)
        rw [upd_same]
        show some (HO.tup [.int (min (t.1 : Int) (t.2 : Int)), .int (max (t.1 : Int) (t.2 : Int))]) = some (HO.tup [.int ((min t.1 t.2 : Nat) : Int), .int ((max t.1 t.2 : Nat) : Int)])
        rw [show (min (t.1 : Int) (t.2 : Int)) = ((min t.1 t.2 : Nat) : Int) by omega, show (max (t.1 : Int) (t.2 : Int)) = ((max t.1 t.2 : Nat) : Int) by omega]
      · rw [List.filterMap_eq_map' (f := fun e : Tie => mm e.1 e.2), List.map_map] at hpa2
        dsimp only [tNil]
        refine setsort_ties (w := w) (.inl (SqL.of hacc2)) hpa2 (by rw [List.length_map]; exact h64) fun H3 p ys m s3 hp3 h3 hm3 srt mem => ?_
        refine ⟨p, ys, rfl, .inl ⟨SqL.of h3, fun t ht => ⟨szs (by simp), fun r hrn => ?_⟩⟩⟩
        have s4 := ((s1.trans s2).trans s3).trans (same_new (o := .tup ys) ht)
        refine q _ _ (n, m) (s4.trans (same_new hrn)) ⟨r, .ref t, rfl, SqT.of upd_same, t, _, rfl, SqT.of (same_new hrn _ _ upd_same), ?_⟩ ⟨hn.1, hn.2, fun e he => ?_, srt⟩ rfl
        · exact ties_k (tk_same ((same_new ht).trans (same_new hrn))) hm3
        · obtain ⟨f, hf, rfl⟩ := List.mem_map.mp ((mem e).mp he)
          obtain ⟨f1, f2, f3⟩ := hl f hf
          exact mm_lt (fun e => f1 (hp.inj f2 f3 e)) (hp.nm_lt f2) (hp.nm_lt f3)
theorem erase_map {α β : Type} (f : α → β) : ∀ (l : List α) (i : Nat), (l.map f).eraseIdx i = (l.eraseIdx i).map f
  | [], _ => rfl
  | _ :: _, 0 => rfl
  | x :: l, i + 1 => by rw [List.map_cons, List.eraseIdx_cons_succ, List.eraseIdx_cons_succ, erase_map f l i, List.map_cons]
theorem erase_perm {α : Type} : ∀ {l : List α} {i : Nat} (h : i < l.length), (l[i] :: l.eraseIdx i).Perm l
  | _ :: _, 0, _ => .refl _
  | x :: l, i + 1, h => by
    rw [List.eraseIdx_cons_succ]
    exact (List.Perm.swap x _ _).trans ((erase_perm (l := l) (i := i) (by simpa using h)).cons x)
def spNamesBy (K : PySem.W.Frag) : Sp := fun vs H Q _ => ∃ (pn : Addr) (n : Nat), vs = [.ref pn, .int (n : Int)] ∧ IsPen H pn ∧ 1 ≤ n ∧ n ≤ 6 ∧ ∀ H' u names, PenStep pn H H' → IsNats K H' u names → IsPerm n names → Q u H'
theorem ok_lnames_by (S : Stands K mg "_law_names_by" s_lnames_by ["_law_pen", "_law_many"]) (T : Blt mg) (G_ldraw : Has P w K mg base 2 "_law_draw" ["_law_pen", "_law_many"] spDraw) : Has P w K mg base 3 "_law_names_by" ["_law_pen", "_law_many"] (spNamesBy K) := by
  refine has_of S sc_lnames_by (fun vs H Q E h => ?_) (fun f cdv A outer s H vs Q E hr h => ?_)
  · obtain ⟨pn, n, rfl, _⟩ := h
    rfl
  · obtain ⟨pn, n, rfl, hp, h1, h2, q⟩ := h
    refine ⟨_, (pss_cons (ps_set (i := 2) sc_lnames_by.nd rfl (Or.inr rfl) (pe_listRg rfl (by rfl) T.list (prg_1 (by rfl) T.range (pv 1))))
      (pss_one (ps_ret (pe_callTy (kTupleOf K) (by rfl) T.tuple (by decide +kernel) (pa_cons (pe_lc (own := [("_law_place", 3)]) rfl sc_lnames_by.nd (pi_range1 (by rfl) T.range (pa_cons (pv 1) pa_nil)) (blkOk_by (own := [("_law_place", 3)]) (N := ["_law_pen", "_law_many", "_law_left", "_law_place"]) (sc := defScope s_lnames_by) (by decide +kernel)) (fun _ _ _ _ _ => (pg_name (i := 3) sc_lnames_by.nd rfl (Or.inl rfl))) (fun _ _ _ _ _ => pts_nil) (fun _ _ _ _ _ => (kBm K PySem.F.plainAttrs_list PySem.F.slot_list_pop PySem.F.type_list_pop mt_popAt (pv 2) (pa_cons (pe_own G_ldraw (hr.mono (by omega)) (pa_cons (pv 0) (pa_cons (pe_callB (kLen K) (by rfl) T.len (by decide +kernel) (pa_cons (pv 2) pa_nil)) pa_nil))) pa_nil)))) pa_nil))))), ?_⟩
    refine ⟨_, rfl, (n : Int), rfl, RgOk.of_le (by omega) (by omega) (by omega) (by omega), fun lf hlf => ?_⟩
    have nelf : lf ≠ pn := fun e => by
      obtain ⟨_, _, _, hp⟩ := hp
      rw [e, hp] at hlf
      cases hlf
    have s0 : Same H (upd H lf (.lst (rgV 0 n))) := same_new hlf
    refine ⟨_, rfl, (n : Int), rfl, by omega, by omega, fun D hD => ?_⟩
    have hD' : H D = none := s0.free hD
    have neD : lf ≠ D := fun e => by
      rw [← e, upd_same] at hD
      cases hD
    have nep : ∀ {x : Addr}, H x = none → x ≠ pn := fun {x} hx e => by
      obtain ⟨_, _, _, hp⟩ := hp
      rw [e, hp] at hx
      cases hx
    refine lc_src (ts := List.range' 0 n) (RI := IsNat) (src_rng' (Ok := fun _ => True) rfl (by omega)) (fun i H' => PenStep pn H H' ∧ ∃ got left : List Nat, H' D = some (.lst (got.map nV)) ∧ H' lf = some (.lst (left.map nV)) ∧ got.length = i ∧ (got ++ left).Perm (List.range n)) (fun _ _ _ => trivial) ⟨?_, [], List.range n, upd_same, ?_, rfl, .refl _⟩ (fun i x xv H1 H2 ex hP s2 hx => ?_) (fun H1 hP => ?_)
    · exact .of hp (s0.trans (same_new hD))
    · rw [upd_ne neD, upd_same]
      unfold rgV
      rw [show ((n : Int) - 0).toNat = n by omega]
      congr 2
      exact List.map_congr_left fun i _ => by show V.int _ = V.int _; congr 1; omega
    · obtain ⟨ps, got, left, hg, hl, hi, pm⟩ := hP
      have hin := (rng_at ex).2
      have hlen : 0 < left.length := by
        have := pm.length_eq
        rw [List.length_append, List.length_range] at this
        omega
      have hle : left.length ≤ n := by
        have := pm.length_eq
        rw [List.length_append, List.length_range] at this
        omega
      refine ⟨rfl, yesT ⟨_, rfl, .inl ⟨rfl, _, .inl (.inl (s2 _ _ hl))⟩, _, rfl, .ref lf, rfl, lf, _, rfl, .inl (SqL.of (s2 _ _ hl)), pn, (left.map nV).length, rfl, ps.pen.k s2, by rw [List.length_map]; omega, by rw [List.length_map]; omega, fun H3 r hr p3 => ?_⟩⟩
      rw [List.length_map] at hr
      have hl3 := p3.but _ _ nelf (s2 _ _ hl)
      have hg3 := p3.but _ _ (nep hD') (s2 _ _ hg)
      refine ⟨lf, left.map nV, (r : Int), r, nV left[r], rfl, rfl, hl3, by omega, by omega, ?_, ?_, got.map nV, by rw [upd_ne neD.symm]; exact hg3, by rw [List.length_map, sizeLine_eq]; omega, ?_, got ++ [left[r]], left.eraseIdx r, ?_, ?_, by rw [List.length_append, hi]; rfl, ?_⟩
      · unfold seqIndex?
        rw [List.length_map]
        simp
        omega
      · rw [List.getElem?_map, List.getElem?_eq_getElem hr]; rfl
      · have p4 := (ps.same s2).trans p3
        refine ⟨fun b o hb h => ?_, ?_⟩
        · rw [upd_ne (ne_of_none h hD'), upd_ne (ne_of_none h hlf)]
          exact p4.but b o hb h
        · obtain ⟨a, b, c, e⟩ := p4.pen
          exact ⟨a, b, c, by rw [upd_ne (nep hD').symm, upd_ne nelf.symm]; exact e⟩
      · rw [upd_same, List.map_append]; rfl
      · rw [upd_ne neD, upd_same, erase_map]
      · rw [List.append_assoc]
        exact ((erase_perm hr).append_left got).trans pm
    · obtain ⟨ps, got, left, hg, hl, hi, pm⟩ := hP
      rw [List.length_range'] at hi
      have hlen := pm.length_eq
      rw [List.length_append, List.length_range] at hlen
      obtain rfl : left = [] := List.eq_nil_of_length_eq_zero (by omega)
      rw [List.append_nil] at pm
      refine ⟨D, _, rfl, .inl ⟨SqL.of hg, fun t ht => q _ _ got (ps.same (same_new ht)) ⟨t, rfl, SqT.of upd_same⟩ (.of_perm pm)⟩⟩
end
end Rw
end
section
set_option maxRecDepth 100000
set_option maxHeartbeats 4000000
/-! Plain facts of the list of roots. -/
namespace Rw
open PySem PySem.Spec PyProof.Rows L2
theorem toks_tie (e : Tie) : PySem.W.keyToks (eTie e) = [.inl 1, .inl (e.1 : Int), .inl 1, .inl (e.2 : Int), .inl 0] := by simp [eTie, PySem.W.keyToks, PySem.W.keyToksAll]
theorem toks_ties : ∀ l m : List Tie, PySem.W.keyToksAll (l.map eTie) = PySem.W.keyToksAll (m.map eTie) → l = m
  | [], [], _ => rfl
  | [], f :: m, h => by simp [PySem.W.keyToksAll] at h
  | e :: l, [], h => by simp [PySem.W.keyToksAll] at h
  | e :: l, f :: m, h => by
    rw [List.map_cons, List.map_cons, PySem.W.keyToksAll, PySem.W.keyToksAll, toks_tie, toks_tie] at h
    simp only [List.cons_append, List.nil_append, List.cons.injEq, Sum.inl.injEq, true_and] at h
    obtain ⟨h1, h2, h3⟩ := h
    rw [toks_ties l m h3, Prod.ext (show e.1 = f.1 by omega) (show e.2 = f.2 by omega)]
theorem toks_web {V W : Web} (h : PySem.W.keyToks (eWeb V) = PySem.W.keyToks (eWeb W)) : V = W := by
  simp only [eWeb, eTies, PySem.W.keyToks, PySem.W.keyToksAll, List.cons_append, List.nil_append, List.cons.injEq, Sum.inl.injEq, true_and] at h
  have h2 := List.append_cancel_right h.2
  exact Prod.ext (by omega) (toks_ties _ _ h2)
theorem web_antisymm {V W : Web} (h1 : PySem.W.dataLe false eWeb V W = true) (h2 : PySem.W.dataLe false eWeb W V = true) : V = W := by
  refine toks_web ((listOrd itemOrd).total _ _ ?_ ?_)
  · have : (!(listOrd itemOrd).blt (PySem.W.keyToks (eWeb V)) (PySem.W.keyToks (eWeb W))) = true := h2
    simpa using this
  · have : (!(listOrd itemOrd).blt (PySem.W.keyToks (eWeb W)) (PySem.W.keyToks (eWeb V))) = true := h1
    simpa using this
theorem webs_unique {l m : List Web} (hl : l.Pairwise fun a b => PySem.W.dataLe false eWeb a b = true) (hm : m.Pairwise fun a b => PySem.W.dataLe false eWeb a b = true) (nl : l.Nodup) (nm : m.Nodup) (h : ∀ W, W ∈ l ↔ W ∈ m) : l = m :=
  ((List.perm_ext_iff_of_nodup nl nm).mpr h).eq_of_pairwise (le := fun a b => PySem.W.dataLe false eWeb a b = true) (fun _ _ _ _ h1 h2 => web_antisymm h1 h2) hl hm
theorem rootsOf_sorted (W : Web) : (rootsOf W).Pairwise fun a b => PySem.W.dataLe false eWeb a b = true := PySem.W.sort_pairwise (dataLe_total eWeb) _
theorem rootsOf_nodup {W : Web} (g : Good W) : (rootsOf W).Nodup := by
  refine (rootsOf_perm W).nodup_iff.mpr (nodup_map_on (fun t ht u hu e => ?_) (nodup_roots g))
  have lt := ((mem_roots g t).mp ht).1
  have lu := ((mem_roots g u).mp hu).1
  have e2 : pick W.2 t = pick W.2 u := congrArg Prod.snd e
  rw [line_of g.nd lt, line_of g.nd lu, e2]
theorem mem_rootsOf {W R : Web} (g : Good W) (h : R ∈ rootsOf W) : Good R ∧ sq R = W ∧ R.1 = W.1 := by
  obtain ⟨t, ht, rfl⟩ := List.mem_map.mp ((rootsOf_perm W).mem_iff.mp h)
  exact ⟨webBy_good g t, ((mem_roots g t).mp ht).2, rfl⟩
theorem pick_all : ∀ l : List Tie, pick l (l.map fun _ => true) = l := fun l => by rw [pick_map]; simp
theorem still_in {W : Web} (g : Good W) (h : sq W = W) : W ∈ rootsOf W := by
  refine (rootsOf_perm W).mem_iff.mpr (List.mem_map.mpr ⟨_, still_root g h, ?_⟩)
  rw [pick_all]
theorem size_le {p q : Nat × Web} (h : PySem.W.dataLe false eSized p q = true) : p.1 ≤ q.1 := by
  have h2 : (!(PySem.W.dataLt (eSized q) (eSized p))) = true := h
  rw [Bool.not_eq_true'] at h2
  refine Nat.le_of_not_lt fun hlt => ?_
  have : PySem.W.dataLt (eSized q) (eSized p) = true := by
    unfold eSized
    rw [PySem.W.dataLt_tuple, PySem.W.dataLt_cons (by simp [PySem.W.alike]), if_neg, PySem.W.dataLt_int]
    · exact decide_eq_true (by omega)
    · simp [PyData.eqv]
      omega
  rw [h2] at this
  cases this
theorem fewest_none {Ws : List Web} : fewestOf Ws = none ↔ Ws = [] := by
  unfold fewestOf sizedOf
  rw [List.head?_eq_none_iff, List.map_eq_nil_iff]
  have := (List.mergeSort_perm (Ws.map fun W => (W.2.length, W)) (PySem.W.dataLe false eSized)).length_eq
  rw [List.length_map] at this
  rw [← List.length_eq_zero_iff, this, List.length_eq_zero_iff]
theorem fewest_is {Ws : List Web} {R : Web} (h : fewestOf Ws = some R) : R ∈ Ws ∧ ∀ S ∈ Ws, R.2.length ≤ S.2.length := by
  unfold fewestOf at h
  have pm := List.mergeSort_perm (Ws.map fun W => (W.2.length, W)) (PySem.W.dataLe false eSized)
  have so := PySem.W.sort_pairwise (dataLe_total eSized) (Ws.map fun W => (W.2.length, W))
  change ((sizedOf Ws).map (·.2)).head? = some R at h
  change (sizedOf Ws).Perm _ at pm
  change (sizedOf Ws).Pairwise _ at so
  generalize sizedOf Ws = ms at h pm so
  match ms, h with
  | p :: ms, h =>
    obtain rfl : p.2 = R := by simpa using h
    have size : ∀ q ∈ p :: ms, q.1 = q.2.2.length ∧ q.2 ∈ Ws := fun q hq => by
      obtain ⟨S, hS, rfl⟩ := List.mem_map.mp (pm.mem_iff.mp hq)
      exact ⟨rfl, hS⟩
    have hp := size p List.mem_cons_self
    refine ⟨hp.2, fun S hS => ?_⟩
    have hS2 : (S.2.length, S) ∈ p :: ms := pm.mem_iff.mpr (List.mem_map.mpr ⟨S, hS, rfl⟩)
    rcases List.mem_cons.mp hS2 with e | e
    · rw [← e]
      exact Nat.le_refl _
    · have := size_le ((List.pairwise_cons.mp so).1 _ e)
      rw [hp.1] at this
      exact this
theorem filter_full {α : Type} (p : α → Bool) : ∀ l : List α, decide ((l.filter p).length = l.length) = l.all p
  | [] => rfl
  | x :: l => by
    rw [List.filter_cons, List.all_cons, ← filter_full p l]
    have := List.length_filter_le p l
    cases h : p x with
    | true =>
      rw [if_pos rfl, Bool.true_and, List.length_cons, List.length_cons, Bool.eq_iff_iff]
      simp
    | false =>
      rw [if_neg Bool.false_ne_true, Bool.false_and, List.length_cons]
      exact decide_eq_false (by omega)
theorem filter_some {α : Type} (p : α → Bool) : ∀ l : List α, decide (0 < (l.filter p).length) = l.any p
  | [] => rfl
  | x :: l => by
    rw [List.filter_cons, List.any_cons, ← filter_some p l]
    cases h : p x with
    | true =>
      rw [if_pos rfl, Bool.true_or, List.length_cons]
      exact decide_eq_true (by omega)
    | false =>
      rw [if_neg Bool.false_ne_true, Bool.false_or]
section
variable {K : PySem.W.Frag} {w : World}
/-! ### sorted(set(..)) of webs -/
theorem setsort_webs {H : Hp} {a : Addr} {xs : List V} {l : List Web} {Q : VK} (hS : SqL K H a xs ∨ SqT K H a xs) (hP : Paired (IsWeb K H) xs l) (few : l.length < 64)
    (q : ∀ H' p (m : List Web), Same H H' → H p = none → IsL (IsWeb K) H' p m → (m.Pairwise fun a b => PySem.W.dataLe false eWeb a b = true) → m.Nodup → (∀ e, e ∈ m ↔ e ∈ l) → Q (.ref p) H') : rSetN K w [.ref a] H fun v H1 => rSortN K w [v] H1 Q := by
  obtain ⟨ks, rfl, rfl, hk⟩ := refs_paired (R := IsWeb K H) (fun v t h => by obtain ⟨a, _, e, _⟩ := h; exact ⟨a, e⟩) hP
  refine setN_go webKind hS (fun p hp => by rw [kWeb_data]; exact (hk p hp).dp) (by rw [List.length_map] at few; exact few) fun s L hs l1 l2 nd => ?_
  have s1 : Same H (upd H s (SetNO w s (L.map fun p => (p.1, kWeb p.2)))) := same_new hs
  refine sortN_go webKind upd_same (fun p hp => by rw [kWeb_data]; exact ((hk p (l1 p hp)).k (tk_same s1)).dp) nd fun p M m1 m2 md ml pw hp => ?_
  have s2 := s1.trans (same_new (o := .lst (M.map fun p => V.ref p.1)) hp)
  have e0 : (fun p : Addr × Web => (kWeb p.2).data) = fun p => eWeb p.2 := funext fun p => kWeb_data p.2
  rw [e0] at pw
  have nd2 : (M.map fun p => p.2).Nodup := nodup_of_map (f := kWeb) (by rw [List.map_map]; exact md)
  refine q _ p (M.map fun p => p.2) s2 (s1.free hp) ⟨_, upd_same, ?_⟩ (by rw [List.pairwise_map]; exact pw) nd2 fun e => ?_
  · have := paired_of_zip (F := fun v t => IsWeb K (upd (upd H s (SetNO w s (L.map fun p => (p.1, kWeb p.2)))) p (.lst (M.map fun p => V.ref p.1))) v t) (zs := M.map fun p => (V.ref p.1, p.2)) (fun z hz => by
      obtain ⟨y, hy, rfl⟩ := List.mem_map.mp hz
      exact (hk y (l1 y (m1 y hy))).k (tk_same s2))
    rw [List.map_map, List.map_map] at this
    exact this
  · rw [List.mem_map, List.mem_map]
    constructor
    · rintro ⟨y, hy, rfl⟩
      exact ⟨y, l1 y (m1 y hy), rfl⟩
    · rintro ⟨y, hy, rfl⟩
      obtain ⟨y2, hy2, e2⟩ := List.mem_map.mp (l2 y hy)
      obtain ⟨y3, hy3, e3⟩ := List.mem_map.mp (m2 y2 hy2)
      exact ⟨y3, hy3, kWeb_inj (e3.trans e2)⟩
end
end Rw
end
section
set_option maxRecDepth 100000
set_option maxHeartbeats 4000000
/-! The walk: the law's webs. -/
namespace Rw
open PySem PySem.Spec PyProof.Rows L2
/-! ### rows that may change -/
def RowsOk (n : Nat) (rs : List Addr) (H : Hp) : Prop := ∀ r ∈ rs, ∃ f : List (Option Nat), H r = some (.lst (f.map oV)) ∧ f.length = n
structure FarI (n : Nat) (rs : List Addr) (H1 H' : Hp) : Prop where
  but : SameBut (· ∈ rs) H1 H'
  rows : RowsOk n rs H'
section
variable {n : Nat} {rs : List Addr} {H1 H2 H3 : Hp}
theorem RowsOk.k (h : RowsOk n rs H1) (s : Same H1 H2) : RowsOk n rs H2 := fun r hr => by
  obtain ⟨f, h1, h2⟩ := h r hr
  exact ⟨f, s _ _ h1, h2⟩
theorem FarI.refl (h : RowsOk n rs H1) : FarI n rs H1 H1 := ⟨.refl _, h⟩
theorem FarI.same (h : FarI n rs H1 H2) (s : Same H2 H3) : FarI n rs H1 H3 := ⟨h.but.trans (.of s), h.rows.k s⟩
theorem FarI.trans (h : FarI n rs H1 H2) (k : FarI n rs H2 H3) : FarI n rs H1 H3 := ⟨h.but.trans k.but, k.rows⟩
theorem FarI.set (h : FarI n rs H1 H2) {r : Addr} (hr : r ∈ rs) {f : List (Option Nat)} (hf : H2 r = some (.lst (f.map oV))) (hl : f.length = n) (j : Nat) (o : Option Nat) : FarI n rs H1 (upd H2 r (.lst ((f.map oV).set j (oV o)))) := by
  refine ⟨fun b u hb e => ?_, fun r' hr' => ?_⟩
  · rw [upd_ne (fun e2 => hb (by rw [e2]; exact hr))]
    exact h.but b u hb e
  · by_cases e : r' = r
    · exact ⟨f.set j o, by rw [e, upd_same, List.map_set], by rw [List.length_set]; exact hl⟩
    · rw [upd_ne e]
      exact h.rows r' hr'
theorem FarI.tk (h : FarI n rs H1 H2) (h0 : RowsOk n rs H1) : Tk H1 H2 := fun a xs r => by
  have ne : a ∉ rs := fun hm => by
    obtain ⟨f, hf, _⟩ := h0 a hm
    rcases r with r | ⟨o, r⟩ <;> (rw [hf] at r; cases r)
  rcases r with r | ⟨o, r⟩
  · exact .inl (h.but _ _ ne r)
  · exact .inr ⟨o, h.but _ _ ne r⟩
end
def IsFar (n : Nat) (H : Hp) (p : Addr) : Prop := ∃ rs : List Addr, H p = some (.lst (rs.map V.ref)) ∧ rs.length = n ∧ RowsOk n rs H
theorem IsFar.k {n : Nat} {H H' : Hp} {p : Addr} (h : IsFar n H p) (s : Same H H') : IsFar n H' p := by
  obtain ⟨rs, h1, h2, h3⟩ := h
  exact ⟨rs, s _ _ h1, h2, h3.k s⟩
section
variable {P : Program} {w : World} {K : PySem.W.Frag} {mg : Str → Option Value} {base : Heap}
theorem ties_two {H : Hp} {x y : Nat} {t u : Addr} (h1 : H t = some (.tup [nV x, nV y])) (h2 : H u = some (.tup [nV y, nV x])) : Paired (IsTie K H) [.ref t, .ref u] [(x, y), (y, x)] := .cons ⟨t, rfl, SqT.of h1⟩ (.cons ⟨u, rfl, SqT.of h2⟩ .nil)
def spLFar (K : PySem.W.Frag) : Sp := fun vs H Q _ => ∃ (v : V) (W : Web), vs = [v] ∧ IsWeb K H v W ∧ Good W ∧ ∀ H' p, Same H H' → IsFar W.1 H' p → Q (.ref p) H'
theorem ok_lfar (S : Stands K mg "_law_far" s_lfar ["_law_web"]) (T : Blt mg) : Has P w K mg base 1 "_law_far" ["_law_web"] (spLFar K) := by
  refine has_of S sc_lfar (fun vs H Q E h => ?_) (fun f cdv A outer s H vs Q E hr h => ?_)
  · obtain ⟨v, W, rfl, _⟩ := h
    rfl
  · obtain ⟨v, W, rfl, hw, g, q⟩ := h
    have hw0 := hw
    obtain ⟨a, u, rfl, hW, b, xs, rfl, hT, hP⟩ := hw0
    have hn := g.hi
    refine ⟨_, (pss_cons (ps_set (i := 1) sc_lfar.nd rfl (Or.inr rfl) (pe_ix (kIxT K) (pv 0) pe_int (fun _ _ => rfl)))
      (pss_cons (ps_setLc (i := 2) (own := [("_law_place", 3)]) rfl sc_lfar.nd rfl rfl (sw_true rfl rfl rfl (by decide +kernel)) (pi_range1 (by rfl) T.range (pa_cons (pv 1) pa_nil)) (blkOk_by (own := [("_law_place", 3)]) (N := ["_law_web", "_law_many", "_law_far_here", "_law_place", "_law_size", "_law_one", "_law_other", "_law_a", "_law_b"]) (sc := defScope s_lfar) (by decide +kernel)) (fun _ _ _ _ _ => (pg_name (i := 3) sc_lfar.nd rfl (Or.inl rfl))) (fun _ _ _ _ _ => pts_nil) (fun _ _ _ _ _ => (pe_op op_rep (pe_lst (pa_cons pe_non pa_nil)) (pv 1))))
      (pss_cons (ps_for PassesOwn.never rfl (pi_range1 (by rfl) T.range (pa_cons (pv 1) pa_nil)) (pg_name (i := 3) sc_lfar.nd rfl (Or.inl rfl))
        (pss_cons (ps_asg pe_int (pg_sub (pe_ix (kIxL K) (pv 2) (pv 3) (fun _ _ => rfl)) (pv 3) set_list))
        (pss_one (ps_for PassesOwn.never rfl (pi_range2 (by rfl) T.range (pa_cons pe_int (pa_cons (pv 1) pa_nil))) (pg_name (i := 4) sc_lfar.nd rfl (Or.inl rfl))
          (pss_one (ps_for PassesOwn.never rfl (kpiT K (pe_ix (kIxT K) (pv 0) pe_int (fun _ _ => rfl))) (kTup K 2 rfl (pgs_cons (pg_name (i := 5) sc_lfar.nd rfl (Or.inl rfl)) (pgs_cons (pg_name (i := 6) sc_lfar.nd rfl (Or.inl rfl)) pgs_nil)))
            (pss_one (ps_for PassesOwn.never rfl (kpiL K (pe_lst (pa_cons (pe_tup (pa_cons (pv 5) (pa_cons (pv 6) pa_nil))) (pa_cons (pe_tup (pa_cons (pv 6) (pa_cons (pv 5) pa_nil))) pa_nil)))) (kTup K 2 rfl (pgs_cons (pg_name (i := 7) sc_lfar.nd rfl (Or.inl rfl)) (pgs_cons (pg_name (i := 8) sc_lfar.nd rfl (Or.inl rfl)) pgs_nil)))
              (pss_one (ps_if (PW.pt (pw_and (pt_cmpR op_eq (pe_ix (kIxL K) (pe_ix (kIxL K) (pv 2) (pv 3) (fun _ _ => rfl)) (pv 7) (fun _ _ => rfl)) (pe_op op_sub (pv 4) pe_int) (nomark _)) (pw_and1 (pt_cmpR op_isN (pe_ix (kIxL K) (pe_ix (kIxL K) (pv 2) (pv 3) (fun _ _ => rfl)) (pv 8) (fun _ _ => rfl)) pe_non (nomark _)))))
                (pss_one (ps_asg (pv 4) (pg_sub (pe_ix (kIxL K) (pv 2) (pv 3) (fun _ _ => rfl)) (pv 8) set_list)))
                pss_nil))))))))))
      (pss_one (ps_ret (pv 2)))))), ?_⟩
    refine ⟨.ref a, rfl, a, _, 0, _, rfl, rfl, hW, rfl, _, rfl, (W.1 : Int), rfl, by omega, by omega, fun D hD => ?_⟩
    -- the rows
    refine lc_src (ts := List.range' 0 W.1) (RI := IsNat) (src_rng' (Ok := fun _ => True) rfl (by omega)) (fun i H' => Same H H' ∧ ∃ rs : List Addr, H' D = some (.lst (rs.map V.ref)) ∧ rs.length = i ∧ RowsOk W.1 rs H' ∧ ∀ r ∈ rs, H r = none ∧ r ≠ D) (fun _ _ _ => trivial)
      ⟨same_new hD, [], upd_same, rfl, fun _ h => absurd h List.not_mem_nil, fun _ h => absurd h List.not_mem_nil⟩ (fun i x xv H1 H2 ex hPv s2 hx => ?_) (fun H1 hPv => ?_)
    · obtain ⟨s1, rs, hrs, hi, ro, nr⟩ := hPv
      have hi2 := (rng_at ex).2
      refine ⟨rfl, yesT ⟨szs (by simp), fun l0 hl0 => ⟨_, rfl, l0, _, _, rfl, rfl, upd_same, by omega, by omega, szs (by simp; omega), fun p hp => ?_⟩⟩⟩
      have s3 := s2.trans (same_new (o := .lst [V.non]) hl0)
      have e0 : (List.replicate (W.1 : Int).toNat [V.non]).flatten = (List.replicate W.1 (none : Option Nat)).map oV := by
        rw [List.map_replicate]
        show _ = List.replicate W.1 V.non
        rw [show (W.1 : Int).toNat = W.1 by omega]
        induction W.1 with
        | zero => rfl
        | succ n ih => rw [List.replicate_succ, List.flatten_cons, ih]; rfl
      rw [e0]
      have s4 := s3.trans (same_new (o := .lst ((List.replicate W.1 (none : Option Nat)).map oV)) hp)
      have hp0 : H p = none := (s1.trans s3).free hp
      have hpD : p ≠ D := fun e => by
        rw [e, s3 _ _ hrs] at hp
        cases hp
      refine ⟨rs.map V.ref, s4 _ _ hrs, by rw [List.length_map, sizeLine_eq]; omega, same_mut (s1.trans s4) hD, rs ++ [p], by rw [upd_same, List.map_append]; rfl, by rw [List.length_append, hi]; rfl, fun r hr => ?_, fun r hr => ?_⟩
      · rcases List.mem_append.mp hr with h | h
        · rw [upd_ne (nr r h).2]
          obtain ⟨f, h1, h2⟩ := ro r h
          exact ⟨f, s4 _ _ h1, h2⟩
        · obtain rfl : r = p := by simpa using h
          rw [upd_ne hpD, upd_same]
          exact ⟨_, rfl, by simp⟩
      · rcases List.mem_append.mp hr with h | h
        · exact nr r h
        · obtain rfl : r = p := by simpa using h
          exact ⟨hp0, hpD⟩
    · obtain ⟨s1, rs, hrs, hi, ro, nr⟩ := hPv
      rw [List.length_range'] at hi
      have hDr : D ∉ rs := fun h => (nr D h).2 rfl
      have fin : ∀ H', FarI W.1 rs H1 H' → Same H H' := fun H' k b o e => by
        refine k.but b o (fun h => ?_) (s1 _ _ e)
        rw [(nr b h).1] at e
        cases e
      -- for place in range(many)
      refine ⟨_, rfl, (W.1 : Int), rfl, by omega, by omega, for_src (ts := List.range' 0 W.1) (RI := IsNat) (src_rng' (Ok := fun _ => True) rfl (by omega))
        (fun i σ H' => ∃ (y3 y4 y5 y6 y7 y8 : Option V), σ = [some (.ref a), some (.int (W.1 : Int)), some (.ref D), y3, y4, y5, y6, y7, y8] ∧ FarI W.1 rs H1 H') (fun _ _ _ _ => trivial) ⟨_, _, _, _, _, _, rfl, .refl ro⟩ (fun i x xv σ H2 H3 ex hPv s2 hx => ?_) (fun σ H2 hPv => ?_)⟩
      · obtain ⟨y3, y4, y5, y6, y7, y8, rfl, k⟩ := hPv
        obtain ⟨rfl, hi2⟩ := rng_at ex
        obtain rfl : xv = .int ((0 + i : Nat) : Int) := hx
        rw [Nat.zero_add] at *
        have k := k.same s2
        obtain ⟨r, hr⟩ : ∃ r, rs[i]? = some r := ⟨_, List.getElem?_eq_getElem (by omega)⟩
        have hrm := List.mem_of_getElem? hr
        have row : ∀ {H'}, FarI W.1 rs H1 H' → SqL K H' D (rs.map V.ref) ∧ atI (rs.map V.ref) (i : Int) = some (.ref r) := fun k => ⟨SqL.of (k.but _ _ hDr hrs), atI_n rfl (by rw [List.getElem?_map, hr]; rfl)⟩
        -- far[place][place] = 0
        obtain ⟨f0, hf0, hl0⟩ := k.rows r hrm
        refine ⟨_, rfl, _, rfl, D, _, _, .ref r, rfl, rfl, (row k).1, (row k).2, _, rfl, r, _, _, i, rfl, rfl, hf0, ixN_nat (by rw [List.length_map]; omega), ?_⟩
        have k2 := k.set hrm hf0 hl0 i (some 0)
        -- for size in range(1, many)
        refine ⟨_, rfl, _, _, rfl, ⟨by omega, by omega, by omega, by omega⟩, for_src (ts := List.range' 1 (W.1 - 1)) (RI := IsNat) (src_rng' (Ok := fun _ => True) rfl (by omega))
          (fun j σ H' => ∃ (y4 y5 y6 y7 y8 : Option V), σ = [some (.ref a), some (.int (W.1 : Int)), some (.ref D), some (.int (i : Int)), y4, y5, y6, y7, y8] ∧ FarI W.1 rs H1 H') (fun _ _ _ _ => trivial) ⟨_, _, _, _, _, rfl, k2⟩ (fun j x xv σ H4 H5 ex hPv s4 hx => ?_) (fun σ H4 hPv => ?_)⟩
        · obtain ⟨y4, y5, y6, y7, y8, rfl, k4⟩ := hPv
          obtain rfl : xv = .int (x : Int) := hx
          have hx1 := (rng_at ex).1
          have k5 := k4.same s4
          have t15 : ∀ {H'}, FarI W.1 rs H1 H' → Tk H H' := fun k => (tk_same s1).trans (k.tk ro)
          -- for one, other in web[1]
          refine ⟨.ref a, rfl, a, _, 1, .ref b, rfl, rfl, (t15 k5).seq hW, rfl, b, rfl, ⟨xs, (t15 k5).seq hT⟩, for_src (ts := W.2) (RI := IsTie K) (src_tup (Ok := fun H' => Tk H H') fun H' t => ⟨xs, t.seq hT, ties_k t hP⟩)
            (fun m σ H' => ∃ (y5 y6 y7 y8 : Option V), σ = [some (.ref a), some (.int (W.1 : Int)), some (.ref D), some (.int (i : Int)), some (.int (x : Int)), y5, y6, y7, y8] ∧ FarI W.1 rs H1 H') (fun _ _ _ h => by obtain ⟨_, _, _, _, _, k⟩ := h; exact t15 k) ⟨_, _, _, _, rfl, k5⟩ (fun m e ev σ H6 H7 ee hPv s6 he => ?_) (fun σ H6 hPv => ?_)⟩
          · obtain ⟨y5, y6, y7, y8, rfl, k6⟩ := hPv
            have k7 := k6.same s6
            obtain ⟨y, rfl, hy⟩ := he
            have hin := g.inn e (List.mem_of_getElem? ee)
            refine ⟨y, _, rfl, hy, rfl, _, _, rfl, _, _, rfl, rfl, ?_⟩
            -- for a, b in [(one, other), (other, one)]
            refine ⟨_, rfl, _, rfl, szs (by simp), fun t1 ht1 => ⟨_, rfl, _, rfl, szs (by simp), fun t2 ht2 => ⟨szs (by simp), fun L hL => ?_⟩⟩⟩
            have s8 := ((same_new (o := .tup [nV e.1, nV e.2]) ht1).trans (same_new (o := .tup [nV e.2, nV e.1]) ht2)).trans (same_new (o := .lst [.ref t1, .ref t2]) hL)
            have k8 := k7.same s8
            have hLr : L ∉ rs := fun h => by
              obtain ⟨f, hf, _⟩ := (k7.same ((same_new (o := .tup [nV e.1, nV e.2]) ht1).trans (same_new (o := .tup [nV e.2, nV e.1]) ht2))).rows L h
              rw [hf] at hL
              cases hL
            have base := ties_two (K := K) (x := e.1) (y := e.2) (t := t1) (u := t2) (H := upd (upd (upd H7 t1 (.tup [nV e.1, nV e.2])) t2 (.tup [nV e.2, nV e.1])) L (.lst [.ref t1, .ref t2])) ((same_new hL) _ _ ((same_new ht2) _ _ upd_same)) ((same_new hL) _ _ upd_same)
            refine ⟨L, rfl, ⟨_, SqL.of upd_same⟩, for_src (ts := [(e.1, e.2), (e.2, e.1)]) (RI := IsTie K) (src_lst (Ok := fun H' => FarI W.1 rs (upd (upd (upd H7 t1 (.tup [nV e.1, nV e.2])) t2 (.tup [nV e.2, nV e.1])) L (.lst [.ref t1, .ref t2])) H') fun H' k => ⟨[.ref t1, .ref t2], SqL.of (k.but _ _ hLr upd_same), ties_k (k.tk k8.rows) base⟩)
              (fun z σ H' => ∃ (y7 y8 : Option V), σ = [some (.ref a), some (.int (W.1 : Int)), some (.ref D), some (.int (i : Int)), some (.int (x : Int)), some (nV e.1), some (nV e.2), y7, y8] ∧ FarI W.1 rs (upd (upd (upd H7 t1 (.tup [nV e.1, nV e.2])) t2 (.tup [nV e.2, nV e.1])) L (.lst [.ref t1, .ref t2])) H') (fun _ _ _ h => by obtain ⟨_, _, _, k⟩ := h; exact k) ⟨_, _, rfl, .refl k8.rows⟩ (fun z c cv σ H9 H10 ec hPv s9 hc => ?_) (fun σ H9 hPv => ?_)⟩
            · obtain ⟨y7, y8, rfl, k9⟩ := hPv
              have k10 := k9.same s9
              have k11 := k8.trans k10
              obtain ⟨y', rfl, hy'⟩ := hc
              have hcn : c.1 < W.1 ∧ c.2 < W.1 := by
                have := List.mem_of_getElem? ec
                simp only [List.mem_cons, List.not_mem_nil, or_false] at this
                rcases this with rfl | rfl
                · exact ⟨by show e.1 < _; omega, by show e.2 < _; omega⟩
                · exact ⟨by show e.2 < _; omega, by show e.1 < _; omega⟩
              obtain ⟨f, hf, hl⟩ := k11.rows r hrm
              obtain ⟨o1, h1⟩ : ∃ o, f[c.1]? = some o := ⟨_, List.getElem?_eq_getElem (by omega)⟩
              obtain ⟨o2, h2⟩ : ∃ o, f[c.2]? = some o := ⟨_, List.getElem?_eq_getElem (by omega)⟩
              refine ⟨y', _, rfl, hy', rfl, _, _, rfl, _, _, rfl, rfl, ?_⟩
              refine ⟨_, rfl, _, rfl, D, _, _, .ref r, rfl, rfl, (row k11).1, (row k11).2, _, rfl, r, _, _, oV o1, rfl, rfl, SqL.of hf, atI_n rfl (by rw [List.getElem?_map, h1]; rfl), _, rfl, _, _, rfl, rfl, by cases o1 <;> rfl, _, rfl, ite2 (fun _ => ?_) (fun _ => ⟨_, _, rfl, k10⟩)⟩
              refine ⟨_, rfl, _, rfl, D, _, _, .ref r, rfl, rfl, (row k11).1, (row k11).2, _, rfl, r, _, _, oV o2, rfl, rfl, SqL.of hf, atI_n rfl (by rw [List.getElem?_map, h2]; rfl), rfl, _, rfl, ite2 (fun _ => ?_) (fun _ => ⟨_, _, rfl, k10⟩)⟩
              refine ⟨_, rfl, _, rfl, _, rfl, D, _, _, .ref r, rfl, rfl, (row k11).1, (row k11).2, _, rfl, r, _, _, c.2, rfl, rfl, hf, ixN_nat (by rw [List.length_map]; omega), _, _, rfl, ?_⟩
              exact k10.set hrm hf hl c.2 (some x)
            · obtain ⟨y7, y8, rfl, k9⟩ := hPv
              exact ⟨_, _, _, _, rfl, k8.trans k9⟩
          · obtain ⟨y5, y6, y7, y8, rfl, k6⟩ := hPv
            exact ⟨_, _, _, _, _, rfl, k6⟩
        · obtain ⟨y4, y5, y6, y7, y8, rfl, k4⟩ := hPv
          exact ⟨_, _, _, _, _, _, rfl, k4⟩
      · obtain ⟨y3, y4, y5, y6, y7, y8, rfl, k⟩ := hPv
        exact ⟨_, rfl, q _ D (fin _ k) ⟨rs, k.but _ _ hDr hrs, hi, k.rows⟩⟩
/-- some ties of place i, in order -/
theorem row_sorted (i s m : Nat) (t : Nat → Bool) : ((List.range' s m).filterMap fun b => if t b = true then some (i, b) else none).Pairwise tlt := by
  refine List.Pairwise.filterMap _ (fun x y hxy b hb b' hb' => ?_) (List.pairwise_lt_range' (s := s) (n := m) (step := 1))
  split at hb
  · split at hb'
    · cases hb
      cases hb'
      exact .inr ⟨rfl, hxy⟩
    · cases hb'
  · cases hb
theorem row_in {i s m : Nat} {t : Nat → Bool} {e : Tie} (h : e ∈ (List.range' s m).filterMap fun b => if t b = true then some (i, b) else none) : e.1 = i ∧ s ≤ e.2 ∧ e.2 < s + m := by
  obtain ⟨b, hb, hf⟩ := List.mem_filterMap.mp h
  rw [List.mem_range'_1] at hb
  split at hf
  · cases hf
    exact ⟨rfl, hb⟩
  · cases hf
def nearK (f : List (Option Nat)) (k b : Nat) : Bool := match f[b]? with | some (some d) => decide (d ≤ k) | _ => false
theorem nearK_at {f : List (Option Nat)} {k b d : Nat} (h : f[b]? = some (some d)) : nearK f k b = decide (d ≤ k) := by unfold nearK; rw [h]
theorem nearK_no {f : List (Option Nat)} {k b : Nat} (h : f[b]? = some none) : nearK f k b = false := by unfold nearK; rw [h]
def spLSteps (K : PySem.W.Frag) : Sp := fun vs H Q _ => ∃ (v : V) (k : Nat) (W : Web), vs = [v, .int (k : Int)] ∧ IsWeb K H v W ∧ Good W ∧ ∀ H' u W', Same H H' → IsWeb K H' u W' → Good W' → W'.1 = W.1 → Q u H'
theorem ok_lsteps (S : Stands K mg "_law_steps" s_lsteps ["_law_web", "_law_k"]) (T : Blt mg) (G_lfar : Has P w K mg base 1 "_law_far" ["_law_web"] (spLFar K)) : Has P w K mg base 2 "_law_steps" ["_law_web", "_law_k"] (spLSteps K) := by
  refine has_of S sc_lsteps (fun vs H Q E h => ?_) (fun f cdv A outer s H vs Q E hr h => ?_)
  · obtain ⟨v, k, W, rfl, _⟩ := h
    rfl
  · obtain ⟨v, k, W, rfl, hw, g, q⟩ := h
    have hw0 := hw
    obtain ⟨a, u, rfl, hW, hT⟩ := hw0
    have hn := g.hi
    refine ⟨_, (pss_cons (ps_set (i := 2) sc_lsteps.nd rfl (Or.inr rfl) (pe_own G_lfar (hr.mono (by omega)) (pa_cons (pv 0) pa_nil)))
      (pss_cons (ps_set (i := 3) sc_lsteps.nd rfl (Or.inl rfl) (pe_lst pa_nil))
      (pss_cons (ps_for PassesOwn.never rfl (pi_range1 (by rfl) T.range (pa_cons (pe_ix (kIxT K) (pv 0) pe_int (fun _ _ => rfl)) pa_nil)) (pg_name (i := 4) sc_lsteps.nd rfl (Or.inr rfl))
        (pss_one (ps_set (i := 3) sc_lsteps.nd rfl (Or.inl rfl) (pe_op op_cat (pv 3) (pe_lc (own := [("_law_b", 5)]) rfl sc_lsteps.nd (pi_range2 (by rfl) T.range (pa_cons (pe_op op_add (pv 4) pe_int) (pa_cons (pe_ix (kIxT K) (pv 0) pe_int (fun _ _ => rfl)) pa_nil))) (blkOk_by (own := [("_law_b", 5)]) (N := ["_law_web", "_law_k", "_law_far_here", "_law_ties", "_law_one", "_law_b"]) (sc := defScope s_lsteps) (by decide +kernel)) (fun _ _ _ _ _ => (pg_name (i := 5) sc_lsteps.nd rfl (Or.inl rfl))) (fun _ _ _ _ _ => (pts_one (PW.pt (pw_and (pt_cmpR op_notN (pe_ix (kIxL K) (pe_ix (kIxL K) (pv 2) (pv 4) (fun _ _ => rfl)) (pv 5) (fun _ _ => rfl)) pe_non (nomark _)) (pw_and1 (pt_cmpR op_le (pe_ix (kIxL K) (pe_ix (kIxL K) (pv 2) (pv 4) (fun _ _ => rfl)) (pv 5) (fun _ _ => rfl)) (pv 1) (nomark _))))))) (fun _ _ _ _ _ => (pe_tup (pa_cons (pv 4) (pa_cons (pv 5) pa_nil)))))))))
      (pss_one (ps_ret (pe_tup (pa_cons (pe_ix (kIxT K) (pv 0) pe_int (fun _ _ => rfl)) (pa_cons (pe_callTy (kTupleOf K) (by rfl) T.tuple (by decide +kernel) (pa_cons (pv 3) pa_nil)) pa_nil)))))))), ?_⟩
    refine ⟨.ref a, rfl, .ref a, W, rfl, hw, g, fun H1 fl s1 hfar => ?_⟩
    refine ⟨szs (by simp), fun tl0 htl => ?_⟩
    have s2 := s1.trans (same_new (o := .lst []) htl)
    have far2 := hfar.k (same_new (o := .lst []) htl)
    obtain ⟨rs, hrs, hrl, ro⟩ := far2
    refine ⟨.ref a, rfl, a, _, 0, _, rfl, rfl, (tk_same s2).seq hW, rfl, (W.1 : Int), rfl, by omega, by omega, for_src (ts := List.range' 0 W.1) (RI := IsNat) (src_rng' (Ok := fun _ => True) rfl (by omega))
      (fun i σ H' => ∃ (y4 y5 : Option V) (tl : Addr) (acc : List V) (l : List Tie), σ = [some (.ref a), some (.int (k : Int)), some (.ref fl), some (.ref tl), y4, y5] ∧ Same (upd H1 tl0 (.lst [])) H' ∧ H' tl = some (.lst acc) ∧ Paired (IsTie K H') acc l ∧ l.Pairwise tlt ∧ ∀ e ∈ l, e.1 < e.2 ∧ e.2 < W.1 ∧ e.1 < i) (fun _ _ _ _ => trivial)
      ⟨none, none, tl0, [], [], rfl, Same.refl _, upd_same, .nil, .nil, fun _ h => absurd h List.not_mem_nil⟩ (fun i x xv σ H3 H4 ex hPv s4 hx => ?_) (fun σ H3 hPv => ?_)⟩
    · obtain ⟨y4, y5, tl, acc, l, rfl, s3, hacc, hpa, srt, hin⟩ := hPv
      obtain ⟨rfl, hi⟩ := rng_at ex
      obtain rfl : xv = .int ((0 + i : Nat) : Int) := hx
      rw [Nat.zero_add] at *
      have s34 := s3.trans s4
      obtain ⟨r, hr⟩ : ∃ r, rs[i]? = some r := ⟨_, List.getElem?_eq_getElem (by omega)⟩
      obtain ⟨f, hf, hfl⟩ := ro r (List.mem_of_getElem? hr)
      refine ⟨.ref tl, rfl, _, rfl, _, _, rfl, rfl, .ref a, rfl, a, _, 0, _, rfl, rfl, (tk_same (s2.trans s34)).seq hW, rfl, _, _, rfl, ⟨by omega, by omega, by omega, by omega⟩, fun D hD => ?_⟩
      refine lc_pure (ts := List.range' (i + 1) (W.1 - (i + 1))) (RI := IsNat) (src_rng' (by omega) (by omega)) hD (IsTie K) (fun b => if nearK f k b = true then some (i, b) else none) (fun j b bv H5 H6 eb c s6 hb => ?_) (fun zs H5 s5 hzs hzp => ?_)
      · obtain ⟨eb', hj⟩ := rng_at eb
        obtain rfl : bv = .int (b : Int) := hb
        obtain ⟨o, ho⟩ : ∃ o, f[b]? = some o := ⟨_, List.getElem?_eq_getElem (by omega)⟩
        have sH := s34.trans (c.same.trans s6)
        have h1 : SqL K H6 fl (rs.map V.ref) := SqL.of (sH _ _ hrs)
        have h2 : SqL K H6 r (f.map oV) := SqL.of (sH _ _ hf)
        have a1 : atI (rs.map V.ref) (i : Int) = some (.ref r) := atI_n rfl (by rw [List.getElem?_map, hr]; rfl)
        have a2 : atI (f.map oV) (b : Int) = some (oV o) := atI_n rfl (by rw [List.getElem?_map, ho]; rfl)
        refine ⟨rfl, ?_⟩
        refine ⟨_, rfl, _, rfl, fl, _, _, .ref r, rfl, rfl, h1, a1, _, rfl, r, _, _, oV o, rfl, rfl, h2, a2, rfl, _, rfl, ?_⟩
        cases o with
        | none =>
          rw [show (!decide (oV none = V.non)) = false from rfl]
          exact iteF (iteF (comp_skip c eb s6 (by rw [nearK_no ho]; rfl) (fun _ _ _ _ t h => h.k t)))
        | some d =>
          rw [show (!decide (oV (some d) = V.non)) = true from rfl]
          refine iteT ⟨_, rfl, _, rfl, fl, _, _, .ref r, rfl, rfl, h1, a1, _, rfl, r, _, _, oV (some d), rfl, rfl, h2, a2, _, rfl, _, _, rfl, rfl, _, rfl, ?_⟩
          by_cases hd : d ≤ k
          · rw [decide_eq_true (show (d : Int) ≤ (k : Int) by omega)]
            refine iteT ⟨_, rfl, _, rfl, szs (by simp), fun t ht => ?_⟩
            exact comp_add c hD eb (s6.trans (same_new ht)) (by rw [nearK_at ho]; exact if_pos (decide_eq_true hd)) ⟨t, rfl, SqT.of upd_same⟩ (fun _ _ _ _ t h => h.k t) (by rw [List.length_range']; omega)
          · rw [decide_eq_false (show ¬ (d : Int) ≤ (k : Int) by omega)]
            exact iteF (comp_skip c eb s6 (by rw [nearK_at ho]; exact if_neg (by rw [decide_eq_false hd]; exact Bool.false_ne_true)) (fun _ _ _ _ t h => h.k t))
      · have s45 := s34.trans s5
        have hacc5 := s5 _ _ (s4 _ _ hacc)
        have len1 : l.length ≤ 15 := Good.len (W := (W.1, l)) ⟨g.lo, g.hi, fun e he => ⟨(hin e he).1, (hin e he).2.1⟩, srt⟩
        have len2 := List.length_filterMap_le (fun b => if nearK f k b = true then some (i, b) else none) (List.range' (i + 1) (W.1 - (i + 1)))
        rw [List.length_range'] at len2
        refine ⟨tl, D, acc, zs, rfl, rfl, hacc5, hzs, by rw [hpa.length, hzp.length, sizeLine_eq]; omega, fun p hp => ?_⟩
        have sp := same_new (o := .lst (acc ++ zs)) hp
        refine ⟨_, _, p, acc ++ zs, _, rfl, s45.trans sp, upd_same, paired_app (ties_k (tk_same ((s4.trans s5).trans sp)) hpa) (ties_k (tk_same sp) hzp), ?_, fun e he => ?_⟩
        · rw [List.pairwise_append]
          refine ⟨srt, row_sorted _ _ _ _, fun e he e' he' => .inl ?_⟩
          rw [(row_in he').1]
          exact (hin e he).2.2
        · rcases List.mem_append.mp he with h | h
          · have := hin e h
            exact ⟨this.1, this.2.1, by omega⟩
          · have := row_in h
            omega
    · obtain ⟨y4, y5, tl, acc, l, rfl, s3, hacc, hpa, srt, hin⟩ := hPv
      refine ⟨.ref a, rfl, a, _, 0, _, rfl, rfl, (tk_same (s2.trans s3)).seq hW, rfl, .ref tl, rfl, tl, acc, rfl, .inl ⟨SqL.of hacc, fun t ht => ⟨szs (by simp), fun r hrn => ?_⟩⟩⟩
      refine q _ _ (W.1, l) (((s2.trans s3).trans (same_new ht)).trans (same_new hrn)) ⟨r, .ref t, rfl, SqT.of upd_same, t, acc, rfl, SqT.of ?_, ?_⟩ ⟨g.lo, g.hi, fun e he => ⟨(hin e he).1, (hin e he).2.1⟩, srt⟩ rfl
      · exact same_new hrn _ _ upd_same
      · exact ties_k (tk_same ((same_new ht).trans (same_new hrn))) hpa
theorem seq_mid {t1 t2 : TS} {D : Ends} {σ : L2.St} {H : Hp} (Mid : L2.St → Hp → Prop) (fin : ∀ σ' H', Mid σ' H' → t2 D σ' H') (h : ∀ nx : L2.St → Hp → Prop, (∀ σ' H', Mid σ' H' → nx σ' H') → t1 { D with nx := nx } σ H) : tSeq t1 t2 D σ H := h _ fin
def spSparse (K : PySem.W.Frag) : Sp := fun vs H Q _ => ∃ pn : Addr, vs = [.ref pn] ∧ IsPen H pn ∧ ∀ H' u W, PenStep pn H H' → IsWeb K H' u W → Good W → Q u H'
theorem ok_lsparse_by (S : Stands K mg "_law_sparse_by" s_lsparse_by ["_law_pen"]) (T : Blt mg) (G_ldraw : Has P w K mg base 2 "_law_draw" ["_law_pen", "_law_many"] spDraw) (G_lnamed : Has P w K mg base 1 "_law_named" ["_law_web", "_law_names"] (spLNamed K)) (G_lnames_by : Has P w K mg base 3 "_law_names_by" ["_law_pen", "_law_many"] (spNamesBy K)) :
    Has P w K mg base 4 "_law_sparse_by" ["_law_pen"] (spSparse K) := by
  refine has_of S sc_lsparse_by (fun vs H Q E h => ?_) (fun f cdv A outer s H vs Q E hr h => ?_)
  · obtain ⟨pn, rfl, _⟩ := h
    rfl
  · obtain ⟨pn, rfl, hp, q⟩ := h
    have nep : ∀ {x : Addr}, H x = none → x ≠ pn := fun {x} hx e => by
      obtain ⟨_, _, _, hp⟩ := hp
      rw [e, hp] at hx
      cases hx
    refine ⟨_, (pss_cons (ps_set (i := 1) sc_lsparse_by.nd rfl (Or.inl rfl) (pe_own G_ldraw (hr.mono (by omega)) (pa_cons (pv 0) (pa_cons pe_int pa_nil))))
      (pss_cons (ps_set (i := 2) sc_lsparse_by.nd rfl (Or.inl rfl) (pe_op op_add pe_int (pe_own G_ldraw (hr.mono (by omega)) (pa_cons (pv 0) (pa_cons pe_int pa_nil)))))
      (pss_cons (ps_set (i := 3) sc_lsparse_by.nd rfl (Or.inl rfl) (pe_lst pa_nil))
      (pss_cons (ps_for PassesOwn.never rfl (pi_range1 (by rfl) T.range (pa_cons (pv 2) pa_nil)) (pg_name (i := 4) sc_lsparse_by.nd rfl (Or.inr rfl))
        (pss_one (ps_set (i := 3) sc_lsparse_by.nd rfl (Or.inl rfl) (pe_op op_cat (pv 3) (pe_lc (own := [("_law_one", 5)]) rfl sc_lsparse_by.nd (pi_range1 (by rfl) T.range (pa_cons (pv 4) pa_nil)) (blkOk_by (own := [("_law_one", 5)]) (N := ["_law_pen", "_law_way", "_law_many", "_law_every", "_law_other", "_law_one", "_law_ties", "_law_pair", "_law_place"]) (sc := defScope s_lsparse_by) (by decide +kernel)) (fun _ _ _ _ _ => (pg_name (i := 5) sc_lsparse_by.nd rfl (Or.inl rfl))) (fun _ _ _ _ _ => pts_nil) (fun _ _ _ _ _ => (pe_tup (pa_cons (pv 5) (pa_cons (pv 4) pa_nil)))))))))
      (pss_cons (ps_if (pt_cmpR op_eq (pv 1) pe_int (nomark _))
        (pss_one (ps_setLc (i := 6) (own := [("_law_pair", 7)]) rfl sc_lsparse_by.nd rfl rfl (sw_true rfl rfl rfl (by decide +kernel)) (kpiL K (pv 3)) (blkOk_by (own := [("_law_pair", 7)]) (N := ["_law_pen", "_law_way", "_law_many", "_law_every", "_law_other", "_law_one", "_law_ties", "_law_pair", "_law_place"]) (sc := defScope s_lsparse_by) (by decide +kernel)) (fun _ _ _ _ _ => (pg_name (i := 7) sc_lsparse_by.nd rfl (Or.inl rfl))) (fun _ _ _ _ _ => (pts_one (pt_cmpR op_eq (pe_own G_ldraw (hr.mono (by omega)) (pa_cons (pv 0) (pa_cons pe_int pa_nil))) pe_int (nomark _)))) (fun _ _ _ _ _ => (pv 7))))
        (pss_one (ps_if (pt_cmpR op_eq (pv 1) pe_int (nomark _))
          (pss_one (ps_setLc (i := 6) (own := [("_law_pair", 7)]) rfl sc_lsparse_by.nd rfl rfl (sw_true rfl rfl rfl (by decide +kernel)) (kpiL K (pv 3)) (blkOk_by (own := [("_law_pair", 7)]) (N := ["_law_pen", "_law_way", "_law_many", "_law_every", "_law_other", "_law_one", "_law_ties", "_law_pair", "_law_place"]) (sc := defScope s_lsparse_by) (by decide +kernel)) (fun _ _ _ _ _ => (pg_name (i := 7) sc_lsparse_by.nd rfl (Or.inl rfl))) (fun _ _ _ _ _ => (pts_one (pt_cmpR op_eq (pe_own G_ldraw (hr.mono (by omega)) (pa_cons (pv 0) (pa_cons pe_int pa_nil))) pe_int (nomark _)))) (fun _ _ _ _ _ => (pv 7))))
          (pss_one (ps_if (pt_cmpR op_eq (pv 1) pe_int (nomark _))
            (pss_one (ps_set (i := 6) sc_lsparse_by.nd rfl (Or.inl rfl) (pe_op op_cat (pe_lc (own := [("_law_place", 8)]) rfl sc_lsparse_by.nd (pi_range1 (by rfl) T.range (pa_cons (pe_op op_sub (pv 2) pe_int) pa_nil)) (blkOk_by (own := [("_law_place", 8)]) (N := ["_law_pen", "_law_way", "_law_many", "_law_every", "_law_other", "_law_one", "_law_ties", "_law_pair", "_law_place"]) (sc := defScope s_lsparse_by) (by decide +kernel)) (fun _ _ _ _ _ => (pg_name (i := 8) sc_lsparse_by.nd rfl (Or.inl rfl))) (fun _ _ _ _ _ => pts_nil) (fun _ _ _ _ _ => (pe_tup (pa_cons (pv 8) (pa_cons (pe_op op_add (pv 8) pe_int) pa_nil))))) (pe_op op_rep (pe_lst (pa_cons (pe_tup (pa_cons pe_int (pa_cons (pe_op op_sub (pv 2) pe_int) pa_nil))) pa_nil)) (pe_callTy call_int1 (by rfl) T.int (by decide +kernel) (pa_cons (pe_cmpR op_gt (pv 2) pe_int (nomark _)) pa_nil))))))
            (pss_one (ps_if (pt_cmpR op_eq (pv 1) pe_int (nomark _))
              (pss_one (ps_setLc (i := 6) (own := [("_law_place", 8)]) rfl sc_lsparse_by.nd rfl rfl (sw_true rfl rfl rfl (by decide +kernel)) (pi_range1 (by rfl) T.range (pa_cons (pe_op op_sub (pv 2) pe_int) pa_nil)) (blkOk_by (own := [("_law_place", 8)]) (N := ["_law_pen", "_law_way", "_law_many", "_law_every", "_law_other", "_law_one", "_law_ties", "_law_pair", "_law_place"]) (sc := defScope s_lsparse_by) (by decide +kernel)) (fun _ _ _ _ _ => (pg_name (i := 8) sc_lsparse_by.nd rfl (Or.inl rfl))) (fun _ _ _ _ _ => pts_nil) (fun _ _ _ _ _ => (pe_tup (pa_cons (pv 8) (pa_cons (pe_op op_add (pv 8) pe_int) pa_nil))))))
              (pss_one (ps_if (pt_cmpR op_eq (pv 1) pe_int (nomark _))
                (pss_one (ps_setLc (i := 6) (own := [("_law_place", 8)]) rfl sc_lsparse_by.nd rfl rfl (sw_true rfl rfl rfl (by decide +kernel)) (pi_range2 (by rfl) T.range (pa_cons pe_int (pa_cons (pv 2) pa_nil))) (blkOk_by (own := [("_law_place", 8)]) (N := ["_law_pen", "_law_way", "_law_many", "_law_every", "_law_other", "_law_one", "_law_ties", "_law_pair", "_law_place"]) (sc := defScope s_lsparse_by) (by decide +kernel)) (fun _ _ _ _ _ => (pg_name (i := 8) sc_lsparse_by.nd rfl (Or.inl rfl))) (fun _ _ _ _ _ => pts_nil) (fun _ _ _ _ _ => (pe_tup (pa_cons pe_int (pa_cons (pv 8) pa_nil))))))
                (pss_one (ps_setLc (i := 6) (own := [("_law_place", 8)]) rfl sc_lsparse_by.nd rfl rfl (sw_true rfl rfl rfl (by decide +kernel)) (pi_range2 (by rfl) T.range (pa_cons pe_int (pa_cons (pv 2) pa_nil))) (blkOk_by (own := [("_law_place", 8)]) (N := ["_law_pen", "_law_way", "_law_many", "_law_every", "_law_other", "_law_one", "_law_ties", "_law_pair", "_law_place"]) (sc := defScope s_lsparse_by) (by decide +kernel)) (fun _ _ _ _ _ => (pg_name (i := 8) sc_lsparse_by.nd rfl (Or.inl rfl))) (fun _ _ _ _ _ => pts_nil) (fun _ _ _ _ _ => (pe_tup (pa_cons (pe_own G_ldraw (hr.mono (by omega)) (pa_cons (pv 0) (pa_cons (pv 8) pa_nil))) (pa_cons (pv 8) pa_nil)))))))))))))))
      (pss_one (ps_ret (pe_own G_lnamed (hr.mono (by omega)) (pa_cons (pe_tup (pa_cons (pv 2) (pa_cons (pe_callTy (kTupleOf K) (by rfl) T.tuple (by decide +kernel) (pa_cons (pv 6) pa_nil)) pa_nil))) (pa_cons (pe_own G_lnames_by (hr.mono (by omega)) (pa_cons (pv 0) (pa_cons (pv 2) pa_nil))) pa_nil)))))))))), ?_⟩
    refine ⟨_, rfl, pn, 7, rfl, hp, by omega, by omega, fun H1 r1 hr1 p1 => ?_⟩
    refine ⟨_, rfl, pn, 6, rfl, p1.pen, by omega, by omega, fun H2 r2 hr2 p2 => ⟨_, _, rfl, rfl, ?_⟩⟩
    have p12 := p1.trans p2
    refine ⟨szs (by simp), fun ev0 hev0 => ?_⟩
    have p3 := p12.same (same_new (o := .lst []) hev0)
    obtain ⟨n, hn⟩ : ∃ n, n = 1 + r2 := ⟨_, rfl⟩
    have hz : (1 + (r2 : Int)) = (n : Int) := by omega
    refine ⟨_, rfl, (n : Int), (congrArg (fun z : Int => [V.int z]) hz), by omega, by omega, for_src (ts := List.range' 0 n) (RI := IsNat) (src_rng' (Ok := fun _ => True) rfl (by omega))
      (fun i σ H' => ∃ (ev : Addr) (y4 y5 y6 y7 y8 : Option V) (acc : List V) (l : List Tie), σ = [some (.ref pn), some (.int (r1 : Int)), some (.int (n : Int)), some (.ref ev), y4, y5, y6, y7, y8] ∧ PenStep pn H H' ∧ H' ev = some (.lst acc) ∧ ev ≠ pn ∧ Paired (IsTie K H') acc l ∧ l.length ≤ i * 6 ∧ ∀ e ∈ l, e.1 < e.2 ∧ e.2 < n) (fun _ _ _ _ => trivial)
      ⟨ev0, none, none, none, none, none, [], [], ?_, p3, upd_same, nep (p12.free hev0), .nil, Nat.zero_le _, fun _ h => absurd h List.not_mem_nil⟩ (fun i x xv σ H3 H4 ex hPv s4 hx => ?_) (fun σ H4 hPv => ?_)⟩
    · show [some (V.ref pn), some (V.int (r1 : Int)), some (V.int (1 + (r2 : Int))), some (V.ref ev0), none, none, none, none, none] = _
      rw [hz]
    · obtain ⟨ev, y4, y5, y6, y7, y8, acc, l, rfl, p3, hacc, nev, hpa, hll, hin⟩ := hPv
      obtain ⟨rfl, hi⟩ := rng_at ex
      obtain rfl : xv = .int ((0 + i : Nat) : Int) := hx
      rw [Nat.zero_add] at *
      refine ⟨.ref ev, rfl, _, rfl, (i : Int), rfl, by omega, by omega, fun D hD => ?_⟩
      refine lc_pure (ts := List.range' 0 i) (RI := IsNat) (src_rng' (by omega) (by omega)) hD (IsTie K) (fun b => some (b, i)) (fun j b bv H5 H6 eb c s6 hb => ?_) (fun zs H5 s5 hzs hzp => ?_)
      · obtain rfl : bv = .int (b : Int) := hb
        refine ⟨rfl, yesT ⟨_, rfl, _, rfl, szs (by simp), fun t ht => ?_⟩⟩
        exact comp_add c hD eb (s6.trans (same_new ht)) rfl ⟨t, rfl, SqT.of upd_same⟩ (fun _ _ _ _ t h => h.k t) (by rw [List.length_range']; omega)
      · rw [List.filterMap_eq_map' (f := fun b : Nat => (b, i))] at hzp
        have s45 := s4.trans s5
        have hacc5 := s45 _ _ hacc
        refine ⟨ev, D, acc, zs, rfl, rfl, hacc5, hzs, by rw [hpa.length, hzp.length, List.length_map, List.length_range', sizeLine_eq]; omega, fun p hp5 => ?_⟩
        have sp := same_new (o := .lst (acc ++ zs)) hp5
        have p5 := p3.same (s45.trans sp)
        refine ⟨p, _, _, y6, y7, y8, acc ++ zs, _, rfl, p5, upd_same, nep ((p3.same s45).free hp5), paired_app (ties_k (tk_same (s45.trans sp)) hpa) (ties_k (tk_same sp) hzp), ?_, fun e he => ?_⟩
        · rw [List.length_append, List.length_map, List.length_range']
          omega
        · rcases List.mem_append.mp he with h | h
          · exact hin e h
          · obtain ⟨b, hb, rfl⟩ := List.mem_map.mp h
            rw [List.mem_range'_1] at hb
            dsimp only
            omega
    obtain ⟨ev, y4, y5, y6, y7, y8, acc, l, rfl, p4, hacc, nev, hpa, hll, hin⟩ := hPv
    rw [List.length_range'] at hll
    dsimp only
    refine seq_mid (fun σ H' => ∃ (y3 y4 y5 : Option V) (D : Addr) (y7 y8 : Option V) (zs : List V) (m : List Tie), σ = [some (.ref pn), some (.int (r1 : Int)), some (.int (n : Int)), y3, y4, y5, some (.ref D), y7, y8] ∧ PenStep pn H H' ∧ H' D = some (.lst zs) ∧ Paired (IsTie K H') zs m ∧ (∀ e ∈ m, e.1 ≠ e.2 ∧ e.1 < n ∧ e.2 < n) ∧ m.length < 64) (fun σ H5 hM => ?_) (fun nx hnx => ?_)
    · obtain ⟨y3, y4, y5, D, y7, y8, zs, m, rfl, p5, hD, hm, hmi, hml⟩ := hM
      refine ⟨_, rfl, .ref D, rfl, D, zs, rfl, .inl ⟨SqL.of hD, fun t ht => ⟨szs (by simp), fun r hrn => ?_⟩⟩⟩
      have s6 := (same_new (o := .tup zs) ht).trans (same_new (o := .tup [V.int (n : Int), V.ref t]) hrn)
      refine ⟨_, rfl, _, rfl, pn, n, rfl, p5.pen.k s6, by omega, by omega, fun H7 u names p7 hu hpm => ?_⟩
      have hw : IsWeb K (upd (upd H5 t (.tup zs)) r (.tup [V.int (n : Int), V.ref t])) (.ref r) (n, m) := ⟨r, .ref t, rfl, SqT.of upd_same, t, zs, rfl, SqT.of (same_new hrn _ _ upd_same), ties_k (tk_same s6) hm⟩
      exact ⟨.ref r, u, n, m, names, rfl, hw.k (p7.tk (p5.pen.k s6)), by omega, hmi, hml, hu, hpm, fun H8 x W s8 hx gW _ => q H8 x W (((p5.same s6).trans p7).same s8) hx gW⟩
    refine ⟨_, rfl, rfl, _, rfl, ite2 (fun _ => ?_) (fun _ => ?_)⟩
    · refine ⟨.ref ev, rfl, ev, rfl, ⟨_, SqL.of hacc⟩, fun D hD => ?_⟩
      have hD0 : H D = none := p4.free hD
      have neD : D ≠ ev := fun e => by rw [e, hacc] at hD; cases hD
      refine lc_src (ts := l) (RI := IsTie K) (src_lst (Ok := fun H' => H' ev = some (.lst acc) ∧ Tk H4 H') fun H' h => ⟨acc, SqL.of h.1, ties_k h.2 hpa⟩)
        (fun i H' => PenStep pn H4 H' ∧ H' ev = some (.lst acc) ∧ ∃ zs m, H' D = some (.lst zs) ∧ Paired (IsTie K H') zs m ∧ (∀ e ∈ m, e ∈ l) ∧ m.length ≤ i) (fun _ _ h => ⟨h.2.1, h.1.tk p4.pen⟩) ⟨.of p4.pen (same_new hD), by rw [upd_ne neD.symm]; exact hacc, [], [], upd_same, .nil, fun _ h => absurd h List.not_mem_nil, Nat.le_refl _⟩ (fun i e ev' H5 H6 ee hPv s6 he => ?_) (fun H5 hPv => ?_)
      · obtain ⟨p5, hev, zs, m, hzs, hzp, hm, hml⟩ := hPv
        have hi := (List.getElem?_eq_some_iff.mp ee).1
        refine ⟨rfl, _, rfl, pn, 2, rfl, p5.pen.k s6, by omega, by omega, fun H7 r hr p7 => ⟨rfl, _, rfl, ite2 (fun _ => ⟨_, rfl, ?_⟩) (fun _ => ?_)⟩⟩
        · have z7 := p7.but _ _ (fun e => nep hD0 e) (s6 _ _ hzs)
          have tk := (p7.tk (p5.pen.k s6)).trans (tk_lst (o := .lst (zs ++ [ev'])) z7)
          refine ⟨zs, z7, by rw [hzp.length, sizeLine_eq]; omega, ⟨?_, ?_⟩, ?_, zs ++ [ev'], m ++ [e], upd_same, paired_app (ties_k ((tk_same s6).trans tk) hzp) (.cons (he.k tk) .nil), ?_, by rw [List.length_append]; show _ + 1 ≤ _; omega⟩
          · refine fun b o hb h => ?_
            rw [upd_ne (ne_of_none h hD)]
            exact ((p5.same s6).trans p7).but b o hb h
          · obtain ⟨a, b, c, e⟩ := p7.pen
            exact ⟨a, b, c, by rw [upd_ne (nep hD0).symm]; exact e⟩
          · rw [upd_ne neD.symm]
            exact p7.but _ _ nev (s6 _ _ hev)
          · intro e' he'
            rcases List.mem_append.mp he' with h | h
            · exact hm e' h
            · obtain rfl : e' = e := by simpa using h
              exact List.mem_of_getElem? ee
        · exact ⟨(p5.same s6).trans p7, p7.but _ _ nev (s6 _ _ hev), zs, m, p7.but _ _ (nep hD0) (s6 _ _ hzs), ties_k ((tk_same s6).trans (p7.tk (p5.pen.k s6))) hzp, hm, by omega⟩
      · obtain ⟨p5, hev, zs, m, hzs, hzp, hm, hml⟩ := hPv
        exact hnx _ _ ⟨_, _, _, D, _, _, zs, m, rfl, p4.trans p5, hzs, hzp, fun e he => ⟨Nat.ne_of_lt (hin e (hm e he)).1, Nat.lt_trans (hin e (hm e he)).1 (hin e (hm e he)).2, (hin e (hm e he)).2⟩, by omega⟩
    refine ⟨_, rfl, rfl, _, rfl, ite2 (fun _ => ?_) (fun _ => ?_)⟩
    · refine ⟨.ref ev, rfl, ev, rfl, ⟨_, SqL.of hacc⟩, fun D hD => ?_⟩
      have hD0 : H D = none := p4.free hD
      have neD : D ≠ ev := fun e => by rw [e, hacc] at hD; cases hD
      refine lc_src (ts := l) (RI := IsTie K) (src_lst (Ok := fun H' => H' ev = some (.lst acc) ∧ Tk H4 H') fun H' h => ⟨acc, SqL.of h.1, ties_k h.2 hpa⟩)
        (fun i H' => PenStep pn H4 H' ∧ H' ev = some (.lst acc) ∧ ∃ zs m, H' D = some (.lst zs) ∧ Paired (IsTie K H') zs m ∧ (∀ e ∈ m, e ∈ l) ∧ m.length ≤ i) (fun _ _ h => ⟨h.2.1, h.1.tk p4.pen⟩) ⟨.of p4.pen (same_new hD), by rw [upd_ne neD.symm]; exact hacc, [], [], upd_same, .nil, fun _ h => absurd h List.not_mem_nil, Nat.le_refl _⟩ (fun i e ev' H5 H6 ee hPv s6 he => ?_) (fun H5 hPv => ?_)
      · obtain ⟨p5, hev, zs, m, hzs, hzp, hm, hml⟩ := hPv
        have hi := (List.getElem?_eq_some_iff.mp ee).1
        refine ⟨rfl, _, rfl, pn, 3, rfl, p5.pen.k s6, by omega, by omega, fun H7 r hr p7 => ⟨rfl, _, rfl, ite2 (fun _ => ⟨_, rfl, ?_⟩) (fun _ => ?_)⟩⟩
        · have z7 := p7.but _ _ (fun e => nep hD0 e) (s6 _ _ hzs)
          have tk := (p7.tk (p5.pen.k s6)).trans (tk_lst (o := .lst (zs ++ [ev'])) z7)
          refine ⟨zs, z7, by rw [hzp.length, sizeLine_eq]; omega, ⟨?_, ?_⟩, ?_, zs ++ [ev'], m ++ [e], upd_same, paired_app (ties_k ((tk_same s6).trans tk) hzp) (.cons (he.k tk) .nil), ?_, by rw [List.length_append]; show _ + 1 ≤ _; omega⟩
          · refine fun b o hb h => ?_
            rw [upd_ne (ne_of_none h hD)]
            exact ((p5.same s6).trans p7).but b o hb h
          · obtain ⟨a, b, c, e⟩ := p7.pen
            exact ⟨a, b, c, by rw [upd_ne (nep hD0).symm]; exact e⟩
          · rw [upd_ne neD.symm]
            exact p7.but _ _ nev (s6 _ _ hev)
          · intro e' he'
            rcases List.mem_append.mp he' with h | h
            · exact hm e' h
            · obtain rfl : e' = e := by simpa using h
              exact List.mem_of_getElem? ee
        · exact ⟨(p5.same s6).trans p7, p7.but _ _ nev (s6 _ _ hev), zs, m, p7.but _ _ (nep hD0) (s6 _ _ hzs), ties_k ((tk_same s6).trans (p7.tk (p5.pen.k s6))) hzp, hm, by omega⟩
      · obtain ⟨p5, hev, zs, m, hzs, hzp, hm, hml⟩ := hPv
        exact hnx _ _ ⟨_, _, _, D, _, _, zs, m, rfl, p4.trans p5, hzs, hzp, fun e he => ⟨Nat.ne_of_lt (hin e (hm e he)).1, Nat.lt_trans (hin e (hm e he)).1 (hin e (hm e he)).2, (hin e (hm e he)).2⟩, by omega⟩
    refine ⟨_, rfl, rfl, _, rfl, ite2 (fun _ => ?_) (fun _ => ?_)⟩
    · refine ⟨_, rfl, _, _, rfl, rfl, _, rfl, by omega, by omega, fun D hD => ?_⟩
      refine lc_pure (ts := List.range' 0 (n - 1)) (RI := IsNat) (src_rng' (by omega) (by omega)) hD (IsTie K) (fun p => some (p, p + 1)) (fun i p xv H5 H6 ex c s6 hx => ?_) (fun zs H5 s5 hzs hzp => ?_)
      · obtain rfl : xv = .int (p : Int) := hx
        refine ⟨rfl, yesT ⟨_, rfl, _, rfl, _, _, rfl, rfl, szs (by simp), fun t ht => ?_⟩⟩
        exact comp_add c hD ex (s6.trans (same_new ht)) rfl ⟨t, rfl, SqT.of upd_same⟩ (fun _ _ _ _ t h => h.k t) (by rw [List.length_range']; omega)
      · rw [List.filterMap_eq_map' (f := fun p : Nat => (p, p + 1))] at hzp
        have hk : ∃ k : Nat, (if decide ((2 : Int) < (n : Int)) = true then (1 : Int) else 0) = (k : Int) ∧ k ≤ 1 ∧ (k = 1 → 2 < n) := by
          by_cases h : 2 < n
          · exact ⟨1, by rw [if_pos (decide_eq_true (by omega))]; rfl, by omega, fun _ => h⟩
          · exact ⟨0, by rw [if_neg (by rw [decide_eq_false (by omega)]; exact Bool.false_ne_true)]; rfl, by omega, fun e => by omega⟩
        obtain ⟨k, ek, hk1, hk2⟩ := hk
        have p5 := p4.same s5
        refine ⟨_, rfl, _, _, rfl, rfl, szs (by simp), fun t ht => ⟨szs (by simp), fun L hL => ?_⟩⟩
        have s6 := (same_new (o := .tup [V.int 0, V.int ((n : Int) - 1)]) ht).trans (same_new (o := .lst [V.ref t]) hL)
        refine ⟨_, rfl, _, _, rfl, rfl, .inr ⟨_, rfl, L, (k : Int), [V.ref t], rfl, congrArg V.int ek, upd_same, by omega, by omega, by rw [sizeLine_eq]; simp; omega, fun p hp => ?_⟩⟩
        have s7 := s6.trans (same_new (o := .lst (List.replicate (k : Int).toNat [V.ref t]).flatten) hp)
        have ys : ∃ m2 : List Tie, Paired (IsTie K (upd (upd (upd H5 t (.tup [V.int 0, V.int ((n : Int) - 1)])) L (.lst [V.ref t])) p (.lst (List.replicate (k : Int).toNat [V.ref t]).flatten))) (List.replicate (k : Int).toNat [V.ref t]).flatten m2 ∧ m2.length ≤ 1 ∧ ∀ e ∈ m2, e = (0, n - 1) ∧ 2 < n := by
          have : k = 0 ∨ k = 1 := by omega
          rcases this with rfl | rfl
          · exact ⟨[], .nil, Nat.zero_le _, fun _ h => absurd h List.not_mem_nil⟩
          · refine ⟨[(0, n - 1)], (.cons ⟨t, rfl, SqT.of ((same_new hp _ _ (same_new hL _ _ upd_same)).trans ?_)⟩ .nil), Nat.le_refl _, fun e he => ⟨by simpa using he, hk2 rfl⟩⟩
            show some (HO.tup [V.int 0, V.int ((n : Int) - 1)]) = some (HO.tup [V.int ((0 : Nat) : Int), V.int ((n - 1 : Nat) : Int)])
            rw [show ((n - 1 : Nat) : Int) = (n : Int) - 1 by omega]
            rfl
        obtain ⟨m2, hm2, hl2, hi2⟩ := ys
        refine ⟨D, p, zs, _, rfl, rfl, s7 _ _ hzs, upd_same, by rw [hzp.length, hm2.length, List.length_map, List.length_range', sizeLine_eq]; omega, fun c hc => ?_⟩
        have s8 := same_new (o := .lst (zs ++ (List.replicate (k : Int).toNat [V.ref t]).flatten)) hc
        refine hnx _ _ ⟨_, _, _, c, _, _, _, _, rfl, p5.same (s7.trans s8), upd_same, paired_app (ties_k (tk_same (s7.trans s8)) hzp) (ties_k (tk_same s8) hm2), fun e he => ?_, by rw [List.length_append, List.length_map, List.length_range']; omega⟩
        rcases List.mem_append.mp he with h | h
        · obtain ⟨p, hp, rfl⟩ := List.mem_map.mp h
          rw [List.mem_range'_1] at hp
          dsimp only
          omega
        · obtain ⟨rfl, h2⟩ := hi2 e h
          dsimp only
          omega
    refine ⟨_, rfl, rfl, _, rfl, ite2 (fun _ => ?_) (fun _ => ?_)⟩
    · refine ⟨_, rfl, _, _, rfl, rfl, (n : Int) - 1, rfl, by omega, by omega, fun D hD => ?_⟩
      refine lc_pure (ts := List.range' 0 (n - 1)) (RI := IsNat) (src_rng' (by omega) (by omega)) hD (IsTie K) (fun p => some (p, p + 1)) (fun i p xv H5 H6 ex c s6 hx => ?_) (fun zs H5 s5 hzs hzp => ?_)
      · obtain rfl : xv = .int (p : Int) := hx
        refine ⟨rfl, yesT ⟨_, rfl, _, rfl, _, _, rfl, rfl, szs (by simp), fun t ht => ?_⟩⟩
        exact comp_add c hD ex (s6.trans (same_new ht)) rfl ⟨t, rfl, SqT.of upd_same⟩ (fun _ _ _ _ t h => h.k t) (by rw [List.length_range']; omega)
      · rw [List.filterMap_eq_map' (f := fun p : Nat => (p, p + 1))] at hzp
        exact hnx _ _ ⟨_, _, _, D, _, _, zs, _, rfl, p4.same s5, hzs, hzp, fun e he => by
          obtain ⟨p, hp, rfl⟩ := List.mem_map.mp he
          rw [List.mem_range'_1] at hp
          dsimp only
          omega, by rw [List.length_map, List.length_range']; omega⟩
    refine ⟨_, rfl, rfl, _, rfl, ite2 (fun _ => ?_) (fun _ => ?_)⟩
    · refine ⟨_, rfl, _, _, rfl, ⟨by omega, by omega, by omega, by omega⟩, fun D hD => ?_⟩
      refine lc_pure (ts := List.range' 1 (n - 1)) (RI := IsNat) (src_rng' (by omega) (by omega)) hD (IsTie K) (fun p => some (0, p)) (fun i p xv H5 H6 ex c s6 hx => ?_) (fun zs H5 s5 hzs hzp => ?_)
      · obtain rfl : xv = .int (p : Int) := hx
        refine ⟨rfl, yesT ⟨_, rfl, szs (by simp), fun t ht => ?_⟩⟩
        exact comp_add c hD ex (s6.trans (same_new ht)) rfl ⟨t, rfl, SqT.of upd_same⟩ (fun _ _ _ _ t h => h.k t) (by rw [List.length_range']; omega)
      · rw [List.filterMap_eq_map' (f := fun p : Nat => (0, p))] at hzp
        exact hnx _ _ ⟨_, _, _, D, _, _, zs, _, rfl, p4.same s5, hzs, hzp, fun e he => by
          obtain ⟨p, hp, rfl⟩ := List.mem_map.mp he
          rw [List.mem_range'_1] at hp
          dsimp only
          omega, by rw [List.length_map, List.length_range']; omega⟩
    · refine ⟨_, rfl, _, _, rfl, ⟨by omega, by omega, by omega, by omega⟩, fun D hD => ?_⟩
      have hD0 : H D = none := p4.free hD
      refine lc_src (ts := List.range' 1 (n - 1)) (RI := IsNat) (src_rng' (Ok := fun _ => True) (by omega) (by omega))
        (fun i H' => PenStep pn H4 H' ∧ ∃ zs m, H' D = some (.lst zs) ∧ Paired (IsTie K H') zs m ∧ (∀ e ∈ m, e.1 < e.2 ∧ e.2 < n) ∧ m.length ≤ i) (fun _ _ h => trivial) ⟨.of p4.pen (same_new hD), [], [], upd_same, .nil, fun _ h => absurd h List.not_mem_nil, Nat.le_refl _⟩ (fun i p xv H5 H6 ex hPv s6 hx => ?_) (fun H5 hPv => ?_)
      · obtain ⟨p5, zs, m, hzs, hzp, hm, hml⟩ := hPv
        obtain rfl : xv = .int (p : Int) := hx
        have hi := rng_at ex
        refine ⟨rfl, yesT ⟨_, rfl, _, rfl, pn, p, rfl, p5.pen.k s6, by omega, by omega, fun H7 r hr p7 => ⟨_, rfl, szs (by simp), fun t ht => ?_⟩⟩⟩
        have p8 := p7.same (same_new (o := .tup [nV r, nV p]) ht)
        have z8 := p8.but _ _ (fun e => nep hD0 e) (s6 _ _ hzs)
        have tk2 := tk_lst (o := .lst (zs ++ [.ref t])) z8
        have tk := (p8.tk (p5.pen.k s6)).trans tk2
        refine ⟨zs, z8, by rw [hzp.length, sizeLine_eq]; omega, ⟨?_, ?_⟩, zs ++ [.ref t], m ++ [(r, p)], upd_same, paired_app (ties_k ((tk_same s6).trans tk) hzp) (.cons (IsTie.k tk2 ⟨t, rfl, SqT.of upd_same⟩) .nil), ?_, by rw [List.length_append]; show _ + 1 ≤ _; omega⟩
        · refine fun b o hb h => ?_
          rw [upd_ne (ne_of_none h hD)]
          exact ((p5.same s6).trans p8).but b o hb h
        · obtain ⟨a, b, c, e⟩ := p8.pen
          exact ⟨a, b, c, by rw [upd_ne (nep hD0).symm]; exact e⟩
        · intro e' he'
          rcases List.mem_append.mp he' with h | h
          · exact hm e' h
          · obtain rfl : e' = (r, p) := by simpa using h
            dsimp only
            omega
      · obtain ⟨p5, zs, m, hzs, hzp, hm, hml⟩ := hPv
        rw [List.length_range'] at hml
        exact hnx _ _ ⟨_, _, _, D, _, _, zs, m, rfl, p4.trans p5, hzs, hzp, fun e he => by have := hm e he; omega, by omega⟩
theorem two_sorted {n x y : Nat} (hx : x < n) (hy : y < n) (ne : x ≠ y) : ∃ e : Tie, [x, y].mergeSort (PySem.W.dataLe false eNat) = [e.1, e.2] ∧ e.1 < e.2 ∧ e.2 < n := by
  have pm := List.mergeSort_perm [x, y] (PySem.W.dataLe false eNat)
  have so := PySem.W.sort_pairwise (dataLe_total eNat) [x, y]
  have e0 : (PySem.W.dataLe false eNat) = fun p q : Nat => decide ((p : Int) ≤ (q : Int)) := PySem.W.dataLe_int fun b : Nat => (b : Int)
  have hl := pm.length_eq
  generalize [x, y].mergeSort (PySem.W.dataLe false eNat) = ms at pm so hl ⊢
  match ms, hl with
  | [p, q], _ =>
    have hp := pm.mem_iff (a := p)
    have hq := pm.mem_iff (a := q)
    have nd : [p, q].Nodup := pm.nodup_iff.mpr (by simp [ne])
    simp at hp hq nd
    rw [e0] at so
    have h1 : p ≤ q := by
      have := of_decide_eq_true ((List.pairwise_cons.mp so).1 q (by simp))
      omega
    exact ⟨(p, q), rfl, by show p < q; omega, by show q < n; omega⟩
theorem skip_sub {α : Type} (l : List α) (s : Nat) : (l.take s ++ l.drop (s + 1)).Sublist l := by
  conv => rhs; rw [← List.take_append_drop s l]
  refine (List.Sublist.refl _).append ?_
  rw [← List.drop_drop]
  exact List.drop_sublist _ _
def spLWebBy (K : PySem.W.Frag) : Sp := spSparse K
theorem ok_lweb_by (S : Stands K mg "_law_web_by" s_lweb_by ["_law_pen"]) (T : Blt mg) (G_ldraw : Has P w K mg base 2 "_law_draw" ["_law_pen", "_law_many"] spDraw) (G_lsteps : Has P w K mg base 2 "_law_steps" ["_law_web", "_law_k"] (spLSteps K)) (G_lsparse_by : Has P w K mg base 4 "_law_sparse_by" ["_law_pen"] (spSparse K)) :
    Has P w K mg base 5 "_law_web_by" ["_law_pen"] (spSparse K) := by
  refine has_of S sc_lweb_by (fun vs H Q E h => ?_) (fun f cdv A outer s H vs Q E hr h => ?_)
  · obtain ⟨pn, rfl, _⟩ := h
    rfl
  · obtain ⟨pn, rfl, hp, q⟩ := h
    refine ⟨_, (pss_cons (ps_set (i := 1) sc_lweb_by.nd rfl (Or.inl rfl) (pe_own G_lsparse_by (hr.mono (by omega)) (pa_cons (pv 0) pa_nil)))
      (pss_cons (ps_set (i := 2) sc_lweb_by.nd rfl (Or.inl rfl) (pe_own G_ldraw (hr.mono (by omega)) (pa_cons (pv 0) (pa_cons pe_int pa_nil))))
      (pss_cons (ps_if (pt_cmpR op_lt (pv 2) pe_int (nomark _))
        (pss_one (ps_set (i := 1) sc_lweb_by.nd rfl (Or.inl rfl) (pe_own G_lsteps (hr.mono (by omega)) (pa_cons (pv 1) (pa_cons pe_int pa_nil)))))
        pss_nil)
      (pss_cons (ps_if (PW.pt (pw_and (pt_cmpR op_eq (pv 2) pe_int (nomark _)) (pw_and1 (pt_cmpR (kNeD K hr.units) (pe_ix (kIxT K) (pv 1) pe_int (fun _ _ => rfl)) (pe_tup pa_nil) (nomark _)))))
        (pss_cons (ps_set (i := 3) sc_lweb_by.nd rfl (Or.inl rfl) (pe_own G_ldraw (hr.mono (by omega)) (pa_cons (pv 0) (pa_cons (pe_callB (kLen K) (by rfl) T.len (by decide +kernel) (pa_cons (pe_ix (kIxT K) (pv 1) pe_int (fun _ _ => rfl)) pa_nil)) pa_nil))))
        (pss_one (ps_ret (pe_tup (pa_cons (pe_ix (kIxT K) (pv 1) pe_int (fun _ _ => rfl)) (pa_cons (pe_op (kCatA K) (pe_slice (kSlA K) (pe_ix (kIxT K) (pv 1) pe_int (fun _ _ => rfl)) po_none (po_some (pv 3))) (pe_slice (kSlA K) (pe_ix (kIxT K) (pv 1) pe_int (fun _ _ => rfl)) (po_some (pe_op op_add (pv 3) pe_int)) po_none)) pa_nil))))))
        pss_nil)
      (pss_cons (ps_if (PW.pt (pw_and (pt_cmpR op_eq (pv 2) pe_int (nomark _)) (pw_and1 (pt_cmpR op_gt (pe_ix (kIxT K) (pv 1) pe_int (fun _ _ => rfl)) pe_int (nomark _)))))
        (pss_cons (ps_set (i := 4) sc_lweb_by.nd rfl (Or.inl rfl) (pe_own G_ldraw (hr.mono (by omega)) (pa_cons (pv 0) (pa_cons (pe_ix (kIxT K) (pv 1) pe_int (fun _ _ => rfl)) pa_nil))))
        (pss_cons (ps_set (i := 5) sc_lweb_by.nd rfl (Or.inl rfl) (pe_callTy (kTupleOf K) (by rfl) T.tuple (by decide +kernel) (pa_cons (pe_callB (kSortD K eNat hr.units) (by rfl) T.sorted (by decide +kernel) (pa_cons (pe_tup (pa_cons (pv 4) (pa_cons (pe_op op_modN (pe_op op_add (pe_op op_add (pv 4) pe_int) (pe_own G_ldraw (hr.mono (by omega)) (pa_cons (pv 0) (pa_cons (pe_op op_sub (pe_ix (kIxT K) (pv 1) pe_int (fun _ _ => rfl)) pe_int) pa_nil)))) (pe_ix (kIxT K) (pv 1) pe_int (fun _ _ => rfl))) pa_nil))) pa_nil)) pa_nil)))
        (pss_one (ps_ret (pe_tup (pa_cons (pe_ix (kIxT K) (pv 1) pe_int (fun _ _ => rfl)) (pa_cons (pe_callTy (kTupleOf K) (by rfl) T.tuple (by decide +kernel) (pa_cons (pe_callB (kSortN K w rfl hr.units) (by rfl) T.sorted (by decide +kernel) (pa_cons (pe_callTy (kSetN K w rfl hr.units) (by rfl) T.set (by decide +kernel) (pa_cons (pe_op (kCatA K) (pe_ix (kIxT K) (pv 1) pe_int (fun _ _ => rfl)) (pe_tup (pa_cons (pv 5) pa_nil))) pa_nil)) pa_nil)) pa_nil)) pa_nil)))))))
        pss_nil)
      (pss_one (ps_ret (pv 1)))))))), ?_⟩
    refine ⟨_, rfl, pn, rfl, hp, fun H1 u W p1 hw g => ?_⟩
    refine ⟨_, rfl, pn, 6, rfl, p1.pen, by omega, by omega, fun H2 way hway p2 => ?_⟩
    have p12 := p1.trans p2
    have hw2 := hw.k (p2.tk p1.pen)
    dsimp only
    refine seq_mid (fun σ H' => ∃ (u : V) (W : Web), σ = [some (.ref pn), some u, some (.int (way : Int)), none, none, none] ∧ PenStep pn H H' ∧ IsWeb K H' u W ∧ Good W) (fun σ H3 hM => ?_) (fun nx hnx => ?_)
    · obtain ⟨u, W, rfl, p3, hw, g⟩ := hM
      have hw0 := hw
      obtain ⟨a, tu, rfl, hW, tb, xs, rfl, hT, hP⟩ := hw0
      have gl := g.len
      have hn := g.hi
      have lo := g.lo
      refine seq_mid (fun σ H' => σ = [some (.ref pn), some (.ref a), some (.int (way : Int)), none, none, none] ∧ Same H3 H') (fun σ H4 hM => ?_) (fun nx hnx => ?_)
      · obtain ⟨rfl, s4⟩ := hM
        have hW4 := (tk_same s4).seq hW
        have hT4 := (tk_same s4).seq hT
        have p4 := p3.same s4
        refine seq_mid (fun σ H' => σ = [some (.ref pn), some (.ref a), some (.int (way : Int)), none, none, none] ∧ Same H4 H') (fun σ H5 hM => ?_) (fun nx hnx => ?_)
        · obtain ⟨rfl, s5⟩ := hM
          exact ⟨_, rfl, q _ _ W (p4.same s5) (hw.k (tk_same (s4.trans s5))) g⟩
        · have no : nx [some (.ref pn), some (.ref a), some (.int (way : Int)), none, none, none] H4 := hnx _ _ ⟨rfl, Same.refl _⟩
          refine ⟨_, rfl, rfl, _, rfl, ite2 (fun _ => ?_) (fun _ => iteF no)⟩
          refine ⟨.ref a, rfl, a, _, 0, _, rfl, rfl, hW4, rfl, _, _, rfl, rfl, _, rfl, ite2 (fun h1 => ?_) (fun _ => no)⟩
          have hn1 : 1 < W.1 := by
            have := of_decide_eq_true h1
            omega
          -- one = draw(pen, web[0])
          refine ⟨_, rfl, .ref a, rfl, a, _, 0, _, rfl, rfl, hW4, rfl, pn, W.1, rfl, p4.pen, by omega, by omega, fun H5 x hx p5 => ?_⟩
          have p45 := p4.trans p5
          have k5 := p5.tk p4.pen
          -- pair
          refine ⟨_, rfl, _, rfl, _, _, rfl, rfl, _, rfl, .ref a, rfl, a, _, 0, _, rfl, rfl, k5.seq hW4, rfl, _, _, rfl, rfl, pn, W.1 - 1, ?_, p45.pen, by omega, by omega, fun H6 d hd p6 => ?_⟩
          · show [V.ref pn, V.int ((W.1 : Int) - 1)] = _
            rw [show ((W.1 - 1 : Nat) : Int) = (W.1 : Int) - 1 by omega]
          have p46 := p45.trans p6
          have k6 := k5.trans (p6.tk p45.pen)
          obtain ⟨y, hyn, ey⟩ := fmod_nat ((x : Int) + 1 + (d : Int)) (m := W.1) (by omega)
          have ne : x ≠ y := fun e => by
            have h1 := Int.fmod_eq_emod_of_nonneg ((x : Int) + 1 + (d : Int)) (show (0 : Int) ≤ (W.1 : Int) by omega)
            rw [ey] at h1
            by_cases c : x + 1 + d < W.1
            · rw [Int.emod_eq_of_lt (by omega) (by omega)] at h1
              omega
            · have h2 : ((x : Int) + 1 + (d : Int)) % (W.1 : Int) = (x : Int) + 1 + (d : Int) - (W.1 : Int) := by
                rw [← Int.sub_emod_right, Int.emod_eq_of_lt (by omega) (by omega)]
              omega
          refine ⟨_, _, rfl, rfl, .ref a, rfl, a, _, 0, _, rfl, rfl, k6.seq hW4, rfl, _, _, rfl, rfl, by omega, szs (by simp), fun t ht => ?_⟩
          have et : V.int (((x : Int) + 1 + (d : Int)).fmod (W.1 : Int)) = nV y := by rw [ey]
          have s7 := same_new (o := .tup [nV x, V.int (((x : Int) + 1 + (d : Int)).fmod (W.1 : Int))]) ht
          dsimp only [tNil]
          refine sortD_go (R := IsNat) (ds := [x, y]) (.inr (SqT.of upd_same)) (.cons rfl (.cons et .nil)) (fun v n e => by rw [show v = nV n from e]; exact .int _) (fun _ => ⟨by simp [eNat, td], by simp [eNat, PyData.depth]⟩) (fun _ _ => by simp [eNat, PySem.W.alike]) (PySem.W.Sortable.others (enc := eNat) (fun _ => by simp [eNat])) fun pl ys hpl hys => ?_
          obtain ⟨e, he, he1, he2⟩ := two_sorted hx hyn ne
          rw [he] at hys
          have ys2 : ys = [nV e.1, nV e.2] := by
            cases hys with
            | cons r1 t1 => cases t1 with
              | cons r2 t2 => cases t2; rw [show _ = nV e.1 from r1, show _ = nV e.2 from r2]
          subst ys2
          refine ⟨pl, _, rfl, .inl ⟨SqL.of upd_same, fun tt htt => ?_⟩⟩
          have s8 := s7.trans (same_new (o := .lst [nV e.1, nV e.2]) hpl)
          have s9 := s8.trans (same_new (o := .tup [nV e.1, nV e.2]) htt)
          have k9 := k6.trans (tk_same s9)
          -- (web[0], tuple(sorted(set(web[1] + (pair,)))))
          refine ⟨.ref a, rfl, a, _, 0, _, rfl, rfl, k9.seq hW4, rfl, .ref a, rfl, a, _, 1, _, rfl, rfl, k9.seq hW4, rfl, _, rfl, szs (by simp), fun t1 ht1 => ?_⟩
          have s10 := same_new (o := .tup [V.ref tt]) ht1
          have k10 := k9.trans (tk_same s10)
          refine catA_go (k10.seq hT4) (SqT.of upd_same) (by rw [hP.length]; simp; omega) fun c H11 s11 hc => ?_
          have k11 := k10.trans (tk_same s11)
          have hxs : Paired (IsTie K H11) (xs ++ [.ref tt]) (W.2 ++ [e]) := paired_app (ties_k ((tk_same s4).trans k11) hP) (.cons ⟨tt, rfl, SqT.of (s11 _ _ (s10 _ _ upd_same))⟩ .nil)
          dsimp only [tNil]
          refine setsort_ties (w := w) (.inr hc) hxs (by rw [List.length_append]; show _ + 1 < _; omega) fun H12 p12 zs m s12 hp12 hz hm srt mem => ?_
          refine ⟨p12, zs, rfl, .inl ⟨SqL.of hz, fun t2 ht2 => ⟨szs (by simp), fun r hrn => ?_⟩⟩⟩
          have s13 := same_new (o := .tup zs) ht2
          have s14 := same_new (o := .tup [.int (W.1 : Int), .ref t2]) hrn
          refine q _ _ (W.1, m) (p46.same (((((s9.trans s10).trans s11).trans s12).trans s13).trans s14)) ⟨r, .ref t2, rfl, SqT.of upd_same, t2, zs, rfl, SqT.of (s14 _ _ upd_same), ties_k (tk_same (s13.trans s14)) hm⟩ ⟨lo, hn, fun f hf => ?_, srt⟩
          rcases List.mem_append.mp ((mem f).mp hf) with h | h
          · exact g.inn f h
          · obtain rfl : f = e := by simpa using h
            exact ⟨he1, he2⟩
      · have no : nx [some (.ref pn), some (.ref a), some (.int (way : Int)), none, none, none] H3 := hnx _ _ ⟨rfl, Same.refl _⟩
        refine ⟨_, rfl, rfl, _, rfl, ite2 (fun _ => ?_) (fun _ => iteF no)⟩
        refine ⟨.ref a, rfl, a, _, 1, _, rfl, rfl, hW, rfl, szs (by simp), fun t ht => ?_⟩
        have s4 := same_new (o := .tup []) ht
        have d0 : Dp K (upd H3 t (.tup [])) (.ref t) (eTies []) := .tup (SqT.of upd_same) .nil
        refine ⟨eTies W.2, eTies [], (IsTies.k (tk_same s4) ⟨tb, xs, rfl, hT, hP⟩).dp, d0, sh_ties _, sh_ties _, ?_⟩
        rw [eqv_ties]
        refine ⟨_, rfl, ite2 (fun h1 => ?_) (fun _ => hnx _ _ ⟨rfl, s4⟩)⟩
        have hne : 1 ≤ W.2.length := by
          cases h : W.2 with
          | nil => rw [h] at h1; cases h1
          | cons e l => rw [List.length_cons]; omega
        have p4 := p3.same s4
        have hW4 := (tk_same s4).seq hW
        have hT4 := (tk_same s4).seq hT
        -- spot
        refine ⟨_, rfl, .ref a, rfl, a, _, 1, _, rfl, rfl, hW4, rfl, tb, xs, rfl, .inr hT4, pn, W.2.length, by rw [hP.length]; rfl, p4.pen, by omega, by omega, fun H5 sp hsp p5 => ?_⟩
        have k5 := (tk_same s4).trans (p5.tk p4.pen)
        refine ⟨.ref a, rfl, a, _, 0, _, rfl, rfl, k5.seq hW, rfl, .ref a, rfl, a, _, 1, _, rfl, rfl, k5.seq hW, rfl, _, rfl, _, rfl, ?_⟩
        have hl := hP.length
        refine slA_go (k5.seq hT) fun t1 H6 s6 h6 => ?_
        rw [cut_take xs sp (by omega)] at h6
        refine ⟨.ref a, rfl, a, _, 1, _, rfl, rfl, (k5.trans (tk_same s6)).seq hW, rfl, _, rfl, _, _, rfl, rfl, _, rfl, ?_⟩
        dsimp only [tNoPart]
        refine slA_go ((k5.trans (tk_same s6)).seq hT) fun t2 H7 s7 h7 => ?_
        rw [show (some ((sp : Int) + 1)) = some ((sp + 1 : Nat) : Int) from rfl, cut_drop xs (sp + 1) (by omega)] at h7
        refine catA_go ((tk_same s7).seq h6) h7 (by rw [List.length_take, List.length_drop]; omega) fun c H8 s8 h8 => ⟨szs (by simp), fun r hrn => ?_⟩
        have s9 := same_new (o := .tup [.int (W.1 : Int), .ref c]) hrn
        have sub := skip_sub W.2 sp
        refine q _ _ (W.1, W.2.take sp ++ W.2.drop (sp + 1)) ((p4.trans p5).same (((s6.trans s7).trans s8).trans s9)) ⟨r, .ref c, rfl, SqT.of upd_same, c, _, rfl, (tk_same s9).seq h8, ?_⟩ ⟨lo, hn, fun f hf => g.inn f (sub.subset hf), g.srt.sublist sub⟩
        exact ties_k (k5.trans (tk_same (((s6.trans s7).trans s8).trans s9))) (paired_app (paired_take sp hP) (paired_drop (sp + 1) hP))
    · refine ⟨_, rfl, _, _, rfl, rfl, _, rfl, ite2 (fun _ => ?_) (fun _ => hnx _ _ ⟨u, W, rfl, p12, hw2, g⟩)⟩
      exact ⟨u, rfl, u, 2, W, rfl, hw2, g, fun H3 u' W' s3 hw3 g3 _ => hnx _ _ ⟨u', W', rfl, p12.same s3, hw3, g3⟩⟩
end
end Rw
end
section
set_option maxRecDepth 100000
set_option maxHeartbeats 4000000
/-! The walk: the law itself. -/
namespace Rw
open PySem PySem.Spec PyProof.Rows L2
section
variable {P : Program} {w : World} {K : PySem.W.Frag} {mg : Str → Option Value} {base : Heap}
def eOpt : Option Web → PyData
  | none => .none
  | some R => eWeb R
theorem IsOpt.dp {H : Hp} {v : V} {o : Option Web} (h : IsOpt K H v o) : Dp K H v (eOpt o) := by
  cases o with
  | none =>
    obtain rfl : v = .non := h
    exact .non
  | some R => exact IsWeb.dp h
theorem sh_opt (o : Option Web) : SeqAt.shaped (eOpt o) = true := by
  cases o with
  | none => exact shaped_td (d := .none) rfl (by simp [PyData.depth])
  | some R => exact sh_web R
theorem eqv_opt (o : Option Web) : PyData.eqv (eOpt o) (eOpt o) = true := by
  cases o with
  | none => simp [eOpt, PyData.eqv]
  | some R => rw [eOpt, eqv_web]; simp
theorem sh_webs (l : List Web) : SeqAt.shaped (.list (l.map eWeb)) = true := sh_list td_web 3 (by omega) dep_web _
theorem nats_of {H : Hp} {acc : List V} {ns : List Nat} (h : Paired (IsNat H) acc ns) : acc = ns.map nV := by
  induction h with
  | nil => rfl
  | cons r t ih => rw [ih, List.map_cons]; congr 1
theorem must_has {W : Web} {t : Tie} (h : t ∈ W.2) : (mustOf W).contains t = (rootsOf W).all fun R => R.2.contains t := by
  rw [Bool.eq_iff_iff, List.contains_iff_mem]
  unfold mustOf
  rw [List.mem_filter]
  exact ⟨fun h => h.2, fun k => ⟨h, k⟩⟩
theorem may_has {W : Web} {t : Tie} (h : t ∈ W.2) : (mayOf W).contains t = (rootsOf W).any fun R => R.2.contains t := by
  rw [Bool.eq_iff_iff, List.contains_iff_mem]
  unfold mayOf
  rw [List.mem_filter]
  exact ⟨fun h => h.2, fun k => ⟨h, k⟩⟩
def spRight (K : PySem.W.Frag) : Sp := fun vs H Q _ => ∃ (v : V) (W : Web), vs = [v, .int (count W : Int)] ∧ IsWeb K H v W ∧ Good W ∧ W.2.length ≤ 12 ∧ count W ≤ 300 ∧ ∀ H', Same H H' → Q (.bl true) H'
theorem ok_llisted_right (S : Stands K mg "_law_listed_right" s_llisted_right ["_law_web", "_law_many"]) (T : Blt mg) (G_all_roots : Has P w K mg base 21 "all_roots" ["web"] (spAllRoots K)) (G_two_step : Has P w K mg base 4 "two_step" ["web"] (spTwo K)) (G_fewest_root : Has P w K mg base 21 "fewest_root" ["web"] (spFewest K)) (G_first_root : Has P w K mg base 21 "first_root" ["web"] (spFirst K))
    (G_must_have : Has P w K mg base 21 "must_have" ["web"] (spTies K mustOf)) (G_may_have : Has P w K mg base 21 "may_have" ["web"] (spTies K mayOf)) (G_is_still : Has P w K mg base 5 "is_still" ["web"] (spStill K)) :
    Has P w K mg base 22 "_law_listed_right" ["_law_web", "_law_many"] (spRight K) := by
  refine has_of S sc_llisted_right (fun vs H Q E h => ?_) (fun f cdv A outer s H vs Q E hr h => ?_)
  · obtain ⟨v, W, rfl, _⟩ := h
    rfl
  · obtain ⟨v, W, rfl, hw, g, h12, h300, q⟩ := h
    have hw0 := hw
    obtain ⟨a, tu, rfl, hW, tb, xs, rfl, hT, hP⟩ := hw0
    have hlen := rootsOf_len W
    refine ⟨_, (pss_cons (ps_set (i := 2) sc_llisted_right.nd rfl (Or.inl rfl) (pe_own G_all_roots (hr.mono (by omega)) (pa_cons (pv 0) pa_nil)))
      (pss_cons (ps_if (PW.pt (pw_or (pt_cmpR op_ne (pe_callB (kLen K) (by rfl) T.len (by decide +kernel) (pa_cons (pv 2) pa_nil)) (pv 1) (nomark _)) (pw_or1 (pt_cmpR (kNeD K hr.units) (pv 2) (pe_callB (kSortN K w rfl hr.units) (by rfl) T.sorted (by decide +kernel) (pa_cons (pe_callTy (kSetN K w rfl hr.units) (by rfl) T.set (by decide +kernel) (pa_cons (pv 2) pa_nil)) pa_nil)) (nomark _)))))
        (pss_one (ps_ret pe_bl))
        pss_nil)
      (pss_cons (ps_if (pt_not (pt_val (pe_callB (kAll K rfl) (by rfl) T.all (by decide +kernel) (pa_cons (pe_lc (own := [("_law_root", 3)]) rfl sc_llisted_right.nd (kpiL K (pv 2)) (blkOk_by (own := [("_law_root", 3)]) (N := ["_law_web", "_law_many", "_law_every", "_law_root", "_law_few", "_law_sizes", "_law_must", "_law_may", "_law_tie", "_law_having"]) (sc := defScope s_llisted_right) (by decide +kernel)) (fun _ _ _ _ _ => (pg_name (i := 3) sc_llisted_right.nd rfl (Or.inl rfl))) (fun _ _ _ _ _ => pts_nil) (fun _ _ _ _ _ => (pe_cmpR (kEqD K hr.units) (pe_own G_two_step (hr.mono (by omega)) (pa_cons (pv 3) pa_nil)) (pv 0) (nomark _)))) pa_nil))))
        (pss_one (ps_ret pe_bl))
        pss_nil)
      (pss_cons (ps_set (i := 4) sc_llisted_right.nd rfl (Or.inl rfl) (pe_own G_fewest_root (hr.mono (by omega)) (pa_cons (pv 0) pa_nil)))
      (pss_cons (ps_if (PW.pt (pw_or (pt_cmpR (kNeD K hr.units) (pe_own G_first_root (hr.mono (by omega)) (pa_cons (pv 0) pa_nil)) (pe_ix (kIxL K) (pe_op op_cat (pv 2) (pe_lst (pa_cons pe_non pa_nil))) pe_int (fun _ _ => rfl)) (nomark _)) (pw_or1 (pt_cmpR op_ne (pe_cmpR op_isN (pv 4) pe_non (nomark _)) (pe_cmpR op_eq (pv 1) pe_int (nomark _)) (nomark _)))))
        (pss_one (ps_ret pe_bl))
        pss_nil)
      (pss_cons (ps_setLc (i := 5) (own := [("_law_root", 3)]) rfl sc_llisted_right.nd rfl rfl (sw_true rfl rfl rfl (by decide +kernel)) (kpiL K (pv 2)) (blkOk_by (own := [("_law_root", 3)]) (N := ["_law_web", "_law_many", "_law_every", "_law_root", "_law_few", "_law_sizes", "_law_must", "_law_may", "_law_tie", "_law_having"]) (sc := defScope s_llisted_right) (by decide +kernel)) (fun _ _ _ _ _ => (pg_name (i := 3) sc_llisted_right.nd rfl (Or.inl rfl))) (fun _ _ _ _ _ => pts_nil) (fun _ _ _ _ _ => (pe_callB (kLen K) (by rfl) T.len (by decide +kernel) (pa_cons (pe_ix (kIxT K) (pv 3) pe_int (fun _ _ => rfl)) pa_nil))))
      (pss_cons (ps_if (PW.pt (pw_and (pt_cmpR op_notN (pv 4) pe_non (nomark _)) (pw_and1 (PW.pt (pw_or (pt_cmpR (kNotInD K (units1 hr)) (pv 4) (pv 2) (by rfl)) (pw_or1 (pt_cmpR op_ne (pe_callB (kLen K) (by rfl) T.len (by decide +kernel) (pa_cons (pe_ix (kIxT K) (pv 4) pe_int (fun _ _ => rfl)) pa_nil)) (pe_callB (kMin K rfl) (by rfl) T.min (by decide +kernel) (pa_cons (pv 5) pa_nil)) (nomark _))))))))
        (pss_one (ps_ret pe_bl))
        pss_nil)
      (pss_cons (ps_par (i := 6) (j := 7) (by rfl) sc_llisted_right.nd rfl rfl (by decide) rfl rfl (pa_cons (pe_own G_must_have (hr.mono (by omega)) (pa_cons (pv 0) pa_nil)) (pa_cons (pe_own G_may_have (hr.mono (by omega)) (pa_cons (pv 0) pa_nil)) pa_nil)) (by rfl))
      (pss_cons (ps_for PassesOwn.never rfl (kpiT K (pe_ix (kIxT K) (pv 0) pe_int (fun _ _ => rfl))) (pg_name (i := 8) sc_llisted_right.nd rfl (Or.inr rfl))
        (pss_cons (ps_set (i := 9) sc_llisted_right.nd rfl (Or.inl rfl) (pe_callB (kLen K) (by rfl) T.len (by decide +kernel) (pa_cons (pe_lc (own := [("_law_root", 3)]) rfl sc_llisted_right.nd (kpiL K (pv 2)) (blkOk_by (own := [("_law_root", 3)]) (N := ["_law_web", "_law_many", "_law_every", "_law_root", "_law_few", "_law_sizes", "_law_must", "_law_may", "_law_tie", "_law_having"]) (sc := defScope s_llisted_right) (by decide +kernel)) (fun _ _ _ _ _ => (pg_name (i := 3) sc_llisted_right.nd rfl (Or.inl rfl))) (fun _ _ _ _ _ => (pts_one (pt_cmpR (kInDT K (units1 hr)) (pv 8) (pe_ix (kIxT K) (pv 3) pe_int (fun _ _ => rfl)) (by rfl)))) (fun _ _ _ _ _ => (pv 3))) pa_nil)))
        (pss_one (ps_if (PW.pt (pw_or (pt_cmpR op_ne (pe_cmpR (kInDT K (units1 hr)) (pv 8) (pv 6) (by rfl)) (pe_cmpR op_eq (pv 9) (pv 1) (nomark _)) (nomark _)) (pw_or1 (pt_cmpR op_ne (pe_cmpR (kInDT K (units1 hr)) (pv 8) (pv 7) (by rfl)) (pe_cmpR op_gt (pv 9) pe_int (nomark _)) (nomark _)))))
          (pss_one (ps_ret pe_bl))
          pss_nil))))
      (pss_one (ps_ret (pe_or (pe_not (pe_own G_is_still (hr.mono (by omega)) (pa_cons (pv 0) pa_nil))) (pe_one (pe_cmpR (kInD K (units1 hr)) (pv 0) (pv 2) (by rfl))))))))))))))), ?_⟩
    -- every = all_roots(web)
    refine ⟨_, rfl, .ref a, W, rfl, hw, g, h12, h300, fun H1 p s1 hp r => ?_⟩
    have r0 := r
    obtain ⟨es, hes, hep⟩ := r0
    refine ⟨.ref p, rfl, p, es, rfl, .inl (SqL.of hes), _, rfl, rfl, _, rfl, iteFo ?_ ?_⟩
    · rw [hep.length, hlen]; simp
    refine ⟨.ref p, rfl, .ref p, rfl, ?_⟩
    dsimp only [tNil]
    refine setsort_webs (w := w) (.inl (SqL.of hes)) hep (by rw [hlen]; exact few_count g h12 h300) fun H2 p2 m s2 hp2 hm srt nd mem => ?_
    have em : m = rootsOf W := webs_unique srt (rootsOf_sorted W) nd (rootsOf_nodup g) mem
    subst em
    refine ⟨_, _, (r.webs s2).dp fun _ _ h => h.dp, hm.dp fun _ _ h => h.dp, sh_webs _, sh_webs _, ?_⟩
    have ev : PyData.eqv (.list ((rootsOf W).map eWeb)) (.list ((rootsOf W).map eWeb)) = true := by
      rw [PyData.eqv, eqv_list eqv_web]; simp
    rw [ev]
    refine ⟨_, rfl, iteF ?_⟩
    have s12 := s1.trans s2
    have hes2 := s2 _ _ hes
    -- all(two_step(root) == web ..)
    refine ⟨.ref p, rfl, p, rfl, ⟨_, SqL.of hes2⟩, fun D hD => ?_⟩
    refine lc_pure (ts := rootsOf W) (RI := IsWeb K) (src_lst fun H' s => ⟨es, SqL.of (s _ _ hes2), Paired.mapP hep fun _ _ q => q.k (tk_same (s2.trans s))⟩) hD IsBool (fun _ => some true) (fun i R x H3 H3' e c s r => ?_) (fun acc H3 s3 hacc hpa => ?_)
    · obtain ⟨gR, sR, nR⟩ := mem_rootsOf g (List.mem_of_getElem? e)
      refine ⟨rfl, yesT ⟨x, rfl, x, R, rfl, r, gR, fun H4 u s4 hu => ⟨.ref a, rfl, _, _, hu.dp, (hw.k (tk_same (s12.trans ((c.same.trans s).trans s4)))).dp, sh_web _, sh_web _, ?_⟩⟩⟩
      rw [sR, eqv_web, decide_eq_true rfl]
      exact comp_add c hD e (s.trans s4) rfl (show IsBool _ _ _ from rfl) (fun _ _ _ _ _ h => h) (by rw [hlen]; omega)
    rw [List.filterMap_eq_map' (f := fun _ => true)] at hpa
    rw [bools_of (K := K) hpa] at hacc
    have s13 := s12.trans s3
    have e2 : (((rootsOf W).map fun _ => true).all id) = true := by simp
    refine ⟨D, _, rfl, SqL.of hacc, true, by rw [e2], iteF ?_⟩
    -- few = fewest_root(web)
    refine ⟨.ref a, rfl, .ref a, W, rfl, hw.k (tk_same s13), g, h12, fun H4 fw s4 hfw => ?_⟩
    have s14 := s13.trans s4
    -- first_root(web) != (every + [None])[0]
    refine ⟨.ref a, rfl, .ref a, W, rfl, hw.k (tk_same s14), g, h12, fun H5 fr s5 hfr => ?_⟩
    have s15 := s14.trans s5
    have s25 := (s3.trans s4).trans s5
    have hes5 := s25 _ _ hes2
    refine ⟨.ref p, rfl, szs (by simp), fun l0 hl0 => ⟨p, l0, es, _, rfl, rfl, same_new hl0 _ _ hes5, upd_same, by rw [hep.length, hlen, sizeLine_eq]; simp; omega, fun c hc => ?_⟩⟩
    have s6 := (same_new (o := .lst [V.non]) hl0).trans (same_new (o := .lst (es ++ [V.non])) hc)
    have s16 := s15.trans s6
    have hfst : ∃ x, atI (es ++ [V.non]) 0 = some x ∧ IsOpt K (upd (upd H5 l0 (.lst [V.non])) c (.lst (es ++ [V.non]))) x (rootsOf W).head? := by
      have hep6 := Paired.mapP hep fun _ _ q => IsWeb.k (tk_same (s2.trans (s25.trans s6))) q
      generalize rootsOf W = rs at hep6
      cases hep6 with
      | nil => exact ⟨_, rfl, rfl⟩
      | cons r t => exact ⟨_, atI_n (j := 0) rfl rfl, r⟩
    obtain ⟨x1, hx1, hx2⟩ := hfst
    refine ⟨c, _, _, x1, rfl, rfl, SqL.of upd_same, hx1, _, _, (hfr.k (tk_same s6)).dp, hx2.dp, sh_opt _, sh_opt _, ?_⟩
    rw [eqv_opt]
    refine ⟨_, rfl, iteF ?_⟩
    -- (few is None) != (many == 0)
    have hnone : decide (fw = .non) = decide (V.int (count W : Int) = V.int 0) := by
      have h1 : fewestOf (rootsOf W) = none ↔ count W = 0 := by rw [fewest_none, ← hlen, List.length_eq_zero_iff]
      cases hfo : fewestOf (rootsOf W) with
      | none =>
        rw [hfo] at hfw h1
        obtain rfl : fw = .non := hfw
        rw [h1.mp rfl]
        rfl
      | some R =>
        rw [hfo] at hfw h1
        obtain ⟨_, _, rfl, _⟩ := hfw
        have : count W ≠ 0 := fun e => by cases h1.mpr e
        rw [Bool.eq_iff_iff]
        simp
        omega
    refine ⟨_, rfl, rfl, _, rfl, rfl, rfl, _, rfl, ?_⟩
    refine iteFo (by rw [hnone]; simp) ?_
    have hes6 := s6 _ _ hes5
    have hep6 : Paired (IsWeb K (upd (upd H5 l0 (.lst [V.non])) c (.lst (es ++ [V.non])))) es (rootsOf W) := Paired.mapP hep fun _ _ q => IsWeb.k (tk_same (s2.trans (s25.trans s6))) q
    have hfw6 := hfw.k (tk_same (s5.trans s6))
    generalize (upd (upd H5 l0 (.lst [V.non])) c (.lst (es ++ [V.non]))) = H6 at hes6 hep6 hfw6 s16 ⊢
    -- sizes
    refine ⟨.ref p, rfl, p, rfl, ⟨_, SqL.of hes6⟩, fun D2 hD2 => ?_⟩
    refine lc_pure (ts := rootsOf W) (RI := IsWeb K) (src_lst fun H' s => ⟨es, SqL.of (s _ _ hes6), Paired.mapP hep6 fun _ _ q => q.k (tk_same s)⟩) hD2 IsNat (fun R => some R.2.length) (fun i R x H7 H7' e c s r => ?_) (fun acc2 H7 s7 hacc2 hpa2 => ?_)
    · obtain ⟨b, u, rfl, hb, tb2, zs, rfl, hz, hzp⟩ := r
      exact ⟨rfl, yesT ⟨_, rfl, b, _, 1, _, rfl, rfl, hb, rfl, tb2, zs, rfl, .inr hz, comp_add c hD2 e s rfl (show IsNat _ _ _ by show V.int _ = V.int _; rw [hzp.length]) (fun _ _ _ _ _ h => h) (by rw [hlen]; omega)⟩⟩
    rw [List.filterMap_eq_map' (f := fun R : Web => R.2.length)] at hpa2
    have s17 := s16.trans s7
    have hes7 := s7 _ _ hes6
    have hep7 := Paired.mapP hep6 fun _ _ q => IsWeb.k (tk_same s7) q
    have hfw7 := hfw6.k (tk_same s7)
    dsimp only
    refine seq_mid (fun σ H' => σ = [some (.ref a), some (.int (count W : Int)), some (.ref p), none, some fw, some (.ref D2), none, none, none, none] ∧ H' = H7) (fun σ H8 hM => ?_) (fun nx hnx => ?_)
    · obtain ⟨rfl, rfl⟩ := hM
      -- must, may
      refine ⟨_, rfl, .ref a, W, rfl, hw.k (tk_same s17), g, h12, fun H8 x1 s8 hx1 => ⟨_, rfl, .ref a, W, rfl, hw.k (tk_same (s17.trans s8)), g, h12, fun H9 x2 s9 hx2 => ⟨_, _, rfl, ?_⟩⟩⟩
      have s19 := (s17.trans s8).trans s9
      have hx1 := hx1.k (tk_same s9)
      have hes9 := s9 _ _ (s8 _ _ hes7)
      have hep9 := Paired.mapP hep7 fun _ _ q => IsWeb.k (tk_same (s8.trans s9)) q
      have hxs9 := ties_k (tk_same s19) hP
      -- for tie in web[1]
      refine ⟨.ref a, rfl, a, _, 1, _, rfl, rfl, (tk_same s19).seq hW, rfl, tb, rfl, ⟨xs, (tk_same s19).seq hT⟩, for_src (ts := W.2) (RI := IsTie K) (src_tup (Ok := fun H' => Same H9 H') fun H' s => ⟨xs, (tk_same (s19.trans s)).seq hT, ties_k (tk_same s) hxs9⟩)
        (fun i σ H' => ∃ (y3 y8 y9 : Option V), σ = [some (.ref a), some (.int (count W : Int)), some (.ref p), y3, some fw, some (.ref D2), some x1, some x2, y8, y9] ∧ Same H9 H') (fun _ _ _ h => by obtain ⟨_, _, _, _, s⟩ := h; exact s) ⟨_, _, _, rfl, Same.refl _⟩ (fun i t tv σ H10 H11 et hPv s11 ht => ?_) (fun σ H10 hPv => ?_)⟩
      · obtain ⟨y3, y8, y9, rfl, s10⟩ := hPv
        have htm := List.mem_of_getElem? et
        have s911 := s10.trans s11
        have hes11 := s911 _ _ hes9
        have hep11 := Paired.mapP hep9 fun _ _ q => IsWeb.k (tk_same s911) q
        refine ⟨.ref p, rfl, p, rfl, ⟨_, SqL.of hes11⟩, fun D3 hD3 => ?_⟩
        refine lc_pure (ts := rootsOf W) (RI := IsWeb K) (src_lst fun H' s => ⟨es, SqL.of (s _ _ hes11), Paired.mapP hep11 fun _ _ q => q.k (tk_same s)⟩) hD3 (IsWeb K) (fun R => if R.2.contains t = true then some R else none) (fun j R x H12 H13 e c s r => ?_) (fun acc3 H12 s12 hacc3 hpa3 => ?_)
        · have r0 := r
          obtain ⟨b, u, rfl, hb, hu⟩ := r0
          have hu0 := hu
          obtain ⟨tb2, zs, rfl, hz, hzp⟩ := hu0
          refine ⟨rfl, _, rfl, _, rfl, b, _, 1, _, rfl, rfl, hb, rfl, eTie t, R.2.map eTie, (ht.k (tk_same (c.same.trans s))).dp, hu.dp, sh_tie t, sh_ties R.2, _, rfl, ?_⟩
          rw [any_tie]
          cases hct : R.2.contains t with
          | true => exact iteT ⟨_, rfl, comp_add c hD3 e s (if_pos hct) r (fun _ _ _ _ t h => h.k t) (by rw [hlen]; omega)⟩
          | false => exact iteF (comp_skip c e s (if_neg (by rw [hct]; exact Bool.false_ne_true)) (fun _ _ _ _ t h => h.k t))
        · rw [filterMap_if (fun R : Web => R.2.contains t)] at hpa3
          have sA := s911.trans s12
          refine ⟨D3, acc3, rfl, .inl (SqL.of hacc3), ?_⟩
          have e1 : decide (V.int (acc3.length : Int) = V.int (count W : Int)) = (rootsOf W).all fun R => R.2.contains t := by
            rw [← filter_full, hpa3.length, ← hlen]
            exact decide_eq_decide.mpr ⟨fun h => by have := V.int.inj h; omega, fun h => by rw [h]⟩
          have e2 : decide ((0 : Int) < (acc3.length : Int)) = (rootsOf W).any fun R => R.2.contains t := by
            rw [← filter_some, hpa3.length]
            exact decide_eq_decide.mpr ⟨fun h => by omega, fun h => by omega⟩
          refine ⟨_, rfl, _, rfl, eTie t, (mustOf W).map eTie, (ht.k (tk_same s12)).dp, (hx1.k (tk_same sA)).dp, sh_tie t, sh_ties _, _, rfl, _, rfl, rfl, rfl, _, rfl, iteFo ?_ ?_⟩
          · rw [any_tie, must_has htm, e1]; simp
          refine ⟨_, rfl, _, rfl, eTie t, (mayOf W).map eTie, (ht.k (tk_same s12)).dp, (hx2.k (tk_same sA)).dp, sh_tie t, sh_ties _, _, rfl, _, _, rfl, rfl, rfl, _, rfl, iteFo ?_ ?_⟩
          · rw [any_tie, may_has htm]
            show (!decide (V.bl _ = V.bl (decide ((0 : Int) < (acc3.length : Int))))) = false
            rw [e2]; simp
          exact ⟨_, _, _, rfl, sA⟩
      · obtain ⟨y3, y8, y9, rfl, s10⟩ := hPv
        have sA := s19.trans s10
        refine ⟨.ref a, rfl, .ref a, W, rfl, hw.k (tk_same sA), g, fun H11 s11 => ⟨_, rfl, _, rfl, ite2 (fun _ => q _ (sA.trans s11)) (fun h => ?_)⟩⟩
        have hst : sq W = W := by
          by_cases e : sq W = W
          · exact e
          · rw [decide_eq_false e] at h
            exact absurd rfl h
        refine ⟨.ref a, rfl, .ref p, rfl, eWeb W, (rootsOf W).map eWeb, (hw.k (tk_same (sA.trans s11))).dp, (show IsL (IsWeb K) H11 p (rootsOf W) from ⟨es, s11 _ _ (s10 _ _ hes9), Paired.mapP hep9 fun _ _ q => IsWeb.k (tk_same (s10.trans s11)) q⟩).dp fun _ _ h => h.dp, sh_web _, sh_webs _, ?_⟩
        rw [any_web, List.contains_iff_mem.mpr (still_in g hst)]
        exact q _ (sA.trans s11)
    · have go := hnx _ _ ⟨rfl, rfl⟩
      cases hfo : fewestOf (rootsOf W) with
      | none =>
        rw [hfo] at hfw7
        obtain rfl : fw = .non := hfw7
        exact ⟨_, rfl, rfl, _, rfl, iteF (iteF go)⟩
      | some R =>
        rw [hfo] at hfw7
        have hR := fewest_is hfo
        have hfw0 := hfw7
        obtain ⟨b, u, rfl, hb, tb2, zs, rfl, hz, hzp⟩ := hfw0
        refine ⟨_, rfl, rfl, _, rfl, iteT ?_⟩
        refine ⟨_, rfl, .ref p, rfl, eWeb R, (rootsOf W).map eWeb, IsWeb.dp hfw7, (show IsL (IsWeb K) H7 p (rootsOf W) from ⟨es, hes7, hep7⟩).dp fun _ _ h => h.dp, sh_web _, sh_webs _, _, rfl, ?_⟩
        rw [any_web, List.contains_iff_mem.mpr hR.1]
        refine iteF ⟨_, rfl, b, _, 1, _, rfl, rfl, hb, rfl, tb2, zs, rfl, .inr hz, .ref D2, rfl, D2, (rootsOf W).map fun R => (R.2.length : Int), rfl, SqL.of ?_, ?_, fun mn hm1 hm2 => ?_⟩
        · rw [hacc2, nats_of hpa2, List.map_map, List.map_map]
          rfl
        · rw [List.length_map]
          exact List.length_pos_of_mem hR.1
        · have e : mn = (R.2.length : Int) := by
            have h1 := hm2 _ (List.mem_map.mpr ⟨R, hR.1, rfl⟩)
            obtain ⟨S, hS, rfl⟩ := List.mem_map.mp hm1
            have := hR.2 S hS
            omega
          refine ⟨rfl, _, rfl, iteFo ?_ go⟩
          rw [hzp.length, e]
          simp
def begOf (W : Web) (b : Bool) : Bool := !decide (W.2 = []) && decide (0 < ((rootsBy W [b]).length : Int))
theorem beg_next (W : Web) : ([false, true].filter (begOf W)) = nextOf W [] := by
  unfold nextOf
  by_cases h : W.2 = []
  · rw [h, if_pos (show ([] : List Bool).length = ([] : List Tie).length from rfl)]
    simp [begOf, h]
  · rw [if_neg (fun e => h (List.length_eq_zero_iff.mp e.symm))]
    refine List.filter_congr fun b _ => ?_
    rw [List.nil_append]
    unfold begOf
    rw [decide_eq_false h, Bool.not_false, Bool.true_and, ← decide_not]
    refine decide_eq_decide.mpr ?_
    rw [← List.length_eq_zero_iff]
    omega
def spRightAll (K : PySem.W.Frag) : Sp := fun vs H Q _ => ∃ (v u : V) (W : Web) (names : List Nat), vs = [v, u] ∧ IsWeb K H v W ∧ Good W ∧ W.2.length ≤ 12 ∧ IsNats K H u names ∧ IsPerm W.1 names ∧ ∀ H', Same H H' → Q (.bl true) H'
theorem ok_lright (S : Stands K mg "_law_right" s_lright ["_law_web", "_law_names"]) (T : Blt mg) (G_roots_many : Has P w K mg base 20 "roots_many" ["web"] (spMany K)) (G_ties_tally : Has P w K mg base 21 "ties_tally" ["web"] (spTally K)) (G_roots_begun : Has P w K mg base 20 "roots_begun" ["web", "begun"] (spRootsBegun K))
    (G_renamed : Has P w K mg base 3 "renamed" ["web", "names"] (spNamed K)) (G_next_truths : Has P w K mg base 20 "next_truths" ["web", "begun"] (spNext K)) (G_llisted_right : Has P w K mg base 22 "_law_listed_right" ["_law_web", "_law_many"] (spRight K)) :
    Has P w K mg base 23 "_law_right" ["_law_web", "_law_names"] (spRightAll K) := by
  refine has_of S sc_lright (fun vs H Q E h => ?_) (fun f cdv A outer s H vs Q E hr h => ?_)
  · obtain ⟨v, u, W, names, rfl, _⟩ := h
    rfl
  · obtain ⟨v, u, W, names, rfl, hw, g, h12, hu, hpm, q⟩ := h
    have hw0 := hw
    obtain ⟨a, tu, rfl, hW, tb, xs, rfl, hT, hP⟩ := hw0
    have nil_line : ∀ {H : Hp} {t : Addr}, H t = some (.tup []) → IsLine K H (.ref t) [] := fun h => ⟨_, rfl, SqT.of h⟩
    refine ⟨_, (pss_cons (ps_set (i := 2) sc_lright.nd rfl (Or.inl rfl) (pe_own G_roots_many (hr.mono (by omega)) (pa_cons (pv 0) pa_nil)))
      (pss_cons (ps_if (PW.pt (pw_or (pt_cmpR op_ne (pe_callB (kSum K rfl) (by rfl) T.sum (by decide +kernel) (pa_cons (pe_own G_ties_tally (hr.mono (by omega)) (pa_cons (pv 0) pa_nil)) pa_nil)) (pv 2) (nomark _)) (pw_or (pt_cmpR op_ne (pe_own G_roots_begun (hr.mono (by omega)) (pa_cons (pv 0) (pa_cons (pe_tup pa_nil) pa_nil))) (pv 2) (nomark _)) (pw_or1 (pt_cmpR op_ne (pe_own G_roots_many (hr.mono (by omega)) (pa_cons (pe_own G_renamed (hr.mono (by omega)) (pa_cons (pv 0) (pa_cons (pv 1) pa_nil))) pa_nil)) (pv 2) (nomark _))))))
        (pss_one (ps_ret pe_bl))
        pss_nil)
      (pss_cons (ps_if (PW.pt (pw_and (pt_cmpR (kNeD K hr.units) (pe_ix (kIxT K) (pv 0) pe_int (fun _ _ => rfl)) (pe_tup pa_nil) (nomark _)) (pw_and1 (pt_cmpR op_ne (pe_op op_add (pe_own G_roots_begun (hr.mono (by omega)) (pa_cons (pv 0) (pa_cons (pe_tup (pa_cons pe_bl pa_nil)) pa_nil))) (pe_own G_roots_begun (hr.mono (by omega)) (pa_cons (pv 0) (pa_cons (pe_tup (pa_cons pe_bl pa_nil)) pa_nil)))) (pv 2) (nomark _)))))
        (pss_one (ps_ret pe_bl))
        pss_nil)
      (pss_cons (ps_setLc (i := 3) (own := [("_law_truth", 4)]) rfl sc_lright.nd rfl rfl (sw_true rfl rfl rfl (by decide +kernel)) (kpiT K (pe_tup (pa_cons pe_bl (pa_cons pe_bl pa_nil)))) (blkOk_by (own := [("_law_truth", 4)]) (N := ["_law_web", "_law_names", "_law_many", "_law_truths", "_law_truth"]) (sc := defScope s_lright) (by decide +kernel)) (fun _ _ _ _ _ => (pg_name (i := 4) sc_lright.nd rfl (Or.inl rfl))) (fun _ _ _ _ _ => (pts_one (PW.pt (pw_and (pt_cmpR (kNeD K hr.units) (pe_ix (kIxT K) (pv 0) pe_int (fun _ _ => rfl)) (pe_tup pa_nil) (nomark _)) (pw_and1 (pt_cmpR op_gt (pe_own G_roots_begun (hr.mono (by omega)) (pa_cons (pv 0) (pa_cons (pe_tup (pa_cons (pv 4) pa_nil)) pa_nil))) pe_int (nomark _))))))) (fun _ _ _ _ _ => (pv 4)))
      (pss_cons (ps_if (pt_cmpR (kNeD K hr.units) (pe_own G_next_truths (hr.mono (by omega)) (pa_cons (pv 0) (pa_cons (pe_tup pa_nil) pa_nil))) (pv 3) (nomark _))
        (pss_one (ps_ret pe_bl))
        pss_nil)
      (pss_one (ps_ret (pe_or (pe_cmpR op_gt (pv 2) pe_int (nomark _)) (pe_one (pe_own G_llisted_right (hr.mono (by omega)) (pa_cons (pv 0) (pa_cons (pv 2) pa_nil)))))))))))), ?_⟩
    -- many
    refine ⟨.ref a, rfl, .ref a, W, rfl, hw, g, h12, fun H1 s1 => ?_⟩
    -- sum(ties_tally(web)) != many
    refine ⟨.ref a, rfl, .ref a, W, rfl, hw.k (tk_same s1), g, h12, fun H2 p2 ns s2 hp2 hns hsum => ⟨p2, ns, rfl, SqL.of hns, _, rfl, rfl, _, rfl, iteFo (by rw [hsum]; simp) ?_⟩⟩
    have s12 := s1.trans s2
    -- roots_begun(web, ()) != many
    refine ⟨.ref a, rfl, szs (by simp), fun t1 ht1 => ?_⟩
    have s3 := s12.trans (same_new (o := .tup []) ht1)
    refine ⟨.ref a, .ref t1, W, [], rfl, hw.k (tk_same s3), g, h12, nil_line upd_same, Nat.zero_le _, fun H4 s4 => ⟨_, rfl, rfl, _, rfl, iteFo (by show (!decide (V.int (count W : Int) = V.int (count W : Int))) = false; simp) ?_⟩⟩
    have s14 := s3.trans s4
    -- roots_many(renamed(web, names)) != many
    refine ⟨.ref a, rfl, u, rfl, .ref a, u, W, names, rfl, hw.k (tk_same s14), g, hu.k (tk_same s14), hpm, fun H5 x s5 hx => ?_⟩
    refine ⟨x, ren names W, rfl, hx, ren_good g, by rw [ren_len g hpm]; exact h12, fun H6 s6 => ⟨_, rfl, rfl, _, rfl, iteFo (by rw [count_ren g hpm]; simp) ?_⟩⟩
    have s16 := (s14.trans s5).trans s6
    dsimp only [tNext]
    refine seq_mid (fun σ H' => σ = [some (.ref a), some u, some (.int (count W : Int)), none, none] ∧ Same H H') (fun σ H7 hM => ?_) (fun nx hnx => ?_)
    · obtain ⟨rfl, s17⟩ := hM
      refine ⟨szs (by simp), fun t2 ht2 => ?_⟩
      have s18 := s17.trans (same_new (o := .tup [V.bl false, V.bl true]) ht2)
      refine ⟨t2, rfl, ⟨_, SqT.of upd_same⟩, fun D hD => ?_⟩
      refine lc_pure (ts := [false, true]) (RI := IsBool) (src_tup fun H' s => ⟨[V.bl false, V.bl true], SqT.of (s _ _ upd_same), line_paired [false, true]⟩) hD IsBool (fun b => if begOf W b = true then some b else none) (fun i b x H8 H8' e c s r => ?_) (fun acc H8 s8 hacc hpa => ?_)
      · obtain rfl : x = .bl b := r
        have sH := s18.trans (c.same.trans s)
        refine ⟨rfl, .ref a, rfl, a, _, 1, _, rfl, rfl, (tk_same sH).seq hW, rfl, szs (by simp), fun t3 ht3 => ?_⟩
        have s9 := same_new (o := .tup []) ht3
        refine ⟨eTies W.2, eTies [], (IsTies.k (tk_same (sH.trans s9)) ⟨tb, xs, rfl, hT, hP⟩).dp, .tup (SqT.of upd_same) .nil, sh_ties _, sh_ties _, ?_⟩
        rw [eqv_ties]
        refine ⟨_, rfl, ?_⟩
        by_cases hnil : W.2 = []
        · rw [decide_eq_true hnil]
          exact iteF (iteF (comp_skip c e (s.trans s9) (by unfold begOf; rw [decide_eq_true hnil]; rfl) (fun _ _ _ _ _ h => h)))
        · rw [decide_eq_false hnil]
          have hpos : 1 ≤ W.2.length := List.length_pos_iff.mpr hnil
          refine iteT ⟨.ref a, rfl, _, rfl, szs (by simp), fun t4 ht4 => ?_⟩
          have s10 := s9.trans (same_new (o := .tup [V.bl b]) ht4)
          refine ⟨.ref a, .ref t4, W, [b], rfl, hw.k (tk_same (sH.trans s10)), g, h12, ⟨_, rfl, SqT.of upd_same⟩, hpos, fun H9 s11 => ⟨_, _, rfl, rfl, _, rfl, ?_⟩⟩
          have sA := s.trans (s10.trans s11)
          by_cases hc : (0 : Int) < ((rootsBy W [b]).length : Int)
          · exact iteTo (decide_eq_true hc) ⟨_, rfl, comp_add c hD e sA (by unfold begOf; rw [decide_eq_false hnil, decide_eq_true hc]; rfl) (show IsBool _ _ _ from rfl) (fun _ _ _ _ _ h => h) (by simp)⟩
          · exact iteFo (decide_eq_false hc) (comp_skip c e sA (by unfold begOf; rw [decide_eq_false hnil, decide_eq_false hc]; rfl) (fun _ _ _ _ _ h => h))
      · rw [filterMap_if (begOf W), beg_next] at hpa
        rw [bools_of (K := K) hpa] at hacc
        have s19 := s18.trans s8
        refine ⟨.ref a, rfl, szs (by simp), fun t5 ht5 => ?_⟩
        have s20 := s19.trans (same_new (o := .tup []) ht5)
        refine ⟨.ref a, .ref t5, W, [], rfl, hw.k (tk_same s20), g, h12, nil_line upd_same, Nat.zero_le _, fun H9 p9 s21 hp9 hp9' => ?_⟩
        have s22 := s20.trans s21
        have bd : ∀ {p : Addr}, H9 p = some (.lst ((nextOf W []).map V.bl)) → Dp K H9 (.ref p) (.list ((nextOf W []).map PyData.bool)) := fun h => .lst (SqL.of h) (dpAll_bools _)
        have sb : SeqAt.shaped (.list ((nextOf W []).map PyData.bool)) = true := sh_list (enc := PyData.bool) (fun _ => rfl) 0 (by omega) (fun _ => by simp [PyData.depth]) _
        refine ⟨_, rfl, _, _, bd hp9', bd (s21 _ _ (same_new ht5 _ _ hacc)), sb, sb, ?_⟩
        have ev : PyData.eqv (.list ((nextOf W []).map PyData.bool)) (.list ((nextOf W []).map PyData.bool)) = true := by
          rw [PyData.eqv, eqv_list eqv_bool]; simp
        rw [ev]
        refine ⟨_, rfl, iteF ?_⟩
        -- many > 300 or listed_right
        refine ⟨_, rfl, _, _, rfl, rfl, _, rfl, ite2 (fun _ => q _ s22) (fun h => ?_)⟩
        have h300 : count W ≤ 300 := by
          refine Nat.le_of_not_lt fun h2 => h (decide_eq_true ?_)
          omega
        exact ⟨.ref a, rfl, _, rfl, .ref a, W, rfl, hw.k (tk_same s22), g, h12, h300, fun H10 s10 => q _ (s22.trans s10)⟩
    · refine ⟨.ref a, rfl, a, _, 1, _, rfl, rfl, (tk_same s16).seq hW, rfl, szs (by simp), fun t3 ht3 => ?_⟩
      have s9 := s16.trans (same_new (o := .tup []) ht3)
      refine ⟨eTies W.2, eTies [], (IsTies.k (tk_same s9) ⟨tb, xs, rfl, hT, hP⟩).dp, .tup (SqT.of upd_same) .nil, sh_ties _, sh_ties _, ?_⟩
      rw [eqv_ties]
      refine ⟨_, rfl, ?_⟩
      by_cases hnil : W.2 = []
      · rw [decide_eq_true hnil]
        exact iteF (iteF (hnx _ _ ⟨rfl, s9⟩))
      · rw [decide_eq_false hnil]
        have hpos : 1 ≤ W.2.length := List.length_pos_iff.mpr hnil
        refine iteT ⟨.ref a, rfl, szs (by simp), fun t4 ht4 => ?_⟩
        have s10 := s9.trans (same_new (o := .tup [V.bl false]) ht4)
        refine ⟨.ref a, .ref t4, W, [false], rfl, hw.k (tk_same s10), g, h12, ⟨_, rfl, SqT.of upd_same⟩, hpos, fun H9 s11 => ?_⟩
        refine ⟨.ref a, rfl, szs (by simp), fun t5 ht5 => ?_⟩
        have s12 := (s10.trans s11).trans (same_new (o := .tup [V.bl true]) ht5)
        refine ⟨.ref a, .ref t5, W, [true], rfl, hw.k (tk_same s12), g, h12, ⟨_, rfl, SqT.of upd_same⟩, hpos, fun H10 s13 => ⟨_, _, rfl, rfl, _, rfl, rfl, _, rfl, iteFo ?_ (hnx _ _ ⟨rfl, s12.trans s13⟩)⟩⟩
        have e : ((rootsBy W [false]).length : Int) + ((rootsBy W [true]).length : Int) = (count W : Int) := by
          unfold count
          rw [roots_split hnil, List.length_append]
          push_cast
          rfl
        show (!decide (V.int (((rootsBy W [false]).length : Int) + ((rootsBy W [true]).length : Int)) = V.int (count W : Int))) = false
        rw [e]; simp
def spLaw (K : PySem.W.Frag) : Sp := fun vs H Q _ => ∃ (a : Addr) (is : List Int), vs = [.ref a] ∧ SqL K H a (is.map V.int) ∧ is.length ≤ 100000 ∧ ∀ H', Same H H' → Q (.bl true) H'
theorem ok_law {fl : Addr} {fld : FuncData} (FL : Fun K "law" "law" s_law fl fld) (T : Blt mg) (G_lcell_at : Has P w K mg base 1 "_law_cell_at" ["_law_script", "_law_k"] (spCell K)) (G_lpen_of : Has P w K mg base 1 "_law_pen_of" ["_law_cell"] spPenOf) (G_lweb_by : Has P w K mg base 5 "_law_web_by" ["_law_pen"] (spSparse K)) (G_two_step : Has P w K mg base 4 "two_step" ["web"] (spTwo K))
    (G_lright : Has P w K mg base 23 "_law_right" ["_law_web", "_law_names"] (spRightAll K)) (G_lnames_by : Has P w K mg base 3 "_law_names_by" ["_law_pen", "_law_many"] (spNamesBy K)) (G_roots_begun : Has P w K mg base 20 "roots_begun" ["web", "begun"] (spRootsBegun K)) :
    FnOk P w K mg base CX0 24 fl fld ["_law_script"] (spLaw K) := by
  refine FL.ok sc_law (fun vs H Q E h => ?_) (fun cdv A outer s H vs Q E hr h => ?_)
  · obtain ⟨a, is, rfl, _⟩ := h
    rfl
  · obtain ⟨a, is, rfl, hs, hlen, q⟩ := h
    refine ⟨_, (pss_cons (ps_for PassesOwn.never rfl (kpiL K (pe_op op_cat (pe_lst (pa_cons (pe_own G_lcell_at (hr.mono (by omega)) (pa_cons (pv 0) (pa_cons pe_int pa_nil))) pa_nil)) (pe_slice (kSlL K) (pv 0) (po_some pe_int) (po_some pe_int)))) (pg_name (i := 1) sc_law.nd rfl (Or.inl rfl))
        (pss_cons (ps_set (i := 2) sc_law.nd rfl (Or.inl rfl) (pe_own G_lpen_of (hr.mono (by omega)) (pa_cons (pv 1) pa_nil)))
        (pss_cons (ps_set (i := 3) sc_law.nd rfl (Or.inr rfl) (pe_own G_lweb_by (hr.mono (by omega)) (pa_cons (pv 2) pa_nil)))
        (pss_cons (ps_set (i := 4) sc_law.nd rfl (Or.inl rfl) (pe_own G_two_step (hr.mono (by omega)) (pa_cons (pv 3) pa_nil)))
        (pss_cons (ps_if (PW.pt (pw_and (pt_cmpR op_lt (pe_callB (kLen K) (by rfl) T.len (by decide +kernel) (pa_cons (pe_ix (kIxT K) (pv 3) pe_int (fun _ _ => rfl)) pa_nil)) pe_int (nomark _)) (pw_and1 (pt_not (pt_val (pe_own G_lright (hr.mono (by omega)) (pa_cons (pv 3) (pa_cons (pe_own G_lnames_by (hr.mono (by omega)) (pa_cons (pv 2) (pa_cons (pe_ix (kIxT K) (pv 3) pe_int (fun _ _ => rfl)) pa_nil))) pa_nil))))))))
          (pss_one (ps_ret pe_bl))
          pss_nil)
        (pss_cons (ps_set (i := 5) sc_law.nd rfl (Or.inl rfl) (pe_callTy (kTupleOf K) (by rfl) T.tuple (by decide +kernel) (pa_cons (pe_lc (own := [("_law_tie", 6)]) rfl sc_law.nd (kpiT K (pe_ix (kIxT K) (pv 4) pe_int (fun _ _ => rfl))) (blkOk_by (own := [("_law_tie", 6)]) (N := ["_law_script", "_law_cell", "_law_pen", "_law_web", "_law_steps_here", "_law_held", "_law_tie"]) (sc := defScope s_law) (by decide +kernel)) (fun _ _ _ _ _ => (pg_name (i := 6) sc_law.nd rfl (Or.inl rfl))) (fun _ _ _ _ _ => pts_nil) (fun _ _ _ _ _ => (pe_cmpR (kInDT K (units1 hr)) (pv 6) (pe_ix (kIxT K) (pv 3) pe_int (fun _ _ => rfl)) (by rfl)))) pa_nil)))
        (pss_one (ps_if (PW.pt (pw_and (pt_cmpR op_lt (pe_callB (kLen K) (by rfl) T.len (by decide +kernel) (pa_cons (pe_ix (kIxT K) (pv 4) pe_int (fun _ _ => rfl)) pa_nil)) pe_int (nomark _)) (pw_and1 (pt_cmpR op_ne (pe_own G_roots_begun (hr.mono (by omega)) (pa_cons (pv 4) (pa_cons (pv 5) pa_nil))) pe_int (nomark _)))))
          (pss_one (ps_ret pe_bl))
          pss_nil))))))))
      (pss_one (ps_ret pe_bl))), ?_⟩
    -- [cell_at(script, 0)] + script[1:2]
    refine ⟨_, rfl, a, is, 0, rfl, hs, fun c0 => ⟨szs (by simp), fun l1 hl1 => ?_⟩⟩
    have s1 := same_new (o := .lst [V.int c0]) hl1
    refine ⟨_, rfl, _, rfl, _, rfl, a, _, rfl, s1.seq hs, fun l2 hl2 => ?_⟩
    have s2 := s1.trans (same_new (o := .lst (cutV (is.map V.int) (some 1) (some 2))) hl2)
    have ecut : ∃ cs : List Int, cutV (is.map V.int) (some 1) (some 2) = cs.map V.int ∧ cs.length ≤ 100000 := by
      unfold cutV
      rw [← List.map_drop, ← List.map_take]
      refine ⟨_, rfl, ?_⟩
      rw [List.length_take, List.length_drop]
      omega
    obtain ⟨cs, ecs, hcs⟩ := ecut
    refine ⟨l1, l2, [V.int c0], _, rfl, rfl, same_new hl2 _ _ upd_same, upd_same, by rw [ecs, List.length_map, sizeLine_eq]; simp; omega, fun L hL => ?_⟩
    rw [ecs] at hL ⊢
    rw [ecs] at s2
    have s3 := s2.trans (same_new (o := .lst ([V.int c0] ++ cs.map V.int)) hL)
    generalize hH0 : upd (upd (upd H l1 (.lst [V.int c0])) l2 (.lst (cs.map V.int))) L (.lst ([V.int c0] ++ cs.map V.int)) = H0 at s3 ⊢
    have hL0 : H0 L = some (.lst ((c0 :: cs).map V.int)) := by rw [← hH0, upd_same]; rfl
    clear hH0
    refine ⟨L, rfl, ⟨_, SqL.of hL0⟩, for_src (ts := c0 :: cs) (RI := fun _ v i => v = .int i) (src_lst (Ok := fun H' => Same H0 H') fun H' s => ⟨_, SqL.of (s _ _ hL0), paired_self (F := fun v i => v = V.int i) (fun _ => rfl) _⟩)
      (fun i σ H' => ∃ (y1 y2 y3 y4 y5 y6 : Option V), σ = [some (.ref a), y1, y2, y3, y4, y5, y6] ∧ Same H0 H') (fun _ _ _ h => by obtain ⟨_, _, _, _, _, _, _, s⟩ := h; exact s) ⟨_, _, _, _, _, _, rfl, Same.refl _⟩ (fun i c cv σ H1 H2 ec hPv s4 hc => ?_) (fun σ H1 hPv => ?_)⟩
    · obtain ⟨y1, y2, y3, y4, y5, y6, rfl, s03⟩ := hPv
      obtain rfl : cv = .int c := hc
      have s05 := s03.trans s4
      -- pen
      refine ⟨_, rfl, c, rfl, fun pn i1 i2 i3 hpn => ?_⟩
      have hpn0 : H0 pn = none := s05.free hpn
      have pen6 : IsPen (upd H2 pn (.lst [.int i1, .int i2, .int i3])) pn := ⟨_, _, _, upd_same⟩
      -- web
      refine ⟨_, rfl, pn, rfl, pen6, fun H3 u W p3 hw g => ?_⟩
      have out : ∀ {H'}, PenStep pn (upd H2 pn (.lst [.int i1, .int i2, .int i3])) H' → Same H0 H' := fun p b o e => by
        have h1 := s05 _ _ e
        refine p.but b o (ne_of_none e hpn0) ?_
        rw [upd_ne (ne_of_none e hpn0)]
        exact h1
      -- steps_here
      refine ⟨_, rfl, u, W, rfl, hw, g, fun H4 u2 s4 hw4 => ?_⟩
      have p4 := p3.same s4
      have hw0 := hw.k (tk_same s4)
      dsimp only
      refine seq_mid (fun σ H' => ∃ y5 y6, σ = [some (.ref a), some (.int c), some (.ref pn), some u, some u2, y5, y6] ∧ PenStep pn H4 H') (fun σ H5 hM => ?_) (fun nx hnx => ?_)
      · obtain ⟨y5, y6, rfl, p5⟩ := hM
        have k5 := p5.tk p4.pen
        have hw5 := hw0.k k5
        have hu5 := hw4.k k5
        have gs := sq_good g
        have hu0 := hu5
        obtain ⟨b2, tu2, rfl, hb2, tb2, xs2, rfl, hT2, hP2⟩ := hu0
        obtain ⟨b, tu, rfl, hb, tb, xs, rfl, hT, hP⟩ := hw5
        refine ⟨_, rfl, b2, _, 1, _, rfl, rfl, hb2, rfl, tb2, rfl, ⟨xs2, hT2⟩, fun D hD => ?_⟩
        refine lc_pure (ts := (sq W).2) (RI := IsTie K) (src_tup fun H' s => ⟨xs2, (tk_same s).seq hT2, ties_k (tk_same s) hP2⟩) hD IsBool (fun e => some (W.2.contains e)) (fun j e ev H6 H7 ee c s r => ?_) (fun acc H6 s6 hacc hpa => ?_)
        · have sH := c.same.trans s
          refine ⟨rfl, yesT ⟨_, rfl, _, rfl, b, _, 1, _, rfl, rfl, (tk_same sH).seq hb, rfl, eTie e, W.2.map eTie, r.dp, (IsTies.k (tk_same sH) ⟨tb, xs, rfl, hT, hP⟩).dp, sh_tie e, sh_ties _, ?_⟩⟩
          rw [any_tie]
          exact comp_add c hD ee s rfl (show IsBool _ _ _ from rfl) (fun _ _ _ _ _ h => h) (by have := gs.len; omega)
        · rw [List.filterMap_eq_map' (f := fun e : Tie => W.2.contains e)] at hpa
          rw [bools_of (K := K) hpa] at hacc
          refine ⟨D, _, rfl, .inl ⟨SqL.of hacc, fun hl hhl => ?_⟩⟩
          have s7 := s6.trans (same_new (o := .tup (((sq W).2.map fun e => W.2.contains e).map V.bl)) hhl)
          have p7 := p4.trans (p5.same s7)
          have fin : Same H0 (upd H6 hl (.tup (((sq W).2.map fun e => W.2.contains e).map V.bl))) := out p7
          refine ⟨_, rfl, b2, _, 1, _, rfl, rfl, (tk_same s7).seq hb2, rfl, tb2, xs2, rfl, .inr ((tk_same s7).seq hT2), _, _, rfl, rfl, _, rfl, ite2 (fun h13 => ?_) (fun _ => iteF ⟨_, _, _, _, _, _, rfl, fin⟩)⟩
          have h12 : (sq W).2.length ≤ 12 := by
            have := of_decide_eq_true h13
            rw [hP2.length] at this
            omega
          refine ⟨_, rfl, _, rfl, .ref b2, .ref hl, sq W, (sq W).2.map fun e => W.2.contains e, rfl, hu5.k (tk_same s7), gs, h12, ⟨hl, rfl, SqT.of upd_same⟩, by rw [List.length_map]; exact Nat.le_refl _, fun H8 s8 => ⟨rfl, _, rfl, iteFo ?_ ⟨_, _, _, _, _, _, rfl, fin.trans s8⟩⟩⟩
          rw [sq_root g]
          rfl
      · obtain ⟨b, tu, rfl, hb, tb, xs, rfl, hT, hP⟩ := hw0
        refine ⟨_, rfl, b, _, 1, _, rfl, rfl, hb, rfl, tb, xs, rfl, .inr hT, _, _, rfl, rfl, _, rfl, ite2 (fun h13 => ?_) (fun _ => iteF (hnx _ _ ⟨_, _, rfl, .of p4.pen (Same.refl _)⟩))⟩
        have h12 : W.2.length ≤ 12 := by
          have := of_decide_eq_true h13
          rw [hP.length] at this
          omega
        refine ⟨_, rfl, _, rfl, _, rfl, b, _, 0, _, rfl, rfl, hb, rfl, pn, W.1, rfl, p4.pen, g.lo, g.hi, fun H5 un names p5 hun hpm => ?_⟩
        exact ⟨.ref b, un, W, names, rfl, (hw.k (tk_same s4)).k (p5.tk p4.pen), g, h12, hun, hpm, fun H6 s6 => ⟨_, rfl, iteF (hnx _ _ ⟨_, _, rfl, p5.same s6⟩)⟩⟩
    · obtain ⟨y1, y2, y3, y4, y5, y6, rfl, s03⟩ := hPv
      exact q _ (s3.trans s03)
end
end Rw
end
section
set_option maxRecDepth 100000
set_option maxHeartbeats 4000000
/-! What the top has written; the law's own head. -/
namespace Rw
open PySem PySem.Spec PyProof.Rows L2
theorem stands_mk {K : PySem.W.Frag} {h : Heap} {mg : Str → Option Value} (X : K.In h) (G : h.Ns mainGlobals mg) (x : Str) (st : Stmt) (ps : List Str) {f : Addr} {od an : Option Addr} {sl : Array (Option Value)} {oc kV dc pm cd ct : Value}
    (a : PySem.W.nsIn K mainGlobals x = some (some (.ref f))) (l : K.lookup f = some ⟨oc, od, .func (PySem.W.fnOf x x (defArgs st) (defBody st) (defScope st) .none kV dc pm an cd ct), sl⟩) (c : PySem.W.codeIn K cd x = true) (k : PySem.W.keepIn K (.ref f) = true)
    (b : ∀ (kV doc pm : Value) (an : Option Addr) (cdv ct : Value) (us : List Value), us.length = ps.length → bindArgs (PySem.W.fnOf x x (defArgs st) (defBody st) (defScope st) .none kV doc pm an cdv ct) ⟨us, []⟩ = pure (ps.zip us)) : Stands K mg x st ps :=
  ⟨f, _, PySem.W.mg_of X G a, fun_mk l c k, (fun_mk l c k).binds b⟩
theorem all_mk {l : PySem.W.OpenLaw} {w : World} {K : PySem.W.Frag} {h : Heap} {mg : Str → Option Value} {fa f0 f1 f2 f3 f4 f5 f6 f7 f8 f9 f10 f11 f12 f13 f14 f15 f16 f17 f18 f19 f20 f21 f22 f23 f24 f25 f26 f27 f28 f29 f30 f31 f32 f33 f34 f35 f36 f37 f38 f39 f40 f41 f42 : Addr} (X : K.In h) (G : h.Ns mainGlobals mg) (hfa : mg "law" = some (.ref fa))
    {od0 an0 od1 an1 od2 an2 od3 an3 od4 an4 od5 an5 od6 an6 od7 an7 od8 an8 od9 an9 od10 an10 od11 an11 od12 an12 od13 an13 od14 an14 od15 an15 od16 an16 od17 an17 od18 an18 od19 an19 od20 an20 od21 an21 od22 an22 od23 an23 od24 an24 od25 an25 od26 an26 od27 an27 od28 an28 od29 an29 od30 an30 od31 an31 od32 an32 od33 an33 od34 an34 od35 an35 od36 an36 od37 an37 od38 an38 od39 an39 od40 an40 od41 an41 od42 an42 : Option Addr} {sl0 sl1 sl2 sl3 sl4 sl5 sl6 sl7 sl8 sl9 sl10 sl11 sl12 sl13 sl14 sl15 sl16 sl17 sl18 sl19 sl20 sl21 sl22 sl23 sl24 sl25 sl26 sl27 sl28 sl29 sl30 sl31 sl32 sl33 sl34 sl35 sl36 sl37 sl38 sl39 sl40 sl41 sl42 : Array (Option Value)} {oc0 kV0 dc0 pm0 cd0 ct0 oc1 kV1 dc1 pm1 cd1 ct1 oc2 kV2 dc2 pm2 cd2 ct2 oc3 kV3 dc3 pm3 cd3 ct3 oc4 kV4 dc4 pm4 cd4 ct4 oc5 kV5 dc5 pm5 cd5 ct5 oc6 kV6 dc6 pm6 cd6 ct6 oc7 kV7 dc7 pm7 cd7 ct7 oc8 kV8 dc8 pm8 cd8 ct8 oc9 kV9 dc9 pm9 cd9 ct9 oc10 kV10 dc10 pm10 cd10 ct10 oc11 kV11 dc11 pm11 cd11 ct11 oc12 kV12 dc12 pm12 cd12 ct12 oc13 kV13 dc13 pm13 cd13 ct13 oc14 kV14 dc14 pm14 cd14 ct14 oc15 kV15 dc15 pm15 cd15 ct15 oc16 kV16 dc16 pm16 cd16 ct16 oc17 kV17 dc17 pm17 cd17 ct17 oc18 kV18 dc18 pm18 cd18 ct18 oc19 kV19 dc19 pm19 cd19 ct19 oc20 kV20 dc20 pm20 cd20 ct20 oc21 kV21 dc21 pm21 cd21 ct21 oc22 kV22 dc22 pm22 cd22 ct22 oc23 kV23 dc23 pm23 cd23 ct23 oc24 kV24 dc24 pm24 cd24 ct24 oc25 kV25 dc25 pm25 cd25 ct25 oc26 kV26 dc26 pm26 cd26 ct26 oc27 kV27 dc27 pm27 cd27 ct27 oc28 kV28 dc28 pm28 cd28 ct28 oc29 kV29 dc29 pm29 cd29 ct29 oc30 kV30 dc30 pm30 cd30 ct30 oc31 kV31 dc31 pm31 cd31 ct31 oc32 kV32 dc32 pm32 cd32 ct32 oc33 kV33 dc33 pm33 cd33 ct33 oc34 kV34 dc34 pm34 cd34 ct34 oc35 kV35 dc35 pm35 cd35 ct35 oc36 kV36 dc36 pm36 cd36 ct36 oc37 kV37 dc37 pm37 cd37 ct37 oc38 kV38 dc38 pm38 cd38 ct38 oc39 kV39 dc39 pm39 cd39 ct39 oc40 kV40 dc40 pm40 cd40 ct40 oc41 kV41 dc41 pm41 cd41 ct41 oc42 kV42 dc42 pm42 cd42 ct42 : Value} {tk1 tk2 : Tok}
    (a0 : PySem.W.nsIn K mainGlobals "nears" = some (some (.ref f0))) (l0 : K.lookup f0 = some ⟨oc0, od0, .func (PySem.W.fnOf "nears" "nears" (defArgs s_nears) (defBody s_nears) (defScope s_nears) .none kV0 dc0 pm0 an0 cd0 ct0), sl0⟩) (c0 : PySem.W.codeIn K cd0 "nears" = true) (k0 : PySem.W.keepIn K (.ref f0) = true)
    (a1 : PySem.W.nsIn K mainGlobals "fars" = some (some (.ref f1))) (l1 : K.lookup f1 = some ⟨oc1, od1, .func (PySem.W.fnOf "fars" "fars" (defArgs s_fars) (defBody s_fars) (defScope s_fars) .none kV1 dc1 pm1 an1 cd1 ct1), sl1⟩) (c1 : PySem.W.codeIn K cd1 "fars" = true) (k1 : PySem.W.keepIn K (.ref f1) = true)
    (a2 : PySem.W.nsIn K mainGlobals "stepped" = some (some (.ref f2))) (l2 : K.lookup f2 = some ⟨oc2, od2, .func (PySem.W.fnOf "stepped" "stepped" (defArgs s_stepped) (defBody s_stepped) (defScope s_stepped) .none kV2 dc2 pm2 an2 cd2 ct2), sl2⟩) (c2 : PySem.W.codeIn K cd2 "stepped" = true) (k2 : PySem.W.keepIn K (.ref f2) = true)
    (a3 : PySem.W.nsIn K mainGlobals "two_step" = some (some (.ref f3))) (l3 : K.lookup f3 = some ⟨oc3, od3, .func (PySem.W.fnOf "two_step" "two_step" (defArgs s_two_step) (defBody s_two_step) (defScope s_two_step) .none kV3 dc3 pm3 an3 cd3 ct3), sl3⟩) (c3 : PySem.W.codeIn K cd3 "two_step" = true) (k3 : PySem.W.keepIn K (.ref f3) = true)
    (a4 : PySem.W.nsIn K mainGlobals "is_still" = some (some (.ref f4))) (l4 : K.lookup f4 = some ⟨oc4, od4, .func (PySem.W.fnOf "is_still" "is_still" (defArgs s_is_still) (defBody s_is_still) (defScope s_is_still) .none kV4 dc4 pm4 an4 cd4 ct4), sl4⟩) (c4 : PySem.W.codeIn K cd4 "is_still" = true) (k4 : PySem.W.keepIn K (.ref f4) = true)
    (a5 : PySem.W.nsIn K mainGlobals "is_whole" = some (some (.ref f5))) (l5 : K.lookup f5 = some ⟨oc5, od5, .func (PySem.W.fnOf "is_whole" "is_whole" (defArgs s_is_whole) (defBody s_is_whole) (defScope s_is_whole) .none kV5 dc5 pm5 an5 cd5 ct5), sl5⟩) (c5 : PySem.W.codeIn K cd5 "is_whole" = true) (k5 : PySem.W.keepIn K (.ref f5) = true)
    (a6 : PySem.W.nsIn K mainGlobals "names_good" = some (some (.ref f6))) (l6 : K.lookup f6 = some ⟨oc6, od6, .func (PySem.W.fnOf "names_good" "names_good" (defArgs s_names_good) (defBody s_names_good) (defScope s_names_good) .none kV6 dc6 pm6 an6 cd6 ct6), sl6⟩) (c6 : PySem.W.codeIn K cd6 "names_good" = true) (k6 : PySem.W.keepIn K (.ref f6) = true)
    (a7 : PySem.W.nsIn K mainGlobals "named_by" = some (some (.ref f7))) (l7 : K.lookup f7 = some ⟨oc7, od7, .func (PySem.W.fnOf "named_by" "named_by" (defArgs s_named_by) (defBody s_named_by) (defScope s_named_by) .none kV7 dc7 pm7 an7 cd7 ct7), sl7⟩) (c7 : PySem.W.codeIn K cd7 "named_by" = true) (k7 : PySem.W.keepIn K (.ref f7) = true)
    (a8 : PySem.W.nsIn K mainGlobals "renamed" = some (some (.ref f8))) (l8 : K.lookup f8 = some ⟨oc8, od8, .func (PySem.W.fnOf "renamed" "renamed" (defArgs s_renamed) (defBody s_renamed) (defScope s_renamed) .none kV8 dc8 pm8 an8 cd8 ct8), sl8⟩) (c8 : PySem.W.codeIn K cd8 "renamed" = true) (k8 : PySem.W.keepIn K (.ref f8) = true)
    (a9 : PySem.W.nsIn K mainGlobals "masks_of" = some (some (.ref f9))) (l9 : K.lookup f9 = some ⟨oc9, od9, .func (PySem.W.fnOf "masks_of" "masks_of" (defArgs s_masks_of) (defBody s_masks_of) (defScope s_masks_of) .none kV9 dc9 pm9 an9 cd9 ct9), sl9⟩) (c9 : PySem.W.codeIn K cd9 "masks_of" = true) (k9 : PySem.W.keepIn K (.ref f9) = true)
    (a10 : PySem.W.nsIn K mainGlobals "lone_masks" = some (some (.ref f10))) (l10 : K.lookup f10 = some ⟨oc10, od10, .func (PySem.W.fnOf "lone_masks" "lone_masks" (defArgs s_lone_masks) (defBody s_lone_masks) (defScope s_lone_masks) .none kV10 dc10 pm10 an10 cd10 ct10), sl10⟩) (c10 : PySem.W.codeIn K cd10 "lone_masks" = true) (k10 : PySem.W.keepIn K (.ref f10) = true)
    (a11 : PySem.W.nsIn K mainGlobals "goes" = some (some (.ref f11))) (l11 : K.lookup f11 = some ⟨oc11, od11, .func (PySem.W.fnOf "goes" "goes" (defArgs s_goes) (defBody s_goes) (defScope s_goes) .none kV11 dc11 pm11 an11 cd11 ct11), sl11⟩) (c11 : PySem.W.codeIn K cd11 "goes" = true) (k11 : PySem.W.keepIn K (.ref f11) = true)
    (a12 : PySem.W.nsIn K mainGlobals "roots_from" = some (some (.ref f12))) (l12 : K.lookup f12 = some ⟨oc12, od12, .func (PySem.W.fnOf "roots_from" "roots_from" (defArgs s_roots_from) (defBody s_roots_from) (defScope s_roots_from) .none kV12 dc12 pm12 an12 cd12 ct12), sl12⟩) (c12 : PySem.W.codeIn K cd12 "roots_from" = true) (k12 : PySem.W.keepIn K (.ref f12) = true)
    (a13 : PySem.W.nsIn K mainGlobals "roots_by" = some (some (.ref f13))) (l13 : K.lookup f13 = some ⟨oc13, od13, .func (PySem.W.fnOf "roots_by" "roots_by" (defArgs s_roots_by) (defBody s_roots_by) (defScope s_roots_by) .none kV13 dc13 pm13 an13 cd13 ct13), sl13⟩) (c13 : PySem.W.codeIn K cd13 "roots_by" = true) (k13 : PySem.W.keepIn K (.ref f13) = true)
    (a14 : PySem.W.nsIn K mainGlobals "web_by" = some (some (.ref f14))) (l14 : K.lookup f14 = some ⟨oc14, od14, .func (PySem.W.fnOf "web_by" "web_by" (defArgs s_web_by) (defBody s_web_by) (defScope s_web_by) .none kV14 dc14 pm14 an14 cd14 ct14), sl14⟩) (c14 : PySem.W.codeIn K cd14 "web_by" = true) (k14 : PySem.W.keepIn K (.ref f14) = true)
    (a15 : PySem.W.nsIn K mainGlobals "roots_of" = some (some (.ref f15))) (l15 : K.lookup f15 = some ⟨oc15, od15, .func (PySem.W.fnOf "roots_of" "roots_of" (defArgs s_roots_of) (defBody s_roots_of) (defScope s_roots_of) .none kV15 dc15 pm15 an15 cd15 ct15), sl15⟩) (c15 : PySem.W.codeIn K cd15 "roots_of" = true) (k15 : PySem.W.keepIn K (.ref f15) = true)
    (a16 : PySem.W.nsIn K mainGlobals "check_ties" = some (some (.ref f16))) (l16 : K.lookup f16 = some ⟨oc16, od16, .func (PySem.W.fnOf "check_ties" "check_ties" (defArgs s_check_ties) (defBody s_check_ties) (defScope s_check_ties) .none kV16 dc16 pm16 an16 cd16 ct16), sl16⟩) (c16 : PySem.W.codeIn K cd16 "check_ties" = true) (k16 : PySem.W.keepIn K (.ref f16) = true)
    (a17 : PySem.W.nsIn K mainGlobals "roots_many" = some (some (.ref f17))) (l17 : K.lookup f17 = some ⟨oc17, od17, .func (PySem.W.fnOf "roots_many" "roots_many" (defArgs s_roots_many) (defBody s_roots_many) (defScope s_roots_many) .none kV17 dc17 pm17 an17 cd17 ct17), sl17⟩) (c17 : PySem.W.codeIn K cd17 "roots_many" = true) (k17 : PySem.W.keepIn K (.ref f17) = true)
    (a18 : PySem.W.nsIn K mainGlobals "first_of" = some (some (.ref f18))) (l18 : K.lookup f18 = some ⟨oc18, od18, .func (PySem.W.fnOf "first_of" "first_of" (defArgs s_first_of) (defBody s_first_of) (defScope s_first_of) .none kV18 dc18 pm18 an18 cd18 ct18), sl18⟩) (c18 : PySem.W.codeIn K cd18 "first_of" = true) (k18 : PySem.W.keepIn K (.ref f18) = true)
    (a19 : PySem.W.nsIn K mainGlobals "first_root" = some (some (.ref f19))) (l19 : K.lookup f19 = some ⟨oc19, od19, .func (PySem.W.fnOf "first_root" "first_root" (defArgs s_first_root) (defBody s_first_root) (defScope s_first_root) .none kV19 dc19 pm19 an19 cd19 ct19), sl19⟩) (c19 : PySem.W.codeIn K cd19 "first_root" = true) (k19 : PySem.W.keepIn K (.ref f19) = true)
    (a20 : PySem.W.nsIn K mainGlobals "listed" = some (some (.ref f20))) (l20 : K.lookup f20 = some ⟨oc20, od20, .func (PySem.W.fnOf "listed" "listed" (defArgs s_listed) (defBody s_listed) (defScope s_listed) .none kV20 dc20 pm20 an20 cd20 ct20), sl20⟩) (c20 : PySem.W.codeIn K cd20 "listed" = true) (k20 : PySem.W.keepIn K (.ref f20) = true)
    (a21 : PySem.W.nsIn K mainGlobals "all_roots" = some (some (.ref f21))) (l21 : K.lookup f21 = some ⟨oc21, od21, .func (PySem.W.fnOf "all_roots" "all_roots" (defArgs s_all_roots) (defBody s_all_roots) (defScope s_all_roots) .none kV21 dc21 pm21 an21 cd21 ct21), sl21⟩) (c21 : PySem.W.codeIn K cd21 "all_roots" = true) (k21 : PySem.W.keepIn K (.ref f21) = true)
    (a22 : PySem.W.nsIn K mainGlobals "ties_tally" = some (some (.ref f22))) (l22 : K.lookup f22 = some ⟨oc22, od22, .func (PySem.W.fnOf "ties_tally" "ties_tally" (defArgs s_ties_tally) (defBody s_ties_tally) (defScope s_ties_tally) .none kV22 dc22 pm22 an22 cd22 ct22), sl22⟩) (c22 : PySem.W.codeIn K cd22 "ties_tally" = true) (k22 : PySem.W.keepIn K (.ref f22) = true)
    (a23 : PySem.W.nsIn K mainGlobals "fewest_of" = some (some (.ref f23))) (l23 : K.lookup f23 = some ⟨oc23, od23, .func (PySem.W.fnOf "fewest_of" "fewest_of" (defArgs s_fewest_of) (defBody s_fewest_of) (defScope s_fewest_of) .none kV23 dc23 pm23 an23 cd23 ct23), sl23⟩) (c23 : PySem.W.codeIn K cd23 "fewest_of" = true) (k23 : PySem.W.keepIn K (.ref f23) = true)
    (a24 : PySem.W.nsIn K mainGlobals "fewest_root" = some (some (.ref f24))) (l24 : K.lookup f24 = some ⟨oc24, od24, .func (PySem.W.fnOf "fewest_root" "fewest_root" (defArgs s_fewest_root) (defBody s_fewest_root) (defScope s_fewest_root) .none kV24 dc24 pm24 an24 cd24 ct24), sl24⟩) (c24 : PySem.W.codeIn K cd24 "fewest_root" = true) (k24 : PySem.W.keepIn K (.ref f24) = true)
    (a25 : PySem.W.nsIn K mainGlobals "must_have" = some (some (.ref f25))) (l25 : K.lookup f25 = some ⟨oc25, od25, .func (PySem.W.fnOf "must_have" "must_have" (defArgs s_must_have) (defBody s_must_have) (defScope s_must_have) .none kV25 dc25 pm25 an25 cd25 ct25), sl25⟩) (c25 : PySem.W.codeIn K cd25 "must_have" = true) (k25 : PySem.W.keepIn K (.ref f25) = true)
    (a26 : PySem.W.nsIn K mainGlobals "may_have" = some (some (.ref f26))) (l26 : K.lookup f26 = some ⟨oc26, od26, .func (PySem.W.fnOf "may_have" "may_have" (defArgs s_may_have) (defBody s_may_have) (defScope s_may_have) .none kV26 dc26 pm26 an26 cd26 ct26), sl26⟩) (c26 : PySem.W.codeIn K cd26 "may_have" = true) (k26 : PySem.W.keepIn K (.ref f26) = true)
    (a27 : PySem.W.nsIn K mainGlobals "check_begun" = some (some (.ref f27))) (l27 : K.lookup f27 = some ⟨oc27, od27, .func (PySem.W.fnOf "check_begun" "check_begun" (defArgs s_check_begun) (defBody s_check_begun) (defScope s_check_begun) .none kV27 dc27 pm27 an27 cd27 ct27), sl27⟩) (c27 : PySem.W.codeIn K cd27 "check_begun" = true) (k27 : PySem.W.keepIn K (.ref f27) = true)
    (a28 : PySem.W.nsIn K mainGlobals "roots_begun" = some (some (.ref f28))) (l28 : K.lookup f28 = some ⟨oc28, od28, .func (PySem.W.fnOf "roots_begun" "roots_begun" (defArgs s_roots_begun) (defBody s_roots_begun) (defScope s_roots_begun) .none kV28 dc28 pm28 an28 cd28 ct28), sl28⟩) (c28 : PySem.W.codeIn K cd28 "roots_begun" = true) (k28 : PySem.W.keepIn K (.ref f28) = true)
    (a29 : PySem.W.nsIn K mainGlobals "next_truths" = some (some (.ref f29))) (l29 : K.lookup f29 = some ⟨oc29, od29, .func (PySem.W.fnOf "next_truths" "next_truths" (defArgs s_next_truths) (defBody s_next_truths) (defScope s_next_truths) .none kV29 dc29 pm29 an29 cd29 ct29), sl29⟩) (c29 : PySem.W.codeIn K cd29 "next_truths" = true) (k29 : PySem.W.keepIn K (.ref f29) = true)
    (a30 : PySem.W.nsIn K mainGlobals "_law_cell_at" = some (some (.ref f30))) (l30 : K.lookup f30 = some ⟨oc30, od30, .func (PySem.W.fnOf "_law_cell_at" "_law_cell_at" (defArgs s_lcell_at) (defBody s_lcell_at) (defScope s_lcell_at) .none kV30 dc30 pm30 an30 cd30 ct30), sl30⟩) (c30 : PySem.W.codeIn K cd30 "_law_cell_at" = true) (k30 : PySem.W.keepIn K (.ref f30) = true)
    (a31 : PySem.W.nsIn K mainGlobals "_law_next" = some (some (.ref f31))) (l31 : K.lookup f31 = some ⟨oc31, od31, .func (PySem.W.fnOf "_law_next" "_law_next" (defArgs s_lnext) (defBody s_lnext) (defScope s_lnext) .none kV31 dc31 pm31 an31 cd31 ct31), sl31⟩) (c31 : PySem.W.codeIn K cd31 "_law_next" = true) (k31 : PySem.W.keepIn K (.ref f31) = true)
    (a32 : PySem.W.nsIn K mainGlobals "_law_pen_of" = some (some (.ref f32))) (l32 : K.lookup f32 = some ⟨oc32, od32, .func (PySem.W.fnOf "_law_pen_of" "_law_pen_of" (defArgs s_lpen_of) (defBody s_lpen_of) (defScope s_lpen_of) .none kV32 dc32 pm32 an32 cd32 ct32), sl32⟩) (c32 : PySem.W.codeIn K cd32 "_law_pen_of" = true) (k32 : PySem.W.keepIn K (.ref f32) = true)
    (a33 : PySem.W.nsIn K mainGlobals "_law_draw" = some (some (.ref f33))) (l33 : K.lookup f33 = some ⟨oc33, od33, .func (PySem.W.fnOf "_law_draw" "_law_draw" (defArgs s_ldraw) (defBody s_ldraw) (defScope s_ldraw) .none kV33 dc33 pm33 an33 cd33 ct33), sl33⟩) (c33 : PySem.W.codeIn K cd33 "_law_draw" = true) (k33 : PySem.W.keepIn K (.ref f33) = true)
    (a34 : PySem.W.nsIn K mainGlobals "_law_named" = some (some (.ref f34))) (l34 : K.lookup f34 = some ⟨oc34, od34, .func (PySem.W.fnOf "_law_named" "_law_named" (defArgs s_lnamed) (defBody s_lnamed) (defScope s_lnamed) .none kV34 dc34 pm34 an34 cd34 ct34), sl34⟩) (c34 : PySem.W.codeIn K cd34 "_law_named" = true) (k34 : PySem.W.keepIn K (.ref f34) = true)
    (a35 : PySem.W.nsIn K mainGlobals "_law_names_by" = some (some (.ref f35))) (l35 : K.lookup f35 = some ⟨oc35, od35, .func (PySem.W.fnOf "_law_names_by" "_law_names_by" (defArgs s_lnames_by) (defBody s_lnames_by) (defScope s_lnames_by) .none kV35 dc35 pm35 an35 cd35 ct35), sl35⟩) (c35 : PySem.W.codeIn K cd35 "_law_names_by" = true) (k35 : PySem.W.keepIn K (.ref f35) = true)
    (a36 : PySem.W.nsIn K mainGlobals "_law_far" = some (some (.ref f36))) (l36 : K.lookup f36 = some ⟨oc36, od36, .func (PySem.W.fnOf "_law_far" "_law_far" (defArgs s_lfar) (defBody s_lfar) (defScope s_lfar) .none kV36 dc36 pm36 an36 cd36 ct36), sl36⟩) (c36 : PySem.W.codeIn K cd36 "_law_far" = true) (k36 : PySem.W.keepIn K (.ref f36) = true)
    (a37 : PySem.W.nsIn K mainGlobals "_law_steps" = some (some (.ref f37))) (l37 : K.lookup f37 = some ⟨oc37, od37, .func (PySem.W.fnOf "_law_steps" "_law_steps" (defArgs s_lsteps) (defBody s_lsteps) (defScope s_lsteps) .none kV37 dc37 pm37 an37 cd37 ct37), sl37⟩) (c37 : PySem.W.codeIn K cd37 "_law_steps" = true) (k37 : PySem.W.keepIn K (.ref f37) = true)
    (a38 : PySem.W.nsIn K mainGlobals "_law_sparse_by" = some (some (.ref f38))) (l38 : K.lookup f38 = some ⟨oc38, od38, .func (PySem.W.fnOf "_law_sparse_by" "_law_sparse_by" (defArgs s_lsparse_by) (defBody s_lsparse_by) (defScope s_lsparse_by) .none kV38 dc38 pm38 an38 cd38 ct38), sl38⟩) (c38 : PySem.W.codeIn K cd38 "_law_sparse_by" = true) (k38 : PySem.W.keepIn K (.ref f38) = true)
    (a39 : PySem.W.nsIn K mainGlobals "_law_web_by" = some (some (.ref f39))) (l39 : K.lookup f39 = some ⟨oc39, od39, .func (PySem.W.fnOf "_law_web_by" "_law_web_by" (defArgs s_lweb_by) (defBody s_lweb_by) (defScope s_lweb_by) .none kV39 dc39 pm39 an39 cd39 ct39), sl39⟩) (c39 : PySem.W.codeIn K cd39 "_law_web_by" = true) (k39 : PySem.W.keepIn K (.ref f39) = true)
    (a40 : PySem.W.nsIn K mainGlobals "_law_listed_right" = some (some (.ref f40))) (l40 : K.lookup f40 = some ⟨oc40, od40, .func (PySem.W.fnOf "_law_listed_right" "_law_listed_right" (defArgs s_llisted_right) (defBody s_llisted_right) (defScope s_llisted_right) .none kV40 dc40 pm40 an40 cd40 ct40), sl40⟩) (c40 : PySem.W.codeIn K cd40 "_law_listed_right" = true) (k40 : PySem.W.keepIn K (.ref f40) = true)
    (a41 : PySem.W.nsIn K mainGlobals "_law_right" = some (some (.ref f41))) (l41 : K.lookup f41 = some ⟨oc41, od41, .func (PySem.W.fnOf "_law_right" "_law_right" (defArgs s_lright) (defBody s_lright) (defScope s_lright) .none kV41 dc41 pm41 an41 cd41 ct41), sl41⟩) (c41 : PySem.W.codeIn K cd41 "_law_right" = true) (k41 : PySem.W.keepIn K (.ref f41) = true)
    (a42 : PySem.W.nsIn K mainGlobals "law" = some (some (.ref f42))) (l42 : K.lookup f42 = some ⟨oc42, od42, .func (PySem.W.fnOf "law" "law" (defArgs s_law) (defBody s_law) (defScope s_law) .none kV42 dc42 pm42 an42 cd42 ct42), sl42⟩) (c42 : PySem.W.codeIn K cd42 "law" = true) (k42 : PySem.W.keepIn K (.ref f42) = true)
    (z0 : PySem.W.nsIn K mainGlobals "len" = some none) (z1 : PySem.W.nsIn K mainGlobals "range" = some none) (z2 : PySem.W.nsIn K mainGlobals "zip" = some none) (z3 : PySem.W.nsIn K mainGlobals "enumerate" = some none) (z4 : PySem.W.nsIn K mainGlobals "sorted" = some none) (z5 : PySem.W.nsIn K mainGlobals "list" = some none) (z6 : PySem.W.nsIn K mainGlobals "tuple" = some none) (z7 : PySem.W.nsIn K mainGlobals "set" = some none) (z8 : PySem.W.nsIn K mainGlobals "all" = some none) (z9 : PySem.W.nsIn K mainGlobals "any" = some none) (z10 : PySem.W.nsIn K mainGlobals "sum" = some none) (z11 : PySem.W.nsIn K mainGlobals "min" = some none) (z12 : PySem.W.nsIn K mainGlobals "max" = some none) (z13 : PySem.W.nsIn K mainGlobals "int" = some none) (z14 : PySem.W.nsIn K mainGlobals "bool" = some none) (z15 : PySem.W.nsIn K mainGlobals "isinstance" = some none)
    (m1 : PySem.W.nsIn K mainGlobals "MOST_TIES" = some (some (.int 12 tk1))) (m2 : PySem.W.nsIn K mainGlobals "MOST_LISTED" = some (some (.int 300 tk2))) :
    ∃ fd : FuncData, (∀ (s : Shared) (v : Value), BindsTo s fd ⟨[v], []⟩ [("_law_script", v)]) ∧ ∀ base : Heap, K.In base → base.Ns mainGlobals mg → FnOk l.prog w K mg base CX0 24 fa fd ["_law_script"] (spLaw K) := by
  have e := hfa.symm.trans (PySem.W.mg_of X G a42)
  cases e
  have T : Blt mg := ⟨PySem.W.mg_none_of X G z0, PySem.W.mg_none_of X G z1, PySem.W.mg_none_of X G z2, PySem.W.mg_none_of X G z3, PySem.W.mg_none_of X G z4, PySem.W.mg_none_of X G z5, PySem.W.mg_none_of X G z6, PySem.W.mg_none_of X G z7, PySem.W.mg_none_of X G z8, PySem.W.mg_none_of X G z9, PySem.W.mg_none_of X G z10, PySem.W.mg_none_of X G z11, PySem.W.mg_none_of X G z12, PySem.W.mg_none_of X G z13, PySem.W.mg_none_of X G z14, PySem.W.mg_none_of X G z15, ⟨_, PySem.W.mg_of X G m1⟩, ⟨_, PySem.W.mg_of X G m2⟩⟩
  have S_nears := stands_mk X G "nears" s_nears ["web", "place"] a0 l0 c0 k0 fun _ _ _ _ _ _ us hl => match us, hl with | [_, _], _ => rfl
  have S_fars := stands_mk X G "fars" s_fars ["web", "place"] a1 l1 c1 k1 fun _ _ _ _ _ _ us hl => match us, hl with | [_, _], _ => rfl
  have S_stepped := stands_mk X G "stepped" s_stepped ["web", "k"] a2 l2 c2 k2 fun _ _ _ _ _ _ us hl => match us, hl with | [_, _], _ => rfl
  have S_two_step := stands_mk X G "two_step" s_two_step ["web"] a3 l3 c3 k3 fun _ _ _ _ _ _ us hl => match us, hl with | [_], _ => rfl
  have S_is_still := stands_mk X G "is_still" s_is_still ["web"] a4 l4 c4 k4 fun _ _ _ _ _ _ us hl => match us, hl with | [_], _ => rfl
  have S_is_whole := stands_mk X G "is_whole" s_is_whole ["thing"] a5 l5 c5 k5 fun _ _ _ _ _ _ us hl => match us, hl with | [_], _ => rfl
  have S_names_good := stands_mk X G "names_good" s_names_good ["web", "thing"] a6 l6 c6 k6 fun _ _ _ _ _ _ us hl => match us, hl with | [_, _], _ => rfl
  have S_named_by := stands_mk X G "named_by" s_named_by ["web", "names"] a7 l7 c7 k7 fun _ _ _ _ _ _ us hl => match us, hl with | [_, _], _ => rfl
  have S_renamed := stands_mk X G "renamed" s_renamed ["web", "names"] a8 l8 c8 k8 fun _ _ _ _ _ _ us hl => match us, hl with | [_, _], _ => rfl
  have S_masks_of := stands_mk X G "masks_of" s_masks_of ["many", "ties"] a9 l9 c9 k9 fun _ _ _ _ _ _ us hl => match us, hl with | [_, _], _ => rfl
  have S_lone_masks := stands_mk X G "lone_masks" s_lone_masks ["web"] a10 l10 c10 k10 fun _ _ _ _ _ _ us hl => match us, hl with | [_], _ => rfl
  have S_goes := stands_mk X G "goes" s_goes ["web", "lone", "begun"] a11 l11 c11 k11 fun _ _ _ _ _ _ us hl => match us, hl with | [_, _, _], _ => rfl
  have S_roots_from := stands_mk X G "roots_from" s_roots_from ["web", "lone", "begun"] a12 l12 c12 k12 fun _ _ _ _ _ _ us hl => match us, hl with | [_, _, _], _ => rfl
  have S_roots_by := stands_mk X G "roots_by" s_roots_by ["web", "begun"] a13 l13 c13 k13 fun _ _ _ _ _ _ us hl => match us, hl with | [_, _], _ => rfl
  have S_web_by := stands_mk X G "web_by" s_web_by ["web", "truths"] a14 l14 c14 k14 fun _ _ _ _ _ _ us hl => match us, hl with | [_, _], _ => rfl
  have S_roots_of := stands_mk X G "roots_of" s_roots_of ["web"] a15 l15 c15 k15 fun _ _ _ _ _ _ us hl => match us, hl with | [_], _ => rfl
  have S_check_ties := stands_mk X G "check_ties" s_check_ties ["web"] a16 l16 c16 k16 fun _ _ _ _ _ _ us hl => match us, hl with | [_], _ => rfl
  have S_roots_many := stands_mk X G "roots_many" s_roots_many ["web"] a17 l17 c17 k17 fun _ _ _ _ _ _ us hl => match us, hl with | [_], _ => rfl
  have S_first_of := stands_mk X G "first_of" s_first_of ["some"] a18 l18 c18 k18 fun _ _ _ _ _ _ us hl => match us, hl with | [_], _ => rfl
  have S_first_root := stands_mk X G "first_root" s_first_root ["web"] a19 l19 c19 k19 fun _ _ _ _ _ _ us hl => match us, hl with | [_], _ => rfl
  have S_listed := stands_mk X G "listed" s_listed ["some"] a20 l20 c20 k20 fun _ _ _ _ _ _ us hl => match us, hl with | [_], _ => rfl
  have S_all_roots := stands_mk X G "all_roots" s_all_roots ["web"] a21 l21 c21 k21 fun _ _ _ _ _ _ us hl => match us, hl with | [_], _ => rfl
  have S_ties_tally := stands_mk X G "ties_tally" s_ties_tally ["web"] a22 l22 c22 k22 fun _ _ _ _ _ _ us hl => match us, hl with | [_], _ => rfl
  have S_fewest_of := stands_mk X G "fewest_of" s_fewest_of ["some"] a23 l23 c23 k23 fun _ _ _ _ _ _ us hl => match us, hl with | [_], _ => rfl
  have S_fewest_root := stands_mk X G "fewest_root" s_fewest_root ["web"] a24 l24 c24 k24 fun _ _ _ _ _ _ us hl => match us, hl with | [_], _ => rfl
  have S_must_have := stands_mk X G "must_have" s_must_have ["web"] a25 l25 c25 k25 fun _ _ _ _ _ _ us hl => match us, hl with | [_], _ => rfl
  have S_may_have := stands_mk X G "may_have" s_may_have ["web"] a26 l26 c26 k26 fun _ _ _ _ _ _ us hl => match us, hl with | [_], _ => rfl
  have S_check_begun := stands_mk X G "check_begun" s_check_begun ["web", "begun"] a27 l27 c27 k27 fun _ _ _ _ _ _ us hl => match us, hl with | [_, _], _ => rfl
  have S_roots_begun := stands_mk X G "roots_begun" s_roots_begun ["web", "begun"] a28 l28 c28 k28 fun _ _ _ _ _ _ us hl => match us, hl with | [_, _], _ => rfl
  have S_next_truths := stands_mk X G "next_truths" s_next_truths ["web", "begun"] a29 l29 c29 k29 fun _ _ _ _ _ _ us hl => match us, hl with | [_, _], _ => rfl
  have S_lcell_at := stands_mk X G "_law_cell_at" s_lcell_at ["_law_script", "_law_k"] a30 l30 c30 k30 fun _ _ _ _ _ _ us hl => match us, hl with | [_, _], _ => rfl
  have S_lnext := stands_mk X G "_law_next" s_lnext ["_law_seed"] a31 l31 c31 k31 fun _ _ _ _ _ _ us hl => match us, hl with | [_], _ => rfl
  have S_lpen_of := stands_mk X G "_law_pen_of" s_lpen_of ["_law_cell"] a32 l32 c32 k32 fun _ _ _ _ _ _ us hl => match us, hl with | [_], _ => rfl
  have S_ldraw := stands_mk X G "_law_draw" s_ldraw ["_law_pen", "_law_many"] a33 l33 c33 k33 fun _ _ _ _ _ _ us hl => match us, hl with | [_, _], _ => rfl
  have S_lnamed := stands_mk X G "_law_named" s_lnamed ["_law_web", "_law_names"] a34 l34 c34 k34 fun _ _ _ _ _ _ us hl => match us, hl with | [_, _], _ => rfl
  have S_lnames_by := stands_mk X G "_law_names_by" s_lnames_by ["_law_pen", "_law_many"] a35 l35 c35 k35 fun _ _ _ _ _ _ us hl => match us, hl with | [_, _], _ => rfl
  have S_lfar := stands_mk X G "_law_far" s_lfar ["_law_web"] a36 l36 c36 k36 fun _ _ _ _ _ _ us hl => match us, hl with | [_], _ => rfl
  have S_lsteps := stands_mk X G "_law_steps" s_lsteps ["_law_web", "_law_k"] a37 l37 c37 k37 fun _ _ _ _ _ _ us hl => match us, hl with | [_, _], _ => rfl
  have S_lsparse_by := stands_mk X G "_law_sparse_by" s_lsparse_by ["_law_pen"] a38 l38 c38 k38 fun _ _ _ _ _ _ us hl => match us, hl with | [_], _ => rfl
  have S_lweb_by := stands_mk X G "_law_web_by" s_lweb_by ["_law_pen"] a39 l39 c39 k39 fun _ _ _ _ _ _ us hl => match us, hl with | [_], _ => rfl
  have S_llisted_right := stands_mk X G "_law_listed_right" s_llisted_right ["_law_web", "_law_many"] a40 l40 c40 k40 fun _ _ _ _ _ _ us hl => match us, hl with | [_, _], _ => rfl
  have S_lright := stands_mk X G "_law_right" s_lright ["_law_web", "_law_names"] a41 l41 c41 k41 fun _ _ _ _ _ _ us hl => match us, hl with | [_, _], _ => rfl
  refine ⟨PySem.W.fnOf "law" "law" (defArgs s_law) (defBody s_law) (defScope s_law) .none kV42 dc42 pm42 an42 cd42 ct42, fun s v => .of_eq rfl, fun base _ _ => ?_⟩
  have G_nears := ok_nears (P := l.prog) (w := w) (base := base) S_nears T 
  have G_fars := ok_fars (P := l.prog) (w := w) (base := base) S_fars T G_nears
  have G_stepped := ok_stepped (P := l.prog) (w := w) (base := base) S_stepped T G_fars
  have G_two_step := ok_two_step (P := l.prog) (w := w) (base := base) S_two_step T G_stepped
  have G_is_still := ok_is_still (P := l.prog) (w := w) (base := base) S_is_still T G_two_step
  have G_is_whole := ok_is_whole (P := l.prog) (w := w) (base := base) S_is_whole T 
  have G_names_good := ok_names_good (P := l.prog) (w := w) (base := base) S_names_good T G_is_whole
  have G_named_by := ok_named_by (P := l.prog) (w := w) (base := base) S_named_by T 
  have G_renamed := ok_renamed (P := l.prog) (w := w) (base := base) S_renamed T G_names_good G_named_by
  have G_masks_of := ok_masks_of (P := l.prog) (w := w) (base := base) S_masks_of T 
  have G_lone_masks := ok_lone_masks (P := l.prog) (w := w) (base := base) S_lone_masks T G_masks_of
  have G_goes := ok_goes (P := l.prog) (w := w) (base := base) S_goes T G_masks_of
  have G_roots_from := fun d => ok_roots_from (P := l.prog) (w := w) (base := base) S_roots_from T G_goes d
  have G_roots_by := ok_roots_by (P := l.prog) (w := w) (base := base) S_roots_by T G_lone_masks G_roots_from
  have G_web_by := ok_web_by (P := l.prog) (w := w) (base := base) S_web_by T 
  have G_roots_of := ok_roots_of (P := l.prog) (w := w) (base := base) S_roots_of T G_roots_by G_web_by
  have G_check_ties := ok_check_ties (P := l.prog) (w := w) (base := base) S_check_ties T 
  have G_roots_many := ok_roots_many (P := l.prog) (w := w) (base := base) S_roots_many T G_check_ties G_roots_by
  have G_first_of := ok_first_of (P := l.prog) (w := w) (base := base) S_first_of T 
  have G_first_root := ok_first_root (P := l.prog) (w := w) (base := base) S_first_root T G_check_ties G_first_of G_roots_of
  have G_listed := ok_listed (P := l.prog) (w := w) (base := base) S_listed T 
  have G_all_roots := ok_all_roots (P := l.prog) (w := w) (base := base) S_all_roots T G_check_ties G_listed G_roots_of
  have G_ties_tally := ok_ties_tally (P := l.prog) (w := w) (base := base) S_ties_tally T G_check_ties G_roots_of
  have G_fewest_of := ok_fewest_of (P := l.prog) (w := w) (base := base) S_fewest_of T G_first_of
  have G_fewest_root := ok_fewest_root (P := l.prog) (w := w) (base := base) S_fewest_root T G_check_ties G_fewest_of G_roots_of
  have G_must_have := ok_must_have (P := l.prog) (w := w) (base := base) S_must_have T G_check_ties G_roots_of
  have G_may_have := ok_may_have (P := l.prog) (w := w) (base := base) S_may_have T G_check_ties G_roots_of
  have G_check_begun := ok_check_begun (P := l.prog) (w := w) (base := base) S_check_begun T 
  have G_roots_begun := ok_roots_begun (P := l.prog) (w := w) (base := base) S_roots_begun T G_check_ties G_check_begun G_roots_by
  have G_next_truths := ok_next_truths (P := l.prog) (w := w) (base := base) S_next_truths T G_check_ties G_check_begun G_roots_by
  have G_lcell_at := ok_lcell_at (P := l.prog) (w := w) (base := base) S_lcell_at T 
  have G_lnext := ok_lnext (P := l.prog) (w := w) (base := base) S_lnext T 
  have G_lpen_of := ok_lpen_of (P := l.prog) (w := w) (base := base) S_lpen_of T 
  have G_ldraw := ok_ldraw (P := l.prog) (w := w) (base := base) S_ldraw T G_lnext
  have G_lnamed := ok_lnamed (P := l.prog) (w := w) (base := base) S_lnamed T 
  have G_lnames_by := ok_lnames_by (P := l.prog) (w := w) (base := base) S_lnames_by T G_ldraw
  have G_lfar := ok_lfar (P := l.prog) (w := w) (base := base) S_lfar T 
  have G_lsteps := ok_lsteps (P := l.prog) (w := w) (base := base) S_lsteps T G_lfar
  have G_lsparse_by := ok_lsparse_by (P := l.prog) (w := w) (base := base) S_lsparse_by T G_ldraw G_lnamed G_lnames_by
  have G_lweb_by := ok_lweb_by (P := l.prog) (w := w) (base := base) S_lweb_by T G_ldraw G_lsteps G_lsparse_by
  have G_llisted_right := ok_llisted_right (P := l.prog) (w := w) (base := base) S_llisted_right T G_all_roots G_two_step G_fewest_root G_first_root G_must_have G_may_have G_is_still
  have G_lright := ok_lright (P := l.prog) (w := w) (base := base) S_lright T G_roots_many G_ties_tally G_roots_begun G_renamed G_next_truths G_llisted_right
  exact ok_law (fun_mk (st := s_law) l42 c42 k42) T G_lcell_at G_lpen_of G_lweb_by G_two_step G_lright G_lnames_by G_roots_begun
end Rw
end
section
set_option maxRecDepth 100000
open PySem PySem.W PyProof.Rows
set_option maxHeartbeats 0 in
theorem PySem.Challenge.cw_rootwebs_k20_whole_all_roots_holds : PySem.Challenge.rw_rootwebs_k20_whole_all_roots.Holds := by
  w_on; o_law; k_head; (case hw => w_witness2)
  k_fill
  refine L2.walk_of (l := PySem.Challenge.rw_rootwebs_k20_whole_all_roots) (n := 63) (k := 24) (x := "_law_script") (CX := fun _ => L2.CX0) (sp := fun w => Rw.spLaw _) rfl (by decide) rfl ⟨rfl, by decide, by decide⟩ (fun w h Y => PySem.W.kIn_of Y) ?F (fun _ _ a ns hl _ hS => ⟨a, ns, rfl, hS, Nat.le_trans hl (by decide), fun _ _ => rfl⟩) (fun _ _ _ _ _ h => h)
  case F =>
    intro w mg fa h KX G hmg
    refine' Rw.all_mk KX G hmg ?a0 ?l0 ?c0 ?k0 ?a1 ?l1 ?c1 ?k1 ?a2 ?l2 ?c2 ?k2 ?a3 ?l3 ?c3 ?k3 ?a4 ?l4 ?c4 ?k4 ?a5 ?l5 ?c5 ?k5 ?a6 ?l6 ?c6 ?k6 ?a7 ?l7 ?c7 ?k7 ?a8 ?l8 ?c8 ?k8 ?a9 ?l9 ?c9 ?k9 ?a10 ?l10 ?c10 ?k10 ?a11 ?l11 ?c11 ?k11 ?a12 ?l12 ?c12 ?k12 ?a13 ?l13 ?c13 ?k13 ?a14 ?l14 ?c14 ?k14 ?a15 ?l15 ?c15 ?k15 ?a16 ?l16 ?c16 ?k16 ?a17 ?l17 ?c17 ?k17 ?a18 ?l18 ?c18 ?k18 ?a19 ?l19 ?c19 ?k19 ?a20 ?l20 ?c20 ?k20 ?a21 ?l21 ?c21 ?k21 ?a22 ?l22 ?c22 ?k22 ?a23 ?l23 ?c23 ?k23 ?a24 ?l24 ?c24 ?k24 ?a25 ?l25 ?c25 ?k25 ?a26 ?l26 ?c26 ?k26 ?a27 ?l27 ?c27 ?k27 ?a28 ?l28 ?c28 ?k28 ?a29 ?l29 ?c29 ?k29 ?a30 ?l30 ?c30 ?k30 ?a31 ?l31 ?c31 ?k31 ?a32 ?l32 ?c32 ?k32 ?a33 ?l33 ?c33 ?k33 ?a34 ?l34 ?c34 ?k34 ?a35 ?l35 ?c35 ?k35 ?a36 ?l36 ?c36 ?k36 ?a37 ?l37 ?c37 ?k37 ?a38 ?l38 ?c38 ?k38 ?a39 ?l39 ?c39 ?k39 ?a40 ?l40 ?c40 ?k40 ?a41 ?l41 ?c41 ?k41 ?a42 ?l42 ?c42 ?k42 ?z0 ?z1 ?z2 ?z3 ?z4 ?z5 ?z6 ?z7 ?z8 ?z9 ?z10 ?z11 ?z12 ?z13 ?z14 ?z15 ?m1 ?m2
    (case a0 => k_is); (case l0 => k_is); (case c0 => k_is); (case k0 => k_is); (case a1 => k_is); (case l1 => k_is); (case c1 => k_is); (case k1 => k_is); (case a2 => k_is); (case l2 => k_is); (case c2 => k_is); (case k2 => k_is); (case a3 => k_is); (case l3 => k_is); (case c3 => k_is); (case k3 => k_is); (case a4 => k_is); (case l4 => k_is); (case c4 => k_is); (case k4 => k_is); (case a5 => k_is); (case l5 => k_is); (case c5 => k_is); (case k5 => k_is); (case a6 => k_is); (case l6 => k_is); (case c6 => k_is); (case k6 => k_is); (case a7 => k_is); (case l7 => k_is); (case c7 => k_is); (case k7 => k_is); (case a8 => k_is); (case l8 => k_is); (case c8 => k_is); (case k8 => k_is); (case a9 => k_is); (case l9 => k_is); (case c9 => k_is); (case k9 => k_is); (case a10 => k_is); (case l10 => k_is); (case c10 => k_is); (case k10 => k_is); (case a11 => k_is); (case l11 => k_is); (case c11 => k_is); (case k11 => k_is); (case a12 => k_is); (case l12 => k_is); (case c12 => k_is); (case k12 => k_is); (case a13 => k_is); (case l13 => k_is); (case c13 => k_is); (case k13 => k_is); (case a14 => k_is); (case l14 => k_is); (case c14 => k_is); (case k14 => k_is); (case a15 => k_is); (case l15 => k_is); (case c15 => k_is); (case k15 => k_is); (case a16 => k_is); (case l16 => k_is); (case c16 => k_is); (case k16 => k_is); (case a17 => k_is); (case l17 => k_is); (case c17 => k_is); (case k17 => k_is); (case a18 => k_is); (case l18 => k_is); (case c18 => k_is); (case k18 => k_is); (case a19 => k_is); (case l19 => k_is); (case c19 => k_is); (case k19 => k_is); (case a20 => k_is); (case l20 => k_is); (case c20 => k_is); (case k20 => k_is); (case a21 => k_is); (case l21 => k_is); (case c21 => k_is); (case k21 => k_is); (case a22 => k_is); (case l22 => k_is); (case c22 => k_is); (case k22 => k_is); (case a23 => k_is); (case l23 => k_is); (case c23 => k_is); (case k23 => k_is); (case a24 => k_is); (case l24 => k_is); (case c24 => k_is); (case k24 => k_is); (case a25 => k_is); (case l25 => k_is); (case c25 => k_is); (case k25 => k_is); (case a26 => k_is); (case l26 => k_is); (case c26 => k_is); (case k26 => k_is); (case a27 => k_is); (case l27 => k_is); (case c27 => k_is); (case k27 => k_is); (case a28 => k_is); (case l28 => k_is); (case c28 => k_is); (case k28 => k_is); (case a29 => k_is); (case l29 => k_is); (case c29 => k_is); (case k29 => k_is); (case a30 => k_is); (case l30 => k_is); (case c30 => k_is); (case k30 => k_is); (case a31 => k_is); (case l31 => k_is); (case c31 => k_is); (case k31 => k_is); (case a32 => k_is); (case l32 => k_is); (case c32 => k_is); (case k32 => k_is); (case a33 => k_is); (case l33 => k_is); (case c33 => k_is); (case k33 => k_is); (case a34 => k_is); (case l34 => k_is); (case c34 => k_is); (case k34 => k_is); (case a35 => k_is); (case l35 => k_is); (case c35 => k_is); (case k35 => k_is); (case a36 => k_is); (case l36 => k_is); (case c36 => k_is); (case k36 => k_is); (case a37 => k_is); (case l37 => k_is); (case c37 => k_is); (case k37 => k_is); (case a38 => k_is); (case l38 => k_is); (case c38 => k_is); (case k38 => k_is); (case a39 => k_is); (case l39 => k_is); (case c39 => k_is); (case k39 => k_is); (case a40 => k_is); (case l40 => k_is); (case c40 => k_is); (case k40 => k_is); (case a41 => k_is); (case l41 => k_is); (case c41 => k_is); (case k41 => k_is); (case a42 => k_is); (case l42 => k_is); (case c42 => k_is); (case k42 => k_is); (case z0 => k_is); (case z1 => k_is); (case z2 => k_is); (case z3 => k_is); (case z4 => k_is); (case z5 => k_is); (case z6 => k_is); (case z7 => k_is); (case z8 => k_is); (case z9 => k_is); (case z10 => k_is); (case z11 => k_is); (case z12 => k_is); (case z13 => k_is); (case z14 => k_is); (case z15 => k_is); (case m1 => k_is); (case m2 => k_is)
end
