import PyProof.Rows.All
import Wide.All
import OpenK.AllK
import Wide.FinOn
import HandS.ForMost
import HandS.Walk
import HandS.ForExc
import HandS.More
import HandS.Defaults
import HandS.Property
import HandS.Star
import HandS.IsInst
import HandS.Flow
import HandS.Zip
import HandS.SortRule
import HandS.TupLe
import HandS.TupAny
import HandS.HeadHook1
import HandS.HeadHook2
import HandS.HeadHook3
import KE.KExcSuper
import KE.KSuper
import KE.KStateDown
import HandS.Head0
import HandS.Head1
import HandS.Head2
import HandS.HeadEnd
import HandS.TryOnly
import HandS.WordsExc
import HandS.Iter
import KE.DatumOrd
import KE.KTupSum
import PyProof.StrBlock2
import PySem.Challenge.RW_cleanspans_k97_whole_within_for_rows_tha
/-! Spans, steps on lists of spans, the normal form of a pipeline. -/
namespace CM
abbrev Sn := Int × Int
/-- merging from the left; the first argument is the open span -/
def fillA (g : Int) : Sn → List Sn → List Sn
  | c, [] => [c]
  | c, x :: r => if x.1 - c.2 ≤ g then fillA g (c.1, x.2) r else c :: fillA g x r
def fill (g : Int) : List Sn → List Sn
  | [] => []
  | x :: r => fillA g x r
def drp (d : Int) (X : List Sn) : List Sn := X.filter fun x => decide (d < x.2 - x.1)
def mov (s e : Int) (X : List Sn) : List Sn := X.map fun x => (x.1 + s, x.2 + e)
/-- lengths above J, gaps above K -/
def Good (J K : Int) (X : List Sn) : Prop := (∀ x ∈ X, J < x.2 - x.1) ∧ X.Pairwise fun x y => x.2 + K < y.1
theorem Good.nil {J K : Int} : Good J K [] := ⟨fun _ h => by simp at h, List.Pairwise.nil⟩
theorem Good.mono {J K J' K' : Int} {X : List Sn} (h : Good J K X) (h1 : J' ≤ J) (h2 : K' ≤ K) : Good J' K' X :=
  ⟨fun x hx => by have := h.1 x hx; omega, h.2.imp fun q => by omega⟩
theorem good_cons {J K : Int} {x : Sn} {r : List Sn} : Good J K (x :: r) ↔ (J < x.2 - x.1 ∧ (∀ y ∈ r, x.2 + K < y.1)) ∧ Good J K r := by
  unfold Good
  constructor
  · rintro ⟨h1, h2⟩
    rw [List.pairwise_cons] at h2
    exact ⟨⟨h1 x List.mem_cons_self, h2.1⟩, fun y hy => h1 y (List.mem_cons_of_mem _ hy), h2.2⟩
  · rintro ⟨⟨h1, h2⟩, h3, h4⟩
    refine ⟨fun y hy => ?_, List.pairwise_cons.mpr ⟨h2, h4⟩⟩
    rcases List.mem_cons.mp hy with rfl | hy
    · exact h1
    · exact h3 y hy
/-! ### fill -/
theorem fillA_mov (g s e : Int) : ∀ (r : List Sn) (c : Sn), fillA g (c.1 + s, c.2 + e) (mov s e r) = mov s e (fillA (g + e - s) c r)
  | [], c => rfl
  | x :: r, c => by
    show fillA g (c.1 + s, c.2 + e) ((x.1 + s, x.2 + e) :: mov s e r) = mov s e (fillA (g + e - s) c (x :: r))
    unfold fillA
    dsimp only
    by_cases h : x.1 - c.2 ≤ g + e - s
    · rw [if_pos h, if_pos (by omega)]
      exact fillA_mov g s e r (c.1, x.2)
    · rw [if_neg h, if_neg (by omega)]
      show _ :: _ = _ :: mov s e (fillA (g + e - s) x r)
      rw [← fillA_mov g s e r x]
theorem fill_mov (g s e : Int) (X : List Sn) : fill g (mov s e X) = mov s e (fill (g + e - s) X) := by
  cases X with
  | nil => rfl
  | cons x r => exact fillA_mov g s e r x
theorem fillA_id {J K g : Int} (hg : g ≤ K) : ∀ (r : List Sn) (c : Sn), Good J K (c :: r) → fillA g c r = c :: r
  | [], c, _ => rfl
  | x :: r, c, h => by
    have h' := good_cons.mp h
    unfold fillA
    rw [if_neg (by have := h'.1.2 x List.mem_cons_self; omega), fillA_id hg r x h'.2]
theorem fill_id {J K g : Int} {X : List Sn} (h : Good J K X) (hg : g ≤ K) : fill g X = X := by
  cases X with
  | nil => rfl
  | cons x r => exact fillA_id hg r x h
/-- the open span's begin is only carried -/
theorem fillA_start (g : Int) : ∀ (r : List Sn) (b : Int), ∃ y t, ∀ s, fillA g (s, b) r = (s, y) :: t
  | [], b => ⟨b, [], fun _ => rfl⟩
  | x :: r, b => by
    by_cases h : x.1 - b ≤ g
    · obtain ⟨y, t, q⟩ := fillA_start g r x.2
      refine ⟨y, t, fun s => ?_⟩
      unfold fillA
      rw [if_pos h]
      exact q s
    · refine ⟨b, fillA g x r, fun s => ?_⟩
      show (if x.1 - b ≤ g then fillA g (s, x.2) r else (s, b) :: fillA g x r) = _
      rw [if_neg h]
theorem fill_fillA {a b : Int} (hab : a ≤ b) : ∀ (r : List Sn) (c : Sn), fill b (fillA a c r) = fillA b c r
  | [], c => rfl
  | x :: r, c => by
    by_cases h : x.1 - c.2 ≤ a
    · rw [show fillA a c (x :: r) = fillA a (c.1, x.2) r by rw [fillA, if_pos h], fill_fillA hab r, show fillA b c (x :: r) = fillA b (c.1, x.2) r by rw [fillA, if_pos (by omega)]]
    · rw [show fillA a c (x :: r) = c :: fillA a x r by rw [fillA, if_neg h]]
      show fillA b c (fillA a x r) = fillA b c (x :: r)
      obtain ⟨y, t, q⟩ := fillA_start a r x.2
      have ex : fillA a x r = (x.1, y) :: t := q x.1
      by_cases h2 : x.1 - c.2 ≤ b
      · rw [ex]
        have e1 := fill_fillA hab r (c.1, x.2)
        rw [q c.1] at e1
        rw [show fillA b c ((x.1, y) :: t) = fillA b (c.1, y) t by rw [fillA, if_pos h2], show fillA b c (x :: r) = fillA b (c.1, x.2) r by rw [fillA, if_pos h2]]
        exact e1
      · have e1 := fill_fillA hab r x
        rw [ex] at e1 ⊢
        rw [show fillA b c ((x.1, y) :: t) = c :: fillA b (x.1, y) t by rw [fillA, if_neg h2], show fillA b c (x :: r) = c :: fillA b x r by rw [fillA, if_neg h2]]
        exact congrArg _ e1
theorem fill_fill {a b : Int} (hab : a ≤ b) (X : List Sn) : fill b (fill a X) = fill b X := by
  cases X with
  | nil => rfl
  | cons x r => exact fill_fillA hab r x
/-- begins of fillA's spans: the open one, or begins of r -/
theorem fillA_begins (g : Int) : ∀ (r : List Sn) (c : Sn), ∀ y ∈ fillA g c r, y.1 = c.1 ∨ ∃ x ∈ r, y.1 = x.1
  | [], c, y, hy => by
    rw [show fillA g c [] = [c] from rfl, List.mem_singleton] at hy
    exact .inl (by rw [hy])
  | x :: r, c, y, hy => by
    unfold fillA at hy
    by_cases h : x.1 - c.2 ≤ g
    · rw [if_pos h] at hy
      rcases fillA_begins g r _ y hy with e | ⟨z, hz, e⟩
      · exact .inl e
      · exact .inr ⟨z, List.mem_cons_of_mem _ hz, e⟩
    · rw [if_neg h] at hy
      rcases List.mem_cons.mp hy with rfl | hy
      · exact .inl rfl
      · rcases fillA_begins g r _ y hy with e | ⟨z, hz, e⟩
        · exact .inr ⟨x, List.mem_cons_self, e⟩
        · exact .inr ⟨z, List.mem_cons_of_mem _ hz, e⟩
theorem fillA_good {J K g : Int} (hJ : 0 ≤ J) (hK : 0 ≤ K) : ∀ (r : List Sn) (c : Sn), Good J K (c :: r) → Good J (max K g) (fillA g c r)
  | [], c, h => by
    refine ⟨h.1, ?_⟩
    exact List.pairwise_singleton _ _
  | x :: r, c, h => by
    have hc := good_cons.mp h
    have hx := good_cons.mp hc.2
    unfold fillA
    by_cases q : x.1 - c.2 ≤ g
    · rw [if_pos q]
      refine fillA_good hJ hK r _ (good_cons.mpr ⟨⟨?_, hx.1.2⟩, hx.2⟩)
      have := hc.1.2 x List.mem_cons_self
      have := hc.1.1
      have := hx.1.1
      show J < x.2 - c.1
      omega
    · rw [if_neg q]
      refine good_cons.mpr ⟨⟨hc.1.1, fun y hy => ?_⟩, fillA_good hJ hK r x hc.2⟩
      have hcx := hc.1.2 x List.mem_cons_self
      rcases fillA_begins g r x y hy with e | ⟨z, hz, e⟩
      · rw [e]
        omega
      · have h1 := hx.1.2 z hz
        have h2 := hx.1.1
        rw [e]
        omega
theorem fill_good {J K g : Int} {X : List Sn} (hJ : 0 ≤ J) (hK : 0 ≤ K) (h : Good J K X) : Good J (max K g) (fill g X) := by
  cases X with
  | nil => exact Good.nil
  | cons x r => exact fillA_good hJ hK r x h
/-! ### drop -/
theorem drp_id {J K d : Int} {X : List Sn} (h : Good J K X) (hd : d ≤ J) : drp d X = X :=
  List.filter_eq_self.mpr fun x hx => decide_eq_true (by have := h.1 x hx; omega)
theorem drp_good {J K d : Int} {X : List Sn} (h : Good J K X) : Good (max J d) K (drp d X) := by
  refine ⟨fun x hx => ?_, h.2.sublist List.filter_sublist⟩
  obtain ⟨h1, h2⟩ := List.mem_filter.mp hx
  have := h.1 x h1
  have := of_decide_eq_true h2
  omega
theorem drp_mov (d s e : Int) : ∀ X : List Sn, drp d (mov s e X) = mov s e (drp (d - (e - s)) X)
  | [] => rfl
  | x :: r => by
    have ih := drp_mov d s e r
    unfold drp mov at ih ⊢
    rw [List.map_cons, List.filter_cons, List.filter_cons, ih]
    by_cases h : d - (e - s) < x.2 - x.1
    · rw [if_pos (decide_eq_true h), if_pos (decide_eq_true (by show d < x.2 + e - (x.1 + s); omega))]
      rfl
    · rw [if_neg (show ¬ decide (d - (e - s) < x.2 - x.1) = true by simpa using h), if_neg (show ¬ decide (d < x.2 + e - (x.1 + s)) = true by simp only [decide_eq_true_eq]; omega)]
theorem drp_drp {a b : Int} (hab : a ≤ b) (X : List Sn) : drp b (drp a X) = drp b X := by
  unfold drp
  rw [List.filter_filter]
  congr 1
  funext x
  by_cases h : b < x.2 - x.1
  · rw [decide_eq_true h, decide_eq_true (show a < x.2 - x.1 by omega)]
    rfl
  · rw [decide_eq_false h]
    rfl
theorem mov_mov (s e s' e' : Int) (X : List Sn) : mov s' e' (mov s e X) = mov (s + s') (e + e') X := by
  unfold mov
  rw [List.map_map]
  congr 1
  funext x
  show (x.1 + s + s', x.2 + e + e') = (x.1 + (s + s'), x.2 + (e + e'))
  rw [Int.add_assoc, Int.add_assoc]
theorem mov_zero (X : List Sn) : mov 0 0 X = X := by
  unfold mov
  rw [show (fun x : Sn => (x.1 + 0, x.2 + 0)) = id by funext x; simp]
  exact List.map_id X
theorem mov_good {J K s e : Int} : ∀ {X : List Sn}, Good J K X → Good (J + (e - s)) (K - (e - s)) (mov s e X)
  | [], _ => Good.nil
  | x :: r, h => by
    have h' := good_cons.mp h
    refine good_cons.mpr ⟨⟨?_, fun y hy => ?_⟩, mov_good h'.2⟩
    · have := h'.1.1
      show _ < x.2 + e - (x.1 + s)
      omega
    · obtain ⟨z, hz, rfl⟩ := List.mem_map.mp hy
      have := h'.1.2 z hz
      show x.2 + e + _ < z.1 + s
      omega
/-! ### steps -/
inductive Stp where
  | fill (g : Int) | drop (d : Int) | widen (a b : Int) | trim (a b : Int) | shift (n : Int)
  deriving DecidableEq, Repr
def Stp.ok : Stp → Prop
  | .fill g => 0 ≤ g
  | .drop d => 0 ≤ d
  | .widen a b => 0 ≤ a ∧ 0 ≤ b
  | .trim a b => 0 ≤ a ∧ 0 ≤ b
  | .shift _ => True
def stepF : Stp → List Sn → List Sn
  | .fill g, X => fill g X
  | .drop d, X => drp d X
  | .widen a b, X => fill 0 (mov (-a) b X)
  | .trim a b, X => mov a (-b) (drp (a + b) X)
  | .shift n, X => mov n n X
def pipe (p : List Stp) (X : List Sn) : List Sn := p.foldl (fun Y s => stepF s Y) X
def edge : Stp → Int × Int
  | .fill _ => (0, 0)
  | .drop _ => (0, 0)
  | .widen a b => (-a, b)
  | .trim a b => (a, -b)
  | .shift n => (n, n)
def starts : List Stp → Int
  | [] => 0
  | s :: r => (edge s).1 + starts r
def ends : List Stp → Int
  | [] => 0
  | s :: r => (edge s).2 + ends r
def swings : Stp → List Int
  | .fill g => [g, -g]
  | .drop d => [-d, d]
  | .widen a b => [a + b]
  | .trim a b => [-(a + b)]
  | .shift _ => []
/-- the heights, from h on -/
def hts (h : Int) : List Stp → List Int
  | [] => []
  | .fill g :: r => (h + g) :: h :: hts h r
  | .drop d :: r => (h - d) :: h :: hts h r
  | .widen a b :: r => (h + (a + b)) :: hts (h + (a + b)) r
  | .trim a b :: r => (h - (a + b)) :: hts (h - (a + b)) r
  | .shift _ :: r => hts h r
def trip (p : List Stp) : List Int := 0 :: hts 0 p
def visit (Y : List Sn) (h : Int) : List Sn := drp (-h) (fill h Y)
def run (hs : List Int) (X : List Sn) : List Sn := hs.foldl visit X
theorem visit_up {J K h : Int} {Y : List Sn} (hJ : 0 ≤ J) (hK : 0 ≤ K) (g : Good J K Y) (h1 : -h ≤ J) : visit Y h = fill h Y := drp_id (fill_good hJ hK g) h1
theorem visit_down {J K h : Int} {Y : List Sn} (g : Good J K Y) (h1 : h ≤ K) : visit Y h = drp (-h) Y := by
  unfold visit
  rw [fill_id g h1]
theorem visit_id {J K h : Int} {Y : List Sn} (g : Good J K Y) (h1 : h ≤ K) (h2 : -h ≤ J) : visit Y h = Y := by
  rw [visit_down g h1, drp_id g h2]
theorem visit_good {J K h : Int} {Y : List Sn} (hJ : 0 ≤ J) (hK : 0 ≤ K) (g : Good J K Y) : Good (max J (-h)) (max K h) (visit Y h) := drp_good (fill_good hJ hK g)
theorem normal : ∀ (p : List Stp) (s e J K : Int) (Y : List Sn), (∀ x ∈ p, x.ok) → 0 ≤ J → 0 ≤ K → Good J K Y → -J ≤ e - s → e - s ≤ K →
    pipe p (mov s e Y) = mov (s + starts p) (e + ends p) (run (hts (e - s) p) Y)
  | [], s, e, J, K, Y, _, _, _, _, _, _ => by
    show mov s e Y = mov (s + 0) (e + 0) Y
    rw [Int.add_zero, Int.add_zero]
  | st :: r, s, e, J, K, Y, ho, hJ, hK, g, h1, h2 => by
    have ok := ho st List.mem_cons_self
    have hr : ∀ x ∈ r, x.ok := fun x hx => ho x (List.mem_cons_of_mem _ hx)
    show pipe r (stepF st (mov s e Y)) = _
    cases st with
    | fill a =>
      have ok' : 0 ≤ a := ok
      have g1 := fill_good (g := a + e - s) hJ hK g
      show pipe r (fill a (mov s e Y)) = mov (s + (0 + starts r)) (e + (0 + ends r)) (run (hts (e - s) r) (visit (visit Y (e - s + a)) (e - s)))
      rw [fill_mov, normal r s e J (max K (a + e - s)) _ hr hJ (by omega) g1 h1 (by omega), visit_up hJ hK g (by omega), show e - s + a = a + e - s by omega, visit_id g1 (by omega) (by omega), Int.zero_add, Int.zero_add]
    | drop d =>
      have ok' : 0 ≤ d := ok
      have g1 := drp_good (d := d - (e - s)) g
      show pipe r (drp d (mov s e Y)) = mov (s + (0 + starts r)) (e + (0 + ends r)) (run (hts (e - s) r) (visit (visit Y (e - s - d)) (e - s)))
      rw [drp_mov, normal r s e (max J (d - (e - s))) K _ hr (by omega) hK g1 (by omega) h2, visit_down g (by omega), show -(e - s - d) = d - (e - s) by omega, visit_id g1 (by omega) (by omega), Int.zero_add, Int.zero_add]
    | widen a b =>
      have ok' : 0 ≤ a ∧ 0 ≤ b := ok
      have g1 := fill_good (g := 0 + (e + b) - (s + -a)) hJ hK g
      show pipe r (fill 0 (mov (-a) b (mov s e Y))) = mov (s + (-a + starts r)) (e + (b + ends r)) (run (hts (e - s + (a + b)) r) (visit Y (e - s + (a + b))))
      rw [mov_mov, fill_mov, normal r (s + -a) (e + b) J (max K (0 + (e + b) - (s + -a))) _ hr hJ (by omega) g1 (by omega) (by omega), visit_up hJ hK g (by omega), show e - s + (a + b) = e + b - (s + -a) by omega, show 0 + (e + b) - (s + -a) = e + b - (s + -a) by omega, Int.add_assoc, Int.add_assoc]
    | trim a b =>
      have ok' : 0 ≤ a ∧ 0 ≤ b := ok
      have g1 := drp_good (d := a + b - (e - s)) g
      show pipe r (mov a (-b) (drp (a + b) (mov s e Y))) = mov (s + (a + starts r)) (e + (-b + ends r)) (run (hts (e - s - (a + b)) r) (visit Y (e - s - (a + b))))
      rw [drp_mov, mov_mov, normal r (s + a) (e + -b) (max J (a + b - (e - s))) K _ hr (by omega) hK g1 (by omega) (by omega), visit_down g (by omega), show e - s - (a + b) = e + -b - (s + a) by omega, show -(e + -b - (s + a)) = a + b - (e - s) by omega, Int.add_assoc, Int.add_assoc]
    | shift n =>
      show pipe r (mov n n (mov s e Y)) = mov (s + (n + starts r)) (e + (n + ends r)) (run (hts (e - s) r) Y)
      rw [mov_mov, normal r (s + n) (e + n) J K _ hr hJ hK g (by omega) (by omega), show e + n - (s + n) = e - s by omega, Int.add_assoc, Int.add_assoc]
/-- the normal form -/
theorem pipe_eq {p : List Stp} {X : List Sn} (ho : ∀ x ∈ p, x.ok) (g : Good 0 0 X) : pipe p X = mov (starts p) (ends p) (run (trip p) X) := by
  have h := normal p 0 0 0 0 X ho (Int.le_refl _) (Int.le_refl _) g (by omega) (by omega)
  rw [mov_zero, Int.zero_add, Int.zero_add, Int.sub_zero] at h
  rw [h]
  show _ = mov _ _ (run (hts 0 p) (visit X 0))
  rw [visit_id g (by omega) (by omega)]
theorem stepF_good {st : Stp} {X : List Sn} (ok : st.ok) (g : Good 0 0 X) : Good 0 0 (stepF st X) := by
  cases st with
  | fill a => exact (fill_good (Int.le_refl 0) (Int.le_refl 0) g).mono (Int.le_refl 0) (by omega)
  | drop d => exact (drp_good g).mono (by omega) (Int.le_refl 0)
  | widen a b =>
    have ok' : 0 ≤ a ∧ 0 ≤ b := ok
    show Good 0 0 (fill 0 (mov (-a) b X))
    rw [fill_mov]
    have h := mov_good (s := -a) (e := b) (fill_good (g := 0 + b - -a) (Int.le_refl 0) (Int.le_refl 0) g)
    exact h.mono (by omega) (by omega)
  | trim a b =>
    have ok' : 0 ≤ a ∧ 0 ≤ b := ok
    have h := mov_good (s := a) (e := -b) (drp_good (d := a + b) g)
    exact h.mono (by omega) (by omega)
  | shift n => exact (mov_good (s := n) (e := n) g).mono (by omega) (by omega)
theorem pipe_good : ∀ {p : List Stp} {X : List Sn}, (∀ x ∈ p, x.ok) → Good 0 0 X → Good 0 0 (pipe p X)
  | [], _, _, g => g
  | s :: r, X, ho, g => pipe_good (p := r) (X := stepF s X) (fun x hx => ho x (List.mem_cons_of_mem _ hx)) (stepF_good (ho s List.mem_cons_self) g)
end CM
/-! Letters: true is fill, false is drop. The run of heights by letters; the order of words. -/
namespace CM
/-- the letters that the heights write, high and low so far -/
def spell (high low : Int) : List Int → List Bool
  | [] => []
  | h :: r => List.replicate (h - high).toNat true ++ (List.replicate (low - h).toNat false ++ spell (max high h) (min low h) r)
/-- letter by letter: k fills and j drops so far -/
def runL (k j : Int) : List Bool → List Sn → List Sn
  | [], X => X
  | true :: w, X => runL (k + 1) j w (fill (k + 1) X)
  | false :: w, X => runL k (j + 1) w (drp (j + 1) X)
theorem runL_append : ∀ (u v : List Bool) (k j : Int) (X : List Sn), runL k j (u ++ v) X = runL (k + (u.count true : Int)) (j + (u.count false : Int)) v (runL k j u X)
  | [], v, k, j, X => by
    show runL k j v X = runL (k + ((0 : Nat) : Int)) (j + ((0 : Nat) : Int)) v X
    rw [show k + ((0 : Nat) : Int) = k by omega, show j + ((0 : Nat) : Int) = j by omega]
  | true :: u, v, k, j, X => by
    show runL (k + 1) j (u ++ v) _ = _
    rw [runL_append u v]
    show runL _ _ v (runL (k + 1) j u (fill (k + 1) X)) = runL _ _ v (runL (k + 1) j u (fill (k + 1) X))
    rw [show (true :: u).count true = u.count true + 1 by simp, show (true :: u).count false = u.count false by simp]
    congr 1
    omega
  | false :: u, v, k, j, X => by
    show runL k (j + 1) (u ++ v) _ = _
    rw [runL_append u v]
    show runL _ _ v (runL k (j + 1) u (drp (j + 1) X)) = runL _ _ v (runL k (j + 1) u (drp (j + 1) X))
    rw [show (false :: u).count true = u.count true by simp, show (false :: u).count false = u.count false + 1 by simp]
    congr 1
    omega
theorem runL_fills : ∀ (n : Nat) (k j : Int) (X : List Sn), runL k j (List.replicate n true) (fill k X) = fill (k + n) X
  | 0, k, j, X => by
    show fill k X = fill (k + ((0 : Nat) : Int)) X
    rw [show k + ((0 : Nat) : Int) = k by omega]
  | n + 1, k, j, X => by
    show runL (k + 1) j (List.replicate n true) (fill (k + 1) (fill k X)) = _
    rw [fill_fill (by omega), runL_fills n (k + 1) j X]
    congr 1
    omega
theorem runL_drops : ∀ (n : Nat) (k j : Int) (X : List Sn), runL k j (List.replicate n false) (drp j X) = drp (j + n) X
  | 0, k, j, X => by
    show drp j X = drp (j + ((0 : Nat) : Int)) X
    rw [show j + ((0 : Nat) : Int) = j by omega]
  | n + 1, k, j, X => by
    show runL k (j + 1) (List.replicate n false) (drp (j + 1) (drp j X)) = _
    rw [drp_drp (by omega), runL_drops n k (j + 1) X]
    congr 1
    omega
theorem count_rep_same (n : Nat) (b : Bool) : (List.replicate n b).count b = n := by simp
theorem count_rep_tf (n : Nat) : (List.replicate n true).count false = 0 := by
  rw [List.count_replicate]
  rfl
theorem count_rep_ft (n : Nat) : (List.replicate n false).count true = 0 := by
  rw [List.count_replicate]
  rfl
theorem run_spell : ∀ (hs : List Int) (high low : Int) (X : List Sn), 0 ≤ high → low ≤ 0 → Good (-low) high X → run hs X = runL high (-low) (spell high low hs) X
  | [], _, _, _, _, _, _ => rfl
  | h :: r, high, low, X, h1, h2, g => by
    show run r (visit X h) = runL high (-low) (List.replicate (h - high).toNat true ++ (List.replicate (low - h).toNat false ++ spell (max high h) (min low h) r)) X
    have g1 := visit_good (h := h) (by omega) h1 g
    rw [run_spell r (max high h) (min low h) _ (by omega) (by omega) (g1.mono (by omega) (by omega))]
    by_cases c1 : high < h
    · rw [show (low - h).toNat = 0 by omega, runL_append, List.replicate_zero, List.nil_append, count_rep_same, count_rep_tf, show max high h = h by omega, show min low h = low by omega, show high + ((h - high).toNat : Int) = h by omega, show -low + ((0 : Nat) : Int) = -low by omega]
      have e := runL_fills (h - high).toNat high (-low) X
      rw [fill_id g (Int.le_refl _), show high + ((h - high).toNat : Int) = h by omega] at e
      rw [e, visit_up (by omega) h1 g (by omega)]
    · rw [show (h - high).toNat = 0 by omega, List.replicate_zero, List.nil_append, runL_append, count_rep_same, count_rep_ft, show max high h = high by omega, show -low + ((low - h).toNat : Int) = -(min low h) by omega, show high + ((0 : Nat) : Int) = high by omega]
      by_cases c2 : h < low
      · have e := runL_drops (low - h).toNat high (-low) X
        rw [drp_id g (Int.le_refl _), show -low + ((low - h).toNat : Int) = -h by omega] at e
        rw [e, visit_down g (by omega)]
      · rw [show (low - h).toNat = 0 by omega, visit_id g (by omega) (by omega)]
        rfl
/-! ### spans within spans -/
def Sub (X Y : List Sn) : Prop := ∀ x ∈ X, ∃ y ∈ Y, y.1 ≤ x.1 ∧ x.2 ≤ y.2
theorem Sub.refl (X : List Sn) : Sub X X := fun x h => ⟨x, h, Int.le_refl _, Int.le_refl _⟩
theorem Sub.trans {X Y Z : List Sn} (a : Sub X Y) (b : Sub Y Z) : Sub X Z := fun x h => by
  obtain ⟨y, hy, h1, h2⟩ := a x h
  obtain ⟨z, hz, h3, h4⟩ := b y hy
  exact ⟨z, hz, by omega, by omega⟩
def Mem (t : Int) (X : List Sn) : Prop := ∃ x ∈ X, x.1 ≤ t ∧ t < x.2
theorem mem_sub {X Y : List Sn} (h : Sub X Y) {t : Int} (m : Mem t X) : Mem t Y := by
  obtain ⟨x, hx, h1, h2⟩ := m
  obtain ⟨y, hy, h3, h4⟩ := h x hx
  exact ⟨y, hy, by omega, by omega⟩
/-- a stretch whose times all lie in Y lies in one span of Y -/
theorem in_one {Y : List Sn} (g : Good 0 0 Y) : ∀ (n : Nat) (a b : Int), a < b → b - a = n → (∀ t, a ≤ t → t < b → Mem t Y) → ∃ y ∈ Y, y.1 ≤ a ∧ b ≤ y.2
  | 0, a, b, h, e, _ => by omega
  | n + 1, a, b, h, e, m => by
    by_cases c : a < b - 1
    · obtain ⟨y, hy, h1, h2⟩ := in_one g n a (b - 1) c (by omega) fun t p q => m t p (by omega)
      obtain ⟨z, hz, h3, h4⟩ := m (b - 1) (by omega) (by omega)
      by_cases d : b ≤ y.2
      · exact ⟨y, hy, h1, d⟩
      · -- y ends at b - 1; z has b - 1: then they touch
        exfalso
        obtain ⟨i, hi, ei⟩ := List.mem_iff_getElem.mp hy
        obtain ⟨k, hk, ek⟩ := List.mem_iff_getElem.mp hz
        have pw := List.pairwise_iff_getElem.mp g.2
        rcases Nat.lt_trichotomy i k with l | l | l
        · have := pw i k hi hk l
          rw [ei, ek] at this
          omega
        · subst l
          rw [ei] at ek
          subst ek
          omega
        · have := pw k i hk hi l
          have := g.1 y hy
          have := g.1 z hz
          rw [ei, ek] at *
          omega
    · obtain ⟨z, hz, h3, h4⟩ := m a (by omega) h
      exact ⟨z, hz, h3, by omega⟩
theorem sub_of_mem {X Y : List Sn} (gx : ∀ x ∈ X, x.1 < x.2) (g : Good 0 0 Y) (h : ∀ t, Mem t X → Mem t Y) : Sub X Y := fun x hx => by
  have l := gx x hx
  exact in_one g (x.2 - x.1).toNat x.1 x.2 l (by omega) fun t p q => h t ⟨x, hx, p, q⟩
theorem Good.lt {J K : Int} {X : List Sn} (hJ : 0 ≤ J) (g : Good J K X) : ∀ x ∈ X, x.1 < x.2 := fun x hx => by
  have := g.1 x hx
  omega
/-! ### what fill has -/
theorem mem_fillA {g : Int} (hg : 0 ≤ g) : ∀ (r : List Sn) (c : Sn), Good 0 0 (c :: r) → ∀ t, (Mem t (fillA g c r) ↔ ∃ u v, u ≤ t ∧ t ≤ v ∧ v - u ≤ g + 1 ∧ Mem u (c :: r) ∧ Mem v (c :: r))
  | [], c, gd, t => by
    constructor
    · intro h
      exact ⟨t, t, Int.le_refl _, Int.le_refl _, by omega, h, h⟩
    · rintro ⟨u, v, h1, h2, h3, ⟨x, hx, x1, x2⟩, ⟨y, hy, y1, y2⟩⟩
      rw [List.mem_singleton] at hx hy
      subst hx hy
      exact ⟨y, List.mem_cons_self, by omega, by omega⟩
  | d :: r, c, gd, t => by
    have hc := good_cons.mp gd
    have hd := good_cons.mp hc.2
    have cd := hc.1.2 d List.mem_cons_self
    by_cases q : d.1 - c.2 ≤ g
    · rw [show fillA g c (d :: r) = fillA g (c.1, d.2) r by rw [fillA, if_pos q]]
      have g2 : Good 0 0 ((c.1, d.2) :: r) := good_cons.mpr ⟨⟨by show 0 < d.2 - c.1; omega, hd.1.2⟩, hd.2⟩
      rw [mem_fillA hg r (c.1, d.2) g2 t]
      constructor
      · -- each end has a like one outside of the gap, or the gap itself
        rintro ⟨u, v, h1, h2, h3, hu, hv⟩
        have old : ∀ {s : Int}, Mem s ((c.1, d.2) :: r) → Mem s (c :: d :: r) ∨ (c.2 ≤ s ∧ s < d.1) := fun {s} hs => by
          obtain ⟨x, hx, x1, x2⟩ := hs
          rcases List.mem_cons.mp hx with rfl | hx
          · by_cases p : s < c.2
            · exact .inl ⟨c, List.mem_cons_self, x1, p⟩
            · by_cases p2 : s < d.1
              · exact .inr ⟨by omega, p2⟩
              · exact .inl ⟨d, List.mem_cons_of_mem _ List.mem_cons_self, by omega, x2⟩
          · exact .inl ⟨x, List.mem_cons_of_mem _ (List.mem_cons_of_mem _ hx), x1, x2⟩
        have mc : Mem (c.2 - 1) (c :: d :: r) := ⟨c, List.mem_cons_self, by omega, by omega⟩
        have md : Mem d.1 (c :: d :: r) := ⟨d, List.mem_cons_of_mem _ List.mem_cons_self, by omega, by omega⟩
        by_cases tin : c.2 ≤ t ∧ t < d.1
        · exact ⟨c.2 - 1, d.1, by omega, by omega, by omega, mc, md⟩
        · rcases old hu with hu | hu
          · rcases old hv with hv | hv
            · exact ⟨u, v, h1, h2, h3, hu, hv⟩
            · -- v in the gap: t ahead of it
              exact ⟨u, c.2 - 1, h1, by omega, by omega, hu, mc⟩
          · rcases old hv with hv | hv
            · exact ⟨d.1, v, by omega, h2, by omega, md, hv⟩
            · omega
      · rintro ⟨u, v, h1, h2, h3, hu, hv⟩
        have new : ∀ {s : Int}, Mem s (c :: d :: r) → Mem s ((c.1, d.2) :: r) := fun {s} hs => by
          obtain ⟨x, hx, x1, x2⟩ := hs
          rcases List.mem_cons.mp hx with rfl | hx
          · exact ⟨(x.1, d.2), List.mem_cons_self, x1, by show s < d.2; omega⟩
          · rcases List.mem_cons.mp hx with rfl | hx
            · exact ⟨(c.1, x.2), List.mem_cons_self, by show c.1 ≤ s; omega, x2⟩
            · exact ⟨x, List.mem_cons_of_mem _ hx, x1, x2⟩
        exact ⟨u, v, h1, h2, h3, new hu, new hv⟩
    · rw [show fillA g c (d :: r) = c :: fillA g d r by rw [fillA, if_neg q]]
      have ih := mem_fillA hg r d hc.2
      constructor
      · rintro ⟨x, hx, x1, x2⟩
        rcases List.mem_cons.mp hx with rfl | hx
        · exact ⟨t, t, Int.le_refl _, Int.le_refl _, by omega, ⟨x, List.mem_cons_self, x1, x2⟩, ⟨x, List.mem_cons_self, x1, x2⟩⟩
        · obtain ⟨u, v, h1, h2, h3, ⟨y, hy, y1⟩, ⟨z, hz, z1⟩⟩ := (ih t).mp ⟨x, hx, x1, x2⟩
          exact ⟨u, v, h1, h2, h3, ⟨y, List.mem_cons_of_mem _ hy, y1⟩, ⟨z, List.mem_cons_of_mem _ hz, z1⟩⟩
      · rintro ⟨u, v, h1, h2, h3, ⟨y, hy, y1, y2⟩, ⟨z, hz, z1, z2⟩⟩
        have far : ∀ {x : Sn}, x ∈ d :: r → d.1 ≤ x.1 := fun {x} hx => by
          rcases List.mem_cons.mp hx with rfl | hx
          · exact Int.le_refl _
          · have := hd.1.2 x hx
            have := hd.1.1
            omega
        rcases List.mem_cons.mp hy with ey | hy
        · rcases List.mem_cons.mp hz with ez | hz
          · exact ⟨c, List.mem_cons_self, by rw [ey] at y1; omega, by rw [ez] at z2; omega⟩
          · have := far hz
            rw [ey] at y2
            omega
        · have fy := far hy
          rcases List.mem_cons.mp hz with ez | hz
          · rw [ez] at z2
            omega
          · obtain ⟨x, hx, x1⟩ := (ih t).mpr ⟨u, v, h1, h2, h3, ⟨y, hy, y1, y2⟩, ⟨z, hz, z1, z2⟩⟩
            exact ⟨x, List.mem_cons_of_mem _ hx, x1⟩
theorem mem_fill {g : Int} (hg : 0 ≤ g) {X : List Sn} (gd : Good 0 0 X) (t : Int) : Mem t (fill g X) ↔ ∃ u v, u ≤ t ∧ t ≤ v ∧ v - u ≤ g + 1 ∧ Mem u X ∧ Mem v X := by
  cases X with
  | nil =>
    constructor
    · rintro ⟨x, hx, _⟩
      simp [fill] at hx
    · rintro ⟨u, v, _, _, _, ⟨x, hx, _⟩, _⟩
      simp at hx
  | cons c r => exact mem_fillA hg r c gd t
theorem fill_mono {g : Int} (hg : 0 ≤ g) {X Y : List Sn} (gx : Good 0 0 X) (gy : Good 0 0 Y) (h : Sub X Y) : Sub (fill g X) (fill g Y) := by
  have g1 := fill_good (g := g) (Int.le_refl 0) (Int.le_refl 0) gx
  have g2 := fill_good (g := g) (Int.le_refl 0) (Int.le_refl 0) gy
  refine sub_of_mem (g1.lt (Int.le_refl 0)) (g2.mono (Int.le_refl 0) (by omega)) fun t m => ?_
  obtain ⟨u, v, h1, h2, h3, hu, hv⟩ := (mem_fill hg gx t).mp m
  exact (mem_fill hg gy t).mpr ⟨u, v, h1, h2, h3, mem_sub h hu, mem_sub h hv⟩
theorem fill_up {g : Int} (hg : 0 ≤ g) {X : List Sn} (gx : Good 0 0 X) : Sub X (fill g X) := by
  have g1 := fill_good (g := g) (Int.le_refl 0) (Int.le_refl 0) gx
  exact sub_of_mem (gx.lt (Int.le_refl 0)) (g1.mono (Int.le_refl 0) (by omega)) fun t m => (mem_fill hg gx t).mpr ⟨t, t, Int.le_refl _, Int.le_refl _, by omega, m, m⟩
theorem drp_mono {d : Int} {X Y : List Sn} (h : Sub X Y) : Sub (drp d X) (drp d Y) := fun x hx => by
  obtain ⟨h1, h2⟩ := List.mem_filter.mp hx
  obtain ⟨y, hy, h3, h4⟩ := h x h1
  have h5 := of_decide_eq_true h2
  exact ⟨y, List.mem_filter.mpr ⟨hy, decide_eq_true (by omega)⟩, h3, h4⟩
theorem drp_down {d : Int} {X : List Sn} : Sub (drp d X) X := fun x hx => ⟨x, (List.mem_filter.mp hx).1, Int.le_refl _, Int.le_refl _⟩
/-- filling what is left of a drop is less than dropping what is filled -/
theorem fill_drp {g d : Int} (hg : 0 ≤ g) (hd : 0 ≤ d) {X : List Sn} (gx : Good 0 0 X) : Sub (fill g (drp d X)) (drp d (fill g X)) := fun x hx => by
  have g1 : Good d 0 (drp d X) := (drp_good gx).mono (by omega) (Int.le_refl 0)
  have g2 := fill_good (g := g) hd (Int.le_refl 0) g1
  obtain ⟨y, hy, h1, h2⟩ := fill_mono hg (g1.mono hd (Int.le_refl 0)) gx drp_down x hx
  have := g2.1 x hx
  exact ⟨y, List.mem_filter.mpr ⟨hy, decide_eq_true (by omega)⟩, h1, h2⟩
theorem fill_good0 {g : Int} {X : List Sn} (gx : Good 0 0 X) : Good 0 0 (fill g X) := (fill_good (g := g) (Int.le_refl 0) (Int.le_refl 0) gx).mono (Int.le_refl 0) (by omega)
theorem drp_good0 {d : Int} {X : List Sn} (gx : Good 0 0 X) : Good 0 0 (drp d X) := (drp_good (d := d) gx).mono (by omega) (Int.le_refl 0)
theorem runL_good : ∀ (w : List Bool) (k j : Int) (X : List Sn), Good 0 0 X → Good 0 0 (runL k j w X)
  | [], _, _, _, g => g
  | true :: w, k, j, X, g => runL_good w (k + 1) j _ (fill_good0 g)
  | false :: w, k, j, X, g => runL_good w k (j + 1) _ (drp_good0 g)
theorem runL_mono : ∀ (w : List Bool) (k j : Int) (X Y : List Sn), 0 ≤ k → Good 0 0 X → Good 0 0 Y → Sub X Y → Sub (runL k j w X) (runL k j w Y)
  | [], _, _, _, _, _, _, _, h => h
  | true :: w, k, j, X, Y, hk, gx, gy, h => runL_mono w (k + 1) j _ _ (by omega) (fill_good0 gx) (fill_good0 gy) (fill_mono (by omega) gx gy h)
  | false :: w, k, j, X, Y, hk, gx, gy, h => runL_mono w k (j + 1) _ _ hk (drp_good0 gx) (drp_good0 gy) (drp_mono h)
/-- a fill behind drops is less than the fill ahead of them -/
theorem exchange : ∀ (m : Nat) (w : List Bool) (k j : Int) (X : List Sn), 0 ≤ k → 0 ≤ j → Good 0 0 X →
    Sub (runL k j (List.replicate m false ++ true :: w) X) (runL k j (true :: (List.replicate m false ++ w)) X)
  | 0, w, k, j, X, _, _, _ => Sub.refl _
  | m + 1, w, k, j, X, hk, hj, gx => by
    have ih := exchange m w k (j + 1) (drp (j + 1) X) hk (by omega) (drp_good0 gx)
    have e : Sub (runL (k + 1) (j + 1) (List.replicate m false ++ w) (fill (k + 1) (drp (j + 1) X))) (runL (k + 1) (j + 1) (List.replicate m false ++ w) (drp (j + 1) (fill (k + 1) X))) :=
      runL_mono _ _ _ _ _ (by omega) (fill_good0 (drp_good0 gx)) (drp_good0 (fill_good0 gx)) (fill_drp (by omega) (by omega) gx)
    exact ih.trans e
/-! ### the order of words -/
/-- how many drops stand ahead of the n-th fill, from 0 -/
def ahd : Nat → List Bool → Option Nat
  | _, [] => none
  | 0, true :: _ => some 0
  | n + 1, true :: w => ahd n w
  | n, false :: w => (ahd n w).map (· + 1)
def Cond (u v : List Bool) : Prop := v.count false ≤ u.count false ∧ ∀ n a, ahd n u = some a → ∃ b, ahd n v = some b ∧ b ≤ a
theorem ahd_rep : ∀ (m n : Nat) (w : List Bool), ahd n (List.replicate m false ++ w) = (ahd n w).map (· + m)
  | 0, n, w => by
    show ahd n w = (ahd n w).map (· + 0)
    cases ahd n w <;> rfl
  | m + 1, n, w => by
    have e : ahd n (List.replicate (m + 1) false ++ w) = (ahd n (List.replicate m false ++ w)).map (· + 1) := by
      rw [List.replicate_succ, List.cons_append]
      cases n <;> rfl
    rw [e, ahd_rep m n w]
    cases ahd n w with
    | none => rfl
    | some a =>
      show some (a + m + 1) = some (a + (m + 1))
      rw [Nat.add_assoc]
theorem ahd_false (n : Nat) (w : List Bool) : ahd n (false :: w) = (ahd n w).map (· + 1) := by cases n <;> rfl
theorem split_first : ∀ u : List Bool, (∃ m, u = List.replicate m false) ∨ ∃ m w, u = List.replicate m false ++ true :: w
  | [] => .inl ⟨0, rfl⟩
  | true :: w => .inr ⟨0, w, rfl⟩
  | false :: u => by
    rcases split_first u with ⟨m, e⟩ | ⟨m, w, e⟩
    · exact .inl ⟨m + 1, by rw [e]; rfl⟩
    · exact .inr ⟨m + 1, w, by rw [e]; rfl⟩
theorem ahd_none_of_drops (m n : Nat) : ahd n (List.replicate m false) = none := by
  have h := ahd_rep m n []
  rw [List.append_nil] at h
  rw [h]
  cases n <;> rfl
theorem runL_drops_k (k k' : Int) : ∀ (m : Nat) (j : Int) (X : List Sn), runL k j (List.replicate m false) X = runL k' j (List.replicate m false) X
  | 0, _, _ => rfl
  | m + 1, j, X => runL_drops_k k k' m (j + 1) (drp (j + 1) X)
theorem runL_drops_down : ∀ (m : Nat) (k j : Int) (X : List Sn), Sub (runL k j (List.replicate m false) X) X
  | 0, _, _, X => Sub.refl X
  | m + 1, k, j, X => (runL_drops_down m k (j + 1) _).trans drp_down
theorem order : ∀ (v u : List Bool) (k j : Int) (X : List Sn), 0 ≤ k → 0 ≤ j → Good 0 0 X → Cond u v → Sub (runL k j u X) (runL k j v X)
  | [], u, k, j, X, hk, hj, gx, c => by
    rcases split_first u with ⟨m, e⟩ | ⟨m, w, e⟩
    · rw [e]
      exact runL_drops_down m k j X
    · obtain ⟨b, hb, _⟩ := c.2 0 m (by rw [e, ahd_rep]; show some (0 + m) = some m; rw [Nat.zero_add])
      cases hb
  | false :: v, u, k, j, X, hk, hj, gx, c => by
    cases u with
    | nil =>
      have h := c.1
      simp at h
    | cons x u =>
      cases x with
      | true =>
        obtain ⟨b, hb, hl⟩ := c.2 0 0 rfl
        rw [ahd_false] at hb
        cases q : ahd 0 v with
        | none => rw [q] at hb; cases hb
        | some a =>
          rw [q] at hb
          have e : a + 1 = b := Option.some.inj hb
          omega
      | false =>
        refine order v u k (j + 1) _ hk (by omega) (drp_good0 gx) ⟨?_, fun n a ha => ?_⟩
        · have h := c.1
          simp at h
          exact h
        · obtain ⟨b, hb, hl⟩ := c.2 n (a + 1) (by rw [ahd_false, ha]; rfl)
          rw [ahd_false] at hb
          cases q : ahd n v with
          | none => rw [q] at hb; cases hb
          | some z =>
            rw [q] at hb
            have e : z + 1 = b := Option.some.inj hb
            exact ⟨z, rfl, by omega⟩
  | true :: v, u, k, j, X, hk, hj, gx, c => by
    rcases split_first u with ⟨m, e⟩ | ⟨m, w, e⟩
    · have c2 : Cond u v := by
        refine ⟨?_, fun n a ha => ?_⟩
        · have h := c.1
          simp at h
          exact h
        · rw [e, ahd_none_of_drops] at ha
          cases ha
      have ih := order v u (k + 1) j (fill (k + 1) X) (by omega) hj (fill_good0 gx) c2
      refine Sub.trans ?_ ih
      rw [e, runL_drops_k k (k + 1)]
      exact runL_mono _ _ _ _ _ (by omega) gx (fill_good0 gx) (fill_up (by omega) gx)
    · have c2 : Cond (List.replicate m false ++ w) v := by
        refine ⟨?_, fun n a ha => ?_⟩
        · have h := c.1
          rw [e] at h
          simp at h ⊢
          exact h
        · have h0 : ahd (n + 1) u = some a := by
            rw [e, ahd_rep]
            rw [ahd_rep] at ha
            exact ha
          obtain ⟨b, hb, hl⟩ := c.2 (n + 1) a h0
          exact ⟨b, hb, hl⟩
      have ih := order v _ (k + 1) j (fill (k + 1) X) (by omega) hj (fill_good0 gx) c2
      refine Sub.trans ?_ ih
      rw [e]
      exact exchange m w k j X hk hj gx
/-! ### letters that do nothing to coarse rows -/
/-- the letters behind the first a fills and the first b drops; k fills and j drops seen -/
def left (a b k j : Int) : List Bool → List Bool
  | [] => []
  | true :: w => if k + 1 > a then true :: left a b (k + 1) j w else left a b (k + 1) j w
  | false :: w => if j + 1 > b then false :: left a b k (j + 1) w else left a b k (j + 1) w
theorem runL_left (a b : Int) (ha : 0 ≤ a) (hb : 0 ≤ b) : ∀ (w : List Bool) (k j : Int) (X : List Sn), Good b a X → runL k j w X = runL (max k a) (max j b) (left a b k j w) X
  | [], _, _, _, _ => rfl
  | true :: w, k, j, X, g => by
    unfold left
    by_cases c : k + 1 > a
    · rw [if_pos c]
      show runL (k + 1) j w _ = runL (max k a + 1) (max j b) (left a b (k + 1) j w) (fill (max k a + 1) X)
      rw [show max k a = k by omega, runL_left a b ha hb w (k + 1) j _ ((fill_good hb ha g).mono (Int.le_refl _) (by omega)), show max (k + 1) a = k + 1 by omega]
    · rw [if_neg c]
      show runL (k + 1) j w (fill (k + 1) X) = _
      rw [fill_id g (by omega), runL_left a b ha hb w (k + 1) j X g, show max (k + 1) a = max k a by omega]
  | false :: w, k, j, X, g => by
    unfold left
    by_cases c : j + 1 > b
    · rw [if_pos c]
      show runL k (j + 1) w _ = runL (max k a) (max j b + 1) (left a b k (j + 1) w) (drp (max j b + 1) X)
      rw [show max j b = j by omega, runL_left a b ha hb w k (j + 1) _ ((drp_good g).mono (by omega) (Int.le_refl _)), show max (j + 1) b = j + 1 by omega]
    · rw [if_neg c]
      show runL k (j + 1) w (drp (j + 1) X) = _
      rw [drp_id g (by omega), runL_left a b ha hb w k (j + 1) X g, show max (j + 1) b = max j b by omega]
/-- the letters of a pipeline -/
def word (p : List Stp) : List Bool := spell 0 0 (trip p)
theorem pipe_word {p : List Stp} {X : List Sn} (ho : ∀ x ∈ p, x.ok) (g : Good 0 0 X) : pipe p X = mov (starts p) (ends p) (runL 0 0 (word p) X) := by
  rw [pipe_eq ho g, run_spell (trip p) 0 0 X (Int.le_refl _) (Int.le_refl _) g]
  rfl
/-- the law, one way: for coarse rows -/
theorem within_of {p q : List Stp} {a b : Int} (ha : 0 ≤ a) (hb : 0 ≤ b) (hp : ∀ x ∈ p, x.ok) (hq : ∀ x ∈ q, x.ok) (h1 : starts q ≤ starts p) (h2 : ends p ≤ ends q) (c : Cond (left a b 0 0 (word p)) (left a b 0 0 (word q)))
    {X : List Sn} (g : Good b a X) : Sub (pipe p X) (pipe q X) := by
  have g0 : Good 0 0 X := g.mono hb ha
  rw [pipe_word hp g0, pipe_word hq g0, runL_left a b ha hb _ 0 0 X g, runL_left a b ha hb _ 0 0 X g]
  have h := order _ _ (max 0 a) (max 0 b) X (by omega) (by omega) g0 c
  intro x hx
  obtain ⟨y, hy, rfl⟩ := List.mem_map.mp hx
  obtain ⟨z, hz, z1, z2⟩ := h y hy
  exact ⟨(z.1 + starts q, z.2 + ends q), List.mem_map.mpr ⟨z, hz, rfl⟩, by show z.1 + starts q ≤ y.1 + starts p; omega, by show y.2 + ends p ≤ z.2 + ends q; omega⟩
end CM
/-! Combs, and the other way: what shows that a pipeline makes more. -/
namespace CM
/-! ### what stays, what becomes one, what goes -/
theorem runL_stay {l g : Int} {X : List Sn} (gd : Good (l - 1) (g - 1) X) : ∀ (w : List Bool) (k j : Int), k + (w.count true : Int) < g → j + (w.count false : Int) < l → runL k j w X = X
  | [], _, _, _, _ => rfl
  | true :: w, k, j, h1, h2 => by
    have e1 : (true :: w).count true = w.count true + 1 := by simp
    have e2 : (true :: w).count false = w.count false := by simp
    rw [e1] at h1
    rw [e2] at h2
    show runL (k + 1) j w (fill (k + 1) X) = X
    rw [fill_id gd (by omega)]
    exact runL_stay gd w (k + 1) j (by omega) h2
  | false :: w, k, j, h1, h2 => by
    have e1 : (false :: w).count true = w.count true := by simp
    have e2 : (false :: w).count false = w.count false + 1 := by simp
    rw [e1] at h1
    rw [e2] at h2
    show runL k (j + 1) w (drp (j + 1) X) = X
    rw [drp_id gd (by omega)]
    exact runL_stay gd w k (j + 1) h1 (by omega)
theorem runL_single {a b : Int} : ∀ (w : List Bool) (k j : Int), j + (w.count false : Int) < b - a → runL k j w [(a, b)] = [(a, b)]
  | [], _, _, _ => rfl
  | true :: w, k, j, h => by
    have e2 : (true :: w).count false = w.count false := by simp
    rw [e2] at h
    exact runL_single w (k + 1) j h
  | false :: w, k, j, h => by
    have e2 : (false :: w).count false = w.count false + 1 := by simp
    rw [e2] at h
    show runL k (j + 1) w (drp (j + 1) [(a, b)]) = [(a, b)]
    have e : drp (j + 1) [(a, b)] = [(a, b)] := List.filter_eq_self.mpr fun x hx => by
      rw [List.mem_singleton] at hx
      subst hx
      exact decide_eq_true (by show j + 1 < b - a; omega)
    rw [e]
    exact runL_single w k (j + 1) (by omega)
theorem runL_nil : ∀ (w : List Bool) (k j : Int), runL k j w [] = []
  | [], _, _ => rfl
  | true :: w, k, j => runL_nil w (k + 1) j
  | false :: w, k, j => runL_nil w k (j + 1)
theorem runL_one {l g T : Int} {X : List Sn} (gd : Good (l - 1) (g - 1) X) (hf : fill g X = [(0, T)]) : ∀ (w : List Bool) (k j : Int) (n a : Nat), ahd n w = some a → k + 1 + n = g → j + a < l → j + (w.count false : Int) < T → runL k j w X = [(0, T)]
  | [], _, _, n, a, h, _, _, _ => by cases n <;> cases h
  | true :: w, k, j, 0, a, h, e, h1, h2 => by
    have e2 : (true :: w).count false = w.count false := by simp
    rw [e2] at h2
    show runL (k + 1) j w (fill (k + 1) X) = _
    rw [show k + 1 = g by omega, hf]
    exact runL_single w g j (by omega)
  | true :: w, k, j, n + 1, a, h, e, h1, h2 => by
    have e2 : (true :: w).count false = w.count false := by simp
    rw [e2] at h2
    show runL (k + 1) j w (fill (k + 1) X) = _
    rw [fill_id gd (by omega)]
    exact runL_one gd hf w (k + 1) j n a h (by omega) h1 h2
  | false :: w, k, j, n, a, h, e, h1, h2 => by
    have e2 : (false :: w).count false = w.count false + 1 := by simp
    rw [e2] at h2
    rw [ahd_false] at h
    cases q : ahd n w with
    | none => rw [q] at h; cases h
    | some a' =>
      rw [q] at h
      have ea : a' + 1 = a := Option.some.inj h
      show runL k (j + 1) w (drp (j + 1) X) = _
      rw [drp_id gd (by omega)]
      exact runL_one gd hf w k (j + 1) n a' q e (by omega) (by omega)
theorem runL_none {l g : Int} {X : List Sn} (gd : Good (l - 1) (g - 1) X) (hd : drp l X = []) : ∀ (w : List Bool) (k j : Int) (n : Nat), k + 1 + n = g → j < l → (∀ a, ahd n w = some a → l ≤ j + a) → l ≤ j + (w.count false : Int) → runL k j w X = []
  | [], _, _, _, _, h, _, h2 => by
    simp at h2
    omega
  | true :: w, k, j, 0, e, h, h1, h2 => by
    have := h1 0 rfl
    omega
  | true :: w, k, j, n + 1, e, h, h1, h2 => by
    have e2 : (true :: w).count false = w.count false := by simp
    rw [e2] at h2
    show runL (k + 1) j w (fill (k + 1) X) = _
    rw [fill_id gd (by omega)]
    exact runL_none gd hd w (k + 1) j n (by omega) h (fun a ha => h1 a ha) h2
  | false :: w, k, j, n, e, h, h1, h2 => by
    have e2 : (false :: w).count false = w.count false + 1 := by simp
    rw [e2] at h2
    show runL k (j + 1) w (drp (j + 1) X) = _
    by_cases c : j + 1 = l
    · rw [c, hd]
      exact runL_nil w k l
    · rw [drp_id gd (by omega)]
      refine runL_none gd hd w k (j + 1) n e (by omega) (fun a ha => ?_) (by omega)
      have := h1 (a + 1) (by rw [ahd_false, ha]; rfl)
      omega
/-! ### combs -/
def combR (f l g : Int) : Nat → List Sn
  | 0 => []
  | n + 1 => (f, f + l) :: combR (f + (l + g)) l g n
def combL (first l g : Int) (n : Nat) : List Sn := (List.range n).map fun (i : Nat) => (first + (i : Int) * (l + g), first + (i : Int) * (l + g) + l)
theorem combL_eq (l g : Int) : ∀ (n : Nat) (f : Int), combL f l g n = combR f l g n
  | 0, _ => rfl
  | n + 1, f => by
    unfold combL combR
    rw [List.range_succ_eq_map, List.map_cons, List.map_map, ← combL_eq l g n]
    unfold combL
    congr 1
    · simp
    · congr 1
      funext i
      show (f + ((i + 1 : Nat) : Int) * (l + g), f + ((i + 1 : Nat) : Int) * (l + g) + l) = (f + (l + g) + (i : Int) * (l + g), f + (l + g) + (i : Int) * (l + g) + l)
      have : ((i + 1 : Nat) : Int) * (l + g) = (l + g) + (i : Int) * (l + g) := by
        rw [show ((i + 1 : Nat) : Int) = (i : Int) + 1 by omega, Int.add_mul]
        omega
      rw [this]
      congr 1 <;> omega
theorem combR_from {l g : Int} (hl : 0 < l) (hg : 0 < g) : ∀ (n : Nat) (f : Int), ∀ x ∈ combR f l g n, f ≤ x.1 ∧ x.2 = x.1 + l
  | 0, _, x, h => by simp [combR] at h
  | n + 1, f, x, h => by
    rcases List.mem_cons.mp h with rfl | h
    · exact ⟨Int.le_refl _, rfl⟩
    · obtain ⟨h1, h2⟩ := combR_from hl hg n _ x h
      exact ⟨by omega, h2⟩
theorem combR_good {l g : Int} (hl : 0 < l) (hg : 0 < g) : ∀ (n : Nat) (f : Int), Good (l - 1) (g - 1) (combR f l g n)
  | 0, _ => Good.nil
  | n + 1, f => good_cons.mpr ⟨⟨by show l - 1 < f + l - f; omega, fun y hy => by
      have := (combR_from hl hg n _ y hy).1
      show f + l + (g - 1) < y.1
      omega⟩, combR_good hl hg n _⟩
theorem fillA_comb {l g : Int} (hg : 0 < g) : ∀ (n : Nat) (s f : Int), fillA g (s, f + l) (combR (f + (l + g)) l g n) = [(s, f + (n : Int) * (l + g) + l)]
  | 0, s, f => by
    show [(s, f + l)] = _
    simp
  | n + 1, s, f => by
    show fillA g (s, f + l) ((f + (l + g), f + (l + g) + l) :: combR (f + (l + g) + (l + g)) l g n) = _
    rw [fillA, if_pos (by show f + (l + g) - (f + l) ≤ g; omega)]
    show fillA g (s, f + (l + g) + l) (combR (f + (l + g) + (l + g)) l g n) = _
    rw [fillA_comb hg n s (f + (l + g))]
    have : ((n + 1 : Nat) : Int) * (l + g) = (l + g) + (n : Int) * (l + g) := by
      rw [show ((n + 1 : Nat) : Int) = (n : Int) + 1 by omega, Int.add_mul]
      omega
    rw [this]
    congr 2
    omega
theorem fill_comb {l g : Int} (hg : 0 < g) (n : Nat) : fill g (combR 0 l g (n + 1)) = [(0, ((n + 1 : Nat) : Int) * (l + g) - g)] := by
  show fillA g (0, 0 + l) (combR (0 + (l + g)) l g n) = _
  rw [fillA_comb hg n 0 0]
  have : ((n + 1 : Nat) : Int) * (l + g) = (l + g) + (n : Int) * (l + g) := by
    rw [show ((n + 1 : Nat) : Int) = (n : Int) + 1 by omega, Int.add_mul]
    omega
  rw [this]
  congr 2
  omega
theorem drp_comb {l g : Int} (hl : 0 < l) (hg : 0 < g) (n : Nat) (f : Int) : drp l (combR f l g n) = [] :=
  List.filter_eq_nil_iff.mpr fun x hx => by
    have := (combR_from hl hg n f x hx).2
    simp
    omega
/-! ### counts -/
theorem ahd_lt : ∀ (w : List Bool) (n a : Nat), ahd n w = some a → n < w.count true ∧ a ≤ w.count false
  | [], n, a, h => by cases n <;> cases h
  | true :: w, 0, a, h => by
    have e : 0 = a := Option.some.inj h
    subst e
    simp
  | true :: w, n + 1, a, h => by
    have := ahd_lt w n a h
    simp
    omega
  | false :: w, n, a, h => by
    rw [ahd_false] at h
    cases q : ahd n w with
    | none => rw [q] at h; cases h
    | some a' =>
      rw [q] at h
      have e : a' + 1 = a := Option.some.inj h
      have := ahd_lt w n a' q
      simp
      omega
theorem ahd_some : ∀ (w : List Bool) (n : Nat), n < w.count true → ∃ a, ahd n w = some a
  | [], n, h => by simp at h
  | true :: w, 0, h => ⟨0, rfl⟩
  | true :: w, n + 1, h => ahd_some w n (by simp at h; omega)
  | false :: w, n, h => by
    obtain ⟨a, ha⟩ := ahd_some w n (by simpa using h)
    exact ⟨a + 1, by rw [ahd_false, ha]; rfl⟩
theorem ahd_mono : ∀ (w : List Bool) (n m a b : Nat), n ≤ m → ahd n w = some a → ahd m w = some b → a ≤ b
  | [], n, _, a, _, _, h, _ => by cases n <;> cases h
  | true :: w, 0, m, a, b, _, h, _ => by
    have e : 0 = a := Option.some.inj h
    omega
  | true :: w, n + 1, 0, a, b, hl, _, _ => by omega
  | true :: w, n + 1, m + 1, a, b, hl, h1, h2 => ahd_mono w n m a b (by omega) h1 h2
  | false :: w, n, m, a, b, hl, h1, h2 => by
    rw [ahd_false] at h1 h2
    cases q1 : ahd n w with
    | none => rw [q1] at h1; cases h1
    | some a' =>
      cases q2 : ahd m w with
      | none => rw [q2] at h2; cases h2
      | some b' =>
        rw [q1] at h1
        rw [q2] at h2
        have e1 : a' + 1 = a := Option.some.inj h1
        have e2 : b' + 1 = b := Option.some.inj h2
        have := ahd_mono w n m a' b' hl q1 q2
        omega
theorem ahd_left (a b : Int) : ∀ (w : List Bool) (k j : Int) (n : Nat), ahd n (left a b k j w) = (ahd (n + (a - k).toNat) w).map fun y => y - (b - j).toNat
  | [], k, j, n => by
    show ahd n [] = (ahd (n + (a - k).toNat) []).map _
    cases n <;> cases (a - k).toNat <;> rfl
  | true :: w, k, j, n => by
    unfold left
    by_cases c : k + 1 > a
    · rw [if_pos c, show (a - k).toNat = 0 by omega]
      cases n with
      | zero => simp [ahd]
      | succ n =>
        show ahd n (left a b (k + 1) j w) = (ahd (n + 0) w).map _
        rw [ahd_left a b w (k + 1) j n, show (a - (k + 1)).toNat = 0 by omega]
    · rw [if_neg c, ahd_left a b w (k + 1) j n, show (a - k).toNat = (a - (k + 1)).toNat + 1 by omega]
      rfl
  | false :: w, k, j, n => by
    unfold left
    by_cases c : j + 1 > b
    · rw [if_pos c, ahd_false, ahd_false, ahd_left a b w k (j + 1) n, show (b - j).toNat = 0 by omega, show (b - (j + 1)).toNat = 0 by omega]
      cases ahd (n + (a - k).toNat) w with
      | none => rfl
      | some y => rfl
    · rw [if_neg c, ahd_false, ahd_left a b w k (j + 1) n]
      cases ahd (n + (a - k).toNat) w with
      | none => rfl
      | some y =>
        show some (y - (b - (j + 1)).toNat) = some (y + 1 - (b - j).toNat)
        congr 1
        omega
theorem count_left (a b : Int) : ∀ (w : List Bool) (k j : Int), (left a b k j w).count true = w.count true - (a - k).toNat ∧ (left a b k j w).count false = w.count false - (b - j).toNat
  | [], _, _ => ⟨by simp [left], by simp [left]⟩
  | true :: w, k, j => by
    have ih := count_left a b w (k + 1) j
    have e1 : (true :: w).count true = w.count true + 1 := by simp
    have e2 : (true :: w).count false = w.count false := by simp
    unfold left
    by_cases c : k + 1 > a
    · rw [if_pos c, e1, e2]
      have e3 : (true :: left a b (k + 1) j w).count true = (left a b (k + 1) j w).count true + 1 := by simp
      have e4 : (true :: left a b (k + 1) j w).count false = (left a b (k + 1) j w).count false := by simp
      rw [e3, e4]
      omega
    · rw [if_neg c, e1, e2]
      omega
  | false :: w, k, j => by
    have ih := count_left a b w k (j + 1)
    have e1 : (false :: w).count true = w.count true := by simp
    have e2 : (false :: w).count false = w.count false + 1 := by simp
    unfold left
    by_cases c : j + 1 > b
    · rw [if_pos c, e1, e2]
      have e3 : (false :: left a b k (j + 1) w).count true = (left a b k (j + 1) w).count true := by simp
      have e4 : (false :: left a b k (j + 1) w).count false = (left a b k (j + 1) w).count false + 1 := by simp
      rw [e3, e4]
      omega
    · rw [if_neg c, e1, e2]
      omega
/-! ### heights -/
theorem spell_counts (high low h : Int) (r : List Int) : (spell high low (h :: r)).count true = (h - high).toNat + (spell (max high h) (min low h) r).count true ∧ (spell high low (h :: r)).count false = (low - h).toNat + (spell (max high h) (min low h) r).count false := by
  show (List.replicate (h - high).toNat true ++ (List.replicate (low - h).toNat false ++ spell (max high h) (min low h) r)).count true = _ ∧ (List.replicate (h - high).toNat true ++ (List.replicate (low - h).toNat false ++ spell (max high h) (min low h) r)).count false = _
  rw [List.count_append, List.count_append, List.count_append, List.count_append, count_rep_same, count_rep_ft, count_rep_tf, count_rep_same]
  omega
theorem height_in : ∀ (p : List Stp) (h high low : Int), low ≤ h → h ≤ high → low - ((spell high low (hts h p)).count false : Int) ≤ h + (ends p - starts p) ∧ h + (ends p - starts p) ≤ high + ((spell high low (hts h p)).count true : Int)
  | [], h, high, low, h1, h2 => by
    show low - ((0 : Nat) : Int) ≤ h + (0 - 0) ∧ h + (0 - 0) ≤ high + ((0 : Nat) : Int)
    omega
  | .fill g :: r, h, high, low, h1, h2 => by
    have c1 := spell_counts high low (h + g) (h :: hts h r)
    have c2 := spell_counts (max high (h + g)) (min low (h + g)) h (hts h r)
    have ih := height_in r h (max (max high (h + g)) h) (min (min low (h + g)) h) (by omega) (by omega)
    show low - ((spell high low ((h + g) :: h :: hts h r)).count false : Int) ≤ h + (0 + ends r - (0 + starts r)) ∧ h + (0 + ends r - (0 + starts r)) ≤ high + ((spell high low ((h + g) :: h :: hts h r)).count true : Int)
    omega
  | .drop d :: r, h, high, low, h1, h2 => by
    have c1 := spell_counts high low (h - d) (h :: hts h r)
    have c2 := spell_counts (max high (h - d)) (min low (h - d)) h (hts h r)
    have ih := height_in r h (max (max high (h - d)) h) (min (min low (h - d)) h) (by omega) (by omega)
    show low - ((spell high low ((h - d) :: h :: hts h r)).count false : Int) ≤ h + (0 + ends r - (0 + starts r)) ∧ h + (0 + ends r - (0 + starts r)) ≤ high + ((spell high low ((h - d) :: h :: hts h r)).count true : Int)
    omega
  | .widen a b :: r, h, high, low, h1, h2 => by
    have c1 := spell_counts high low (h + (a + b)) (hts (h + (a + b)) r)
    have ih := height_in r (h + (a + b)) (max high (h + (a + b))) (min low (h + (a + b))) (by omega) (by omega)
    show low - ((spell high low ((h + (a + b)) :: hts (h + (a + b)) r)).count false : Int) ≤ h + (b + ends r - (-a + starts r)) ∧ h + (b + ends r - (-a + starts r)) ≤ high + ((spell high low ((h + (a + b)) :: hts (h + (a + b)) r)).count true : Int)
    omega
  | .trim a b :: r, h, high, low, h1, h2 => by
    have c1 := spell_counts high low (h - (a + b)) (hts (h - (a + b)) r)
    have ih := height_in r (h - (a + b)) (max high (h - (a + b))) (min low (h - (a + b))) (by omega) (by omega)
    show low - ((spell high low ((h - (a + b)) :: hts (h - (a + b)) r)).count false : Int) ≤ h + (-b + ends r - (a + starts r)) ∧ h + (-b + ends r - (a + starts r)) ≤ high + ((spell high low ((h - (a + b)) :: hts (h - (a + b)) r)).count true : Int)
    omega
  | .shift n :: r, h, high, low, h1, h2 => by
    have ih := height_in r h high low h1 h2
    show low - ((spell high low (hts h r)).count false : Int) ≤ h + (n + ends r - (n + starts r)) ∧ h + (n + ends r - (n + starts r)) ≤ high + ((spell high low (hts h r)).count true : Int)
    omega
theorem height_word (p : List Stp) : -((word p).count false : Int) ≤ ends p - starts p ∧ ends p - starts p ≤ ((word p).count true : Int) := by
  have h := height_in p 0 0 0 (Int.le_refl _) (Int.le_refl _)
  have c := spell_counts 0 0 0 (hts 0 p)
  have e : word p = spell 0 0 (0 :: hts 0 p) := rfl
  rw [e]
  have m1 : max (0 : Int) 0 = 0 := by omega
  have m2 : min (0 : Int) 0 = 0 := by omega
  rw [m1, m2] at c
  omega
/-! ### the other way -/
theorem mov_one (s e a b : Int) : mov s e [(a, b)] = [(a + s, b + e)] := rfl
theorem not_sub_nil {x : Sn} {X : List Sn} (h : x ∈ X) : ¬ Sub X [] := fun q => by
  obtain ⟨y, hy, _⟩ := q x h
  cases hy
/-- one long span shows unlike edges -/
theorem edge_shows {p q : List Stp} {s0 : Int} (hp : ∀ x ∈ p, x.ok) (hq : ∀ x ∈ q, x.ok) (h0 : 1 ≤ s0) (h : starts p < starts q ∨ ends q < ends p) :
    ¬ Sub (pipe p [(0, s0 + ((word p).count false : Int) + ((word q).count false : Int))]) (pipe q [(0, s0 + ((word p).count false : Int) + ((word q).count false : Int))]) := by
  have g : Good 0 0 [((0 : Int), s0 + ((word p).count false : Int) + ((word q).count false : Int))] := ⟨fun x hx => by
    rw [List.mem_singleton] at hx
    subst hx
    show 0 < s0 + ((word p).count false : Int) + ((word q).count false : Int) - 0
    omega, List.pairwise_singleton _ _⟩
  rw [pipe_word hp g, pipe_word hq g, runL_single _ _ _ (by omega), runL_single _ _ _ (by omega), mov_one, mov_one]
  intro c
  obtain ⟨y, hy, h1, h2⟩ := c _ List.mem_cons_self
  rw [List.mem_singleton] at hy
  subst hy
  have h3 : 0 + starts q ≤ 0 + starts p := h1
  have h4 : s0 + ((word p).count false : Int) + ((word q).count false : Int) + ends p ≤ s0 + ((word p).count false : Int) + ((word q).count false : Int) + ends q := h2
  omega
/-- what cell_over tells, by letters -/
def Cell (u v : List Bool) (L G : Int) : Prop :=
  (∃ n x : Nat, G = n + 1 ∧ L = x + 1 ∧ ahd n u = some x ∧ ∀ y, ahd n v = some y → x < y) ∨ (L = u.count false + 1 ∧ G = max (u.count true) (v.count true) + 1 ∧ u.count false < v.count false)
theorem many_big (l g D : Int) (hl : 0 < l) (hg : 0 < g) (hD : 0 ≤ D) : 2 ≤ 2 + (D + g) / (l + g) ∧ D + 1 + l + g ≤ (2 + (D + g) / (l + g)) * (l + g) - g := by
  have h1 : 0 ≤ (D + g) / (l + g) := Int.ediv_nonneg (by omega) (by omega)
  have h2 := Int.mul_ediv_add_emod (D + g) (l + g)
  have h3 := Int.emod_lt_of_pos (D + g) (show 0 < l + g by omega)
  have h4 : (2 + (D + g) / (l + g)) * (l + g) = 2 * (l + g) + (l + g) * ((D + g) / (l + g)) := by
    rw [Int.add_mul, Int.mul_comm ((D + g) / (l + g))]
  constructor
  · omega
  · rw [h4]
    omega
theorem comb_shows {p q : List Stp} {a b L G : Int} (ha : 0 ≤ a) (hb : 0 ≤ b) (hp : ∀ x ∈ p, x.ok) (hq : ∀ x ∈ q, x.ok) (c : Cell (left a b 0 0 (word p)) (left a b 0 0 (word q)) L G)
    {n : Nat} (hn : (n : Int) = 2 + (((word p).count false : Int) + ((word q).count false : Int) + (G + a)) / (L + b + (G + a))) :
    Good b a (combR 0 (L + b) (G + a) n) ∧ ¬ Sub (pipe p (combR 0 (L + b) (G + a) n)) (pipe q (combR 0 (L + b) (G + a) n)) := by
  have cp := count_left a b (word p) 0 0
  have cq := count_left a b (word q) 0 0
  have hL : 1 ≤ L ∧ 1 ≤ G := by
    rcases c with ⟨n, x, e1, e2, _⟩ | ⟨e1, e2, _⟩ <;> omega
  have gd := combR_good (l := L + b) (g := G + a) (by omega) (by omega) n 0
  have g0 : Good 0 0 (combR 0 (L + b) (G + a) n) := gd.mono (by omega) (by omega)
  refine ⟨gd.mono (by omega) (by omega), ?_⟩
  have big := many_big (L + b) (G + a) (((word p).count false : Int) + ((word q).count false : Int)) (by omega) (by omega) (by omega)
  rw [← hn] at big
  obtain ⟨m, rfl⟩ : ∃ m, n = m + 1 := ⟨n - 1, by omega⟩
  rw [pipe_word hp g0, pipe_word hq g0]
  have hcomb := fill_comb (l := L + b) (g := G + a) (by omega) m
  have hdrop := drp_comb (l := L + b) (g := G + a) (by omega) (by omega) (m + 1) 0
  have hh1 := (height_word p).1
  have hh2 := (height_word q).2
  have mem0 : ((0 : Int), 0 + (L + b)) ∈ combR 0 (L + b) (G + a) (m + 1) := List.mem_cons_self
  rcases c with ⟨k, x, e1, e2, hu, hv⟩ | ⟨e1, e2, e3⟩
  · -- p makes one of it
    rw [ahd_left] at hu
    cases qu : ahd (k + (a - 0).toNat) (word p) with
    | none => rw [qu] at hu; cases hu
    | some y =>
      rw [qu] at hu
      have ex : y - (b - 0).toNat = x := Option.some.inj hu
      have onep := runL_one gd hcomb (word p) 0 0 (k + (a - 0).toNat) y qu (by omega) (by omega) (by omega)
      rw [onep]
      cases qv : ahd (k + (a - 0).toNat) (word q) with
      | none =>
        by_cases cc : ((word q).count false : Int) < L + b
        · -- q leaves it
          have tl : (word q).count true ≤ k + (a - 0).toNat := by
            by_cases d : k + (a - 0).toNat < (word q).count true
            · obtain ⟨z, hz⟩ := ahd_some _ _ d
              rw [qv] at hz
              cases hz
            · omega
          rw [runL_stay gd (word q) 0 0 (by omega) (by omega), mov_one]
          intro s
          obtain ⟨z, hz, z1, z2⟩ := s _ List.mem_cons_self
          obtain ⟨t, ht, rfl⟩ := List.mem_map.mp hz
          have := (combR_from (l := L + b) (g := G + a) (by omega) (by omega) (m + 1) 0 t ht).2
          have z3 : t.1 + starts q ≤ 0 + starts p := z1
          have z4 : ((m + 1 : Nat) : Int) * (L + b + (G + a)) - (G + a) + ends p ≤ t.2 + ends q := z2
          omega
        · rw [runL_none gd hdrop (word q) 0 0 (k + (a - 0).toNat) (by omega) (by omega) (fun z hz => by rw [qv] at hz; cases hz) (by omega)]
          exact not_sub_nil (x := (0 + starts p, ((m + 1 : Nat) : Int) * (L + b + (G + a)) - (G + a) + ends p)) List.mem_cons_self
      | some z =>
        have hz := hv (z - (b - 0).toNat) (by rw [ahd_left, qv]; rfl)
        have zl := (ahd_lt _ _ _ qv).2
        rw [runL_none gd hdrop (word q) 0 0 (k + (a - 0).toNat) (by omega) (by omega) (fun t ht => by
          rw [qv] at ht
          have e : z = t := Option.some.inj ht
          omega) (by omega)]
        exact not_sub_nil (x := (0 + starts p, ((m + 1 : Nat) : Int) * (L + b + (G + a)) - (G + a) + ends p)) List.mem_cons_self
  · -- p leaves it, q drops it
    rw [runL_stay gd (word p) 0 0 (by omega) (by omega)]
    rw [runL_none gd hdrop (word q) 0 0 ((G + a).toNat - 1) (by omega) (by omega) (fun t ht => by
      have := (ahd_lt _ _ _ ht).1
      omega) (by omega)]
    exact not_sub_nil (x := (0 + starts p, 0 + (L + b) + ends p)) List.mem_cons_self
end CM
/-! Words by runs, as the program keeps them; what it tells by them. -/
namespace CM
abbrev Wd := List (Bool × Int)
def Pos (w : Wd) : Prop := ∀ r ∈ w, 0 < r.2
def expand (w : Wd) : List Bool := w.flatMap fun r => List.replicate r.2.toNat r.1
theorem expand_nil : expand [] = [] := rfl
theorem expand_cons (r : Bool × Int) (w : Wd) : expand (r :: w) = List.replicate r.2.toNat r.1 ++ expand w := by
  unfold expand
  rw [List.flatMap_cons]
theorem expand_append (u v : Wd) : expand (u ++ v) = expand u ++ expand v := by
  unfold expand
  rw [List.flatMap_append]
theorem pos_cons {r : Bool × Int} {w : Wd} : Pos (r :: w) ↔ 0 < r.2 ∧ Pos w :=
  ⟨fun h => ⟨h r List.mem_cons_self, fun x hx => h x (List.mem_cons_of_mem _ hx)⟩, fun h x hx => by
    rcases List.mem_cons.mp hx with rfl | hx
    · exact h.1
    · exact h.2 x hx⟩
/-- one turn of run_together -/
def rtStep (found : Wd) (r : Bool × Int) : Wd :=
  if 0 < r.2 then (match found.getLast? with
    | some l => if l.1 = r.1 then found.dropLast ++ [(r.1, l.2 + r.2)] else found ++ [r]
    | none => [r])
  else found
def runTog (rs : Wd) : Wd := rs.foldl rtStep []
theorem last_split {α : Type} {l : List α} {x : α} (h : l.getLast? = some x) : l = l.dropLast ++ [x] := by
  have hne : l ≠ [] := fun e => by
    rw [e] at h
    cases h
  have e2 := List.getLast?_eq_some_getLast hne
  rw [e2] at h
  rw [← Option.some.inj h]
  exact (List.dropLast_concat_getLast hne).symm
theorem rtStep_ok (found : Wd) (r : Bool × Int) (hp : Pos found) : Pos (rtStep found r) ∧ expand (rtStep found r) = expand found ++ List.replicate r.2.toNat r.1 := by
  unfold rtStep
  by_cases h : 0 < r.2
  · rw [if_pos h]
    cases q : found.getLast? with
    | none =>
      have e : found = [] := List.getLast?_eq_none_iff.mp q
      subst e
      exact ⟨fun x hx => by
        rw [List.mem_singleton] at hx
        subst hx
        exact h, by rw [expand_cons, expand_nil, List.append_nil, List.nil_append]⟩
    | some l =>
      have e := last_split q
      have hl : 0 < l.2 := hp l (List.mem_of_getLast? q)
      dsimp only
      by_cases c : l.1 = r.1
      · rw [if_pos c]
        refine ⟨fun x hx => ?_, ?_⟩
        · rcases List.mem_append.mp hx with hx | hx
          · exact hp x ((List.dropLast_sublist found).subset hx)
          · rw [List.mem_singleton] at hx
            subst hx
            show 0 < l.2 + r.2
            omega
        · conv => rhs; rw [e]
          rw [expand_append, expand_append, expand_cons, expand_cons, expand_nil, List.append_nil, List.append_nil, c, List.append_assoc, List.replicate_append_replicate]
          congr 2
          show (l.2 + r.2).toNat = l.2.toNat + r.2.toNat
          omega
      · rw [if_neg c]
        refine ⟨fun x hx => ?_, ?_⟩
        · rcases List.mem_append.mp hx with hx | hx
          · exact hp x hx
          · rw [List.mem_singleton] at hx
            subst hx
            exact h
        · rw [expand_append, expand_cons, expand_nil, List.append_nil]
  · rw [if_neg h]
    exact ⟨hp, by rw [show r.2.toNat = 0 by omega, List.replicate_zero, List.append_nil]⟩
theorem runTog_from : ∀ (rs found : Wd), Pos found → Pos (rs.foldl rtStep found) ∧ expand (rs.foldl rtStep found) = expand found ++ expand rs
  | [], found, hp => ⟨hp, by rw [expand_nil, List.append_nil]; rfl⟩
  | r :: rs, found, hp => by
    have h := rtStep_ok found r hp
    have ih := runTog_from rs (rtStep found r) h.1
    refine ⟨ih.1, ?_⟩
    show expand (rs.foldl rtStep (rtStep found r)) = _
    rw [ih.2, h.2, expand_cons, List.append_assoc]
theorem runTog_pos (rs : Wd) : Pos (runTog rs) := (runTog_from rs [] fun x h => by cases h).1
theorem expand_runTog (rs : Wd) : expand (runTog rs) = expand rs := by
  have h := (runTog_from rs [] fun x h => by cases h).2
  rw [expand_nil, List.nil_append] at h
  exact h
/-! ### along -/
def alongR (high low : Int) : List Int → Wd
  | [] => []
  | h :: r => (true, h - high) :: (false, low - h) :: alongR (max high h) (min low h) r
theorem expand_alongR : ∀ (hs : List Int) (high low : Int), expand (alongR high low hs) = spell high low hs
  | [], _, _ => rfl
  | h :: r, high, low => by
    show expand ((true, h - high) :: (false, low - h) :: alongR (max high h) (min low h) r) = _
    rw [expand_cons, expand_cons, expand_alongR r]
    rfl
def wordR (p : List Stp) : Wd := runTog (alongR 0 0 (trip p))
theorem expand_wordR (p : List Stp) : expand (wordR p) = word p := by
  unfold wordR
  rw [expand_runTog, expand_alongR]
  rfl
theorem wordR_pos (p : List Stp) : Pos (wordR p) := runTog_pos _
/-! ### letters -/
def fillsR (w : Wd) : Int := ((w.filter fun r => r.1).map fun r => r.2).sum
def dropsR (w : Wd) : Int := ((w.filter fun r => !r.1).map fun r => r.2).sum
theorem fillsR_cons (r : Bool × Int) (w : Wd) : fillsR (r :: w) = (if r.1 then r.2 else 0) + fillsR w := by
  unfold fillsR
  rw [List.filter_cons]
  cases r.1 <;> simp
theorem dropsR_cons (r : Bool × Int) (w : Wd) : dropsR (r :: w) = (if r.1 then 0 else r.2) + dropsR w := by
  unfold dropsR
  rw [List.filter_cons]
  cases r.1 <;> simp
theorem letters_eq : ∀ {w : Wd}, Pos w → fillsR w = ((expand w).count true : Int) ∧ dropsR w = ((expand w).count false : Int)
  | [], _ => ⟨rfl, rfl⟩
  | (b, m) :: w, h => by
    have hp := pos_cons.mp h
    have ih := letters_eq hp.2
    have hm : 0 < m := hp.1
    rw [fillsR_cons, dropsR_cons, expand_cons, List.count_append, List.count_append, ih.1, ih.2]
    cases b with
    | true =>
      show m + _ = (((List.replicate m.toNat true).count true + _ : Nat) : Int) ∧ 0 + _ = (((List.replicate m.toNat true).count false + _ : Nat) : Int)
      rw [count_rep_same, count_rep_tf]
      omega
    | false =>
      show 0 + _ = (((List.replicate m.toNat false).count true + _ : Nat) : Int) ∧ m + _ = (((List.replicate m.toNat false).count false + _ : Nat) : Int)
      rw [count_rep_same, count_rep_ft]
      omega
/-! ### ahead of a fill -/
def aheadR : Int → Int → Wd → Option Int
  | _, _, [] => none
  | left, others, (false, many) :: w => aheadR left (others + many) w
  | left, others, (true, many) :: w => if 0 < left ∧ left ≤ many then some others else aheadR (left - many) others w
theorem ahd_rep_true : ∀ (m n : Nat) (w : List Bool), ahd n (List.replicate m true ++ w) = if n < m then some 0 else ahd (n - m) w
  | 0, n, w => by
    rw [if_neg (by omega)]
    rfl
  | m + 1, 0, w => by
    rw [if_pos (by omega)]
    rfl
  | m + 1, n + 1, w => by
    show ahd n (List.replicate m true ++ w) = _
    rw [ahd_rep_true m n w]
    by_cases h : n < m
    · rw [if_pos h, if_pos (by omega)]
    · rw [if_neg h, if_neg (by omega), show n + 1 - (m + 1) = n - m by omega]
theorem aheadR_eq : ∀ (w : Wd) (left others : Int), Pos w → 1 ≤ left → aheadR left others w = (ahd (left - 1).toNat (expand w)).map fun (a : Nat) => others + (a : Int)
  | [], left, others, _, _ => by
    show none = (ahd (left - 1).toNat []).map _
    cases (left - 1).toNat <;> rfl
  | (false, m) :: w, left, others, hp, hl => by
    have hq := pos_cons.mp hp
    have hm : 0 < m := hq.1
    show aheadR left (others + m) w = _
    rw [aheadR_eq w left (others + m) hq.2 hl, expand_cons, ahd_rep]
    cases ahd (left - 1).toNat (expand w) with
    | none => rfl
    | some a =>
      show some (others + m + (a : Int)) = some (others + ((a + m.toNat : Nat) : Int))
      congr 1
      omega
  | (true, m) :: w, left, others, hp, hl => by
    have hq := pos_cons.mp hp
    have hm : 0 < m := hq.1
    show (if 0 < left ∧ left ≤ m then some others else aheadR (left - m) others w) = _
    rw [expand_cons, ahd_rep_true]
    by_cases c : left ≤ m
    · rw [if_pos ⟨by omega, c⟩, if_pos (show (left - 1).toNat < m.toNat by omega)]
      show some others = some (others + ((0 : Nat) : Int))
      congr 1
      omega
    · rw [if_neg (by omega), if_neg (show ¬ (left - 1).toNat < m.toNat by omega), aheadR_eq w (left - m) others hq.2 (by omega), show (left - 1).toNat - m.toNat = (left - m - 1).toNat by omega]
/-! ### cut -/
def cutRuns : Int → Int → Wd → Wd
  | _, _, [] => []
  | high, low, (true, m) :: w => (true, m - min high m) :: cutRuns (high - min high m) low w
  | high, low, (false, m) :: w => (false, m - min low m) :: cutRuns high (low - min low m) w
theorem left_rep_true (a b j : Int) (w : List Bool) : ∀ (m : Nat) (k : Int), left a b k j (List.replicate m true ++ w) = List.replicate (m - (a - k).toNat) true ++ left a b (k + m) j w
  | 0, k => by
    rw [show 0 - (a - k).toNat = 0 by omega, show k + ((0 : Nat) : Int) = k by omega]
    rfl
  | m + 1, k => by
    show (if k + 1 > a then true :: left a b (k + 1) j (List.replicate m true ++ w) else left a b (k + 1) j (List.replicate m true ++ w)) = _
    rw [left_rep_true a b j w m (k + 1), show k + ((m + 1 : Nat) : Int) = k + 1 + (m : Int) by omega]
    by_cases h : k + 1 > a
    · rw [if_pos h, show m + 1 - (a - k).toNat = (m - (a - (k + 1)).toNat) + 1 by omega]
      rfl
    · rw [if_neg h, show m + 1 - (a - k).toNat = m - (a - (k + 1)).toNat by omega]
theorem left_rep_false (a b k : Int) (w : List Bool) : ∀ (m : Nat) (j : Int), left a b k j (List.replicate m false ++ w) = List.replicate (m - (b - j).toNat) false ++ left a b k (j + m) w
  | 0, j => by
    rw [show 0 - (b - j).toNat = 0 by omega, show j + ((0 : Nat) : Int) = j by omega]
    rfl
  | m + 1, j => by
    show (if j + 1 > b then false :: left a b k (j + 1) (List.replicate m false ++ w) else left a b k (j + 1) (List.replicate m false ++ w)) = _
    rw [left_rep_false a b k w m (j + 1), show j + ((m + 1 : Nat) : Int) = j + 1 + (m : Int) by omega]
    by_cases h : j + 1 > b
    · rw [if_pos h, show m + 1 - (b - j).toNat = (m - (b - (j + 1)).toNat) + 1 by omega]
      rfl
    · rw [if_neg h, show m + 1 - (b - j).toNat = m - (b - (j + 1)).toNat by omega]
theorem expand_cutRuns (a b : Int) : ∀ (w : Wd) (k j high low : Int), Pos w → high = max (a - k) 0 → low = max (b - j) 0 → expand (cutRuns high low w) = left a b k j (expand w)
  | [], _, _, _, _, _, _, _ => rfl
  | (true, m) :: w, k, j, high, low, hp, h1, h2 => by
    have hq := pos_cons.mp hp
    have hm : 0 < m := hq.1
    show expand ((true, m - min high m) :: cutRuns (high - min high m) low w) = _
    rw [expand_cons, expand_cons, left_rep_true, expand_cutRuns a b w (k + m.toNat) j _ _ hq.2 (by omega) h2]
    congr 2
    show (m - min high m).toNat = m.toNat - (a - k).toNat
    omega
  | (false, m) :: w, k, j, high, low, hp, h1, h2 => by
    have hq := pos_cons.mp hp
    have hm : 0 < m := hq.1
    show expand ((false, m - min low m) :: cutRuns high (low - min low m) w) = _
    rw [expand_cons, expand_cons, left_rep_false, expand_cutRuns a b w k (j + m.toNat) _ _ hq.2 h1 (by omega)]
    congr 2
    show (m - min low m).toNat = m.toNat - (b - j).toNat
    omega
def cutW (a b : Int) (w : Wd) : Wd := runTog (cutRuns a b w)
theorem cutW_pos (a b : Int) (w : Wd) : Pos (cutW a b w) := runTog_pos _
theorem expand_cutW {a b : Int} (ha : 0 ≤ a) (hb : 0 ≤ b) {w : Wd} (hp : Pos w) : expand (cutW a b w) = left a b 0 0 (expand w) := by
  unfold cutW
  rw [expand_runTog, expand_cutRuns a b w 0 0 a b hp (by omega) (by omega)]
/-! ### cell_over -/
/-- the runs with their levels -/
def zl : Int → Int → Wd → List ((Bool × Int) × Int)
  | _, _, [] => []
  | high, low, (true, m) :: w => ((true, m), high + m) :: zl (high + m) low w
  | high, low, (false, m) :: w => ((false, m), low - m) :: zl high (low - m) w
def cellLoop (one other : Wd) : List ((Bool × Int) × Int) → Option (Int × Int)
  | [] => none
  | ((true, _), L) :: r => if (aheadR L 0 one).getD 0 < (aheadR L 0 other).getD ((aheadR L 0 one).getD 0 + 1) then some ((aheadR L 0 one).getD 0 + 1, L) else cellLoop one other r
  | ((false, _), _) :: r => cellLoop one other r
def cellOver (one other : Wd) : Option (Int × Int) := match cellLoop one other (zl 0 0 one) with
  | some c => some c
  | none => if dropsR one < dropsR other then some (dropsR one + 1, max (fillsR one) (fillsR other) + 1) else none
theorem zl_has : ∀ (w : Wd) (high low : Int) (n a : Nat), Pos w → ahd n (expand w) = some a → ∃ m L, ((true, m), L) ∈ zl high low w ∧ high + n + 1 ≤ L ∧ ahd (L - high - 1).toNat (expand w) = some a
  | [], _, _, n, a, _, h => by cases n <;> cases h
  | (true, m) :: w, high, low, n, a, hp, h => by
    have hq := pos_cons.mp hp
    have hm : 0 < m := hq.1
    rw [expand_cons, ahd_rep_true] at h
    by_cases c : n < m.toNat
    · rw [if_pos c] at h
      have ea : 0 = a := Option.some.inj h
      refine ⟨m, high + m, List.mem_cons_self, by omega, ?_⟩
      rw [expand_cons, ahd_rep_true, if_pos (show (high + m - high - 1).toNat < m.toNat by omega), ea]
    · rw [if_neg c] at h
      obtain ⟨m', L, h1, h2, h3⟩ := zl_has w (high + m) low (n - m.toNat) a hq.2 h
      refine ⟨m', L, List.mem_cons_of_mem _ h1, by omega, ?_⟩
      rw [expand_cons, ahd_rep_true, if_neg (show ¬ (L - high - 1).toNat < m.toNat by omega), show (L - high - 1).toNat - m.toNat = (L - (high + m) - 1).toNat by omega]
      exact h3
  | (false, m) :: w, high, low, n, a, hp, h => by
    have hq := pos_cons.mp hp
    have hm : 0 < m := hq.1
    rw [expand_cons, ahd_rep] at h
    cases q : ahd n (expand w) with
    | none => rw [q] at h; cases h
    | some a' =>
      rw [q] at h
      obtain ⟨m', L, h1, h2, h3⟩ := zl_has w high (low - m) n a' hq.2 q
      refine ⟨m', L, List.mem_cons_of_mem _ h1, h2, ?_⟩
      rw [expand_cons, ahd_rep, h3]
      exact h
theorem zl_from : ∀ (w : Wd) (high low m L : Int), Pos w → ((true, m), L) ∈ zl high low w → high + 1 ≤ L ∧ ∃ a, ahd (L - high - 1).toNat (expand w) = some a
  | [], _, _, _, _, _, h => by cases h
  | (true, m0) :: w, high, low, m, L, hp, h => by
    have hq := pos_cons.mp hp
    have hm : 0 < m0 := hq.1
    rcases List.mem_cons.mp h with e | h
    · have e1 : L = high + m0 := congrArg (·.2) e
      refine ⟨by omega, 0, ?_⟩
      rw [expand_cons, ahd_rep_true, if_pos (show (L - high - 1).toNat < m0.toNat by omega)]
    · obtain ⟨h1, a, h2⟩ := zl_from w (high + m0) low m L hq.2 h
      refine ⟨by omega, a, ?_⟩
      rw [expand_cons, ahd_rep_true, if_neg (show ¬ (L - high - 1).toNat < m0.toNat by omega), show (L - high - 1).toNat - m0.toNat = (L - (high + m0) - 1).toNat by omega]
      exact h2
  | (false, m0) :: w, high, low, m, L, hp, h => by
    have hq := pos_cons.mp hp
    rcases List.mem_cons.mp h with e | h
    · have e1 : true = false := congrArg (fun z : (Bool × Int) × Int => z.1.1) e
      cases e1
    · obtain ⟨h1, a, h2⟩ := zl_from w high (low - m0) m L hq.2 h
      refine ⟨h1, a + m0.toNat, ?_⟩
      rw [expand_cons, ahd_rep, h2]
      rfl
theorem cellLoop_none {one other : Wd} : ∀ {zs : List ((Bool × Int) × Int)}, cellLoop one other zs = none → ∀ m L, ((true, m), L) ∈ zs → ¬ (aheadR L 0 one).getD 0 < (aheadR L 0 other).getD ((aheadR L 0 one).getD 0 + 1)
  | [], _, m, L, h => by cases h
  | ((true, m0), L0) :: zs, e, m, L, h => by
    have e' : (if (aheadR L0 0 one).getD 0 < (aheadR L0 0 other).getD ((aheadR L0 0 one).getD 0 + 1) then some ((aheadR L0 0 one).getD 0 + 1, L0) else cellLoop one other zs) = none := e
    by_cases c : (aheadR L0 0 one).getD 0 < (aheadR L0 0 other).getD ((aheadR L0 0 one).getD 0 + 1)
    · rw [if_pos c] at e'
      cases e'
    · rw [if_neg c] at e'
      rcases List.mem_cons.mp h with q | h
      · have e1 : L = L0 := congrArg (·.2) q
        rw [e1]
        exact c
      · exact cellLoop_none e' m L h
  | ((false, m0), L0) :: zs, e, m, L, h => by
    rcases List.mem_cons.mp h with q | h
    · have e1 : true = false := congrArg (fun z : (Bool × Int) × Int => z.1.1) q
      cases e1
    · exact cellLoop_none (zs := zs) e m L h
theorem cellLoop_some {one other : Wd} {L G : Int} : ∀ {zs : List ((Bool × Int) × Int)}, cellLoop one other zs = some (L, G) → ∃ m, ((true, m), G) ∈ zs ∧ L = (aheadR G 0 one).getD 0 + 1 ∧ (aheadR G 0 one).getD 0 < (aheadR G 0 other).getD ((aheadR G 0 one).getD 0 + 1)
  | [], e => by cases e
  | ((true, m0), L0) :: zs, e => by
    have e' : (if (aheadR L0 0 one).getD 0 < (aheadR L0 0 other).getD ((aheadR L0 0 one).getD 0 + 1) then some ((aheadR L0 0 one).getD 0 + 1, L0) else cellLoop one other zs) = some (L, G) := e
    by_cases c : (aheadR L0 0 one).getD 0 < (aheadR L0 0 other).getD ((aheadR L0 0 one).getD 0 + 1)
    · rw [if_pos c] at e'
      have e2 := Option.some.inj e'
      injection e2 with e3 e4
      subst e4
      exact ⟨m0, List.mem_cons_self, e3.symm, c⟩
    · rw [if_neg c] at e'
      obtain ⟨m, h1, h2⟩ := cellLoop_some e'
      exact ⟨m, List.mem_cons_of_mem _ h1, h2⟩
  | ((false, m0), L0) :: zs, e => by
    obtain ⟨m, h1, h2⟩ := cellLoop_some (zs := zs) e
    exact ⟨m, List.mem_cons_of_mem _ h1, h2⟩
theorem cell_some {one other : Wd} (p1 : Pos one) (p2 : Pos other) {L G : Int} (h : cellOver one other = some (L, G)) : Cell (expand one) (expand other) L G := by
  unfold cellOver at h
  have l1 := letters_eq p1
  have l2 := letters_eq p2
  cases q : cellLoop one other (zl 0 0 one) with
  | some c =>
    rw [q] at h
    have e : c = (L, G) := Option.some.inj h
    subst e
    obtain ⟨m, h1, h2, h3⟩ := cellLoop_some q
    obtain ⟨h4, a, h5⟩ := zl_from one 0 0 m G p1 h1
    have e1 := aheadR_eq one G 0 p1 (by omega)
    have e2 := aheadR_eq other G 0 p2 (by omega)
    rw [show (G - 0 - 1).toNat = (G - 1).toNat by omega] at h5
    rw [h5] at e1
    have e3 : aheadR G 0 one = some (0 + (a : Int)) := e1
    rw [e3] at h2 h3
    have h2' : L = 0 + (a : Int) + 1 := h2
    have h3' : 0 + (a : Int) < (aheadR G 0 other).getD (0 + (a : Int) + 1) := h3
    refine .inl ⟨(G - 1).toNat, a, by omega, by omega, h5, fun y hy => ?_⟩
    rw [e2, hy] at h3'
    have h3'' : 0 + (a : Int) < 0 + (y : Int) := h3'
    omega
  | none =>
    rw [q] at h
    dsimp only at h
    by_cases c : dropsR one < dropsR other
    · rw [if_pos c] at h
      have e := Option.some.inj h
      injection e with e3 e4
      exact .inr ⟨by omega, by omega, by omega⟩
    · rw [if_neg c] at h
      cases h
theorem cell_none {one other : Wd} (p1 : Pos one) (p2 : Pos other) : cellOver one other = none ↔ Cond (expand one) (expand other) := by
  have l1 := letters_eq p1
  have l2 := letters_eq p2
  constructor
  · intro h
    unfold cellOver at h
    cases q : cellLoop one other (zl 0 0 one) with
    | some c => rw [q] at h; cases h
    | none =>
      rw [q] at h
      dsimp only at h
      by_cases c : dropsR one < dropsR other
      · rw [if_pos c] at h
        cases h
      · refine ⟨by omega, fun n a ha => ?_⟩
        obtain ⟨m, L, h1, h2, h3⟩ := zl_has one 0 0 n a p1 ha
        have nl := cellLoop_none q m L h1
        have e1 := aheadR_eq one L 0 p1 (by omega)
        have e2 := aheadR_eq other L 0 p2 (by omega)
        rw [show (L - 0 - 1).toNat = (L - 1).toNat by omega] at h3
        rw [h3] at e1
        have e3 : aheadR L 0 one = some (0 + (a : Int)) := e1
        rw [e3] at nl
        have nl' : ¬ 0 + (a : Int) < (aheadR L 0 other).getD (0 + (a : Int) + 1) := nl
        cases z : ahd (L - 1).toNat (expand other) with
        | none =>
          rw [e2, z] at nl'
          exact absurd (show 0 + (a : Int) < 0 + (a : Int) + 1 by omega) nl'
        | some b =>
          rw [e2, z] at nl'
          have nl2 : ¬ 0 + (a : Int) < 0 + (b : Int) := nl'
          have lt := (ahd_lt _ _ _ z).1
          obtain ⟨b', hb'⟩ := ahd_some (expand other) n (by omega)
          have := ahd_mono (expand other) n (L - 1).toNat b' b (by omega) hb' z
          exact ⟨b', hb', by omega⟩
  · intro h
    cases q : cellOver one other with
    | none => rfl
    | some c =>
      obtain ⟨L, G⟩ := c
      rcases cell_some p1 p2 q with ⟨n, x, e1, e2, hu, hv⟩ | ⟨e1, e2, e3⟩
      · obtain ⟨b, hb, hl⟩ := h.2 n x hu
        have := hv b hb
        omega
      · have := h.1
        omega
/-! ### what the program tells -/
def withinM (p q : List Stp) (s0 g0 : Int) : Bool :=
  if starts p < starts q ∨ ends q < ends p then false else (cellOver (cutW (g0 - 1) (s0 - 1) (wordR p)) (cutW (g0 - 1) (s0 - 1) (wordR q))).isNone
def manyFor (l g d : Int) : Int := 2 + (d + g) / (l + g)
def rowOver (p q : List Stp) (s0 g0 : Int) : Option (List Sn) := match cellOver (cutW (g0 - 1) (s0 - 1) (wordR p)) (cutW (g0 - 1) (s0 - 1) (wordR q)) with
  | none => none
  | some c => some (combL 0 (c.1 + s0 - 1) (c.2 + g0 - 1) (manyFor (c.1 + s0 - 1) (c.2 + g0 - 1) (dropsR (wordR p) + dropsR (wordR q))).toNat)
def outsideM (p q : List Stp) (s0 g0 : Int) : Option (List Sn) :=
  if starts p < starts q ∨ ends q < ends p then some [(0, s0 + dropsR (wordR p) + dropsR (wordR q))] else rowOver p q s0 g0
/-- by letters -/
def Due (p q : List Stp) (s0 g0 : Int) : Prop := starts q ≤ starts p ∧ ends p ≤ ends q ∧ Cond (left (g0 - 1) (s0 - 1) 0 0 (word p)) (left (g0 - 1) (s0 - 1) 0 0 (word q))
theorem cell_due {p q : List Stp} {s0 g0 : Int} (h1 : 1 ≤ s0) (h2 : 1 ≤ g0) : cellOver (cutW (g0 - 1) (s0 - 1) (wordR p)) (cutW (g0 - 1) (s0 - 1) (wordR q)) = none ↔ Cond (left (g0 - 1) (s0 - 1) 0 0 (word p)) (left (g0 - 1) (s0 - 1) 0 0 (word q)) := by
  rw [cell_none (cutW_pos _ _ _) (cutW_pos _ _ _), expand_cutW (by omega) (by omega) (wordR_pos p), expand_cutW (by omega) (by omega) (wordR_pos q), expand_wordR, expand_wordR]
theorem withinM_due {p q : List Stp} {s0 g0 : Int} (h1 : 1 ≤ s0) (h2 : 1 ≤ g0) : withinM p q s0 g0 = true ↔ Due p q s0 g0 := by
  unfold withinM Due
  by_cases c : starts p < starts q ∨ ends q < ends p
  · rw [if_pos c]
    constructor
    · intro h
      cases h
    · rintro ⟨h3, h4, _⟩
      omega
  · rw [if_neg c, Option.isNone_iff_eq_none, cell_due h1 h2]
    constructor
    · intro h
      exact ⟨by omega, by omega, h⟩
    · exact fun h => h.2.2
theorem outsideM_none {p q : List Stp} {s0 g0 : Int} (h1 : 1 ≤ s0) (h2 : 1 ≤ g0) : outsideM p q s0 g0 = none ↔ Due p q s0 g0 := by
  unfold outsideM rowOver Due
  by_cases c : starts p < starts q ∨ ends q < ends p
  · rw [if_pos c]
    constructor
    · intro h
      cases h
    · rintro ⟨h3, h4, _⟩
      omega
  · rw [if_neg c]
    cases z : cellOver (cutW (g0 - 1) (s0 - 1) (wordR p)) (cutW (g0 - 1) (s0 - 1) (wordR q)) with
    | none => exact ⟨fun _ => ⟨by omega, by omega, (cell_due h1 h2).mp z⟩, fun _ => rfl⟩
    | some cc =>
      constructor
      · intro h
        cases h
      · rintro ⟨_, _, h3⟩
        have := (cell_due h1 h2).mpr h3
        rw [z] at this
        cases this
theorem outsideM_shows {p q : List Stp} {s0 g0 : Int} (hp : ∀ x ∈ p, x.ok) (hq : ∀ x ∈ q, x.ok) (h1 : 1 ≤ s0) (h2 : 1 ≤ g0) {X : List Sn} (h : outsideM p q s0 g0 = some X) : Good (s0 - 1) (g0 - 1) X ∧ ¬ Sub (pipe p X) (pipe q X) := by
  have lp := letters_eq (wordR_pos p)
  have lq := letters_eq (wordR_pos q)
  rw [expand_wordR] at lp lq
  unfold outsideM at h
  by_cases c : starts p < starts q ∨ ends q < ends p
  · rw [if_pos c, lp.2, lq.2] at h
    have e := Option.some.inj h
    subst e
    refine ⟨⟨fun x hx => ?_, List.pairwise_singleton _ _⟩, edge_shows hp hq h1 c⟩
    rw [List.mem_singleton] at hx
    subst hx
    show s0 - 1 < s0 + ((word p).count false : Int) + ((word q).count false : Int) - 0
    omega
  · rw [if_neg c] at h
    unfold rowOver at h
    cases z : cellOver (cutW (g0 - 1) (s0 - 1) (wordR p)) (cutW (g0 - 1) (s0 - 1) (wordR q)) with
    | none => rw [z] at h; cases h
    | some cc =>
      obtain ⟨L, G⟩ := cc
      rw [z] at h
      have e := Option.some.inj h
      have hc := cell_some (cutW_pos _ _ _) (cutW_pos _ _ _) z
      rw [expand_cutW (by omega) (by omega) (wordR_pos p), expand_cutW (by omega) (by omega) (wordR_pos q), expand_wordR, expand_wordR] at hc
      have hL : 1 ≤ L ∧ 1 ≤ G := by
        rcases hc with ⟨n, x, e1, e2, _⟩ | ⟨e1, e2, _⟩ <;> omega
      have big := many_big (L + (s0 - 1)) (G + (g0 - 1)) (((word p).count false : Int) + ((word q).count false : Int)) (by omega) (by omega) (by omega)
      have r := comb_shows (a := g0 - 1) (b := s0 - 1) (by omega) (by omega) hp hq hc (n := (manyFor (L + s0 - 1) (G + g0 - 1) (dropsR (wordR p) + dropsR (wordR q))).toNat) (by
        unfold manyFor
        rw [lp.2, lq.2, show L + s0 - 1 = L + (s0 - 1) by omega, show G + g0 - 1 = G + (g0 - 1) by omega]
        omega)
      rw [← e]
      show Good (s0 - 1) (g0 - 1) (combL 0 (L + s0 - 1) (G + g0 - 1) _) ∧ ¬ Sub (pipe p (combL 0 (L + s0 - 1) (G + g0 - 1) _)) (pipe q (combL 0 (L + s0 - 1) (G + g0 - 1) _))
      rw [combL_eq, show L + s0 - 1 = L + (s0 - 1) by omega, show G + g0 - 1 = G + (g0 - 1) by omega]
      rw [show L + s0 - 1 = L + (s0 - 1) by omega, show G + g0 - 1 = G + (g0 - 1) by omega] at r
      exact r
end CM
/-! What is left over of a row: nothing just where the row lies within. -/
namespace CM
def inB : List Sn → List Sn → List Sn
  | [], _ => []
  | _ :: _, [] => []
  | x :: r, y :: s => (if max x.1 y.1 < min x.2 y.2 then [(max x.1 y.1, min x.2 y.2)] else []) ++ if x.2 < y.2 then inB r (y :: s) else inB (x :: r) s
  termination_by a b => a.length + b.length
theorem inB_nil1 (Y : List Sn) : inB [] Y = [] := by
  rw [inB]
theorem inB_nil2 (X : List Sn) : inB X [] = [] := by
  cases X with
  | nil => rw [inB]
  | cons x r => rw [inB]
theorem inB_lt {x y : Sn} {r s : List Sn} (h : x.2 < y.2) : inB (x :: r) (y :: s) = (if max x.1 y.1 < min x.2 y.2 then [(max x.1 y.1, min x.2 y.2)] else []) ++ inB r (y :: s) := by
  rw [inB, if_pos h]
theorem inB_ge {x y : Sn} {r s : List Sn} (h : ¬ x.2 < y.2) : inB (x :: r) (y :: s) = (if max x.1 y.1 < min x.2 y.2 then [(max x.1 y.1, min x.2 y.2)] else []) ++ inB (x :: r) s := by
  rw [inB, if_neg h]
def Row1 (X : List Sn) : Prop := (∀ x ∈ X, x.1 < x.2) ∧ X.Pairwise fun x y => x.2 ≤ y.1
theorem row1_cons {x : Sn} {r : List Sn} (h : Row1 (x :: r)) : (∀ y ∈ r, x.2 ≤ y.1) ∧ Row1 r := ⟨(List.pairwise_cons.mp h.2).1, fun y hy => h.1 y (.tail _ hy), (List.pairwise_cons.mp h.2).2⟩
theorem mem_cons {t : Int} {x : Sn} {r : List Sn} : Mem t (x :: r) ↔ (x.1 ≤ t ∧ t < x.2) ∨ Mem t r := by
  unfold Mem
  constructor
  · rintro ⟨y, hy, h⟩
    rcases List.mem_cons.mp hy with e | hy
    · subst e
      exact .inl h
    · exact .inr ⟨y, hy, h⟩
  · rintro (h | ⟨y, hy, h⟩)
    · exact ⟨x, .head _, h⟩
    · exact ⟨y, .tail _ hy, h⟩
theorem mem_none {t : Int} : ¬ Mem t [] := fun ⟨_, h, _⟩ => by cases h
theorem inB_apart : ∀ (n : Nat) (X Y : List Sn), X.length + Y.length ≤ n → Row1 X → Row1 Y → (inB X Y = [] ↔ ∀ t, ¬ (Mem t X ∧ Mem t Y))
  | _, [], Y, _, _, _ => by
    rw [inB_nil1]
    exact ⟨fun _ t h => mem_none h.1, fun _ => rfl⟩
  | _, x :: r, [], _, _, _ => by
    rw [inB_nil2]
    exact ⟨fun _ t h => mem_none h.2, fun _ => rfl⟩
  | 0, x :: r, y :: s, h, _, _ => by simp at h
  | n + 1, x :: r, y :: s, h, gx, gy => by
    obtain ⟨gx1, gx2⟩ := row1_cons gx
    obtain ⟨gy1, gy2⟩ := row1_cons gy
    have lx := gx.1 x (.head _)
    have ly := gy.1 y (.head _)
    by_cases c : max x.1 y.1 < min x.2 y.2
    · have m : Mem (max x.1 y.1) (x :: r) ∧ Mem (max x.1 y.1) (y :: s) := ⟨mem_cons.mpr (.inl ⟨by omega, by omega⟩), mem_cons.mpr (.inl ⟨by omega, by omega⟩)⟩
      constructor
      · intro e
        by_cases c2 : x.2 < y.2
        · rw [inB_lt c2, if_pos c] at e
          cases e
        · rw [inB_ge c2, if_pos c] at e
          cases e
      · intro q
        exact absurd m (q _)
    · by_cases c2 : x.2 < y.2
      · rw [inB_lt c2, if_neg c, List.nil_append, inB_apart n r (y :: s) (by simp only [List.length_cons] at h ⊢; omega) gx2 gy]
        constructor
        · rintro q t ⟨h1, h2⟩
          rcases mem_cons.mp h1 with h1 | h1
          · rcases mem_cons.mp h2 with h2 | ⟨z, hz, h3, h4⟩
            · omega
            · have := gy1 z hz
              omega
          · exact q t ⟨h1, h2⟩
        · rintro q t ⟨h1, h2⟩
          exact q t ⟨mem_cons.mpr (.inr h1), h2⟩
      · rw [inB_ge c2, if_neg c, List.nil_append, inB_apart n (x :: r) s (by simp only [List.length_cons] at h ⊢; omega) gx gy2]
        constructor
        · rintro q t ⟨h1, h2⟩
          rcases mem_cons.mp h2 with h2 | h2
          · rcases mem_cons.mp h1 with h1 | ⟨z, hz, h3, h4⟩
            · omega
            · have := gx1 z hz
              omega
          · exact q t ⟨h1, h2⟩
        · rintro q t ⟨h1, h2⟩
          exact q t ⟨h1, mem_cons.mpr (.inr h2)⟩
/-- the ends between which nothing lies -/
def gapsF : Int → List Sn → Int → List Sn
  | a, [], b => [(a, b)]
  | a, y :: r, b => (a, y.1) :: gapsF y.2 r b
def freeF (a : Int) (Y : List Sn) (b : Int) : List Sn := (gapsF a Y b).filter fun p => decide (p.1 < p.2)
theorem free_cons (a : Int) (y : Sn) (r : List Sn) (b : Int) : freeF a (y :: r) b = if a < y.1 then (a, y.1) :: freeF y.2 r b else freeF y.2 r b := by
  unfold freeF
  show List.filter _ ((a, y.1) :: gapsF y.2 r b) = _
  rw [List.filter_cons]
  by_cases c : a < y.1
  · rw [if_pos c, if_pos (decide_eq_true c)]
  · rw [if_neg c, if_neg (by simpa using c)]
theorem free_nil (a b : Int) : freeF a [] b = if a < b then [(a, b)] else [] := by
  unfold freeF
  show List.filter _ [(a, b)] = _
  rw [List.filter_cons]
  by_cases c : a < b
  · rw [if_pos c, if_pos (decide_eq_true c)]
    rfl
  · rw [if_neg c, if_neg (by simpa using c)]
    rfl
theorem free_row : ∀ (Y : List Sn) (a b : Int), Row1 Y → Row1 (freeF a Y b) ∧ ((∀ y ∈ Y, a ≤ y.2) → ∀ z ∈ freeF a Y b, a ≤ z.1)
  | [], a, b, _ => by
    rw [free_nil]
    by_cases c : a < b
    · rw [if_pos c]
      refine ⟨⟨fun x hx => ?_, List.pairwise_singleton _ _⟩, fun _ z hz => ?_⟩
      · rw [List.mem_singleton] at hx
        rw [hx]
        exact c
      · rw [List.mem_singleton] at hz
        rw [hz]
        exact Int.le_refl _
    · rw [if_neg c]
      exact ⟨⟨fun x hx => (by cases hx), List.Pairwise.nil⟩, fun _ z hz => (by cases hz)⟩
  | y :: r, a, b, g => by
    obtain ⟨g1, g2⟩ := row1_cons g
    obtain ⟨f1, f2⟩ := free_row r y.2 b g2
    have f3 := f2 fun z hz => by
      have := g1 z hz
      have := g.1 z (.tail _ hz)
      omega
    have ly := g.1 y (.head _)
    rw [free_cons]
    by_cases c : a < y.1
    · rw [if_pos c]
      refine ⟨⟨fun x hx => ?_, List.pairwise_cons.mpr ⟨fun z hz => ?_, f1.2⟩⟩, fun h z hz => ?_⟩
      · rcases List.mem_cons.mp hx with e | hx
        · rw [e]
          exact c
        · exact f1.1 x hx
      · have := f3 z hz
        show y.1 ≤ z.1
        omega
      · rcases List.mem_cons.mp hz with e | hz
        · rw [e]
          exact Int.le_refl _
        · have := f3 z hz
          omega
    · rw [if_neg c]
      refine ⟨f1, fun h z hz => ?_⟩
      have := f3 z hz
      have := h y (.head _)
      omega
/-- from a to b, a time is free or is Y's -/
theorem mem_free : ∀ (Y : List Sn) (a b t : Int), Row1 Y → (∀ y ∈ Y, a ≤ y.1 ∨ True) → a ≤ t → t < b → (Mem t (freeF a Y b) ↔ ¬ Mem t Y)
  | [], a, b, t, _, _, h1, h2 => by
    rw [free_nil, if_pos (by omega)]
    exact ⟨fun _ => mem_none, fun _ => ⟨(a, b), .head _, h1, h2⟩⟩
  | y :: r, a, b, t, g, _, h1, h2 => by
    obtain ⟨g1, g2⟩ := row1_cons g
    have ly := g.1 y (.head _)
    have f3 := (free_row r y.2 b g2).2 fun z hz => by
      have := g1 z hz
      have := g.1 z (.tail _ hz)
      omega
    rw [free_cons, mem_cons]
    by_cases c2 : y.2 ≤ t
    · have ih := mem_free r y.2 b t g2 (fun _ _ => .inr trivial) c2 h2
      by_cases c : a < y.1
      · rw [if_pos c, mem_cons, ih]
        constructor
        · rintro (q | q) (z | z)
          · simp only at q; omega
          · simp only at q; omega
          · omega
          · exact q z
        · intro q
          exact .inr fun z => q (.inr z)
      · rw [if_neg c, ih]
        constructor
        · rintro q (z | z)
          · omega
          · exact q z
        · intro q z
          exact q (.inr z)
    · have no1 : ¬ Mem t (freeF y.2 r b) := fun ⟨z, hz, h3, h4⟩ => by
        have := f3 z hz
        omega
      have no2 : ¬ Mem t r := fun ⟨z, hz, h3, h4⟩ => by
        have := g1 z hz
        omega
      by_cases c : a < y.1
      · rw [if_pos c, mem_cons]
        constructor
        · rintro (q | q) (z | z)
          · simp only at q; omega
          · exact no2 z
          · exact no1 q
          · exact no2 z
        · intro q
          refine .inl ⟨h1, ?_⟩
          show t < y.1
          by_cases c3 : y.1 ≤ t
          · exact absurd (.inl ⟨c3, by omega⟩) q
          · omega
      · rw [if_neg c]
        constructor
        · intro q
          exact absurd q no1
        · intro q
          exact absurd (.inl ⟨by omega, by omega⟩) q
def leftM (X Y : List Sn) : List Sn := match X with
  | [] => []
  | x :: r => inB (x :: r) (freeF x.1 Y ((x :: r).getLast (by simp)).2)
theorem good_row1 {X : List Sn} (g : Good 0 0 X) : Row1 X := ⟨fun x hx => by have := g.1 x hx; omega, g.2.imp fun h => by omega⟩
theorem row1_last : ∀ {r : List Sn} {x : Sn}, Row1 (x :: r) → ∀ y ∈ x :: r, x.1 ≤ y.1 ∧ y.2 ≤ ((x :: r).getLast (by simp)).2
  | [], x, _, y, hy => by
    rw [List.mem_singleton] at hy
    rw [hy]
    exact ⟨Int.le_refl _, Int.le_refl _⟩
  | z :: r, x, g, y, hy => by
    obtain ⟨g1, g2⟩ := row1_cons g
    have lx := g.1 x (.head _)
    rw [List.getLast_cons (by simp)]
    rcases List.mem_cons.mp hy with e | hy
    · rw [e]
      have := row1_last g2 z (.head _)
      have := g1 z (.head _)
      have := g2.1 z (.head _)
      exact ⟨Int.le_refl _, by omega⟩
    · have h3 := row1_last g2 y hy
      have := g1 z (.head _)
      exact ⟨by omega, h3.2⟩
theorem left_sub {X Y : List Sn} (gx : Good 0 0 X) (gy : Good 0 0 Y) : leftM X Y = [] ↔ Sub X Y := by
  have rx := good_row1 gx
  have ry := good_row1 gy
  cases X with
  | nil => exact ⟨fun _ x hx => (by cases hx), fun _ => rfl⟩
  | cons x r =>
    unfold leftM
    rw [inB_apart _ _ _ (Nat.le_refl _) rx (free_row Y _ _ ry).1]
    constructor
    · intro h
      refine sub_of_mem (fun z hz => rx.1 z hz) gy fun t ht => ?_
      by_cases m : Mem t Y
      · exact m
      · obtain ⟨z, hz, h1, h2⟩ := ht
        have := row1_last rx z hz
        exact absurd ⟨⟨z, hz, h1, h2⟩, (mem_free Y x.1 _ t ry (fun _ _ => .inr trivial) (by omega) (by omega)).mpr m⟩ (h t)
    · rintro h t ⟨⟨z, hz, h1, h2⟩, h3⟩
      have := row1_last rx z hz
      exact (mem_free Y x.1 _ t ry (fun _ _ => .inr trivial) (by omega) (by omega)).mp h3 (mem_sub h ⟨z, hz, h1, h2⟩)
end CM
set_option Elab.async false
set_option linter.all false
set_option maxRecDepth 100000
set_option maxHeartbeats 4000000
/-! A frame over the layer: which data a value stands for (Rp), what an expression evaluates to (EvR), statements, loops and comprehensions over data. -/
namespace Cf
open PySem L2
/-! ### data -/
class Rp (α : Type) where
  is : Hp → V → α → Prop
  mono : ∀ {H H' : Hp} {v : V} {a : α}, Same H H' → is H v a → is H' v a
/-- how many fields an instance has when it is made -/
def nf (C : Addr) : Nat := if C = 508 then 2 else 1
/-- tuples and made instances stay as they are -/
def Kp (H H' : Hp) : Prop := ∀ a o, (match o with | .tup _ => True | .ins C _ fs => fs.length = nf C | _ => False) → H a = some o → H' a = some o
class RpK (α : Type) extends Rp α where
  monoK : ∀ {H H' : Hp} {v : V} {a : α}, Kp H H' → is H v a → is H' v a
theorem kp_of {H H' : Hp} (s : Same H H') : Kp H H' := fun a o _ h => s a o h
theorem kp_lst {H : Hp} {l : Addr} {xs ys : List V} (h : H l = some (.lst xs)) : Kp H (upd H l (.lst ys)) := fun a o ho e => by
  by_cases c : a = l
  · subst c
    rw [h] at e
    have e2 := Option.some.inj e
    subst e2
    exact ho.elim
  · rw [upd_ne c]
    exact e
theorem kp_ins {H : Hp} {l C dx : Addr} {fs : List (Str × V)} {o : HO} (h : H l = some (.ins C dx fs)) (hn : fs.length ≠ nf C) : Kp H (upd H l o) := fun a o ho e => by
  by_cases c : a = l
  · subst c
    rw [h] at e
    have e2 := Option.some.inj e
    subst e2
    exact absurd ho hn
  · rw [upd_ne c]
    exact e
theorem Kp.trans {H H1 H2 : Hp} (a : Kp H H1) (b : Kp H1 H2) : Kp H H2 := fun p o ho h => b p o ho (a p o ho h)
instance : RpK Int := { is := fun _ v a => v = .int a, mono := fun _ h => h, monoK := fun _ h => h }
instance : RpK Bool := { is := fun _ v a => v = .bl a, mono := fun _ h => h, monoK := fun _ h => h }
instance : RpK Str := { is := fun _ v a => v = .str a, mono := fun _ h => h, monoK := fun _ h => h }
instance : RpK Unit := { is := fun _ v _ => v = .non, mono := fun _ h => h, monoK := fun _ h => h }
def All2 {α : Type} (R : V → α → Prop) : List V → List α → Prop
  | [], [] => True
  | v :: vs, a :: as => R v a ∧ All2 R vs as
  | _, _ => False
theorem All2.imp {α : Type} {R R' : V → α → Prop} (h : ∀ v a, R v a → R' v a) : ∀ {vs : List V} {as : List α}, All2 R vs as → All2 R' vs as
  | [], [], _ => trivial
  | _ :: _, _ :: _, q => ⟨h _ _ q.1, All2.imp h q.2⟩
  | [], _ :: _, q => q.elim
  | _ :: _, [], q => q.elim
theorem All2.length {α : Type} {R : V → α → Prop} : ∀ {vs : List V} {as : List α}, All2 R vs as → vs.length = as.length
  | [], [], _ => rfl
  | _ :: _, _ :: _, q => congrArg Nat.succ (All2.length q.2)
  | [], _ :: _, q => q.elim
  | _ :: _, [], q => q.elim
theorem All2.get {α : Type} {R : V → α → Prop} : ∀ {vs : List V} {as : List α} {i : Nat} {a : α}, All2 R vs as → as[i]? = some a → ∃ v, vs[i]? = some v ∧ R v a
  | v :: vs, b :: as, 0, a, q, e => by
    have e2 : b = a := Option.some.inj e
    subst e2
    exact ⟨v, rfl, q.1⟩
  | v :: vs, b :: as, i + 1, a, q, e => All2.get (vs := vs) (as := as) (i := i) q.2 e
  | [], [], _, _, _, e => by simp at e
  | [], _ :: _, _, _, q, _ => q.elim
  | _ :: _, [], _, _, q, _ => q.elim
theorem All2.getV {α : Type} {R : V → α → Prop} : ∀ {vs : List V} {as : List α} {i : Nat} {v : V}, All2 R vs as → vs[i]? = some v → ∃ a, as[i]? = some a ∧ R v a
  | v :: vs, b :: as, 0, w, q, e => by
    have e2 : v = w := Option.some.inj e
    subst e2
    exact ⟨b, rfl, q.1⟩
  | v :: vs, b :: as, i + 1, w, q, e => All2.getV (vs := vs) (as := as) (i := i) q.2 e
  | [], [], _, _, _, e => by simp at e
  | [], _ :: _, _, _, q, _ => q.elim
  | _ :: _, [], _, _, q, _ => q.elim
theorem All2.append {α : Type} {R : V → α → Prop} : ∀ {vs ws : List V} {as bs : List α}, All2 R vs as → All2 R ws bs → All2 R (vs ++ ws) (as ++ bs)
  | [], _, [], _, _, q => q
  | _ :: _, _, _ :: _, _, p, q => ⟨p.1, All2.append p.2 q⟩
  | [], _, _ :: _, _, p, _ => p.elim
  | _ :: _, _, [], _, p, _ => p.elim
theorem All2.drop {α : Type} {R : V → α → Prop} : ∀ {vs : List V} {as : List α} (n : Nat), All2 R vs as → All2 R (vs.drop n) (as.drop n)
  | _, _, 0, q => q
  | [], [], _ + 1, _ => trivial
  | _ :: _, _ :: _, n + 1, q => All2.drop n q.2
  | [], _ :: _, _ + 1, q => q.elim
  | _ :: _, [], _ + 1, q => q.elim
theorem All2.take {α : Type} {R : V → α → Prop} : ∀ {vs : List V} {as : List α} (n : Nat), All2 R vs as → All2 R (vs.take n) (as.take n)
  | _, _, 0, _ => trivial
  | [], [], _ + 1, _ => trivial
  | _ :: _, _ :: _, n + 1, q => ⟨q.1, All2.take n q.2⟩
  | [], _ :: _, _ + 1, q => q.elim
  | _ :: _, [], _ + 1, q => q.elim
theorem all2_int : ∀ {vs : List V} {as : List Int}, All2 (fun v a => v = V.int a) vs as → vs = as.map V.int
  | [], [], _ => rfl
  | v :: vs, a :: as, q => by rw [List.map_cons, ← all2_int q.2, q.1]
  | [], _ :: _, q => q.elim
  | _ :: _, [], q => q.elim
theorem int_all2 : ∀ as : List Int, All2 (fun v a => v = V.int a) (as.map V.int) as
  | [] => trivial
  | _ :: as => ⟨rfl, int_all2 as⟩
theorem all2_bl : ∀ {vs : List V} {as : List Bool}, All2 (fun v a => v = V.bl a) vs as → vs = as.map V.bl
  | [], [], _ => rfl
  | v :: vs, a :: as, q => by rw [List.map_cons, ← all2_bl q.2, q.1]
  | [], _ :: _, q => q.elim
  | _ :: _, [], q => q.elim
instance {α β : Type} [RpK α] [RpK β] : RpK (α × β) where
  is := fun H v p => ∃ q x y, v = .ref q ∧ H q = some (.tup [x, y]) ∧ Rp.is H x p.1 ∧ Rp.is H y p.2
  mono := fun s ⟨q, x, y, e, h, h1, h2⟩ => ⟨q, x, y, e, s _ _ h, Rp.mono s h1, Rp.mono s h2⟩
  monoK := fun s ⟨q, x, y, e, h, h1, h2⟩ => ⟨q, x, y, e, s _ _ trivial h, RpK.monoK s h1, RpK.monoK s h2⟩
instance {α : Type} [RpK α] : RpK (List α) where
  is := fun H v as => ∃ q xs, v = .ref q ∧ H q = some (.tup xs) ∧ All2 (Rp.is H) xs as
  mono := fun s ⟨q, xs, e, h, h1⟩ => ⟨q, xs, e, s _ _ h, h1.imp fun _ _ => Rp.mono s⟩
  monoK := fun s ⟨q, xs, e, h, h1⟩ => ⟨q, xs, e, s _ _ trivial h, h1.imp fun _ _ => RpK.monoK s⟩
/-- a Python list -/
structure Ls (α : Type) where
  val : List α
instance {α : Type} [Rp α] : Rp (Ls α) where
  is := fun H v as => ∃ q xs, v = .ref q ∧ H q = some (.lst xs) ∧ All2 (Rp.is H) xs as.val
  mono := fun s ⟨q, xs, e, h, h1⟩ => ⟨q, xs, e, s _ _ h, h1.imp fun _ _ => Rp.mono s⟩
instance {α : Type} [RpK α] : RpK (Option α) where
  is := fun H v o => match o with
    | none => v = .non
    | some a => v ≠ .non ∧ Rp.is H v a
  mono := fun {H H' v o} s h => match o, h with
    | none, h => h
    | some _, h => ⟨h.1, Rp.mono s h.2⟩
  monoK := fun {H H' v o} s h => match o, h with
    | none, h => h
    | some _, h => ⟨h.1, RpK.monoK s h.2⟩
theorem is_int {H : Hp} {v : V} {a : Int} : Rp.is H v a ↔ v = .int a := Iff.rfl
theorem same_new {H : Hp} {p : Addr} {o : HO} (h : H p = none) : Same H (upd H p o) := fun a u e => by
  rw [upd_ne (ne_of_none e h)]
  exact e
theorem same_mut {H H' : Hp} {p : Addr} {o : HO} (e : Same H H') (h : H p = none) : Same H (upd H' p o) := fun a u ha => by
  rw [upd_ne (ne_of_none ha h)]
  exact e a u ha
/-! ### expressions -/
def EvR {α : Type} [Rp α] (te : TE) (σ : L2.St) (H : Hp) (a : α) : Prop := ∀ H1, Same H H1 → ∀ Q : VK, (∀ v H2, Same H1 H2 → Rp.is H2 v a → Q v H2) → te σ H1 Q
def EtR (tt : TT) (σ : L2.St) (H : Hp) (b : Bool) : Prop := ∀ H1, Same H H1 → ∀ Q : Bool → Hp → Prop, (∀ H2, Same H1 H2 → Q b H2) → tt σ H1 Q
/-- arguments -/
def EaR (ta : TA) (σ : L2.St) (H : Hp) (P : Hp → List V → Prop) : Prop := ∀ H1, Same H H1 → ∀ Q : List V → Hp → Prop, (∀ vs H2, Same H1 H2 → P H2 vs → Q vs H2) → ta σ H1 Q
section
variable {K : PySem.W.Frag} {σ : L2.St} {H H' : Hp} {ta tb tc te : TE} {tt uu : TT} {α β γ : Type}
theorem EvR.up [Rp α] {a : α} (s : Same H H') (h : EvR te σ H a) : EvR te σ H' a := fun H1 s1 Q q => h H1 (s.trans s1) Q q
theorem EtR.up {b : Bool} (s : Same H H') (h : EtR tt σ H b) : EtR tt σ H' b := fun H1 s1 Q q => h H1 (s.trans s1) Q q
theorem EvR.eq [Rp α] {a b : α} (h : EvR te σ H a) (e : a = b) : EvR te σ H b := e ▸ h
theorem EtR.eq {a b : Bool} (h : EtR tt σ H a) (e : a = b) : EtR tt σ H b := e ▸ h
theorem ev_var [Rp α] {a : α} {i : Nat} {v : V} (hσ : σ[i]? = some (some v)) (h : Rp.is H v a) : EvR (tVar i) σ H a := fun H1 s Q q => ⟨v, hσ, q v H1 (Same.refl _) (Rp.mono s h)⟩
theorem ev_int {i : Int} : EvR (tC (.int i)) σ H i := fun H1 _ Q q => q _ H1 (Same.refl _) rfl
theorem ev_str {i : Str} : EvR (tC (.str i)) σ H i := fun H1 _ Q q => q _ H1 (Same.refl _) rfl
theorem ev_bl {i : Bool} : EvR (tC (.bl i)) σ H i := fun H1 _ Q q => q _ H1 (Same.refl _) rfl
theorem ev_non : EvR (tC .non) σ H () := fun H1 _ Q q => q _ H1 (Same.refl _) rfl
theorem ev_none [RpK α] : EvR (tC .non) σ H (none : Option α) := fun H1 _ Q q => q _ H1 (Same.refl _) rfl
theorem ev_opI {f : Int → Int → Int} {a b : Int} (ha : EvR ta σ H a) (hb : EvR tb σ H b) : EvR (tOp (rI0 fun i j => .int (f i j)) ta tb) σ H (f a b) := fun H1 s Q q =>
  ha H1 s _ fun v H2 s2 hv => hb H2 (s.trans s2) _ fun w H3 s3 hw => ⟨a, b, hv, hw, q _ H3 (s2.trans s3) rfl⟩
theorem ev_opB {f : Int → Int → Bool} {a b : Int} (ha : EvR ta σ H a) (hb : EvR tb σ H b) : EvR (tOp (rI0 fun i j => .bl (f i j)) ta tb) σ H (f a b) := fun H1 s Q q =>
  ha H1 s _ fun v H2 s2 hv => hb H2 (s.trans s2) _ fun w H3 s3 hw => ⟨a, b, hv, hw, q _ H3 (s2.trans s3) rfl⟩
theorem ev_opC {C : Int → Int → Prop} {f : Int → Int → Int} {a b : Int} (ha : EvR ta σ H a) (hb : EvR tb σ H b) (c : C a b) : EvR (tOp (rI C fun i j => .int (f i j)) ta tb) σ H (f a b) := fun H1 s Q q =>
  ha H1 s _ fun v H2 s2 hv => hb H2 (s.trans s2) _ fun w H3 s3 hw => ⟨a, b, hv, hw, c, q _ H3 (s2.trans s3) rfl⟩
theorem ev_un {f : Int → Int} {a : Int} (ha : EvR ta σ H a) : EvR (tUn (rU fun i => .int (f i)) ta) σ H (f a) := fun H1 s Q q => ha H1 s _ fun v H2 s2 hv => ⟨a, hv, q _ H2 s2 rfl⟩
theorem ev_eqI {a b : Int} (ha : EvR ta σ H a) (hb : EvR tb σ H b) : EvR (tOp rEq ta tb) σ H (decide (a = b)) := fun H1 s Q q =>
  ha H1 s _ fun v H2 s2 hv => hb H2 (s.trans s2) _ fun w H3 s3 hw => by
    rw [is_int] at hv hw
    subst hv hw
    refine ⟨rfl, q _ H3 (s2.trans s3) ?_⟩
    show V.bl (decide (V.int a = V.int b)) = V.bl (decide (a = b))
    rw [show decide (V.int a = V.int b) = decide (a = b) from decide_eq_decide.mpr ⟨fun e => V.int.inj e, fun e => by rw [e]⟩]
theorem ev_neI {a b : Int} (ha : EvR ta σ H a) (hb : EvR tb σ H b) : EvR (tOp rNe ta tb) σ H (!decide (a = b)) := fun H1 s Q q =>
  ha H1 s _ fun v H2 s2 hv => hb H2 (s.trans s2) _ fun w H3 s3 hw => by
    rw [is_int] at hv hw
    subst hv hw
    refine ⟨rfl, q _ H3 (s2.trans s3) ?_⟩
    show V.bl (!decide (V.int a = V.int b)) = V.bl (!decide (a = b))
    rw [show decide (V.int a = V.int b) = decide (a = b) from decide_eq_decide.mpr ⟨fun e => V.int.inj e, fun e => by rw [e]⟩]
theorem ev_eqS {a b : Str} (ha : EvR ta σ H a) (hb : EvR tb σ H b) : EvR (tOp rEq ta tb) σ H (decide (a = b)) := fun H1 s Q q =>
  ha H1 s _ fun v H2 s2 hv => hb H2 (s.trans s2) _ fun w H3 s3 hw => by
    have hv' : v = .str a := hv
    have hw' : w = .str b := hw
    subst hv' hw'
    refine ⟨rfl, q _ H3 (s2.trans s3) ?_⟩
    show V.bl (decide (V.str a = V.str b)) = V.bl (decide (a = b))
    rw [show decide (V.str a = V.str b) = decide (a = b) from decide_eq_decide.mpr ⟨fun e => V.str.inj e, fun e => by rw [e]⟩]
theorem ev_neS {a b : Str} (ha : EvR ta σ H a) (hb : EvR tb σ H b) : EvR (tOp rNe ta tb) σ H (!decide (a = b)) := fun H1 s Q q =>
  ha H1 s _ fun v H2 s2 hv => hb H2 (s.trans s2) _ fun w H3 s3 hw => by
    have hv' : v = .str a := hv
    have hw' : w = .str b := hw
    subst hv' hw'
    refine ⟨rfl, q _ H3 (s2.trans s3) ?_⟩
    show V.bl (!decide (V.str a = V.str b)) = V.bl (!decide (a = b))
    rw [show decide (V.str a = V.str b) = decide (a = b) from decide_eq_decide.mpr ⟨fun e => V.str.inj e, fun e => by rw [e]⟩]
theorem ev_eqB {a b : Bool} (ha : EvR ta σ H a) (hb : EvR tb σ H b) : EvR (tOp rEq ta tb) σ H (decide (a = b)) := fun H1 s Q q =>
  ha H1 s _ fun v H2 s2 hv => hb H2 (s.trans s2) _ fun w H3 s3 hw => by
    have hv' : v = .bl a := hv
    have hw' : w = .bl b := hw
    subst hv' hw'
    refine ⟨rfl, q _ H3 (s2.trans s3) ?_⟩
    show V.bl (decide (V.bl a = V.bl b)) = V.bl (decide (a = b))
    rw [show decide (V.bl a = V.bl b) = decide (a = b) from decide_eq_decide.mpr ⟨fun e => V.bl.inj e, fun e => by rw [e]⟩]
theorem ev_neB {a b : Bool} (ha : EvR ta σ H a) (hb : EvR tb σ H b) : EvR (tOp rNe ta tb) σ H (!decide (a = b)) := fun H1 s Q q =>
  ha H1 s _ fun v H2 s2 hv => hb H2 (s.trans s2) _ fun w H3 s3 hw => by
    have hv' : v = .bl a := hv
    have hw' : w = .bl b := hw
    subst hv' hw'
    refine ⟨rfl, q _ H3 (s2.trans s3) ?_⟩
    show V.bl (!decide (V.bl a = V.bl b)) = V.bl (!decide (a = b))
    rw [show decide (V.bl a = V.bl b) = decide (a = b) from decide_eq_decide.mpr ⟨fun e => V.bl.inj e, fun e => by rw [e]⟩]
/-- x is None -/
theorem ev_isN [RpK α] {a : Option α} {r : R2} (hr : r = fun x y H Q => y = .non ∧ Q (.bl (decide (x = .non))) H) (ha : EvR ta σ H a) : EvR (tOp r ta (tC .non)) σ H a.isNone := fun H1 s Q q =>
  ha H1 s _ fun v H2 s2 hv => by
    rw [hr]
    refine ⟨rfl, q _ H2 s2 ?_⟩
    cases a with
    | none =>
      have e : v = .non := hv
      rw [e]
      rfl
    | some x =>
      have e : v ≠ .non := hv.1
      show V.bl (decide (v = .non)) = V.bl false
      rw [decide_eq_false e]
/-! pairs -/
theorem ev_tup2 [RpK α] [RpK β] {a : α} {b : β} (ha : EvR ta σ H a) (hb : EvR tb σ H b) : EvR (tTup (tCons ta (tCons tb tNil))) σ H (a, b) := fun H1 s Q q =>
  ha H1 s _ fun v H2 s2 hv => hb H2 (s.trans s2) _ fun w H3 s3 hw => ⟨by show 2 ≤ sizeLine; decide, fun p hp => q _ _ (s2.trans (s3.trans (same_new hp))) ⟨p, v, w, rfl, upd_same, Rp.mono (s3.trans (same_new hp)) hv, Rp.mono (same_new hp) hw⟩⟩
theorem ev_tup0 [RpK α] : EvR (tTup tNil) σ H ([] : List α) := fun H1 s Q q => ⟨Nat.zero_le _, fun p hp => q _ _ (same_new hp) ⟨p, [], rfl, upd_same, trivial⟩⟩
theorem ev_tup1 [RpK α] {a : α} (ha : EvR ta σ H a) : EvR (tTup (tCons ta tNil)) σ H [a] := fun H1 s Q q =>
  ha H1 s _ fun v H2 s2 hv => ⟨by show 1 ≤ sizeLine; decide, fun p hp => q _ _ (s2.trans (same_new hp)) ⟨p, [v], rfl, upd_same, Rp.mono (same_new hp) hv, trivial⟩⟩
/-- a tuple of two like ones -/
theorem ev_tupL2 [RpK α] {a b : α} (ha : EvR ta σ H a) (hb : EvR tb σ H b) : EvR (tTup (tCons ta (tCons tb tNil))) σ H [a, b] := fun H1 s Q q =>
  ha H1 s _ fun v H2 s2 hv => hb H2 (s.trans s2) _ fun w H3 s3 hw => ⟨by show 2 ≤ sizeLine; decide, fun p hp => q _ _ (s2.trans (s3.trans (same_new hp))) ⟨p, [v, w], rfl, upd_same, Rp.mono (s3.trans (same_new hp)) hv, Rp.mono (same_new hp) hw, trivial⟩⟩
theorem ev_fst [RpK α] [RpK β] {p : α × β} (h : EvR te σ H p) : EvR (tOp (rIxT K) te (tC (.int 0))) σ H p.1 := fun H1 s Q q => h H1 s _ fun v H2 s2 hv => by
  obtain ⟨a, x, y, e, h1, h2, h3⟩ := hv
  exact ⟨a, [x, y], 0, x, e, rfl, SqT.of h1, rfl, q x H2 s2 h2⟩
theorem ev_snd [RpK α] [RpK β] {p : α × β} (h : EvR te σ H p) : EvR (tOp (rIxT K) te (tC (.int 1))) σ H p.2 := fun H1 s Q q => h H1 s _ fun v H2 s2 hv => by
  obtain ⟨a, x, y, e, h1, h2, h3⟩ := hv
  exact ⟨a, [x, y], 1, y, e, rfl, SqT.of h1, rfl, q y H2 s2 h3⟩
/-- t[i] of a tuple of like ones -/
theorem ev_ixT [RpK α] {as : List α} {a : α} {i : Int} {n : Nat} (h : EvR te σ H as) (hi : EvR tb σ H i) (e : i = (n : Int)) (ha : as[n]? = some a) : EvR (tOp (rIxT K) te tb) σ H a := fun H1 s Q q => h H1 s _ fun v H2 s2 hv => hi H2 (s.trans s2) _ fun w H3 s3 hw => by
  obtain ⟨p, xs, ev, h1, h2⟩ := Rp.mono s3 hv
  obtain ⟨x, hx, rx⟩ := h2.get ha
  exact ⟨p, xs, i, x, ev, hw, SqT.of h1, by rw [e]; exact atI_nat hx, q x H3 (s2.trans s3) rx⟩
theorem ev_ixL [Rp α] {as : Ls α} {a : α} {i : Int} {n : Nat} (h : EvR te σ H as) (hi : EvR tb σ H i) (e : i = (n : Int)) (ha : as.val[n]? = some a) : EvR (tOp (rIxL K) te tb) σ H a := fun H1 s Q q => h H1 s _ fun v H2 s2 hv => hi H2 (s.trans s2) _ fun w H3 s3 hw => by
  obtain ⟨p, xs, ev, h1, h2⟩ := Rp.mono s3 hv
  obtain ⟨x, hx, rx⟩ := h2.get ha
  exact ⟨p, xs, i, x, ev, hw, SqL.of h1, by rw [e]; exact atI_nat hx, q x H3 (s2.trans s3) rx⟩
/-- the last one: [-1] -/
theorem atI_neg {γ : Type} {xs : List γ} {x : γ} (h : xs.getLast? = some x) : atI xs (-1) = some x := by
  have hne : xs ≠ [] := fun e => by rw [e] at h; cases h
  have e := List.dropLast_concat_getLast hne
  have e2 := List.getLast?_eq_some_getLast hne
  rw [e2] at h
  rw [← Option.some.inj h]
  conv => lhs; rw [← e]
  exact atI_last _ _
theorem All2.last {R : V → α → Prop} {vs : List V} {as : List α} {a : α} (h : All2 R vs as) (ha : as.getLast? = some a) : ∃ v, vs.getLast? = some v ∧ R v a := by
  rw [List.getLast?_eq_getElem?] at ha
  obtain ⟨v, hv, r⟩ := h.get ha
  exact ⟨v, by rw [List.getLast?_eq_getElem?, h.length]; exact hv, r⟩
theorem ev_lastT [RpK α] {as : List α} {a : α} (h : EvR te σ H as) (ha : as.getLast? = some a) : EvR (tOp (rIxT K) te (tUn (rU fun i => .int (-i)) (tC (.int 1)))) σ H a := fun H1 s Q q => h H1 s _ fun v H2 s2 hv => by
  obtain ⟨p, xs, ev, h1, h2⟩ := hv
  obtain ⟨x, hx, rx⟩ := h2.last ha
  exact ⟨1, rfl, p, xs, -1, x, ev, rfl, SqT.of h1, atI_neg hx, q x H2 s2 rx⟩
theorem ev_lastL [Rp α] {as : Ls α} {a : α} (h : EvR te σ H as) (ha : as.val.getLast? = some a) : EvR (tOp (rIxL K) te (tUn (rU fun i => .int (-i)) (tC (.int 1)))) σ H a := fun H1 s Q q => h H1 s _ fun v H2 s2 hv => by
  obtain ⟨p, xs, ev, h1, h2⟩ := hv
  obtain ⟨x, hx, rx⟩ := h2.last ha
  exact ⟨1, rfl, p, xs, -1, x, ev, rfl, SqL.of h1, atI_neg hx, q x H2 s2 rx⟩
/-! conditions -/
theorem ev_if [Rp α] {b : Bool} {x : α} (h : EtR tt σ H b) (h1 : b = true → EvR ta σ H x) (h2 : b = false → EvR tb σ H x) : EvR (tIf tt ta tb) σ H x := fun H1 s Q q => h H1 s _ fun H2 s2 => by
  cases b with
  | true => exact h1 rfl H2 (s.trans s2) Q fun v H3 s3 hv => q v H3 (s2.trans s3) hv
  | false => exact h2 rfl H2 (s.trans s2) Q fun v H3 s3 hv => q v H3 (s2.trans s3) hv
theorem ev_and {a b : Bool} (h1 : EvR ta σ H a) (h2 : a = true → EvR tb σ H b) : EvR (tAndV ta tb) σ H (a && b) := fun H1 s Q q => h1 H1 s _ fun v H2 s2 hv => ⟨a, hv, by
  cases a with
  | true => exact h2 rfl H2 (s.trans s2) Q fun v H3 s3 hv => q v H3 (s2.trans s3) hv
  | false => exact q _ H2 s2 rfl⟩
theorem ev_or {a b : Bool} (h1 : EvR ta σ H a) (h2 : a = false → EvR tb σ H b) : EvR (tOrV ta tb) σ H (a || b) := fun H1 s Q q => h1 H1 s _ fun v H2 s2 hv => ⟨a, hv, by
  cases a with
  | false => exact h2 rfl H2 (s.trans s2) Q fun v H3 s3 hv => q v H3 (s2.trans s3) hv
  | true => exact q _ H2 s2 rfl⟩
theorem ev_not {a : Bool} (h1 : EvR ta σ H a) : EvR (tNotV ta) σ H (!a) := fun H1 s Q q => h1 H1 s _ fun v H2 s2 hv => ⟨a, hv, q _ H2 s2 rfl⟩
theorem et_test {b : Bool} (h : EvR te σ H b) : EtR (tTest te) σ H b := fun H1 s Q q => h H1 s _ fun v H2 s2 hv => ⟨b, hv, q H2 s2⟩
theorem et_B {b : Bool} (h : EvR te σ H b) : EtR (tB te) σ H b := fun H1 s Q q => h H1 s _ fun v H2 s2 hv => ⟨b, hv, q H2 s2⟩
theorem et_and {a b : Bool} (h1 : EtR tt σ H a) (h2 : a = true → EtR uu σ H b) : EtR (tAnd tt uu) σ H (a && b) := fun H1 s Q q => h1 H1 s _ fun H2 s2 => by
  cases a with
  | true => exact h2 rfl H2 (s.trans s2) Q fun H3 s3 => q H3 (s2.trans s3)
  | false => exact q H2 s2
theorem et_or {a b : Bool} (h1 : EtR tt σ H a) (h2 : a = false → EtR uu σ H b) : EtR (tOr tt uu) σ H (a || b) := fun H1 s Q q => h1 H1 s _ fun H2 s2 => by
  cases a with
  | false => exact h2 rfl H2 (s.trans s2) Q fun H3 s3 => q H3 (s2.trans s3)
  | true => exact q H2 s2
theorem et_not {a : Bool} (h1 : EtR tt σ H a) : EtR (tNot tt) σ H (!a) := fun H1 s Q q => h1 H1 s _ fun H2 s2 => q H2 s2
theorem ev_chain {a b c : Int} {f g : Int → Int → Bool} (ha : EvR ta σ H a) (hb : EvR tb σ H b) (hc : EvR tc σ H c) : EvR (tChain (rI0 fun i j => .bl (f i j)) (rI0 fun i j => .bl (g i j)) ta tb tc) σ H (f a b && g b c) := fun H1 s Q q =>
  ha H1 s _ fun v H2 s2 hv => hb H2 (s.trans s2) _ fun w H3 s3 hw => ⟨a, b, hv, hw, f a b, rfl, by
    cases hf : f a b with
    | true =>
      refine hc H3 ((s.trans s2).trans s3) _ fun u H4 s4 hu => ⟨b, c, hw, hu, q _ H4 (s2.trans (s3.trans s4)) ?_⟩
      rw [hf]
      rfl
    | false =>
      refine q _ H3 (s2.trans s3) ?_
      rw [hf]
      rfl⟩
/-! arguments -/
theorem ea_nil : EaR tNil σ H (fun _ vs => vs = []) := fun H1 s Q q => q [] H1 (Same.refl _) rfl
/-! ### built-ins -/
theorem ev_len [RpK α] {as : List α} {r : List V → Hp → VK → Prop} (hr : r = fun xs H Q => ∃ p ys, xs = [.ref p] ∧ (SqL K H p ys ∨ SqT K H p ys) ∧ Q (.int ys.length) H) (h : EvR te σ H as) : EvR (tCB r (tCons te tNil)) σ H (as.length : Int) := fun H1 s Q q =>
  h H1 s _ fun v H2 s2 hv => by
    obtain ⟨p, xs, ev, h1, h2⟩ := hv
    rw [hr]
    exact ⟨p, xs, by rw [ev], .inr (SqT.of h1), q _ H2 s2 (by rw [h2.length]; rfl)⟩
theorem ev_lenL [Rp α] {as : Ls α} {r : List V → Hp → VK → Prop} (hr : r = fun xs H Q => ∃ p ys, xs = [.ref p] ∧ (SqL K H p ys ∨ SqT K H p ys) ∧ Q (.int ys.length) H) (h : EvR te σ H as) : EvR (tCB r (tCons te tNil)) σ H (as.val.length : Int) := fun H1 s Q q =>
  h H1 s _ fun v H2 s2 hv => by
    obtain ⟨p, xs, ev, h1, h2⟩ := hv
    rw [hr]
    exact ⟨p, xs, by rw [ev], .inl (SqL.of h1), q _ H2 s2 (by rw [h2.length]; rfl)⟩
theorem ev_tuple [RpK α] {as : Ls α} {r : List V → Hp → VK → Prop} (hr : r = fun xs H Q => ∃ p ys, xs = [.ref p] ∧ ((SqL K H p ys ∧ ∀ l, H l = none → Q (.ref l) (upd H l (.tup ys))) ∨ (SqT K H p ys ∧ Q (.ref p) H))) (h : EvR te σ H as) : EvR (tCB r (tCons te tNil)) σ H as.val := fun H1 s Q q =>
  h H1 s _ fun v H2 s2 hv => by
    obtain ⟨p, xs, ev, h1, h2⟩ := hv
    rw [hr]
    exact ⟨p, xs, by rw [ev], .inl ⟨SqL.of h1, fun l hl => q _ _ (s2.trans (same_new hl)) ⟨l, xs, rfl, upd_same, h2.imp fun _ _ => Rp.mono (same_new hl)⟩⟩⟩
theorem ev_tupleT [RpK α] {as : List α} {r : List V → Hp → VK → Prop} (hr : r = fun xs H Q => ∃ p ys, xs = [.ref p] ∧ ((SqL K H p ys ∧ ∀ l, H l = none → Q (.ref l) (upd H l (.tup ys))) ∨ (SqT K H p ys ∧ Q (.ref p) H))) (h : EvR te σ H as) : EvR (tCB r (tCons te tNil)) σ H as := fun H1 s Q q =>
  h H1 s _ fun v H2 s2 hv => by
    obtain ⟨p, xs, ev, h1, h2⟩ := hv
    rw [hr]
    exact ⟨p, xs, by rw [ev], .inr ⟨SqT.of h1, q _ _ s2 ⟨p, xs, rfl, h1, h2⟩⟩⟩
theorem ev_sum {as : Ls Int} (h : EvR te σ H as) : EvR (tCB (rSum K) (tCons te tNil)) σ H as.val.sum := fun H1 s Q q =>
  h H1 s _ fun v H2 s2 hv => by
    obtain ⟨p, xs, ev, h1, h2⟩ := hv
    have e := all2_int h2
    rw [e] at h1
    exact ⟨p, as.val, by rw [ev], SqL.of h1, q _ H2 s2 rfl⟩
theorem ev_all {as : Ls Bool} (h : EvR te σ H as) : EvR (tCB (rAll K) (tCons te tNil)) σ H (as.val.all id) := fun H1 s Q q =>
  h H1 s _ fun v H2 s2 hv => by
    obtain ⟨p, xs, ev, h1, h2⟩ := hv
    have e := all2_bl h2
    rw [e] at h1
    exact ⟨p, as.val, by rw [ev], SqL.of h1, q _ H2 s2 rfl⟩
theorem ev_any {as : Ls Bool} (h : EvR te σ H as) : EvR (tCB (rAny K) (tCons te tNil)) σ H (as.val.any id) := fun H1 s Q q =>
  h H1 s _ fun v H2 s2 hv => by
    obtain ⟨p, xs, ev, h1, h2⟩ := hv
    have e := all2_bl h2
    rw [e] at h1
    exact ⟨p, as.val, by rw [ev], SqL.of h1, q _ H2 s2 rfl⟩
theorem ev_max2 {a b : Int} {r : List V → Hp → VK → Prop} (hr : r = fun xs H Q => ∃ i j, xs = [.int i, .int j] ∧ Q (.int (if j > i then j else i)) H) (ha : EvR ta σ H a) (hb : EvR tb σ H b) : EvR (tCB r (tCons ta (tCons tb tNil))) σ H (max a b) := fun H1 s Q q =>
  ha H1 s _ fun v H2 s2 hv => hb H2 (s.trans s2) _ fun w H3 s3 hw => by
    rw [hr]
    refine ⟨a, b, by rw [is_int.mp hv, is_int.mp hw], q _ H3 (s2.trans s3) ?_⟩
    show V.int (if b > a then b else a) = V.int (max a b)
    congr 1
    split <;> omega
theorem ev_min2 {a b : Int} {r : List V → Hp → VK → Prop} (hr : r = fun xs H Q => ∃ i j, xs = [.int i, .int j] ∧ Q (.int (if j < i then j else i)) H) (ha : EvR ta σ H a) (hb : EvR tb σ H b) : EvR (tCB r (tCons ta (tCons tb tNil))) σ H (min a b) := fun H1 s Q q =>
  ha H1 s _ fun v H2 s2 hv => hb H2 (s.trans s2) _ fun w H3 s3 hw => by
    rw [hr]
    refine ⟨a, b, by rw [is_int.mp hv, is_int.mp hw], q _ H3 (s2.trans s3) ?_⟩
    show V.int (if b < a then b else a) = V.int (min a b)
    congr 1
    split <;> omega
theorem ev_abs {a : Int} {r : List V → Hp → VK → Prop} (hr : r = fun xs H Q => ∃ i, xs = [.int i] ∧ Q (.int (if i < 0 then -i else i)) H) (ha : EvR ta σ H a) : EvR (tCB r (tCons ta tNil)) σ H (a.natAbs : Int) := fun H1 s Q q =>
  ha H1 s _ fun v H2 s2 hv => by
    rw [hr]
    refine ⟨a, by rw [is_int.mp hv], q _ H2 s2 ?_⟩
    show V.int (if a < 0 then -a else a) = V.int (a.natAbs : Int)
    congr 1
    split <;> omega
theorem ev_intI {a : Int} {r : List V → Hp → VK → Prop} (hr : r = fun xs H Q => (∃ i, xs = [.int i] ∧ Q (.int i) H) ∨ ∃ k, xs = [.bl k] ∧ Q (.int (if k then 1 else 0)) H) (ha : EvR ta σ H a) : EvR (tCB r (tCons ta tNil)) σ H a := fun H1 s Q q =>
  ha H1 s _ fun v H2 s2 hv => by
    rw [hr]
    exact .inl ⟨a, by rw [is_int.mp hv], q _ H2 s2 rfl⟩
theorem ev_intB {a : Bool} {r : List V → Hp → VK → Prop} (hr : r = fun xs H Q => (∃ i, xs = [.int i] ∧ Q (.int i) H) ∨ ∃ k, xs = [.bl k] ∧ Q (.int (if k then 1 else 0)) H) (ha : EvR ta σ H a) : EvR (tCB r (tCons ta tNil)) σ H (if a then (1 : Int) else 0) := fun H1 s Q q =>
  ha H1 s _ fun v H2 s2 hv => by
    rw [hr]
    have e : v = .bl a := hv
    exact .inr ⟨a, by rw [e], q _ H2 s2 rfl⟩
end
/-! ### statements -/
section
variable {K : PySem.W.Frag} {σ : L2.St} {H H' : Hp} {te : TE} {tt : TT} {α β γ : Type} {D : Ends} {tz t1 t2 : TS} {i : Nat}
theorem s_asg [Rp α] {a : α} (h : EvR te σ H a) (k : ∀ v H1, Same H H1 → Rp.is H1 v a → D.nx (σ.set i (some v)) H1) : tAsg te (gName i) D σ H := h H (Same.refl _) _ fun v H1 s hv => k v H1 s hv
theorem q_asg [Rp α] {a : α} (h : EvR te σ H a) (k : ∀ v H1, Same H H1 → Rp.is H1 v a → tz D (σ.set i (some v)) H1) : tSeq (tAsg te (gName i)) tz D σ H := h H (Same.refl _) _ fun v H1 s hv => k v H1 s hv
theorem s_ret [Rp α] {a : α} (h : EvR te σ H a) (k : ∀ v H1, Same H H1 → Rp.is H1 v a → D.rt v H1) : tRet te D σ H := h H (Same.refl _) _ fun v H1 s hv => k v H1 s hv
theorem q_ret [Rp α] {a : α} (h : EvR te σ H a) (k : ∀ v H1, Same H H1 → Rp.is H1 v a → D.rt v H1) : tSeq (tRet te) tz D σ H := h H (Same.refl _) _ fun v H1 s hv => k v H1 s hv
theorem s_if {b : Bool} (h : EtR tt σ H b) (h1 : b = true → ∀ H1, Same H H1 → t1 D σ H1) (h2 : b = false → ∀ H1, Same H H1 → t2 D σ H1) : tIfS tt t1 t2 D σ H := h H (Same.refl _) _ fun H1 s => by
  cases b with
  | true => exact h1 rfl H1 s
  | false => exact h2 rfl H1 s
theorem q_if {b : Bool} (h : EtR tt σ H b) (h1 : b = true → ∀ H1, Same H H1 → t1 { D with nx := tz D } σ H1) (h2 : b = false → ∀ H1, Same H H1 → t2 { D with nx := tz D } σ H1) : tSeq (tIfS tt t1 t2) tz D σ H := s_if (D := { D with nx := tz D }) h h1 h2
/-- a, b = x, y -/
theorem s_par [Rp α] [Rp β] {ta tb : TE} {a : α} {b : β} {j : Nat} (ha : EvR ta σ H a) (hb : EvR tb σ H b) (k : ∀ v w H1, Same H H1 → Rp.is H1 v a → Rp.is H1 w b → D.nx ((σ.set i (some v)).set j (some w)) H1) : tPar i j (tCons ta (tCons tb tNil)) D σ H :=
  ha H (Same.refl _) _ fun v H1 s hv => hb H1 s _ fun w H2 s2 hw => ⟨v, w, rfl, k v w H2 (s.trans s2) (Rp.mono s2 hv) hw⟩
theorem q_par [Rp α] [Rp β] {ta tb : TE} {a : α} {b : β} {j : Nat} (ha : EvR ta σ H a) (hb : EvR tb σ H b) (k : ∀ v w H1, Same H H1 → Rp.is H1 v a → Rp.is H1 w b → tz D ((σ.set i (some v)).set j (some w)) H1) : tSeq (tPar i j (tCons ta (tCons tb tNil))) tz D σ H := s_par (D := { D with nx := tz D }) ha hb k
/-- l.append(e), the list l in hand -/
theorem s_app [RpK α] {ta : TE} {l : Addr} {xs : List V} {a : α} (hl : H l = some (.lst xs)) (hv : ∀ H1, Same H H1 → ∀ Q : VK, (∀ H2, Same H1 H2 → Q (.ref l) H2) → ta σ H1 Q) (h : EvR te σ H a) (hz : xs.length < sizeLine) (k : ∀ v H1, Same H H1 → Rp.is H1 v a → D.nx σ (upd H1 l (.lst (xs ++ [v])))) :
    tDrop (tBM K "list" rAppend ta (tCons te tNil)) D σ H := hv H (Same.refl _) _ fun H2 s2 => ⟨.inl ⟨rfl, _, SqL.of (s2 _ _ hl)⟩, h H2 s2 _ fun v H3 s3 hv3 => ⟨l, xs, v, rfl, rfl, s3 _ _ (s2 _ _ hl), hz, k v H3 (s2.trans s3) hv3⟩⟩
theorem q_app [RpK α] {ta : TE} {l : Addr} {xs : List V} {a : α} (hl : H l = some (.lst xs)) (hv : ∀ H1, Same H H1 → ∀ Q : VK, (∀ H2, Same H1 H2 → Q (.ref l) H2) → ta σ H1 Q) (h : EvR te σ H a) (hz : xs.length < sizeLine) (k : ∀ v H1, Same H H1 → Rp.is H1 v a → tz D σ (upd H1 l (.lst (xs ++ [v])))) :
    tSeq (tDrop (tBM K "list" rAppend ta (tCons te tNil))) tz D σ H := s_app (D := { D with nx := tz D }) hl hv h hz k
theorem at_var {l : Addr} (hσ : σ[i]? = some (some (.ref l))) : ∀ H1, Same H H1 → ∀ Q : VK, (∀ H2, Same H1 H2 → Q (.ref l) H2) → tVar i σ H1 Q := fun H1 _ Q q => ⟨_, hσ, q H1 (Same.refl _)⟩
/-- found[-1] = e -/
theorem s_setLast [RpK α] {ta : TE} {l : Addr} {xs : List V} {a : α} (hl : H l = some (.lst xs)) (hv : ∀ H1, Same H H1 → ∀ Q : VK, (∀ H2, Same H1 H2 → Q (.ref l) H2) → ta σ H1 Q) (h : EvR te σ H a) (hne : xs ≠ []) (k : ∀ v H1, Same H H1 → Rp.is H1 v a → D.nx σ (upd H1 l (.lst (xs.dropLast ++ [v])))) :
    tAsg te (gSub ta (tUn (rU fun i => .int (-i)) (tC (.int 1))) rSetL) D σ H := h H (Same.refl _) _ fun v H2 s2 hv2 => hv H2 s2 _ fun H3 s3 => ⟨1, rfl, l, xs, -1, xs.length - 1, rfl, rfl, s3 _ _ (s2 _ _ hl), by
    have hp : 0 < xs.length := List.length_pos_iff.mpr hne
    unfold ixN
    rw [if_neg (by omega), if_pos (by omega)]
    congr 1
    omega, by
    have e : xs.set (xs.length - 1) v = xs.dropLast ++ [v] := by
      conv => lhs; rw [← List.dropLast_concat_getLast hne]
      rw [List.set_append_right _ _ (by simp), List.length_append, List.length_dropLast]
      simp
    rw [e]
    exact k v H3 (s2.trans s3) (Rp.mono s3 hv2)⟩
/-- [] given to a name -/
theorem q_newL (k : ∀ l, H l = none → tz D (σ.set i (some (.ref l))) (upd H l (.lst []))) : tSeq (tAsg (tLst tNil) (gName i)) tz D σ H := ⟨Nat.zero_le _, fun l hl => k l hl⟩
/-! ### targets -/
theorem g_pair [RpK α] [RpK β] {v : V} {p : α × β} {j : Nat} {Q : L2.St → Hp → Prop} (h : Rp.is H v p) (k : ∀ x y, Rp.is H x p.1 → Rp.is H y p.2 → Q ((σ.set i (some x)).set j (some y)) H) : gTup K 2 (gCons (gName i) (gCons (gName j) gNil)) v σ H Q := by
  obtain ⟨q, x, y, e, h1, h2, h3⟩ := h
  exact ⟨q, [x, y], e, SqT.of h1, rfl, x, [y], rfl, y, [], rfl, rfl, k x y h2 h3⟩
theorem g_nest [RpK α] [RpK β] [RpK γ] {v : V} {p : (α × β) × γ} {j m : Nat} {Q : L2.St → Hp → Prop} (h : Rp.is H v p) (k : ∀ x y z, Rp.is H x p.1.1 → Rp.is H y p.1.2 → Rp.is H z p.2 → Q (((σ.set i (some x)).set j (some y)).set m (some z)) H) :
    gTup K 2 (gCons (gTup K 2 (gCons (gName i) (gCons (gName j) gNil))) (gCons (gName m) gNil)) v σ H Q := by
  obtain ⟨q, x, y, e, h1, h2, h3⟩ := h
  obtain ⟨q2, x1, x2, e2, h4, h5, h6⟩ := h2
  exact ⟨q, [x, y], e, SqT.of h1, rfl, x, [y], rfl, q2, [x1, x2], e2, SqT.of h4, rfl, x1, [x2], rfl, x2, [], rfl, rfl, y, [], rfl, rfl, k x1 x2 y h5 h6 h3⟩
/-! ### for -/
/-- over a tuple, by what is left: Hb is a heap that stays (with the tuple, its items) -/
theorem for_rest [RpK α] {Hb : Hp} {a : Addr} {vs : List V} {as : List α} {g : TG} {tb : TS} (Inv : List α → L2.St → Hp → Prop) (ht : Hb a = some (.tup vs)) (hv : All2 (Rp.is Hb) vs as)
    (h0 : Inv as σ H ∧ Same Hb H) (hs : ∀ x r v σ H', x ∈ as → Same Hb H' → Inv (x :: r) σ H' → Rp.is H' v x → g v σ H' fun σ2 H2 => tb { D with nx := fun σ3 H3 => Inv r σ3 H3 ∧ Same Hb H3, ct := fun σ3 H3 => Inv r σ3 H3 ∧ Same Hb H3, bk := D.nx } σ2 H2)
    (hd : ∀ σ H', Same Hb H' → Inv [] σ H' → D.nx σ H') :
    ∃ W : Nat → Nat → L2.St → Hp → Prop, (∃ m, W 0 m σ H) ∧ ∀ i m σ H, W i m σ H →
      ((Itt K a).stop i H ∧ D.nx σ H) ∨ ((Itt K a).go i H ∧ ∃ N : L2.St → Hp → Prop, (∀ σ' H', N σ' H' → ∃ m', m' < m ∧ W (i + 1) m' σ' H') ∧ ∀ x H', (Itt K a).yld i H x H' → g x σ H' fun σ2 H2 => tb { D with nx := N, ct := N, bk := D.nx } σ2 H2) := by
  refine for_it (walk_tup (xs := vs)) (fun i σ H' => Inv (as.drop i) σ H' ∧ Same Hb H') h0 (fun i σ H' _ q => SqT.of (q.2 _ _ ht)) (fun i x σ H1 H2 hi q y => ?_) (fun σ H' q => ?_)
  · obtain ⟨e, hx⟩ := y
    subst e
    obtain ⟨b, hb, rb⟩ := hv.getV hx
    have ed : as.drop i = b :: as.drop (i + 1) := by
      obtain ⟨h1, h2⟩ := List.getElem?_eq_some_iff.mp hb
      rw [List.drop_eq_getElem_cons h1, h2]
    have q1 := q.1
    rw [ed] at q1
    exact hs b (as.drop (i + 1)) x σ _ (List.mem_of_getElem? hb) q.2 q1 (Rp.mono q.2 rb)
  · have q1 := q.1
    rw [hv.length, List.drop_length] at q1
    exact hd σ H' q.2 q1
/-- for target in t -/
theorem s_for [RpK α] {Hb : Hp} {v : V} {as : List α} {g : TG} {tb : TS} (Inv : List α → L2.St → Hp → Prop) (ht : Rp.is Hb v as)
    (hte : ∀ H1, Same H H1 → ∀ Q : VK, (∀ H2, Same H1 H2 → Q v H2) → te σ H1 Q) (sb : Same Hb H) (h0 : ∀ H1, Same H H1 → Inv as σ H1)
    (hs : ∀ x r v σ H', x ∈ as → Same Hb H' → Inv (x :: r) σ H' → Rp.is H' v x → g v σ H' fun σ2 H2 => tb { D with nx := fun σ3 H3 => Inv r σ3 H3 ∧ Same Hb H3, ct := fun σ3 H3 => Inv r σ3 H3 ∧ Same Hb H3, bk := D.nx } σ2 H2)
    (hd : ∀ σ H', Same Hb H' → Inv [] σ H' → D.nx σ H') : tFor (iTup K te) g tb D σ H := hte H (Same.refl _) _ fun H1 s1 => by
  obtain ⟨q, xs, e, h1, h2⟩ := ht
  exact ⟨q, e, ⟨xs, SqT.of (s1 _ _ (sb _ _ h1))⟩, for_rest Inv h1 h2 ⟨h0 H1 s1, sb.trans s1⟩ hs hd⟩
theorem at_is {v : V} (hσ : σ[i]? = some (some v)) : ∀ H1, Same H H1 → ∀ Q : VK, (∀ H2, Same H1 H2 → Q v H2) → tVar i σ H1 Q := fun H1 _ Q q => ⟨_, hσ, q H1 (Same.refl _)⟩
end
end Cf
set_option Elab.async false
set_option linter.all false
set_option maxRecDepth 100000
set_option maxHeartbeats 4000000
namespace Cs
open PySem PySem.Spec PyProof.Rows L2
def top (i : Nat) : Stmt := PySem.Challenge.pw_cleanspans_k97_whole_within_for_rows_tha.main.body.getD i (.Pass ⟨0, 0, 0, 0⟩)
abbrev s_is_number : Stmt := top 8
abbrev s_pair_of : Stmt := top 9
abbrev s_tupled : Stmt := top 10
abbrev s_run_together : Stmt := top 15
abbrev s_letters : Stmt := top 16
abbrev s_along : Stmt := top 17
abbrev s_levels : Stmt := top 18
abbrev s_ahead : Stmt := top 19
abbrev s_drops_ahead : Stmt := top 20
abbrev s_cut : Stmt := top 21
abbrev s_joined : Stmt := top 36
abbrev s_in_both : Stmt := top 38
abbrev s_left_over : Stmt := top 39
abbrev s_comb : Stmt := top 41
abbrev s_is_good : Stmt := top 44
abbrev s_filled : Stmt := top 45
abbrev s_moved : Stmt := top 46
abbrev s_swings_of : Stmt := top 48
abbrev s_edges_of : Stmt := top 49
abbrev s_many_for : Stmt := top 56
abbrev s_word_from : Stmt := top 58
abbrev s_drops_up_to : Stmt := top 59
abbrev s_cell_over : Stmt := top 60
abbrev s_row_over : Stmt := top 61
abbrev s_long_span : Stmt := top 62
abbrev s_outside_from : Stmt := top 63
abbrev s_within_from : Stmt := top 64
abbrev s_Lbox : Stmt := top 66
abbrev s_Ltake : Stmt := top 67
abbrev s_Lcells : Stmt := top 68
abbrev s_Lof : Stmt := top 69
abbrev s_Lsame : Stmt := top 70
abbrev s_Lstride : Stmt := top 71
abbrev s_Lline : Stmt := top 72
abbrev s_Lhost : Stmt := top 73
abbrev s_Ledges : Stmt := top 74
abbrev s_Ltrip : Stmt := top 75
abbrev s_Lspell : Stmt := top 76
abbrev s_Lrising : Stmt := top 77
abbrev s_Lone : Stmt := top 78
abbrev s_Lmade : Stmt := top 79
abbrev s_Lfirst : Stmt := top 80
abbrev s_Lread : Stmt := top 81
abbrev s_Lis_in : Stmt := top 82
abbrev s_Lless : Stmt := top 83
abbrev s_Lleft : Stmt := top 84
abbrev s_Lcomes : Stmt := top 85
abbrev s_Ldue : Stmt := top 86
abbrev s_Lrows_right : Stmt := top 87
abbrev s_Lgreat : Stmt := top 88
abbrev s_Lby_hand_right : Stmt := top 89
abbrev s_Lbent : Stmt := top 90
abbrev s_Lright : Stmt := top 91
abbrev s_law : Stmt := top 92
abbrev s_Row_init : Stmt := inClass (top 40) 0
abbrev s_Row_spans : Stmt := inClass (top 40) 2
abbrev s_Row_within : Stmt := inClass (top 40) 8
abbrev s_Step_init : Stmt := inClass (top 47) 0
abbrev s_Step_kind : Stmt := inClass (top 47) 2
abbrev s_Step_amounts : Stmt := inClass (top 47) 3
abbrev s_Step_call : Stmt := inClass (top 47) 5
abbrev s_Pipeline_init : Stmt := inClass (top 54) 0
abbrev s_Pipeline_heights : Stmt := inClass (top 54) 4
abbrev s_Pipeline_word : Stmt := inClass (top 54) 5
abbrev s_Pipeline_fills : Stmt := inClass (top 54) 6
abbrev s_Pipeline_drops : Stmt := inClass (top 54) 7
abbrev s_Pipeline_starts : Stmt := inClass (top 54) 8
abbrev s_Pipeline_ends : Stmt := inClass (top 54) 9
abbrev s_Pipeline_call : Stmt := inClass (top 54) 16
/-! ### the part of the heap that the walk knows: literal places -/
def gg (g : Addr → Option Obj) (a : Addr) : Obj := (g a).getD { cls := .none, data := .fields #[] }
def placesL : List Addr := [3, 129, 128, 136, 135, 141, 140, 153, 152, 158, 157, 165, 164, 172, 171, 179, 178, 186, 185, 193, 192, 271, 270, 278, 277, 283, 282, 431, 430, 437, 436, 444, 443, 449, 448, 519, 518, 526, 525, 729, 728, 736, 735, 743, 742, 750, 749, 755, 754, 762, 761, 769, 768, 774, 773, 781, 780, 788, 787, 795, 794, 802, 801, 807, 806, 814, 813, 819, 818, 824, 823, 831, 830, 838, 837, 845, 844, 850, 849, 857, 856, 862, 861, 869, 868, 874, 873, 879, 878, 884, 883, 891, 890, 896, 895, 903, 902, 910, 909, 915, 914, 922, 921, 929, 928, 936, 935, 941, 940, 297, 296, 312, 311, 353, 352, 463, 462, 478, 477, 486, 485, 498, 497, 563, 562, 592, 591, 600, 599, 608, 607, 616, 615, 622, 621, 628, 627, 680, 679, 422, 421, 508, 507, 718, 717, 313, 479, 487, 593, 601, 609, 617, 623, 629, 2, 432, 62, 61, 59, 58, 47, 292, 291, 556, 555]
def KL (g : Addr → Option Obj) : PySem.W.Frag := [(3, gg g 3), (129, gg g 129), (128, gg g 128), (136, gg g 136), (135, gg g 135), (141, gg g 141), (140, gg g 140), (153, gg g 153), (152, gg g 152), (158, gg g 158), (157, gg g 157), (165, gg g 165), (164, gg g 164), (172, gg g 172), (171, gg g 171), (179, gg g 179), (178, gg g 178), (186, gg g 186), (185, gg g 185), (193, gg g 193), (192, gg g 192), (271, gg g 271), (270, gg g 270), (278, gg g 278), (277, gg g 277), (283, gg g 283), (282, gg g 282), (431, gg g 431), (430, gg g 430), (437, gg g 437), (436, gg g 436), (444, gg g 444), (443, gg g 443), (449, gg g 449), (448, gg g 448), (519, gg g 519), (518, gg g 518), (526, gg g 526), (525, gg g 525), (729, gg g 729), (728, gg g 728), (736, gg g 736), (735, gg g 735), (743, gg g 743), (742, gg g 742), (750, gg g 750), (749, gg g 749), (755, gg g 755), (754, gg g 754), (762, gg g 762), (761, gg g 761), (769, gg g 769), (768, gg g 768), (774, gg g 774), (773, gg g 773), (781, gg g 781), (780, gg g 780), (788, gg g 788), (787, gg g 787), (795, gg g 795), (794, gg g 794), (802, gg g 802), (801, gg g 801), (807, gg g 807), (806, gg g 806), (814, gg g 814), (813, gg g 813), (819, gg g 819), (818, gg g 818), (824, gg g 824), (823, gg g 823), (831, gg g 831), (830, gg g 830), (838, gg g 838), (837, gg g 837), (845, gg g 845), (844, gg g 844), (850, gg g 850), (849, gg g 849), (857, gg g 857), (856, gg g 856), (862, gg g 862), (861, gg g 861), (869, gg g 869), (868, gg g 868), (874, gg g 874), (873, gg g 873), (879, gg g 879), (878, gg g 878), (884, gg g 884), (883, gg g 883), (891, gg g 891), (890, gg g 890), (896, gg g 896), (895, gg g 895), (903, gg g 903), (902, gg g 902), (910, gg g 910), (909, gg g 909), (915, gg g 915), (914, gg g 914), (922, gg g 922), (921, gg g 921), (929, gg g 929), (928, gg g 928), (936, gg g 936), (935, gg g 935), (941, gg g 941), (940, gg g 940), (297, gg g 297), (296, gg g 296), (312, gg g 312), (311, gg g 311), (353, gg g 353), (352, gg g 352), (463, gg g 463), (462, gg g 462), (478, gg g 478), (477, gg g 477), (486, gg g 486), (485, gg g 485), (498, gg g 498), (497, gg g 497), (563, gg g 563), (562, gg g 562), (592, gg g 592), (591, gg g 591), (600, gg g 600), (599, gg g 599), (608, gg g 608), (607, gg g 607), (616, gg g 616), (615, gg g 615), (622, gg g 622), (621, gg g 621), (628, gg g 628), (627, gg g 627), (680, gg g 680), (679, gg g 679), (422, gg g 422), (421, gg g 421), (508, gg g 508), (507, gg g 507), (718, gg g 718), (717, gg g 717), (313, gg g 313), (479, gg g 479), (487, gg g 487), (593, gg g 593), (601, gg g 601), (609, gg g 609), (617, gg g 617), (623, gg g 623), (629, gg g 629), (2, gg g 2), (432, gg g 432), (62, gg g 62), (61, gg g 61), (59, gg g 59), (58, gg g 58), (47, gg g 47), (292, gg g 292), (291, gg g 291), (556, gg g 556), (555, gg g 555)]
theorem KL_eq (g : Addr → Option Obj) : KL g = placesL.map fun a => (a, gg g a) := rfl
theorem KL_in0 {g : Addr → Option Obj} {a : Addr} {o : Obj} : ∀ as : List Addr, (as.all fun a => (g a).isSome) = true → (as.map fun a => (a, gg g a)).lookup a = some o → g a = some o
  | [], _, e => by cases e
  | b :: r, h, e => by
    rw [List.all_cons, Bool.and_eq_true] at h
    rw [List.map_cons, List.lookup_cons] at e
    cases z : (a == b) with
    | true =>
      rw [z] at e
      have eo : gg g b = o := Option.some.inj e
      have eb : a = b := beq_iff_eq.mp z
      obtain ⟨u, hu⟩ := Option.isSome_iff_exists.mp h.1
      rw [eb, hu, ← eo]
      unfold gg
      rw [hu]
      rfl
    | false =>
      rw [z] at e
      exact KL_in0 r h.2 e
/-- facts, at literal places -/
inductive Fc where
  | glo (x : Str) (a : Addr)
  | free (x : Str)
  | str (x z : Str)
  | cls (C : Addr)
  | noat (C : Addr) (f : Str)
  | meth (C : Addr) (m : Str) (a : Addr)
  | mkr (C a : Addr)
  | prop (C : Addr) (f : Str) (p g : Addr)
  | callo (C g : Addr)
  | aint (a : Addr) (x : Str) (i : Int)
  | more (b : PySem.W.Frag → Bool)
def rec1 (K : PySem.W.Frag) (p g : Addr) : Bool := match PySem.W.recIn K p "property" with
  | some (.ref b :: _) => decide (b = g)
  | _ => false
def Fc.ok (K : PySem.W.Frag) : Fc → Bool
  | .glo x a => He.eqO (PySem.W.nsIn K mainGlobals x) (some (some (.ref a)))
  | .free x => He.eqO (PySem.W.nsIn K mainGlobals x) (some none)
  | .str x z => (match PySem.W.nsIn K mainGlobals x with
    | some (some (.str y _)) => decide (y = z)
    | _ => false)
  | .cls C => PySem.W.plainGet K C Str.empty && (PySem.W.hasDictIn K C && (PySem.W.plainOver K C && He.eqO (PySem.W.findIn K (.ref C) "__setattr__") (some (some (.builtin "object.__setattr__")))))
  | .noat C f => He.eqO (PySem.W.findIn K (.ref C) f) (some none)
  | .meth C m a => He.eqO (PySem.W.findIn K (.ref C) m) (some (some (.ref a))) && (PySem.W.isFn K (.ref a) && PySem.W.keepIn K (.ref a))
  | .mkr C a => PySem.W.makesIn K C && (He.eqO (PySem.W.findIn K (.ref C) "__init__") (some (some (.ref a))) && (PySem.W.isFn K (.ref a) && PySem.W.keepIn K (.ref C)))
  | .prop C f p g => He.eqO (PySem.W.findIn K (.ref C) f) (some (some (.ref p))) && (He.eqO (PySem.W.specialIn K (.ref p) "__get__") (some (some (.builtin "property.__get__"))) && (decide (PySem.W.takesIn K (.ref p) = some true) && rec1 K p g))
  | .callo C g => He.eqO (PySem.W.findIn K (.ref C) "__call__") (some (some (.ref g))) && (PySem.W.isFn K (.ref g) && PySem.W.fnIn K g)
  | .aint a x i => (match PySem.W.nsIn K a x with
    | some (some (.int j _)) => decide (j = i)
    | _ => false)
  | .more b => b K
/-- a def at a literal place -/
structure DefL where
  a : Addr
  name : Str
  qual : Str
  st : Stmt
  dfl : List V := []
  cl : List (Str × Addr) := []
def fnL (K : PySem.W.Frag) (a : Addr) : He.FnW := match K.lookup a with
  | some ⟨_, _, .func fd, _⟩ => some (fd.name, fd.qualname, fd.params, fd.body, fd.scope, fd.globals, fd.closure, fd.builtins)
  | _ => none
def DefL.val (d : DefL) : He.FnW := some (d.name, d.qual, defArgs d.st, .stmts (defBody d.st), defScope d.st, mainGlobals, d.cl, builtinsNs)
def DefL.ok (K : PySem.W.Frag) (d : DefL) : Bool := PySem.W.keepIn K (.ref d.a) && (match K.lookup d.a with
  | some ⟨_, _, .func fd, _⟩ => PySem.W.codeIn K fd.code d.qual && He.dflB K fd.defaults d.dfl
  | _ => false)
abbrev FnD (K : PySem.W.Frag) (d : DefL) (fd : FuncData) : Prop := FunD K d.name d.qual (defArgs d.st) (defBody d.st) (defScope d.st) d.dfl [] d.a fd
/-- how the defaults of a def that has none, some stand -/
theorem DefL.funD {K : PySem.W.Frag} {d : DefL} (e : fnL K d.a = d.val) (c : d.ok K = true) (hcl : d.cl = []) : ∃ fd, FnD K d fd := by
  obtain ⟨kp, c2⟩ := He.ba c
  unfold fnL at e
  cases hq : K.lookup d.a with
  | none =>
    rw [hq] at c2
    cases c2
  | some ob =>
    obtain ⟨oc, od, dt, osl⟩ := ob
    rw [hq] at c2 e
    cases dt with
    | func fd =>
      obtain ⟨m1, m2, m3, m4, m5, m6, m7, m8, m9, m10, m11, m12, m13, m14, m15⟩ := fd
      have e2 : (some (m1, m2, m3, m4, m5, m6, m7, m15) : He.FnW) = d.val := e
      unfold DefL.val at e2
      simp only [Option.some.injEq, Prod.mk.injEq] at e2
      obtain ⟨h1, h2, h3, h4, h5, h6, h7, h8⟩ := e2
      have h7' := h7.trans hcl
      subst h1 h2 h3 h4 h5 h6 h7' h8
      have c3 : (PySem.W.codeIn K m13 d.qual && He.dflB K m8 d.dfl) = true := c2
      obtain ⟨k1, k2⟩ := He.ba c3
      exact ⟨_, ⟨oc, od, m8, m9, m10, m11, m12, m13, m14, osl, rfl, hq, k1, He.dflB_ok k2, .inl rfl⟩, kp⟩
    | _ => cases c2
/-- the same for a def with cells -/
theorem DefL.funC {K : PySem.W.Frag} {d : DefL} (e : fnL K d.a = d.val) (c : d.ok K = true) : ∃ (oc : Value) (od : Option Addr) (dV kV doc pm : Value) (an : Option Addr) (cdv ct : Value) (osl : Array (Option Value)),
    K.lookup d.a = some ⟨oc, od, .func (PySem.W.fnX d.name d.qual (defArgs d.st) (defBody d.st) (defScope d.st) d.cl dV kV doc pm an cdv ct), osl⟩ ∧ PySem.W.codeIn K cdv d.qual = true := by
  obtain ⟨kp, c2⟩ := He.ba c
  unfold fnL at e
  cases hq : K.lookup d.a with
  | none =>
    rw [hq] at c2
    cases c2
  | some ob =>
    obtain ⟨oc, od, dt, osl⟩ := ob
    rw [hq] at c2 e
    cases dt with
    | func fd =>
      obtain ⟨m1, m2, m3, m4, m5, m6, m7, m8, m9, m10, m11, m12, m13, m14, m15⟩ := fd
      have e2 : (some (m1, m2, m3, m4, m5, m6, m7, m15) : He.FnW) = d.val := e
      unfold DefL.val at e2
      simp only [Option.some.injEq, Prod.mk.injEq] at e2
      obtain ⟨h1, h2, h3, h4, h5, h6, h7, h8⟩ := e2
      subst h1 h2 h3 h4 h5 h6 h7 h8
      have c3 : (PySem.W.codeIn K m13 d.qual && He.dflB K m8 d.dfl) = true := c2
      exact ⟨oc, od, m8, m9, m10, m11, m12, m13, m14, osl, rfl, (He.ba c3).1⟩
    | _ => cases c2
def d_is_number : DefL := ⟨129, "is_number", "is_number", s_is_number, [], []⟩
def d_pair_of : DefL := ⟨136, "pair_of", "pair_of", s_pair_of, [], []⟩
def d_tupled : DefL := ⟨141, "tupled", "tupled", s_tupled, [], []⟩
def d_run_together : DefL := ⟨153, "run_together", "run_together", s_run_together, [], []⟩
def d_letters : DefL := ⟨158, "letters", "letters", s_letters, [], []⟩
def d_along : DefL := ⟨165, "along", "along", s_along, [], []⟩
def d_levels : DefL := ⟨172, "levels", "levels", s_levels, [], []⟩
def d_ahead : DefL := ⟨179, "ahead", "ahead", s_ahead, [], []⟩
def d_drops_ahead : DefL := ⟨186, "drops_ahead", "drops_ahead", s_drops_ahead, [], []⟩
def d_cut : DefL := ⟨193, "cut", "cut", s_cut, [], []⟩
def d_joined : DefL := ⟨271, "joined", "joined", s_joined, [], []⟩
def d_in_both : DefL := ⟨278, "in_both", "in_both", s_in_both, [], []⟩
def d_left_over : DefL := ⟨283, "left_over", "left_over", s_left_over, [], []⟩
def d_comb : DefL := ⟨431, "comb", "comb", s_comb, [], []⟩
def d_is_good : DefL := ⟨437, "is_good", "is_good", s_is_good, [], []⟩
def d_filled : DefL := ⟨444, "filled", "filled", s_filled, [], []⟩
def d_moved : DefL := ⟨449, "moved", "moved", s_moved, [], []⟩
def d_swings_of : DefL := ⟨519, "swings_of", "swings_of", s_swings_of, [], []⟩
def d_edges_of : DefL := ⟨526, "edges_of", "edges_of", s_edges_of, [], []⟩
def d_many_for : DefL := ⟨729, "many_for", "many_for", s_many_for, [], []⟩
def d_word_from : DefL := ⟨736, "word_from", "word_from", s_word_from, [], []⟩
def d_drops_up_to : DefL := ⟨743, "drops_up_to", "drops_up_to", s_drops_up_to, [], []⟩
def d_cell_over : DefL := ⟨750, "cell_over", "cell_over", s_cell_over, [], []⟩
def d_row_over : DefL := ⟨755, "row_over", "row_over", s_row_over, [], []⟩
def d_long_span : DefL := ⟨762, "long_span", "long_span", s_long_span, [], []⟩
def d_outside_from : DefL := ⟨769, "outside_from", "outside_from", s_outside_from, [], []⟩
def d_within_from : DefL := ⟨774, "within_from", "within_from", s_within_from, [], []⟩
def d_Lbox : DefL := ⟨781, "_law_box", "_law_box", s_Lbox, [], []⟩
def d_Ltake : DefL := ⟨788, "_law_take", "_law_take", s_Ltake, [], []⟩
def d_Lcells : DefL := ⟨795, "_law_cells", "_law_cells", s_Lcells, [], []⟩
def d_Lof : DefL := ⟨802, "_law_of", "_law_of", s_Lof, [], []⟩
def d_Lsame : DefL := ⟨807, "_law_same", "_law_same", s_Lsame, [], []⟩
def d_Lstride : DefL := ⟨814, "_law_stride", "_law_stride", s_Lstride, [], []⟩
def d_Lline : DefL := ⟨819, "_law_line", "_law_line", s_Lline, [], []⟩
def d_Lhost : DefL := ⟨824, "_law_host", "_law_host", s_Lhost, [], []⟩
def d_Ledges : DefL := ⟨831, "_law_edges", "_law_edges", s_Ledges, [], []⟩
def d_Ltrip : DefL := ⟨838, "_law_trip", "_law_trip", s_Ltrip, [], []⟩
def d_Lspell : DefL := ⟨845, "_law_spell", "_law_spell", s_Lspell, [], []⟩
def d_Lrising : DefL := ⟨850, "_law_rising", "_law_rising", s_Lrising, [], []⟩
def d_Lone : DefL := ⟨857, "_law_one", "_law_one", s_Lone, [], []⟩
def d_Lmade : DefL := ⟨862, "_law_made", "_law_made", s_Lmade, [], []⟩
def d_Lfirst : DefL := ⟨869, "_law_first", "_law_first", s_Lfirst, [], []⟩
def d_Lread : DefL := ⟨874, "_law_read", "_law_read", s_Lread, [], []⟩
def d_Lis_in : DefL := ⟨879, "_law_is_in", "_law_is_in", s_Lis_in, [], []⟩
def d_Lless : DefL := ⟨884, "_law_less", "_law_less", s_Lless, [], []⟩
def d_Lleft : DefL := ⟨891, "_law_left", "_law_left", s_Lleft, [], []⟩
def d_Lcomes : DefL := ⟨896, "_law_comes", "_law_comes", s_Lcomes, [], []⟩
def d_Ldue : DefL := ⟨903, "_law_due", "_law_due", s_Ldue, [], []⟩
def d_Lrows_right : DefL := ⟨910, "_law_rows_right", "_law_rows_right", s_Lrows_right, [], []⟩
def d_Lgreat : DefL := ⟨915, "_law_great", "_law_great", s_Lgreat, [], []⟩
def d_Lby_hand_right : DefL := ⟨922, "_law_by_hand_right", "_law_by_hand_right", s_Lby_hand_right, [], []⟩
def d_Lbent : DefL := ⟨929, "_law_bent", "_law_bent", s_Lbent, [], []⟩
def d_Lright : DefL := ⟨936, "_law_right", "_law_right", s_Lright, [], []⟩
def d_law : DefL := ⟨941, "law", "law", s_law, [], []⟩
def d_Row_init : DefL := ⟨297, "__init__", "Row.__init__", s_Row_init, [.ref 291], []⟩
def d_Row_spans : DefL := ⟨312, "spans", "Row.spans", s_Row_spans, [], []⟩
def d_Row_within : DefL := ⟨353, "within", "Row.within", s_Row_within, [], []⟩
def d_Step_init : DefL := ⟨463, "__init__", "Step.__init__", s_Step_init, [], []⟩
def d_Step_kind : DefL := ⟨478, "kind", "Step.kind", s_Step_kind, [], []⟩
def d_Step_amounts : DefL := ⟨486, "amounts", "Step.amounts", s_Step_amounts, [], []⟩
def d_Step_call : DefL := ⟨498, "__call__", "Step.__call__", s_Step_call, [], []⟩
def d_Pipeline_init : DefL := ⟨563, "__init__", "Pipeline.__init__", s_Pipeline_init, [.ref 555], []⟩
def d_Pipeline_heights : DefL := ⟨592, "heights", "Pipeline.heights", s_Pipeline_heights, [], []⟩
def d_Pipeline_word : DefL := ⟨600, "word", "Pipeline.word", s_Pipeline_word, [], []⟩
def d_Pipeline_fills : DefL := ⟨608, "fills", "Pipeline.fills", s_Pipeline_fills, [], []⟩
def d_Pipeline_drops : DefL := ⟨616, "drops", "Pipeline.drops", s_Pipeline_drops, [], []⟩
def d_Pipeline_starts : DefL := ⟨622, "starts", "Pipeline.starts", s_Pipeline_starts, [], []⟩
def d_Pipeline_ends : DefL := ⟨628, "ends", "Pipeline.ends", s_Pipeline_ends, [], []⟩
def d_Pipeline_call : DefL := ⟨680, "__call__", "Pipeline.__call__", s_Pipeline_call, [], []⟩
def d_NL : DefL := ⟨59, "__init__", "NoLetter.__init__", inClass (top 3) 0, [], [("__class__", 47)]⟩
def fn0 : List DefL := [d_is_number, d_pair_of, d_tupled, d_run_together, d_letters, d_along, d_levels, d_ahead, d_drops_ahead, d_cut, d_joined, d_in_both]
def fn1 : List DefL := [d_left_over, d_comb, d_is_good, d_filled, d_moved, d_swings_of, d_edges_of, d_many_for, d_word_from, d_drops_up_to, d_cell_over, d_row_over]
def fn2 : List DefL := [d_long_span, d_outside_from, d_within_from, d_Lbox, d_Ltake, d_Lcells, d_Lof, d_Lsame, d_Lstride, d_Lline, d_Lhost, d_Ledges]
def fn3 : List DefL := [d_Ltrip, d_Lspell, d_Lrising, d_Lone, d_Lmade, d_Lfirst, d_Lread, d_Lis_in, d_Lless, d_Lleft, d_Lcomes, d_Ldue]
def fn4 : List DefL := [d_Lrows_right, d_Lgreat, d_Lby_hand_right, d_Lbent, d_Lright, d_law, d_Row_init, d_Row_spans, d_Row_within, d_Step_init, d_Step_kind, d_Step_amounts]
def fn5 : List DefL := [d_Step_call, d_Pipeline_init, d_Pipeline_heights, d_Pipeline_word, d_Pipeline_fills, d_Pipeline_drops, d_Pipeline_starts, d_Pipeline_ends, d_Pipeline_call, d_NL]
def fnAll : List DefL := fn0 ++ fn1 ++ fn2 ++ fn3 ++ fn4 ++ fn5
abbrev leBase : List Value := [.type "LookupError", .type "Exception", .type "BaseException", .type "object"]
def nlCode (K : PySem.W.Frag) : Bool := match K.lookup 58 with
  | some ⟨_, _, .fields vs, _⟩ => (match vs[2]? with
    | some (Value.str f _) => decide (f = PySem.Challenge.pw_cleanspans_k97_whole_within_for_rows_tha.main.file)
    | _ => false)
  | _ => false
def nlCell (K : PySem.W.Frag) : Bool := match K.lookup 47 with
  | some ⟨_, _, .cell (some (.ref a)), _⟩ => decide (a = 62)
  | _ => false
def nlFn (K : PySem.W.Frag) : Bool := match K.lookup 59 with
  | some ⟨_, _, .func fd, _⟩ => decide (fd.code = .ref 58) && decide (fd.defaults = .none)
  | _ => false
def nlB (K : PySem.W.Frag) : Bool :=
  PySem.W.excInitIn K 62 leBase "LookupError.__new__" && (PySem.W.excOver K 62 leBase && (He.eqO (PySem.W.findIn K (.ref 62) "__init__") (some (some (.ref 59))) && (He.eqO (PySem.W.findIn K (.ref 62) "__setattr__") (some (some (.builtin "object.__setattr__"))) && (
  He.eqO (PySem.W.takerIn K 62 "asked") (some none) && (PySem.W.hasDictIn K 62 && (decide (PySem.W.typeIn K (.ref 59) = some (.type "function")) && (PySem.W.keepIn K (.ref 62) && (decide (PySem.W.subIn K (.ref 62) (.type "BaseException") = some true) && (
  decide (PySem.W.subIn K (.ref 62) (.type "LookupError") = some true) && (decide (PySem.W.typeIn K (.ref 62) = some (.type "type")) && (decide (PySem.W.exmOne K (.ref 62) (.ref 62) = some true) && (He.eqO (PySem.W.ks_superIn K 62 62 "__init__") (some (some (.builtin "LookupError.__init__"))) && (
  He.eqO (PySem.W.nsIn K cStatics "thirdparty.any") (some none) && (PySem.W.isClsIn K 62 && (decide (PySem.W.mroIn K 62 (.ref 62) = some true) && (nlCode K && (nlCell K && nlFn K)))))))))))))))))
def insB (K : PySem.W.Frag) (C : Addr) : Bool := He.eqO (PySem.W.findIn K (.ref C) "__class__") (some (some (.builtin "object.__class__"))) && (He.eqO (PySem.W.specialIn K (.builtin "object.__class__") "__get__") (some (some (.builtin "getset_descriptor.__get__"))) && (
  decide (PySem.W.takesIn K (.builtin "object.__class__") = some true) && decide (PySem.W.mroIn K C (.type "object") = some true)))
def fa0 : List Fc := [.glo "is_number" 129, .glo "pair_of" 136, .glo "tupled" 141, .glo "run_together" 153, .glo "letters" 158, .glo "along" 165, .glo "levels" 172, .glo "ahead" 179, .glo "drops_ahead" 186, .glo "cut" 193, .glo "joined_spans" 271, .glo "in_both" 278]
def fa1 : List Fc := [.glo "left_over" 283, .glo "comb" 431, .glo "is_good" 437, .glo "filled" 444, .glo "moved" 449, .glo "swings_of" 519, .glo "edges_of" 526, .glo "many_for" 729, .glo "word_from" 736, .glo "drops_up_to" 743, .glo "cell_over" 750, .glo "row_over" 755]
def fa2 : List Fc := [.glo "long_span" 762, .glo "outside_from" 769, .glo "within_from" 774, .glo "_law_box" 781, .glo "_law_take" 788, .glo "_law_cells" 795, .glo "_law_of" 802, .glo "_law_same" 807, .glo "_law_stride" 814, .glo "_law_line" 819, .glo "_law_host" 824, .glo "_law_edges" 831]
def fa3 : List Fc := [.glo "_law_trip" 838, .glo "_law_spell" 845, .glo "_law_rising" 850, .glo "_law_one" 857, .glo "_law_made" 862, .glo "_law_first" 869, .glo "_law_read" 874, .glo "_law_is_in" 879, .glo "_law_less" 884, .glo "_law_left" 891, .glo "_law_comes" 896, .glo "_law_due" 903]
def fa4 : List Fc := [.glo "_law_rows_right" 910, .glo "_law_great" 915, .glo "_law_by_hand_right" 922, .glo "_law_bent" 929, .glo "_law_right" 936, .glo "law" 941, .glo "Row" 422, .glo "Step" 508, .glo "Pipeline" 718, .glo "NoLetter" 62, .glo "AMOUNTS" 432, .free "abs"]
def fa5 : List Fc := [.free "all", .free "any", .free "bool", .free "enumerate", .free "int", .free "isinstance", .free "len", .free "list", .free "max", .free "min", .free "property", .free "range"]
def fa6 : List Fc := [.free "sorted", .free "str", .free "sum", .free "tuple", .free "zip", .str "FILL" "fill", .str "DROP" "drop", .cls 422, .noat 422 "own_spans", .mkr 422 297, .prop 422 "spans" 313 312, .meth 422 "within" 353]
def fa7 : List Fc := [.cls 508, .noat 508 "own_kind", .noat 508 "own_amounts", .mkr 508 463, .prop 508 "kind" 479 478, .prop 508 "amounts" 487 486, .callo 508 498, .cls 718, .noat 718 "own_steps", .mkr 718 563, .prop 718 "heights" 593 592, .prop 718 "word" 601 600]
def fa8 : List Fc := [.prop 718 "fills" 609 608, .prop 718 "drops" 617 616, .prop 718 "starts" 623 622, .prop 718 "ends" 629 628, .callo 718 680, .aint 432 "fill" 1, .aint 432 "drop" 1, .aint 432 "widen" 2, .aint 432 "trim" 2, .aint 432 "shift" 1, .free "super", .more nlB]
def fa9 : List Fc := [.more fun K => insB K 422]
def faAll : List Fc := fa0 ++ fa1 ++ fa2 ++ fa3 ++ fa4 ++ fa5 ++ fa6 ++ fa7 ++ fa8 ++ fa9
theorem Fc.str_ok {K : PySem.W.Frag} {h : Heap} {mg : Str → Option Value} (X : K.In h) (G : h.Ns mainGlobals mg) {x z : Str} (c : (Fc.str x z).ok K = true) : ∃ t, mg x = some (.str z t) := He.str_ok X G (x := x) (z := z) c
theorem Fc.cls_ok {K : PySem.W.Frag} {C : Addr} (c : (Fc.cls C).ok K = true) : Cls K C := by
  obtain ⟨c1, c⟩ := He.ba c
  obtain ⟨c2, c⟩ := He.ba c
  obtain ⟨c3, c4⟩ := He.ba c
  exact ⟨c1, c2, c3, He.eqO_ok c4⟩
theorem Fc.meth_ok {K : PySem.W.Frag} {C a : Addr} {m : Str} (c : (Fc.meth C m a).ok K = true) : Meth K C m a := by
  obtain ⟨c1, c⟩ := He.ba c
  obtain ⟨c2, c3⟩ := He.ba c
  exact ⟨He.eqO_ok c1, c2, c3⟩
theorem Fc.mkr_ok {K : PySem.W.Frag} {C a : Addr} (c : (Fc.mkr C a).ok K = true) : Mk K C a := by
  obtain ⟨c1, c⟩ := He.ba c
  obtain ⟨c2, c⟩ := He.ba c
  obtain ⟨c3, c4⟩ := He.ba c
  exact ⟨c1, He.eqO_ok c2, c3, c4⟩
theorem Fc.prop_ok {K : PySem.W.Frag} {C p g : Addr} {f : Str} (c : (Fc.prop C f p g).ok K = true) : PropOf K C f p g := by
  obtain ⟨c1, c⟩ := He.ba c
  obtain ⟨c2, c⟩ := He.ba c
  obtain ⟨c3, c4⟩ := He.ba c
  refine ⟨He.eqO_ok c1, He.eqO_ok c2, of_decide_eq_true c3, ?_⟩
  unfold rec1 at c4
  split at c4
  · rename_i b r q
    have e := of_decide_eq_true c4
    subst e
    exact ⟨r, q⟩
  · cases c4
theorem Fc.callo_ok {K : PySem.W.Frag} {C g : Addr} (c : (Fc.callo C g).ok K = true) : StX.CallO K C g := by
  obtain ⟨c1, c⟩ := He.ba c
  obtain ⟨c2, c3⟩ := He.ba c
  exact ⟨He.eqO_ok c1, c2, c3⟩
theorem Fc.aint_ok {K : PySem.W.Frag} {a : Addr} {x : Str} {i : Int} (c : (Fc.aint a x i).ok K = true) : ∃ t, PySem.W.nsIn K a x = some (some (.int i t)) := by
  have c2 : (match PySem.W.nsIn K a x with
    | some (some (.int j _)) => decide (j = i)
    | _ => false) = true := c
  split at c2
  · rename_i j t q
    have e := of_decide_eq_true c2
    subst e
    exact ⟨t, q⟩
  · cases c2
abbrev AlL : Type := (Bool × List He.FnW) × Option (List (Option (Str × Int)))
def obsL (K : PySem.W.Frag) (b : Bool) : AlL := ((b && ((faAll.all fun f => f.ok K) && fnAll.all fun d => d.ok K), fnAll.map fun d => fnL K d.a), He.dicW K 432)
def amKeys : List Str := [("fill" : Str), ("drop" : Str), ("widen" : Str), ("trim" : Str), ("shift" : Str)]
def valL (w : World) : AlL := ((true, fnAll.map DefL.val), some (He.keysIn w.params amKeys))
def obsG (g : Addr → Option Obj) : AlL := obsL (KL g) (placesL.all fun a => (g a).isSome)
def Says (w : World) (K : PySem.W.Frag) : Prop := obsL K true = valL w
theorem obsL_b {K : PySem.W.Frag} {b : Bool} {w : World} (h : obsL K b = valL w) : b = true ∧ Says w K := by
  have h1 : (b && ((faAll.all fun f => f.ok K) && fnAll.all fun d => d.ok K)) = true := congrArg (fun z : AlL => z.1.1) h
  cases b with
  | true => exact ⟨rfl, h⟩
  | false =>
    rw [Bool.false_and] at h1
    cases h1
theorem says_fact {w : World} {K : PySem.W.Frag} (c : Says w K) (i : Nat) {f : Fc} (h : faAll[i]? = some f) : f.ok K = true := by
  have c1 : (true && ((faAll.all fun f => f.ok K) && fnAll.all fun d => d.ok K)) = true := congrArg (fun z : AlL => z.1.1) c
  rw [Bool.true_and] at c1
  exact List.all_eq_true.mp (He.ba c1).1 f (List.mem_of_getElem? h)
theorem says_fn {w : World} {K : PySem.W.Frag} (c : Says w K) (i : Nat) {d : DefL} (h : fnAll[i]? = some d) : fnL K d.a = d.val ∧ d.ok K = true := by
  have c1 : (true && ((faAll.all fun f => f.ok K) && fnAll.all fun d => d.ok K)) = true := congrArg (fun z : AlL => z.1.1) c
  rw [Bool.true_and] at c1
  have e : fnAll.map (fun d => fnL K d.a) = fnAll.map DefL.val := congrArg (fun z : AlL => z.1.2) c
  have e2 : (fnAll.map fun d => fnL K d.a)[i]? = (fnAll.map DefL.val)[i]? := by rw [e]
  rw [List.getElem?_map, List.getElem?_map, h] at e2
  exact ⟨Option.some.inj e2, List.all_eq_true.mp (He.ba c1).2 d (List.mem_of_getElem? h)⟩
theorem says_def {w : World} {K : PySem.W.Frag} (c : Says w K) (i : Nat) {d : DefL} (h : fnAll[i]? = some d) (hcl : d.cl = []) : ∃ fd, FnD K d fd := DefL.funD (says_fn c i h).1 (says_fn c i h).2 hcl
/-- all that the walk asks of the text as the top has left it -/
structure Tx (w : World) (K : PySem.W.Frag) (mg : Str → Option Value) : Prop where
  g_is_number : mg "is_number" = some (.ref 129)
  g_pair_of : mg "pair_of" = some (.ref 136)
  g_tupled : mg "tupled" = some (.ref 141)
  g_run_together : mg "run_together" = some (.ref 153)
  g_letters : mg "letters" = some (.ref 158)
  g_along : mg "along" = some (.ref 165)
  g_levels : mg "levels" = some (.ref 172)
  g_ahead : mg "ahead" = some (.ref 179)
  g_drops_ahead : mg "drops_ahead" = some (.ref 186)
  g_cut : mg "cut" = some (.ref 193)
  g_joined : mg "joined_spans" = some (.ref 271)
  g_in_both : mg "in_both" = some (.ref 278)
  g_left_over : mg "left_over" = some (.ref 283)
  g_comb : mg "comb" = some (.ref 431)
  g_is_good : mg "is_good" = some (.ref 437)
  g_filled : mg "filled" = some (.ref 444)
  g_moved : mg "moved" = some (.ref 449)
  g_swings_of : mg "swings_of" = some (.ref 519)
  g_edges_of : mg "edges_of" = some (.ref 526)
  g_many_for : mg "many_for" = some (.ref 729)
  g_word_from : mg "word_from" = some (.ref 736)
  g_drops_up_to : mg "drops_up_to" = some (.ref 743)
  g_cell_over : mg "cell_over" = some (.ref 750)
  g_row_over : mg "row_over" = some (.ref 755)
  g_long_span : mg "long_span" = some (.ref 762)
  g_outside_from : mg "outside_from" = some (.ref 769)
  g_within_from : mg "within_from" = some (.ref 774)
  g_Lbox : mg "_law_box" = some (.ref 781)
  g_Ltake : mg "_law_take" = some (.ref 788)
  g_Lcells : mg "_law_cells" = some (.ref 795)
  g_Lof : mg "_law_of" = some (.ref 802)
  g_Lsame : mg "_law_same" = some (.ref 807)
  g_Lstride : mg "_law_stride" = some (.ref 814)
  g_Lline : mg "_law_line" = some (.ref 819)
  g_Lhost : mg "_law_host" = some (.ref 824)
  g_Ledges : mg "_law_edges" = some (.ref 831)
  g_Ltrip : mg "_law_trip" = some (.ref 838)
  g_Lspell : mg "_law_spell" = some (.ref 845)
  g_Lrising : mg "_law_rising" = some (.ref 850)
  g_Lone : mg "_law_one" = some (.ref 857)
  g_Lmade : mg "_law_made" = some (.ref 862)
  g_Lfirst : mg "_law_first" = some (.ref 869)
  g_Lread : mg "_law_read" = some (.ref 874)
  g_Lis_in : mg "_law_is_in" = some (.ref 879)
  g_Lless : mg "_law_less" = some (.ref 884)
  g_Lleft : mg "_law_left" = some (.ref 891)
  g_Lcomes : mg "_law_comes" = some (.ref 896)
  g_Ldue : mg "_law_due" = some (.ref 903)
  g_Lrows_right : mg "_law_rows_right" = some (.ref 910)
  g_Lgreat : mg "_law_great" = some (.ref 915)
  g_Lby_hand_right : mg "_law_by_hand_right" = some (.ref 922)
  g_Lbent : mg "_law_bent" = some (.ref 929)
  g_Lright : mg "_law_right" = some (.ref 936)
  g_law : mg "law" = some (.ref 941)
  g_Row : mg "Row" = some (.ref 422)
  g_Step : mg "Step" = some (.ref 508)
  g_Pipeline : mg "Pipeline" = some (.ref 718)
  g_NoLetter : mg "NoLetter" = some (.ref 62)
  g_AMOUNTS : mg "AMOUNTS" = some (.ref 432)
  b_abs : mg "abs" = none
  b_all : mg "all" = none
  b_any : mg "any" = none
  b_bool : mg "bool" = none
  b_enumerate : mg "enumerate" = none
  b_int : mg "int" = none
  b_isinstance : mg "isinstance" = none
  b_len : mg "len" = none
  b_list : mg "list" = none
  b_max : mg "max" = none
  b_min : mg "min" = none
  b_property : mg "property" = none
  b_range : mg "range" = none
  b_sorted : mg "sorted" = none
  b_str : mg "str" = none
  b_sum : mg "sum" = none
  b_tuple : mg "tuple" = none
  b_zip : mg "zip" = none
  c_FILL : ∃ t, mg "FILL" = some (.str "fill" t)
  c_DROP : ∃ t, mg "DROP" = some (.str "drop" t)
  cl_Row : Cls K 422
  na_own_spans : NoAttr K 422 "own_spans"
  mk_Row : Mk K 422 297
  pr_Row_spans : PropOf K 422 "spans" 313 312
  me_Row_within : Meth K 422 "within" 353
  cl_Step : Cls K 508
  na_own_kind : NoAttr K 508 "own_kind"
  na_own_amounts : NoAttr K 508 "own_amounts"
  mk_Step : Mk K 508 463
  pr_Step_kind : PropOf K 508 "kind" 479 478
  pr_Step_amounts : PropOf K 508 "amounts" 487 486
  co_Step : StX.CallO K 508 498
  cl_Pipeline : Cls K 718
  na_own_steps : NoAttr K 718 "own_steps"
  mk_Pipeline : Mk K 718 563
  pr_Pipeline_heights : PropOf K 718 "heights" 593 592
  pr_Pipeline_word : PropOf K 718 "word" 601 600
  pr_Pipeline_fills : PropOf K 718 "fills" 609 608
  pr_Pipeline_drops : PropOf K 718 "drops" 617 616
  pr_Pipeline_starts : PropOf K 718 "starts" 623 622
  pr_Pipeline_ends : PropOf K 718 "ends" 629 628
  co_Pipeline : StX.CallO K 718 680
  am_fill : ∃ t, PySem.W.nsIn K 432 "fill" = some (some (.int 1 t))
  am_drop : ∃ t, PySem.W.nsIn K 432 "drop" = some (some (.int 1 t))
  am_widen : ∃ t, PySem.W.nsIn K 432 "widen" = some (some (.int 2 t))
  am_trim : ∃ t, PySem.W.nsIn K 432 "trim" = some (some (.int 2 t))
  am_shift : ∃ t, PySem.W.nsIn K 432 "shift" = some (some (.int 1 t))
  b_super : mg "super" = none
  nl : nlB K = true
  insRow : insB K 422 = true
  f_is_number : ∃ fd, FnD K d_is_number fd
  f_pair_of : ∃ fd, FnD K d_pair_of fd
  f_tupled : ∃ fd, FnD K d_tupled fd
  f_run_together : ∃ fd, FnD K d_run_together fd
  f_letters : ∃ fd, FnD K d_letters fd
  f_along : ∃ fd, FnD K d_along fd
  f_levels : ∃ fd, FnD K d_levels fd
  f_ahead : ∃ fd, FnD K d_ahead fd
  f_drops_ahead : ∃ fd, FnD K d_drops_ahead fd
  f_cut : ∃ fd, FnD K d_cut fd
  f_joined : ∃ fd, FnD K d_joined fd
  f_in_both : ∃ fd, FnD K d_in_both fd
  f_left_over : ∃ fd, FnD K d_left_over fd
  f_comb : ∃ fd, FnD K d_comb fd
  f_is_good : ∃ fd, FnD K d_is_good fd
  f_filled : ∃ fd, FnD K d_filled fd
  f_moved : ∃ fd, FnD K d_moved fd
  f_swings_of : ∃ fd, FnD K d_swings_of fd
  f_edges_of : ∃ fd, FnD K d_edges_of fd
  f_many_for : ∃ fd, FnD K d_many_for fd
  f_word_from : ∃ fd, FnD K d_word_from fd
  f_drops_up_to : ∃ fd, FnD K d_drops_up_to fd
  f_cell_over : ∃ fd, FnD K d_cell_over fd
  f_row_over : ∃ fd, FnD K d_row_over fd
  f_long_span : ∃ fd, FnD K d_long_span fd
  f_outside_from : ∃ fd, FnD K d_outside_from fd
  f_within_from : ∃ fd, FnD K d_within_from fd
  f_Lbox : ∃ fd, FnD K d_Lbox fd
  f_Ltake : ∃ fd, FnD K d_Ltake fd
  f_Lcells : ∃ fd, FnD K d_Lcells fd
  f_Lof : ∃ fd, FnD K d_Lof fd
  f_Lsame : ∃ fd, FnD K d_Lsame fd
  f_Lstride : ∃ fd, FnD K d_Lstride fd
  f_Lline : ∃ fd, FnD K d_Lline fd
  f_Lhost : ∃ fd, FnD K d_Lhost fd
  f_Ledges : ∃ fd, FnD K d_Ledges fd
  f_Ltrip : ∃ fd, FnD K d_Ltrip fd
  f_Lspell : ∃ fd, FnD K d_Lspell fd
  f_Lrising : ∃ fd, FnD K d_Lrising fd
  f_Lone : ∃ fd, FnD K d_Lone fd
  f_Lmade : ∃ fd, FnD K d_Lmade fd
  f_Lfirst : ∃ fd, FnD K d_Lfirst fd
  f_Lread : ∃ fd, FnD K d_Lread fd
  f_Lis_in : ∃ fd, FnD K d_Lis_in fd
  f_Lless : ∃ fd, FnD K d_Lless fd
  f_Lleft : ∃ fd, FnD K d_Lleft fd
  f_Lcomes : ∃ fd, FnD K d_Lcomes fd
  f_Ldue : ∃ fd, FnD K d_Ldue fd
  f_Lrows_right : ∃ fd, FnD K d_Lrows_right fd
  f_Lgreat : ∃ fd, FnD K d_Lgreat fd
  f_Lby_hand_right : ∃ fd, FnD K d_Lby_hand_right fd
  f_Lbent : ∃ fd, FnD K d_Lbent fd
  f_Lright : ∃ fd, FnD K d_Lright fd
  f_law : ∃ fd, FnD K d_law fd
  f_Row_init : ∃ fd, FnD K d_Row_init fd
  f_Row_spans : ∃ fd, FnD K d_Row_spans fd
  f_Row_within : ∃ fd, FnD K d_Row_within fd
  f_Step_init : ∃ fd, FnD K d_Step_init fd
  f_Step_kind : ∃ fd, FnD K d_Step_kind fd
  f_Step_amounts : ∃ fd, FnD K d_Step_amounts fd
  f_Step_call : ∃ fd, FnD K d_Step_call fd
  f_Pipeline_init : ∃ fd, FnD K d_Pipeline_init fd
  f_Pipeline_heights : ∃ fd, FnD K d_Pipeline_heights fd
  f_Pipeline_word : ∃ fd, FnD K d_Pipeline_word fd
  f_Pipeline_fills : ∃ fd, FnD K d_Pipeline_fills fd
  f_Pipeline_drops : ∃ fd, FnD K d_Pipeline_drops fd
  f_Pipeline_starts : ∃ fd, FnD K d_Pipeline_starts fd
  f_Pipeline_ends : ∃ fd, FnD K d_Pipeline_ends fd
  f_Pipeline_call : ∃ fd, FnD K d_Pipeline_call fd
  f_NL : fnL K d_NL.a = d_NL.val ∧ d_NL.ok K = true
  amd : ∃ es n, KDict K w 432 es n
theorem tx_of {w : World} {K : PySem.W.Frag} {h : Heap} {mg : Str → Option Value} (X : K.In h) (G : h.Ns mainGlobals mg) (c : Says w K) : Tx w K mg where
  g_is_number := PySem.W.mg_of X G (He.eqO_ok (says_fact c 0 (f := .glo "is_number" 129) rfl))
  g_pair_of := PySem.W.mg_of X G (He.eqO_ok (says_fact c 1 (f := .glo "pair_of" 136) rfl))
  g_tupled := PySem.W.mg_of X G (He.eqO_ok (says_fact c 2 (f := .glo "tupled" 141) rfl))
  g_run_together := PySem.W.mg_of X G (He.eqO_ok (says_fact c 3 (f := .glo "run_together" 153) rfl))
  g_letters := PySem.W.mg_of X G (He.eqO_ok (says_fact c 4 (f := .glo "letters" 158) rfl))
  g_along := PySem.W.mg_of X G (He.eqO_ok (says_fact c 5 (f := .glo "along" 165) rfl))
  g_levels := PySem.W.mg_of X G (He.eqO_ok (says_fact c 6 (f := .glo "levels" 172) rfl))
  g_ahead := PySem.W.mg_of X G (He.eqO_ok (says_fact c 7 (f := .glo "ahead" 179) rfl))
  g_drops_ahead := PySem.W.mg_of X G (He.eqO_ok (says_fact c 8 (f := .glo "drops_ahead" 186) rfl))
  g_cut := PySem.W.mg_of X G (He.eqO_ok (says_fact c 9 (f := .glo "cut" 193) rfl))
  g_joined := PySem.W.mg_of X G (He.eqO_ok (says_fact c 10 (f := .glo "joined_spans" 271) rfl))
  g_in_both := PySem.W.mg_of X G (He.eqO_ok (says_fact c 11 (f := .glo "in_both" 278) rfl))
  g_left_over := PySem.W.mg_of X G (He.eqO_ok (says_fact c 12 (f := .glo "left_over" 283) rfl))
  g_comb := PySem.W.mg_of X G (He.eqO_ok (says_fact c 13 (f := .glo "comb" 431) rfl))
  g_is_good := PySem.W.mg_of X G (He.eqO_ok (says_fact c 14 (f := .glo "is_good" 437) rfl))
  g_filled := PySem.W.mg_of X G (He.eqO_ok (says_fact c 15 (f := .glo "filled" 444) rfl))
  g_moved := PySem.W.mg_of X G (He.eqO_ok (says_fact c 16 (f := .glo "moved" 449) rfl))
  g_swings_of := PySem.W.mg_of X G (He.eqO_ok (says_fact c 17 (f := .glo "swings_of" 519) rfl))
  g_edges_of := PySem.W.mg_of X G (He.eqO_ok (says_fact c 18 (f := .glo "edges_of" 526) rfl))
  g_many_for := PySem.W.mg_of X G (He.eqO_ok (says_fact c 19 (f := .glo "many_for" 729) rfl))
  g_word_from := PySem.W.mg_of X G (He.eqO_ok (says_fact c 20 (f := .glo "word_from" 736) rfl))
  g_drops_up_to := PySem.W.mg_of X G (He.eqO_ok (says_fact c 21 (f := .glo "drops_up_to" 743) rfl))
  g_cell_over := PySem.W.mg_of X G (He.eqO_ok (says_fact c 22 (f := .glo "cell_over" 750) rfl))
  g_row_over := PySem.W.mg_of X G (He.eqO_ok (says_fact c 23 (f := .glo "row_over" 755) rfl))
  g_long_span := PySem.W.mg_of X G (He.eqO_ok (says_fact c 24 (f := .glo "long_span" 762) rfl))
  g_outside_from := PySem.W.mg_of X G (He.eqO_ok (says_fact c 25 (f := .glo "outside_from" 769) rfl))
  g_within_from := PySem.W.mg_of X G (He.eqO_ok (says_fact c 26 (f := .glo "within_from" 774) rfl))
  g_Lbox := PySem.W.mg_of X G (He.eqO_ok (says_fact c 27 (f := .glo "_law_box" 781) rfl))
  g_Ltake := PySem.W.mg_of X G (He.eqO_ok (says_fact c 28 (f := .glo "_law_take" 788) rfl))
  g_Lcells := PySem.W.mg_of X G (He.eqO_ok (says_fact c 29 (f := .glo "_law_cells" 795) rfl))
  g_Lof := PySem.W.mg_of X G (He.eqO_ok (says_fact c 30 (f := .glo "_law_of" 802) rfl))
  g_Lsame := PySem.W.mg_of X G (He.eqO_ok (says_fact c 31 (f := .glo "_law_same" 807) rfl))
  g_Lstride := PySem.W.mg_of X G (He.eqO_ok (says_fact c 32 (f := .glo "_law_stride" 814) rfl))
  g_Lline := PySem.W.mg_of X G (He.eqO_ok (says_fact c 33 (f := .glo "_law_line" 819) rfl))
  g_Lhost := PySem.W.mg_of X G (He.eqO_ok (says_fact c 34 (f := .glo "_law_host" 824) rfl))
  g_Ledges := PySem.W.mg_of X G (He.eqO_ok (says_fact c 35 (f := .glo "_law_edges" 831) rfl))
  g_Ltrip := PySem.W.mg_of X G (He.eqO_ok (says_fact c 36 (f := .glo "_law_trip" 838) rfl))
  g_Lspell := PySem.W.mg_of X G (He.eqO_ok (says_fact c 37 (f := .glo "_law_spell" 845) rfl))
  g_Lrising := PySem.W.mg_of X G (He.eqO_ok (says_fact c 38 (f := .glo "_law_rising" 850) rfl))
  g_Lone := PySem.W.mg_of X G (He.eqO_ok (says_fact c 39 (f := .glo "_law_one" 857) rfl))
  g_Lmade := PySem.W.mg_of X G (He.eqO_ok (says_fact c 40 (f := .glo "_law_made" 862) rfl))
  g_Lfirst := PySem.W.mg_of X G (He.eqO_ok (says_fact c 41 (f := .glo "_law_first" 869) rfl))
  g_Lread := PySem.W.mg_of X G (He.eqO_ok (says_fact c 42 (f := .glo "_law_read" 874) rfl))
  g_Lis_in := PySem.W.mg_of X G (He.eqO_ok (says_fact c 43 (f := .glo "_law_is_in" 879) rfl))
  g_Lless := PySem.W.mg_of X G (He.eqO_ok (says_fact c 44 (f := .glo "_law_less" 884) rfl))
  g_Lleft := PySem.W.mg_of X G (He.eqO_ok (says_fact c 45 (f := .glo "_law_left" 891) rfl))
  g_Lcomes := PySem.W.mg_of X G (He.eqO_ok (says_fact c 46 (f := .glo "_law_comes" 896) rfl))
  g_Ldue := PySem.W.mg_of X G (He.eqO_ok (says_fact c 47 (f := .glo "_law_due" 903) rfl))
  g_Lrows_right := PySem.W.mg_of X G (He.eqO_ok (says_fact c 48 (f := .glo "_law_rows_right" 910) rfl))
  g_Lgreat := PySem.W.mg_of X G (He.eqO_ok (says_fact c 49 (f := .glo "_law_great" 915) rfl))
  g_Lby_hand_right := PySem.W.mg_of X G (He.eqO_ok (says_fact c 50 (f := .glo "_law_by_hand_right" 922) rfl))
  g_Lbent := PySem.W.mg_of X G (He.eqO_ok (says_fact c 51 (f := .glo "_law_bent" 929) rfl))
  g_Lright := PySem.W.mg_of X G (He.eqO_ok (says_fact c 52 (f := .glo "_law_right" 936) rfl))
  g_law := PySem.W.mg_of X G (He.eqO_ok (says_fact c 53 (f := .glo "law" 941) rfl))
  g_Row := PySem.W.mg_of X G (He.eqO_ok (says_fact c 54 (f := .glo "Row" 422) rfl))
  g_Step := PySem.W.mg_of X G (He.eqO_ok (says_fact c 55 (f := .glo "Step" 508) rfl))
  g_Pipeline := PySem.W.mg_of X G (He.eqO_ok (says_fact c 56 (f := .glo "Pipeline" 718) rfl))
  g_NoLetter := PySem.W.mg_of X G (He.eqO_ok (says_fact c 57 (f := .glo "NoLetter" 62) rfl))
  g_AMOUNTS := PySem.W.mg_of X G (He.eqO_ok (says_fact c 58 (f := .glo "AMOUNTS" 432) rfl))
  b_abs := PySem.W.mg_none_of X G (He.eqO_ok (says_fact c 59 (f := .free "abs") rfl))
  b_all := PySem.W.mg_none_of X G (He.eqO_ok (says_fact c 60 (f := .free "all") rfl))
  b_any := PySem.W.mg_none_of X G (He.eqO_ok (says_fact c 61 (f := .free "any") rfl))
  b_bool := PySem.W.mg_none_of X G (He.eqO_ok (says_fact c 62 (f := .free "bool") rfl))
  b_enumerate := PySem.W.mg_none_of X G (He.eqO_ok (says_fact c 63 (f := .free "enumerate") rfl))
  b_int := PySem.W.mg_none_of X G (He.eqO_ok (says_fact c 64 (f := .free "int") rfl))
  b_isinstance := PySem.W.mg_none_of X G (He.eqO_ok (says_fact c 65 (f := .free "isinstance") rfl))
  b_len := PySem.W.mg_none_of X G (He.eqO_ok (says_fact c 66 (f := .free "len") rfl))
  b_list := PySem.W.mg_none_of X G (He.eqO_ok (says_fact c 67 (f := .free "list") rfl))
  b_max := PySem.W.mg_none_of X G (He.eqO_ok (says_fact c 68 (f := .free "max") rfl))
  b_min := PySem.W.mg_none_of X G (He.eqO_ok (says_fact c 69 (f := .free "min") rfl))
  b_property := PySem.W.mg_none_of X G (He.eqO_ok (says_fact c 70 (f := .free "property") rfl))
  b_range := PySem.W.mg_none_of X G (He.eqO_ok (says_fact c 71 (f := .free "range") rfl))
  b_sorted := PySem.W.mg_none_of X G (He.eqO_ok (says_fact c 72 (f := .free "sorted") rfl))
  b_str := PySem.W.mg_none_of X G (He.eqO_ok (says_fact c 73 (f := .free "str") rfl))
  b_sum := PySem.W.mg_none_of X G (He.eqO_ok (says_fact c 74 (f := .free "sum") rfl))
  b_tuple := PySem.W.mg_none_of X G (He.eqO_ok (says_fact c 75 (f := .free "tuple") rfl))
  b_zip := PySem.W.mg_none_of X G (He.eqO_ok (says_fact c 76 (f := .free "zip") rfl))
  c_FILL := Fc.str_ok X G (says_fact c 77 (f := .str "FILL" "fill") rfl)
  c_DROP := Fc.str_ok X G (says_fact c 78 (f := .str "DROP" "drop") rfl)
  cl_Row := Fc.cls_ok (says_fact c 79 (f := .cls 422) rfl)
  na_own_spans := He.eqO_ok (says_fact c 80 (f := .noat 422 "own_spans") rfl)
  mk_Row := Fc.mkr_ok (says_fact c 81 (f := .mkr 422 297) rfl)
  pr_Row_spans := Fc.prop_ok (says_fact c 82 (f := .prop 422 "spans" 313 312) rfl)
  me_Row_within := Fc.meth_ok (says_fact c 83 (f := .meth 422 "within" 353) rfl)
  cl_Step := Fc.cls_ok (says_fact c 84 (f := .cls 508) rfl)
  na_own_kind := He.eqO_ok (says_fact c 85 (f := .noat 508 "own_kind") rfl)
  na_own_amounts := He.eqO_ok (says_fact c 86 (f := .noat 508 "own_amounts") rfl)
  mk_Step := Fc.mkr_ok (says_fact c 87 (f := .mkr 508 463) rfl)
  pr_Step_kind := Fc.prop_ok (says_fact c 88 (f := .prop 508 "kind" 479 478) rfl)
  pr_Step_amounts := Fc.prop_ok (says_fact c 89 (f := .prop 508 "amounts" 487 486) rfl)
  co_Step := Fc.callo_ok (says_fact c 90 (f := .callo 508 498) rfl)
  cl_Pipeline := Fc.cls_ok (says_fact c 91 (f := .cls 718) rfl)
  na_own_steps := He.eqO_ok (says_fact c 92 (f := .noat 718 "own_steps") rfl)
  mk_Pipeline := Fc.mkr_ok (says_fact c 93 (f := .mkr 718 563) rfl)
  pr_Pipeline_heights := Fc.prop_ok (says_fact c 94 (f := .prop 718 "heights" 593 592) rfl)
  pr_Pipeline_word := Fc.prop_ok (says_fact c 95 (f := .prop 718 "word" 601 600) rfl)
  pr_Pipeline_fills := Fc.prop_ok (says_fact c 96 (f := .prop 718 "fills" 609 608) rfl)
  pr_Pipeline_drops := Fc.prop_ok (says_fact c 97 (f := .prop 718 "drops" 617 616) rfl)
  pr_Pipeline_starts := Fc.prop_ok (says_fact c 98 (f := .prop 718 "starts" 623 622) rfl)
  pr_Pipeline_ends := Fc.prop_ok (says_fact c 99 (f := .prop 718 "ends" 629 628) rfl)
  co_Pipeline := Fc.callo_ok (says_fact c 100 (f := .callo 718 680) rfl)
  am_fill := Fc.aint_ok (says_fact c 101 (f := .aint 432 "fill" 1) rfl)
  am_drop := Fc.aint_ok (says_fact c 102 (f := .aint 432 "drop" 1) rfl)
  am_widen := Fc.aint_ok (says_fact c 103 (f := .aint 432 "widen" 2) rfl)
  am_trim := Fc.aint_ok (says_fact c 104 (f := .aint 432 "trim" 2) rfl)
  am_shift := Fc.aint_ok (says_fact c 105 (f := .aint 432 "shift" 1) rfl)
  b_super := PySem.W.mg_none_of X G (He.eqO_ok (says_fact c 106 (f := .free "super") rfl))
  nl := (says_fact c 107 (f := .more nlB) rfl)
  insRow := (says_fact c 108 (f := .more fun K => insB K 422) rfl)
  f_is_number := says_def c 0 (d := d_is_number) rfl rfl
  f_pair_of := says_def c 1 (d := d_pair_of) rfl rfl
  f_tupled := says_def c 2 (d := d_tupled) rfl rfl
  f_run_together := says_def c 3 (d := d_run_together) rfl rfl
  f_letters := says_def c 4 (d := d_letters) rfl rfl
  f_along := says_def c 5 (d := d_along) rfl rfl
  f_levels := says_def c 6 (d := d_levels) rfl rfl
  f_ahead := says_def c 7 (d := d_ahead) rfl rfl
  f_drops_ahead := says_def c 8 (d := d_drops_ahead) rfl rfl
  f_cut := says_def c 9 (d := d_cut) rfl rfl
  f_joined := says_def c 10 (d := d_joined) rfl rfl
  f_in_both := says_def c 11 (d := d_in_both) rfl rfl
  f_left_over := says_def c 12 (d := d_left_over) rfl rfl
  f_comb := says_def c 13 (d := d_comb) rfl rfl
  f_is_good := says_def c 14 (d := d_is_good) rfl rfl
  f_filled := says_def c 15 (d := d_filled) rfl rfl
  f_moved := says_def c 16 (d := d_moved) rfl rfl
  f_swings_of := says_def c 17 (d := d_swings_of) rfl rfl
  f_edges_of := says_def c 18 (d := d_edges_of) rfl rfl
  f_many_for := says_def c 19 (d := d_many_for) rfl rfl
  f_word_from := says_def c 20 (d := d_word_from) rfl rfl
  f_drops_up_to := says_def c 21 (d := d_drops_up_to) rfl rfl
  f_cell_over := says_def c 22 (d := d_cell_over) rfl rfl
  f_row_over := says_def c 23 (d := d_row_over) rfl rfl
  f_long_span := says_def c 24 (d := d_long_span) rfl rfl
  f_outside_from := says_def c 25 (d := d_outside_from) rfl rfl
  f_within_from := says_def c 26 (d := d_within_from) rfl rfl
  f_Lbox := says_def c 27 (d := d_Lbox) rfl rfl
  f_Ltake := says_def c 28 (d := d_Ltake) rfl rfl
  f_Lcells := says_def c 29 (d := d_Lcells) rfl rfl
  f_Lof := says_def c 30 (d := d_Lof) rfl rfl
  f_Lsame := says_def c 31 (d := d_Lsame) rfl rfl
  f_Lstride := says_def c 32 (d := d_Lstride) rfl rfl
  f_Lline := says_def c 33 (d := d_Lline) rfl rfl
  f_Lhost := says_def c 34 (d := d_Lhost) rfl rfl
  f_Ledges := says_def c 35 (d := d_Ledges) rfl rfl
  f_Ltrip := says_def c 36 (d := d_Ltrip) rfl rfl
  f_Lspell := says_def c 37 (d := d_Lspell) rfl rfl
  f_Lrising := says_def c 38 (d := d_Lrising) rfl rfl
  f_Lone := says_def c 39 (d := d_Lone) rfl rfl
  f_Lmade := says_def c 40 (d := d_Lmade) rfl rfl
  f_Lfirst := says_def c 41 (d := d_Lfirst) rfl rfl
  f_Lread := says_def c 42 (d := d_Lread) rfl rfl
  f_Lis_in := says_def c 43 (d := d_Lis_in) rfl rfl
  f_Lless := says_def c 44 (d := d_Lless) rfl rfl
  f_Lleft := says_def c 45 (d := d_Lleft) rfl rfl
  f_Lcomes := says_def c 46 (d := d_Lcomes) rfl rfl
  f_Ldue := says_def c 47 (d := d_Ldue) rfl rfl
  f_Lrows_right := says_def c 48 (d := d_Lrows_right) rfl rfl
  f_Lgreat := says_def c 49 (d := d_Lgreat) rfl rfl
  f_Lby_hand_right := says_def c 50 (d := d_Lby_hand_right) rfl rfl
  f_Lbent := says_def c 51 (d := d_Lbent) rfl rfl
  f_Lright := says_def c 52 (d := d_Lright) rfl rfl
  f_law := says_def c 53 (d := d_law) rfl rfl
  f_Row_init := says_def c 54 (d := d_Row_init) rfl rfl
  f_Row_spans := says_def c 55 (d := d_Row_spans) rfl rfl
  f_Row_within := says_def c 56 (d := d_Row_within) rfl rfl
  f_Step_init := says_def c 57 (d := d_Step_init) rfl rfl
  f_Step_kind := says_def c 58 (d := d_Step_kind) rfl rfl
  f_Step_amounts := says_def c 59 (d := d_Step_amounts) rfl rfl
  f_Step_call := says_def c 60 (d := d_Step_call) rfl rfl
  f_Pipeline_init := says_def c 61 (d := d_Pipeline_init) rfl rfl
  f_Pipeline_heights := says_def c 62 (d := d_Pipeline_heights) rfl rfl
  f_Pipeline_word := says_def c 63 (d := d_Pipeline_word) rfl rfl
  f_Pipeline_fills := says_def c 64 (d := d_Pipeline_fills) rfl rfl
  f_Pipeline_drops := says_def c 65 (d := d_Pipeline_drops) rfl rfl
  f_Pipeline_starts := says_def c 66 (d := d_Pipeline_starts) rfl rfl
  f_Pipeline_ends := says_def c 67 (d := d_Pipeline_ends) rfl rfl
  f_Pipeline_call := says_def c 68 (d := d_Pipeline_call) rfl rfl
  f_NL := says_fn c 69 (d := d_NL) rfl
  amd := He.dicW_ok (congrArg (fun z : AlL => z.2) c)
end Cs
set_option Elab.async false
set_option linter.all false
set_option maxRecDepth 100000
set_option maxHeartbeats 0
namespace Cs
open PySem PySem.Spec PyProof.Rows L2
def names0 : List PySem.Str := [("_wall" : PySem.Str), ("NoPlace" : PySem.Str), ("NoLetter" : PySem.Str), ("BadSpan" : PySem.Str), ("BadText" : PySem.Str), ("BadStep" : PySem.Str), ("is_number" : PySem.Str), ("pair_of" : PySem.Str), ("tupled" : PySem.Str), ("number_in" : PySem.Str), ("FILL" : PySem.Str), ("DROP" : PySem.Str), ("run_together" : PySem.Str), ("letters" : PySem.Str), ("along" : PySem.Str)]
def names1 : List PySem.Str := [("levels" : PySem.Str), ("ahead" : PySem.Str), ("drops_ahead" : PySem.Str), ("cut" : PySem.Str), ("joined" : PySem.Str), ("joined_words" : PySem.Str), ("again" : PySem.Str), ("lies_below" : PySem.Str), ("first_fills" : PySem.Str), ("by_columns" : PySem.Str), ("hull" : PySem.Str), ("is_within" : PySem.Str), ("over_both" : PySem.Str), ("under_both" : PySem.Str), ("is_pair" : PySem.Str)]
def names2 : List PySem.Str := [("is_spans" : PySem.Str), ("joined_spans" : PySem.Str), ("in_both" : PySem.Str), ("left_over" : PySem.Str), ("Row" : PySem.Str), ("comb" : PySem.Str), ("AMOUNTS" : PySem.Str), ("is_good" : PySem.Str), ("filled" : PySem.Str), ("moved" : PySem.Str), ("Step" : PySem.Str), ("swings_of" : PySem.Str), ("edges_of" : PySem.Str), ("plain_steps" : PySem.Str), ("triple_of" : PySem.Str)]
def names3 : List PySem.Str := [("made_of" : PySem.Str), ("Pipeline" : PySem.Str), ("many_for" : PySem.Str), ("word_from" : PySem.Str), ("drops_up_to" : PySem.Str), ("cell_over" : PySem.Str), ("row_over" : PySem.Str), ("long_span" : PySem.Str), ("outside_from" : PySem.Str), ("within_from" : PySem.Str), ("_law_box" : PySem.Str), ("_law_take" : PySem.Str), ("_law_cells" : PySem.Str), ("_law_of" : PySem.Str), ("_law_same" : PySem.Str)]
def names4 : List PySem.Str := [("_law_stride" : PySem.Str), ("_law_line" : PySem.Str), ("_law_host" : PySem.Str), ("_law_edges" : PySem.Str), ("_law_trip" : PySem.Str), ("_law_spell" : PySem.Str), ("_law_rising" : PySem.Str), ("_law_one" : PySem.Str), ("_law_made" : PySem.Str), ("_law_first" : PySem.Str), ("_law_read" : PySem.Str), ("_law_is_in" : PySem.Str), ("_law_less" : PySem.Str), ("_law_left" : PySem.Str), ("_law_comes" : PySem.Str)]
def names5 : List PySem.Str := [("_law_due" : PySem.Str), ("_law_rows_right" : PySem.Str), ("_law_great" : PySem.Str), ("_law_by_hand_right" : PySem.Str), ("_law_bent" : PySem.Str), ("_law_right" : PySem.Str)]
def names : List PySem.Str := names0 ++ names1 ++ names2 ++ names3 ++ names4 ++ names5
def hk : PySem.W.Hook where
  α := AlL
  obs := fun s => obsG s.heap.get?
  val := fun w => valL w
  says := fun w h => ∃ K : PySem.W.Frag, K.In h ∧ Says w K
  of := fun w s e => ⟨KL s.heap.get?, fun a o q => KL_in0 placesL (obsL_b e).1 (by rw [KL_eq] at q; exact q), (obsL_b e).2⟩
  keeps := fun _ _ _ ⟨K, hK, c⟩ k => ⟨K, PySem.W.Frag.In.keeps hK k, c⟩
abbrev R : PySem.W.OpenRow := PySem.W.OpenLaw.row PySem.Challenge.rw_cleanspans_k97_whole_within_for_rows_tha
def ob (s : PySem.W.SharedT) : AlL := obsG (HandSHeadRun.getT s)
theorem ob_eq (s : PySem.W.SharedT) : ob s = hk.obs s.abs := by
  have e : HandSHeadRun.getT s = s.abs.heap.get? := funext (HandSHeadRun.getT_eq s)
  show obsG (HandSHeadRun.getT s) = obsG s.abs.heap.get?
  rw [e]
abbrev RunP (w : World) : Prop := HandSHeadRun.RunEq R (PySem.W.view R.prog [92]) hk ob 9000 names w
theorem run_f (w : World) : RunP (w.withFollow "special-get-raises" false) := by
  intro os
  kernel_rfl
theorem run_t (w : World) : RunP (w.withFollow "special-get-raises" true) := by
  intro os
  kernel_rfl
theorem run (w : World) : RunP w := PySem.W.byRow2 "special-get-raises" (P := RunP) run_f run_t w
end Cs
set_option Elab.async false
set_option linter.all false
set_option maxRecDepth 100000
set_option maxHeartbeats 4000000
/-! Walks over data, defs as pure functions. -/
namespace Cf
open PySem PySem.Spec PyProof.Rows L2 Cs
/-! ### a heap without one address -/
def dl (H : Hp) (l : Addr) : Hp := fun a => if a = l then none else H a
theorem dl_same (H : Hp) (l : Addr) : dl H l l = none := by unfold dl; rw [if_pos rfl]
theorem dl_ne {H : Hp} {l a : Addr} (h : a ≠ l) : dl H l a = H a := by unfold dl; rw [if_neg h]
theorem dl_sub (H : Hp) (l : Addr) : Same (dl H l) H := fun a o e => by
  by_cases c : a = l
  · rw [c, dl_same] at e
    cases e
  · rw [dl_ne c] at e
    exact e
theorem same_dl {H0 H : Hp} {l : Addr} (s : Same H0 H) (h : H0 l = none) : Same H0 (dl H l) := fun a o e => by
  rw [dl_ne (ne_of_none e h)]
  exact s a o e
theorem dl_up {H H' : Hp} {l : Addr} {o : HO} (s : Same (dl H l) H') : Same (dl H l) (upd H' l o) := same_mut s (dl_same H l)
theorem kp_dl {H H' : Hp} {l : Addr} {ys : List V} (h : H l = some (.lst ys)) (s : Same (dl H l) H') : Kp H H' := fun a o ho e => by
  refine s a o ?_
  rw [dl_ne]
  · exact e
  · intro c
    rw [c, h] at e
    have e2 := Option.some.inj e
    subst e2
    exact ho.elim
theorem dl_mono {H H' : Hp} {l : Addr} (s : Same H H') : Same (dl H l) (dl H' l) := fun a o e => by
  by_cases c : a = l
  · rw [c, dl_same] at e
    cases e
  · rw [dl_ne c] at e ⊢
    exact s a o e
/-! ### what is walked -/
/-- wi walks the data as; all that is tracked stands -/
def IwR {α : Type} [Rp α] (wi : TI) (σ : L2.St) (H : Hp) (as : List α) : Prop := ∀ H1, Same H H1 → ∀ R : It → Hp → Prop,
  (∀ (J : It) (H2 : Hp) (G : Hp → Prop) (Y : Nat → Hp → V → Hp → Prop), Same H1 H2 → (∀ H3, Same H2 H3 → G H3) → Walk J as.length G Y → (∀ i H3 x H4, Same H2 H3 → Y i H3 x H4 → Same H3 H4 ∧ ∃ a, as[i]? = some a ∧ Rp.is H4 x a) → R J H2) → wi σ H1 R
/-- the same while the list at l is written -/
def IwL {α : Type} [Rp α] (wi : TI) (σ : L2.St) (H : Hp) (l : Addr) (as : List α) : Prop := ∀ R : It → Hp → Prop,
  (∀ (J : It) (H2 : Hp) (G : Hp → Prop) (Y : Nat → Hp → V → Hp → Prop), Same H H2 → (∀ H3, Same (dl H2 l) H3 → G H3) → Walk J as.length G Y → (∀ i H3 x H4, Same (dl H2 l) H3 → Y i H3 x H4 → Same H3 H4 ∧ ∃ a, as[i]? = some a ∧ Rp.is H4 x a) → R J H2) → wi σ H R
section
variable {K : PySem.W.Frag} {σ : L2.St} {H : Hp} {te tl ta tb : TE} {α β : Type}
theorem iw_tup [RpK α] {as : List α} (h : EvR tl σ H as) : IwR (iTup K tl) σ H as := fun H1 s R k => h H1 s _ fun v H2 s2 hv => by
  obtain ⟨q, xs, e, h1, h2⟩ := hv
  refine ⟨q, e, ⟨xs, SqT.of h1⟩, k _ H2 (fun H3 => SqT K H3 q xs) (YAt xs) s2 (fun H3 s3 => SqT.of (s3 _ _ h1)) (by rw [← h2.length]; exact walk_tup) fun i H3 x H4 s3 y => ?_⟩
  obtain ⟨e3, hx⟩ := y
  obtain ⟨a, ha, ra⟩ := h2.getV hx
  rw [e3]
  exact ⟨Same.refl _, a, ha, Rp.mono s3 ra⟩
theorem iw_list [Rp α] {as : Ls α} (h : EvR tl σ H as) : IwR (iList K tl) σ H as.val := fun H1 s R k => h H1 s _ fun v H2 s2 hv => by
  obtain ⟨q, xs, e, h1, h2⟩ := hv
  refine ⟨q, e, ⟨xs, SqL.of h1⟩, k _ H2 (fun H3 => SqL K H3 q xs) (YAt xs) s2 (fun H3 s3 => SqL.of (s3 _ _ h1)) (by rw [← h2.length]; exact walk_list) fun i H3 x H4 s3 y => ?_⟩
  obtain ⟨e3, hx⟩ := y
  obtain ⟨a, ha, ra⟩ := h2.getV hx
  rw [e3]
  exact ⟨Same.refl _, a, ha, Rp.mono s3 ra⟩
def upto (lo : Int) (n : Nat) : List Int := (List.range n).map fun (i : Nat) => lo + (i : Int)
theorem upto_get {lo : Int} {n i : Nat} (h : i < n) : (upto lo n)[i]? = some (lo + (i : Int)) := by
  unfold upto
  rw [List.getElem?_map, List.getElem?_range h]
  rfl
theorem upto_len (lo : Int) (n : Nat) : (upto lo n).length = n := by
  unfold upto
  rw [List.length_map, List.length_range]
theorem walk_upto {lo : Int} {n : Nat} : Walk (Itr lo n) (upto lo n).length (fun _ => True) (fun i H x H' => i < n ∧ H' = H ∧ x = .int (lo + i)) := by
  rw [upto_len]
  exact ⟨fun _ _ hi _ => hi, fun _ _ => Nat.le_refl _, fun _ _ _ _ hi _ y => ⟨hi, y⟩⟩
theorem iw_range1 {n : Int} (h : EvR ta σ H n) (hn : -(2 ^ 62) ≤ n ∧ n < 2 ^ 62) : IwR (iRng1 (tCons ta tNil)) σ H (upto 0 n.toNat) := fun H1 s R k => h H1 s _ fun v H2 s2 hv => by
  refine ⟨n, by rw [is_int.mp hv], hn.1, hn.2, k _ H2 (fun _ => True) _ s2 (fun _ _ => trivial) walk_upto fun i H3 x H4 s3 y => ?_⟩
  obtain ⟨hi, e, ex⟩ := y
  rw [e, ex]
  exact ⟨Same.refl _, _, upto_get hi, rfl⟩
theorem iw_range2 {m n : Int} (hm : EvR ta σ H m) (h : EvR tb σ H n) (hn : -(2 ^ 62) ≤ m ∧ m < 2 ^ 62 ∧ -(2 ^ 62) ≤ n ∧ n < 2 ^ 62) : IwR (iRng2 (tCons ta (tCons tb tNil))) σ H (upto m (n - m).toNat) := fun H1 s R k => hm H1 s _ fun u H0 s0 hu => h H0 (s.trans s0) _ fun v H2 s2 hv => by
  refine ⟨m, n, by rw [is_int.mp hv, is_int.mp hu], hn, k _ H2 (fun _ => True) _ (s0.trans s2) (fun _ _ => trivial) walk_upto fun i H3 x H4 s3 y => ?_⟩
  obtain ⟨hi, e, ex⟩ := y
  rw [e, ex]
  exact ⟨Same.refl _, _, upto_get hi, rfl⟩
/-- a text's signs -/
def signs (z : Str) : List Str := z.cps.toList.map fun c => ⟨#[c]⟩
theorem iw_str {z : Str} (h : EvR ta σ H z) : IwR (fun σ H R => ta σ H fun x H1 => ∃ y, x = .str y ∧ R (Its y) H1) σ H (signs z) := fun H1 s R k => h H1 s _ fun v H2 s2 hv => by
  have hv' : v = .str z := hv
  have hl : (signs z).length = z.cps.size := by
    unfold signs
    rw [List.length_map, Array.length_toList]
  refine ⟨z, hv', k _ H2 (fun _ => True) _ s2 (fun _ _ => trivial) (by rw [hl]; exact walk_str) fun i H3 x H4 s3 y => ?_⟩
  obtain ⟨e, c, hc, ex⟩ := y
  rw [e, ex]
  refine ⟨Same.refl _, _, ?_, rfl⟩
  unfold signs
  rw [List.getElem?_map, Array.getElem?_toList, hc]
  rfl
/-- while a list is written -/
theorem il_tup [RpK α] {as : List α} {l : Addr} {ys : List V} (hl : H l = some (.lst ys)) (h : EvR tl σ H as) : IwL (iTup K tl) σ H l as := fun R k => h H (Same.refl _) _ fun v H2 s2 hv => by
  obtain ⟨q, xs, e, h1, h2⟩ := hv
  have ne : q ≠ l := fun c => by
    rw [c, s2 _ _ hl] at h1
    cases h1
  refine ⟨q, e, ⟨xs, SqT.of h1⟩, k _ H2 (fun H3 => SqT K H3 q xs) (YAt xs) s2 (fun H3 s3 => SqT.of (s3 _ _ (by rw [dl_ne ne]; exact h1))) (by rw [← h2.length]; exact walk_tup) fun i H3 x H4 s3 y => ?_⟩
  obtain ⟨e3, hx⟩ := y
  obtain ⟨a, ha, ra⟩ := h2.getV hx
  rw [e3]
  exact ⟨Same.refl _, a, ha, RpK.monoK (kp_dl (s2 _ _ hl) s3) ra⟩
theorem il_listV [RpK α] {as : Ls α} {l : Addr} {ys : List V} {i : Nat} {v : V} (hl : H l = some (.lst ys)) (hσ : σ[i]? = some (some v)) (h : Rp.is H v as) (hne : v ≠ .ref l) : IwL (iList K (tVar i)) σ H l as.val := fun R k => ⟨v, hσ, by
  obtain ⟨q, xs, e, h1, h2⟩ := h
  have ne : q ≠ l := fun c => hne (by rw [e, c])
  refine ⟨q, e, ⟨xs, SqL.of h1⟩, k _ H (fun H3 => SqL K H3 q xs) (YAt xs) (Same.refl _) (fun H3 s3 => SqL.of (s3 _ _ (by rw [dl_ne ne]; exact h1))) (by rw [← h2.length]; exact walk_list) fun i H3 x H4 s3 y => ?_⟩
  obtain ⟨e3, hx⟩ := y
  obtain ⟨a, ha, ra⟩ := h2.getV hx
  rw [e3]
  exact ⟨Same.refl _, a, ha, RpK.monoK (kp_dl hl s3) ra⟩⟩
theorem il_range2 {m n : Int} {l : Addr} (hm : EvR ta σ H m) (h : EvR tb σ H n) (hn : -(2 ^ 62) ≤ m ∧ m < 2 ^ 62 ∧ -(2 ^ 62) ≤ n ∧ n < 2 ^ 62) : IwL (iRng2 (tCons ta (tCons tb tNil))) σ H l (upto m (n - m).toNat) := fun R k => hm H (Same.refl _) _ fun u H0 s0 hu => h H0 s0 _ fun v H2 s2 hv => by
  refine ⟨m, n, by rw [is_int.mp hv, is_int.mp hu], hn, k _ H2 (fun _ => True) _ (s0.trans s2) (fun _ _ => trivial) walk_upto fun i H3 x H4 s3 y => ?_⟩
  obtain ⟨hi, e, ex⟩ := y
  rw [e, ex]
  exact ⟨Same.refl _, _, upto_get hi, rfl⟩
theorem il_range1 {n : Int} {l : Addr} (h : EvR ta σ H n) (hn : -(2 ^ 62) ≤ n ∧ n < 2 ^ 62) : IwL (iRng1 (tCons ta tNil)) σ H l (upto 0 n.toNat) := fun R k => h H (Same.refl _) _ fun v H2 s2 hv => by
  refine ⟨n, by rw [is_int.mp hv], hn.1, hn.2, k _ H2 (fun _ => True) _ s2 (fun _ _ => trivial) walk_upto fun i H3 x H4 s3 y => ?_⟩
  obtain ⟨hi, e, ex⟩ := y
  rw [e, ex]
  exact ⟨Same.refl _, _, upto_get hi, rfl⟩
/-! ### for -/
theorem drop_cons {as : List α} {i : Nat} {a : α} (h : as[i]? = some a) : as.drop i = a :: as.drop (i + 1) := by
  obtain ⟨h1, h2⟩ := List.getElem?_eq_some_iff.mp h
  rw [List.drop_eq_getElem_cons h1, h2]
/-- one list is written; H2 is the heap as the loop begins -/
theorem s_forL [Rp α] {wi : TI} {g : TG} {tb : TS} {D : Ends} {as : List α} {l : Addr} (hw : IwL wi σ H l as) (Inv : List α → L2.St → Hp → Prop) (h0 : ∀ H1, Same H H1 → Inv as σ H1)
    (hs : ∀ H2, Same H H2 → ∀ x r v σ' H' H0, x ∈ as → Same H0 H' → Same (dl H2 l) H' → Inv (x :: r) σ' H0 → Rp.is H' v x → g v σ' H' fun σ3 H3 => tb { D with nx := fun σ4 H4 => Inv r σ4 H4 ∧ Same (dl H2 l) H4, ct := fun σ4 H4 => Inv r σ4 H4 ∧ Same (dl H2 l) H4, bk := D.nx } σ3 H3)
    (hd : ∀ H2, Same H H2 → ∀ σ' H', Same (dl H2 l) H' → Inv [] σ' H' → D.nx σ' H') : tFor wi g tb D σ H := hw _ fun J H2 G Y s2 hG W hY => by
  refine for_it W (fun i σ' H' => Inv (as.drop i) σ' H' ∧ Same (dl H2 l) H') ⟨h0 H2 s2, dl_sub _ _⟩ (fun i σ' H' _ q => hG H' q.2) (fun i x σ' H3 H4 hi q y => ?_) (fun σ' H' q => ?_)
  · obtain ⟨s4, a, ha, ra⟩ := hY i H3 x H4 q.2 y
    have q1 := q.1
    rw [drop_cons ha] at q1
    exact hs H2 s2 a (as.drop (i + 1)) x σ' H4 H3 (List.mem_of_getElem? ha) s4 (q.2.trans s4) q1 ra
  · have q1 := q.1
    rw [List.drop_length] at q1
    exact hd H2 s2 σ' H' q.2 q1
/-- no list is written: the invariant is of the slots and the rest alone -/
theorem s_forS [Rp α] {wi : TI} {g : TG} {tb : TS} {D : Ends} {as : List α} (hw : IwR wi σ H as) (Inv : List α → L2.St → Hp → Prop) (h0 : ∀ H1, Same H H1 → Inv as σ H1)
    (hs : ∀ H2, Same H H2 → ∀ x r v σ' H' H0, x ∈ as → Same H0 H' → Same H2 H' → Inv (x :: r) σ' H0 → Rp.is H' v x → g v σ' H' fun σ3 H3 => tb { D with nx := fun σ4 H4 => Inv r σ4 H4 ∧ Same H2 H4, ct := fun σ4 H4 => Inv r σ4 H4 ∧ Same H2 H4, bk := D.nx } σ3 H3)
    (hd : ∀ H2, Same H H2 → ∀ σ' H', Same H2 H' → Inv [] σ' H' → D.nx σ' H') : tFor wi g tb D σ H := hw H (Same.refl _) _ fun J H2 G Y s2 hG W hY => by
  refine for_it W (fun i σ' H' => Inv (as.drop i) σ' H' ∧ Same H2 H') ⟨h0 H2 s2, Same.refl _⟩ (fun i σ' H' _ q => hG H' q.2) (fun i x σ' H3 H4 hi q y => ?_) (fun σ' H' q => ?_)
  · obtain ⟨s4, a, ha, ra⟩ := hY i H3 x H4 q.2 y
    have q1 := q.1
    rw [drop_cons ha] at q1
    exact hs H2 s2 a (as.drop (i + 1)) x σ' H4 H3 (List.mem_of_getElem? ha) s4 (q.2.trans s4) q1 ra
  · have q1 := q.1
    rw [List.drop_length] at q1
    exact hd H2 s2 σ' H' q.2 q1
/-! ### comprehensions -/
theorem ev_lc [Rp α] [RpK β] {wi : TI} {g : TG} {tt : TT} {vs : List Nat} {as : List α} (p : α → Bool) (f : α → β) (hw : IwR wi σ H as) (hz : as.length < sizeLine)
    (turn : ∀ x v H1, Same H H1 → x ∈ as → Rp.is H1 v x → g v (wipe σ vs) H1 fun σ2 H2 => wipe σ2 vs = wipe σ vs ∧ Same H1 H2 ∧ EtR tt σ2 H2 (p x) ∧ (p x = true → EvR te σ2 H2 (f x)))
    (gmono : ∀ v σ' H' (Q Q' : L2.St → Hp → Prop), (∀ σ H, Q σ H → Q' σ H) → g v σ' H' Q → g v σ' H' Q') : EvR (tLc wi g tt te vs) σ H (⟨(as.filter p).map f⟩ : Ls β) := fun H1 s Q q => hw H1 s _ fun J H2 G Y s2 hG W hY D hD => by
  refine lc_it W (fun i H' => Same H2 H' ∧ ∃ ys, H' D = some (.lst ys) ∧ ys.length ≤ i ∧ All2 (Rp.is H') ys (((as.take i).filter p).map f)) ⟨same_new hD, [], upd_same, Nat.le_refl _, trivial⟩ (fun i H' _ r => hG H' r.1) (fun i x H3 H4 hi r y => ?_) (fun H' r => ?_)
  · obtain ⟨r1, ys, r2, r3, r4⟩ := r
    obtain ⟨s4, a, ha, ra⟩ := hY i H3 x H4 r1 y
    have tk : as.take (i + 1) = as.take i ++ [a] := by rw [List.take_add_one, ha]; rfl
    refine gmono _ _ _ _ _ ?_ (turn a x H4 ((s.trans s2).trans (r1.trans s4)) (List.mem_of_getElem? ha) ra)
    rintro σ5 H5 ⟨z1, z2, z3, z4⟩
    refine ⟨z1, z3 H5 (Same.refl _) _ fun H6 s6 => ?_⟩
    cases hp : p a with
    | true =>
      refine z4 hp H6 s6 _ fun v H7 s7 hv => ⟨ys, s7 _ _ (s6 _ _ (z2 _ _ (s4 _ _ r2))), by omega, ?_⟩
      have sD := s7 _ _ (s6 _ _ (z2 _ _ (s4 _ _ r2)))
      have sF : Same H2 H7 := ((r1.trans s4).trans z2).trans (s6.trans s7)
      refine ⟨same_mut sF hD, ys ++ [v], upd_same, by rw [List.length_append, List.length_singleton]; omega, ?_⟩
      rw [tk, List.filter_append, List.map_append]
      refine All2.append (r4.imp fun u b hb => RpK.monoK (kp_lst sD) (Rp.mono (((s4.trans z2).trans s6).trans s7) hb)) ?_
      rw [List.filter_cons, if_pos hp]
      exact ⟨RpK.monoK (kp_lst sD) hv, trivial⟩
    | false =>
      refine ⟨((r1.trans s4).trans z2).trans s6, ys, s6 _ _ (z2 _ _ (s4 _ _ r2)), by omega, ?_⟩
      rw [tk, List.filter_append, List.filter_cons, if_neg (by rw [hp]; exact Bool.false_ne_true), List.filter_nil, List.append_nil]
      exact r4.imp fun u b hb => Rp.mono ((s4.trans z2).trans s6) hb
  · obtain ⟨r1, ys, r2, r3, r4⟩ := r
    refine q (.ref D) H' (s2.trans r1) ⟨D, ys, rfl, r2, ?_⟩
    rw [List.take_length] at r4
    exact r4
/-- without an if -/
theorem ev_lcM [Rp α] [RpK β] {wi : TI} {g : TG} {vs : List Nat} {as : List α} (f : α → β) (hw : IwR wi σ H as) (hz : as.length < sizeLine)
    (turn : ∀ x v H1, Same H H1 → x ∈ as → Rp.is H1 v x → g v (wipe σ vs) H1 fun σ2 H2 => wipe σ2 vs = wipe σ vs ∧ Same H1 H2 ∧ EvR te σ2 H2 (f x))
    (gmono : ∀ v σ' H' (Q Q' : L2.St → Hp → Prop), (∀ σ H, Q σ H → Q' σ H) → g v σ' H' Q → g v σ' H' Q') : EvR (tLc wi g tYes te vs) σ H (⟨as.map f⟩ : Ls β) := by
  have h := ev_lc (tt := tYes) (fun _ => true) f hw hz (fun x v H1 s1 hx rv => gmono _ _ _ _ _ (fun σ2 H2 z => ⟨z.1, z.2.1, fun H3 _ Q q => q H3 (Same.refl _), fun _ => z.2.2⟩) (turn x v H1 s1 hx rv)) gmono
  rw [show as.filter (fun _ => true) = as from List.filter_eq_self.mpr fun _ _ => rfl] at h
  exact h
theorem gm_name {i : Nat} : ∀ v σ' H' (Q Q' : L2.St → Hp → Prop), (∀ σ H, Q σ H → Q' σ H) → gName i v σ' H' Q → gName i v σ' H' Q' := fun v σ' H' Q Q' h q => h _ _ q
theorem gm_pair {i j : Nat} : ∀ v σ' H' (Q Q' : L2.St → Hp → Prop), (∀ σ H, Q σ H → Q' σ H) → gTup K 2 (gCons (gName i) (gCons (gName j) gNil)) v σ' H' Q → gTup K 2 (gCons (gName i) (gCons (gName j) gNil)) v σ' H' Q' := fun v σ' H' Q Q' h ⟨a, xs, e, h1, h2, v1, r1, e1, v2, r2, e2, e3, q⟩ => ⟨a, xs, e, h1, h2, v1, r1, e1, v2, r2, e2, e3, h _ _ q⟩
end
/-! ### defs -/
section
variable {P : Program} {w : World} {K : PySem.W.Frag} {mg : Str → Option Value} {base : Heap}
/-- the def's object -/
def FnAt (K : PySem.W.Frag) (f : Addr) (fd : FuncData) : Prop := ∃ oc od osl, K.lookup f = some ⟨oc, od, .func fd, osl⟩
/-- the def d keeps sp at level k, and is bound by its parameters -/
def Fn (P : Program) (w : World) (K : PySem.W.Frag) (mg : Str → Option Value) (base : Heap) (k : Nat) (d : DefL) (ps : List Str) (sp : Sp) : Prop :=
  ∃ fd, FnOk P w K mg base CX0 k d.a fd ps sp ∧ Binds K fd ps [] ∧ PySem.W.keepIn K (.ref d.a) = true ∧ FnAt K d.a fd
theorem funD_at {x qual : Str} {params : Arguments} {body : List Stmt} {scope : Scope} {dvs : List V} {kws : List (Str × V)} {f : Addr} {fd : FuncData} (F : FunD K x qual params body scope dvs kws f fd) : FnAt K f fd := by
  obtain ⟨oc, od, dV, kV, doc, pm, an, cdv, ct, osl, e, lk, _⟩ := F.ex
  exact ⟨oc, od, osl, lk⟩
theorem mk_fn {d : DefL} {N ps : List Str} {k : Nat} {sp : Sp} (F : ∃ fd, FunD K d.name d.qual (defArgs d.st) (defBody d.st) (defScope d.st) [] [] d.a fd) (S : FnScope N ps (defScope d.st))
    (hb : ∀ (kV doc pm : Value) (an : Option Addr) (cdv ct : Value) (us : List Value), us.length = ps.length → bindArgs (PySem.W.fnOf d.name d.qual (defArgs d.st) (defBody d.st) (defScope d.st) .none kV doc pm an cdv ct) ⟨us, []⟩ = pure (ps.zip us))
    (len : ∀ vs H Q E, sp vs H Q E → vs.length = ps.length)
    (body : ∀ (cdv : Value) (A : Around) (outer : List Env) (s : Shared) (H : Hp) (vs : List V) (Q : VK) (E : XK), Room k (A.deeper (envOfC d.qual (defScope d.st) s.heap.objs.size d.a cdv)) → sp vs H Q E →
      ∃ t, PSs (cxOf CX0 P w K mg base N d.qual (defScope d.st) d.a cdv A outer s H E).nox (defBody d.st) t ∧ t { nx := fun _ H' => Q .non H', rt := Q } (start N vs) H) : Fn P w K mg base (k + 1) d ps sp := by
  obtain ⟨fd, F⟩ := F
  refine ⟨fd, F.ok S len fun cdv A outer s H vs Q E hr h => ?_, F.bindsN hb, F.kp, funD_at F⟩
  obtain ⟨t, h1, h2⟩ := body cdv A outer s H vs Q E hr h
  exact ⟨t, h1.nox, h2⟩
variable {α β γ δ ε : Type}
/-- a pure function of data -/
def Pure1 [Rp α] [Rp β] (pre : α → Prop) (f : α → β) : Sp := fun vs H Q _ => ∃ v a, vs = [v] ∧ Rp.is H v a ∧ pre a ∧ ∀ u H', Same H H' → Rp.is H' u (f a) → Q u H'
def Pure2 [Rp α] [Rp β] [Rp γ] (pre : α → β → Prop) (f : α → β → γ) : Sp := fun vs H Q _ => ∃ v1 v2 a b, vs = [v1, v2] ∧ Rp.is H v1 a ∧ Rp.is H v2 b ∧ pre a b ∧ ∀ u H', Same H H' → Rp.is H' u (f a b) → Q u H'
def Pure3 [Rp α] [Rp β] [Rp γ] [Rp δ] (pre : α → β → γ → Prop) (f : α → β → γ → δ) : Sp := fun vs H Q _ => ∃ v1 v2 v3 a b c, vs = [v1, v2, v3] ∧ Rp.is H v1 a ∧ Rp.is H v2 b ∧ Rp.is H v3 c ∧ pre a b c ∧ ∀ u H', Same H H' → Rp.is H' u (f a b c) → Q u H'
def Pure4 [Rp α] [Rp β] [Rp γ] [Rp δ] [Rp ε] (pre : α → β → γ → δ → Prop) (f : α → β → γ → δ → ε) : Sp := fun vs H Q _ => ∃ v1 v2 v3 v4 a b c d, vs = [v1, v2, v3, v4] ∧ Rp.is H v1 a ∧ Rp.is H v2 b ∧ Rp.is H v3 c ∧ Rp.is H v4 d ∧ pre a b c d ∧ ∀ u H', Same H H' → Rp.is H' u (f a b c d) → Q u H'
theorem mk_pure1 [Rp α] [Rp β] {pre : α → Prop} {f : α → β} {d : DefL} {N : List Str} {p1 : Str} {k : Nat} (F : ∃ fd, FunD K d.name d.qual (defArgs d.st) (defBody d.st) (defScope d.st) [] [] d.a fd) (S : FnScope N [p1] (defScope d.st))
    (hb : ∀ (kV doc pm : Value) (an : Option Addr) (cdv ct : Value) (u1 : Value), bindArgs (PySem.W.fnOf d.name d.qual (defArgs d.st) (defBody d.st) (defScope d.st) .none kV doc pm an cdv ct) ⟨[u1], []⟩ = pure [(p1, u1)])
    (body : ∀ (cdv : Value) (A : Around) (outer : List Env) (s : Shared) (H : Hp) (Q : VK) (E : XK), Room k (A.deeper (envOfC d.qual (defScope d.st) s.heap.objs.size d.a cdv)) → ∀ v a, Rp.is H v a → pre a → (∀ u H', Same H H' → Rp.is H' u (f a) → Q u H') →
      ∃ t, PSs (cxOf CX0 P w K mg base N d.qual (defScope d.st) d.a cdv A outer s H E).nox (defBody d.st) t ∧ t { nx := fun _ H' => Q .non H', rt := Q } (start N [v]) H) : Fn P w K mg base (k + 1) d [p1] (Pure1 pre f) :=
  mk_fn F S (fun kV doc pm an cdv ct us hl => match us, hl with | [u1], _ => hb kV doc pm an cdv ct u1) (fun vs H Q E h => by obtain ⟨v, a, e, _⟩ := h; rw [e]; rfl)
    (fun cdv A outer s H vs Q E hr h => by obtain ⟨v, a, e, h1, h2, h3⟩ := h; rw [e]; exact body cdv A outer s H Q E hr v a h1 h2 h3)
theorem mk_pure2 [Rp α] [Rp β] [Rp γ] {pre : α → β → Prop} {f : α → β → γ} {d : DefL} {N : List Str} {p1 p2 : Str} {k : Nat} (F : ∃ fd, FunD K d.name d.qual (defArgs d.st) (defBody d.st) (defScope d.st) [] [] d.a fd) (S : FnScope N [p1, p2] (defScope d.st))
    (hb : ∀ (kV doc pm : Value) (an : Option Addr) (cdv ct : Value) (u1 u2 : Value), bindArgs (PySem.W.fnOf d.name d.qual (defArgs d.st) (defBody d.st) (defScope d.st) .none kV doc pm an cdv ct) ⟨[u1, u2], []⟩ = pure [(p1, u1), (p2, u2)])
    (body : ∀ (cdv : Value) (A : Around) (outer : List Env) (s : Shared) (H : Hp) (Q : VK) (E : XK), Room k (A.deeper (envOfC d.qual (defScope d.st) s.heap.objs.size d.a cdv)) → ∀ v1 v2 a b, Rp.is H v1 a → Rp.is H v2 b → pre a b → (∀ u H', Same H H' → Rp.is H' u (f a b) → Q u H') →
      ∃ t, PSs (cxOf CX0 P w K mg base N d.qual (defScope d.st) d.a cdv A outer s H E).nox (defBody d.st) t ∧ t { nx := fun _ H' => Q .non H', rt := Q } (start N [v1, v2]) H) : Fn P w K mg base (k + 1) d [p1, p2] (Pure2 pre f) :=
  mk_fn F S (fun kV doc pm an cdv ct us hl => match us, hl with | [u1, u2], _ => hb kV doc pm an cdv ct u1 u2) (fun vs H Q E h => by obtain ⟨v1, v2, a, b, e, _⟩ := h; rw [e]; rfl)
    (fun cdv A outer s H vs Q E hr h => by obtain ⟨v1, v2, a, b, e, h1, h2, h3, h4⟩ := h; rw [e]; exact body cdv A outer s H Q E hr v1 v2 a b h1 h2 h3 h4)
theorem mk_pure3 [Rp α] [Rp β] [Rp γ] [Rp δ] {pre : α → β → γ → Prop} {f : α → β → γ → δ} {d : DefL} {N : List Str} {p1 p2 p3 : Str} {k : Nat} (F : ∃ fd, FunD K d.name d.qual (defArgs d.st) (defBody d.st) (defScope d.st) [] [] d.a fd) (S : FnScope N [p1, p2, p3] (defScope d.st))
    (hb : ∀ (kV doc pm : Value) (an : Option Addr) (cdv ct : Value) (u1 u2 u3 : Value), bindArgs (PySem.W.fnOf d.name d.qual (defArgs d.st) (defBody d.st) (defScope d.st) .none kV doc pm an cdv ct) ⟨[u1, u2, u3], []⟩ = pure [(p1, u1), (p2, u2), (p3, u3)])
    (body : ∀ (cdv : Value) (A : Around) (outer : List Env) (s : Shared) (H : Hp) (Q : VK) (E : XK), Room k (A.deeper (envOfC d.qual (defScope d.st) s.heap.objs.size d.a cdv)) → ∀ v1 v2 v3 a b c, Rp.is H v1 a → Rp.is H v2 b → Rp.is H v3 c → pre a b c → (∀ u H', Same H H' → Rp.is H' u (f a b c) → Q u H') →
      ∃ t, PSs (cxOf CX0 P w K mg base N d.qual (defScope d.st) d.a cdv A outer s H E).nox (defBody d.st) t ∧ t { nx := fun _ H' => Q .non H', rt := Q } (start N [v1, v2, v3]) H) : Fn P w K mg base (k + 1) d [p1, p2, p3] (Pure3 pre f) :=
  mk_fn F S (fun kV doc pm an cdv ct us hl => match us, hl with | [u1, u2, u3], _ => hb kV doc pm an cdv ct u1 u2 u3) (fun vs H Q E h => by obtain ⟨v1, v2, v3, a, b, c, e, _⟩ := h; rw [e]; rfl)
    (fun cdv A outer s H vs Q E hr h => by obtain ⟨v1, v2, v3, a, b, c, e, h1, h2, h3, h4, h5⟩ := h; rw [e]; exact body cdv A outer s H Q E hr v1 v2 v3 a b c h1 h2 h3 h4 h5)
theorem mk_pure4 [Rp α] [Rp β] [Rp γ] [Rp δ] [Rp ε] {pre : α → β → γ → δ → Prop} {f : α → β → γ → δ → ε} {d : DefL} {N : List Str} {p1 p2 p3 p4 : Str} {k : Nat} (F : ∃ fd, FunD K d.name d.qual (defArgs d.st) (defBody d.st) (defScope d.st) [] [] d.a fd) (S : FnScope N [p1, p2, p3, p4] (defScope d.st))
    (hb : ∀ (kV doc pm : Value) (an : Option Addr) (cdv ct : Value) (u1 u2 u3 u4 : Value), bindArgs (PySem.W.fnOf d.name d.qual (defArgs d.st) (defBody d.st) (defScope d.st) .none kV doc pm an cdv ct) ⟨[u1, u2, u3, u4], []⟩ = pure [(p1, u1), (p2, u2), (p3, u3), (p4, u4)])
    (body : ∀ (cdv : Value) (A : Around) (outer : List Env) (s : Shared) (H : Hp) (Q : VK) (E : XK), Room k (A.deeper (envOfC d.qual (defScope d.st) s.heap.objs.size d.a cdv)) → ∀ v1 v2 v3 v4 a b c e, Rp.is H v1 a → Rp.is H v2 b → Rp.is H v3 c → Rp.is H v4 e → pre a b c e → (∀ u H', Same H H' → Rp.is H' u (f a b c e) → Q u H') →
      ∃ t, PSs (cxOf CX0 P w K mg base N d.qual (defScope d.st) d.a cdv A outer s H E).nox (defBody d.st) t ∧ t { nx := fun _ H' => Q .non H', rt := Q } (start N [v1, v2, v3, v4]) H) : Fn P w K mg base (k + 1) d [p1, p2, p3, p4] (Pure4 pre f) :=
  mk_fn F S (fun kV doc pm an cdv ct us hl => match us, hl with | [u1, u2, u3, u4], _ => hb kV doc pm an cdv ct u1 u2 u3 u4) (fun vs H Q E h => by obtain ⟨v1, v2, v3, v4, a, b, c, e, ee, _⟩ := h; rw [ee]; rfl)
    (fun cdv A outer s H vs Q E hr h => by obtain ⟨v1, v2, v3, v4, a, b, c, e, ee, h1, h2, h3, h4, h5, h6⟩ := h; rw [ee]; exact body cdv A outer s H Q E hr v1 v2 v3 v4 a b c e h1 h2 h3 h4 h5 h6)
/-! calls -/
section
variable {X : Cx} {d : DefL} {ps : List Str} {sp : Sp} {k : Nat} {x : Str} {e : Expr} {es : List Expr} {t : TA} {p pos : Pos}
theorem pe_fn (F : Fn X.prog X.w X.K X.mg X.base k d ps sp) (hr : Room k X.A) (hm : X.mg x = some (.ref d.a)) (ha : PA X (e :: es) t) (hg : Gl X x := by rfl) (hdb : (x == ("__debug__" : Str)) = false := by decide)
    (he : starEach (e :: es) X.env = (false, eval e X.env) :: starEach es X.env := by rfl) (hpl : (backTo pos (starEach es X.env)).any (·.1) = false := by rfl) : PE X (.Call (.Name x p) (e :: es) [] pos) (tCall sp [] E0 t) := by
  obtain ⟨fd, F, b, kp, _⟩ := F
  exact pe_call F hr hg hm kp b .nil pass0 ha hdb he hpl
theorem pe_const {z : Str} (h : ∃ t, X.mg x = some (.str z t)) (hg : Gl X x := by rfl) (hd : (x == ("__debug__" : Str)) = false := by decide) : PE X (.Name x pos) (tC (.str z)) := by
  obtain ⟨t, h⟩ := h
  exact pe_glob (v := .str z) hg h ⟨t, rfl⟩ hd
end
section
variable {σ : L2.St} {H : Hp} {ta tb tc td : TE}
theorem ev_call1 [Rp α] [Rp β] {pre : α → Prop} {f : α → β} {a : α} (ha : EvR ta σ H a) (hp : pre a) : EvR (tCall (Pure1 pre f) [] E0 (tCons ta tNil)) σ H (f a) := fun H1 s Q q =>
  ha H1 s _ fun v H2 s2 hv => ⟨v, a, rfl, hv, hp, fun u H3 s3 hu => q u H3 (s2.trans s3) hu⟩
theorem ev_call2 [Rp α] [Rp β] [Rp γ] {pre : α → β → Prop} {f : α → β → γ} {a : α} {b : β} (ha : EvR ta σ H a) (hb : EvR tb σ H b) (hp : pre a b) : EvR (tCall (Pure2 pre f) [] E0 (tCons ta (tCons tb tNil))) σ H (f a b) := fun H1 s Q q =>
  ha H1 s _ fun v H2 s2 hv => hb H2 (s.trans s2) _ fun w H3 s3 hw => ⟨v, w, a, b, rfl, Rp.mono s3 hv, hw, hp, fun u H4 s4 hu => q u H4 (s2.trans (s3.trans s4)) hu⟩
theorem ev_call3 [Rp α] [Rp β] [Rp γ] [Rp δ] {pre : α → β → γ → Prop} {f : α → β → γ → δ} {a : α} {b : β} {c : γ} (ha : EvR ta σ H a) (hb : EvR tb σ H b) (hc : EvR tc σ H c) (hp : pre a b c) : EvR (tCall (Pure3 pre f) [] E0 (tCons ta (tCons tb (tCons tc tNil)))) σ H (f a b c) := fun H1 s Q q =>
  ha H1 s _ fun v H2 s2 hv => hb H2 (s.trans s2) _ fun w H3 s3 hw => hc H3 ((s.trans s2).trans s3) _ fun z H4 s4 hz => ⟨v, w, z, a, b, c, rfl, Rp.mono (s3.trans s4) hv, Rp.mono s4 hw, hz, hp, fun u H5 s5 hu => q u H5 (s2.trans (s3.trans (s4.trans s5))) hu⟩
theorem ev_call4 [Rp α] [Rp β] [Rp γ] [Rp δ] [Rp ε] {pre : α → β → γ → δ → Prop} {f : α → β → γ → δ → ε} {a : α} {b : β} {c : γ} {e : δ} (ha : EvR ta σ H a) (hb : EvR tb σ H b) (hc : EvR tc σ H c) (hd : EvR td σ H e) (hp : pre a b c e) :
    EvR (tCall (Pure4 pre f) [] E0 (tCons ta (tCons tb (tCons tc (tCons td tNil))))) σ H (f a b c e) := fun H1 s Q q =>
  ha H1 s _ fun v H2 s2 hv => hb H2 (s.trans s2) _ fun w H3 s3 hw => hc H3 ((s.trans s2).trans s3) _ fun z H4 s4 hz => hd H4 (((s.trans s2).trans s3).trans s4) _ fun y H5 s5 hy =>
    ⟨v, w, z, y, a, b, c, e, rfl, Rp.mono ((s3.trans s4).trans s5) hv, Rp.mono (s4.trans s5) hw, Rp.mono s5 hz, hy, hp, fun u H6 s6 hu => q u H6 (s2.trans (s3.trans (s4.trans (s5.trans s6)))) hu⟩
end
end
/-! ### letters as data -/
def Kd := Bool
instance : DecidableEq Kd := inferInstanceAs (DecidableEq Bool)
def kF : Kd := (true : Bool)
def kD : Kd := (false : Bool)
def kdS : Kd → Str := fun (b : Bool) => match b with
  | true => "fill"
  | false => "drop"
instance : RpK Kd := { is := fun _ v a => v = .str (kdS a), mono := fun _ h => h, monoK := fun _ h => h }
section
variable {σ : L2.St} {H : Hp} {ta tb : TE}
theorem kd_inj {a b : Kd} : (V.str (kdS a) = V.str (kdS b)) ↔ a = b := by
  have n1 : ¬ (("fill" : Str) = "drop") := by decide +kernel
  refine ⟨fun e => ?_, fun e => by rw [e]⟩
  have e2 := V.str.inj e
  revert a b
  intro (a : Bool) (b : Bool) _ e2
  cases a <;> cases b
  · rfl
  · exact absurd e2.symm n1
  · exact absurd e2 n1
  · rfl
theorem ev_fill : EvR (tC (.str "fill")) σ H kF := fun H1 _ Q q => q _ H1 (Same.refl _) rfl
theorem ev_drop : EvR (tC (.str "drop")) σ H kD := fun H1 _ Q q => q _ H1 (Same.refl _) rfl
theorem ev_eqK {a b : Kd} (ha : EvR ta σ H a) (hb : EvR tb σ H b) : EvR (tOp rEq ta tb) σ H (decide (a = b)) := fun H1 s Q q =>
  ha H1 s _ fun v H2 s2 hv => hb H2 (s.trans s2) _ fun w H3 s3 hw => by
    have hv' : v = .str _ := hv
    have hw' : w = .str _ := hw
    subst hv' hw'
    refine ⟨rfl, q _ H3 (s2.trans s3) ?_⟩
    show V.bl _ = V.bl _
    rw [decide_eq_decide.mpr kd_inj]
theorem ev_neK {a b : Kd} (ha : EvR ta σ H a) (hb : EvR tb σ H b) : EvR (tOp rNe ta tb) σ H (!decide (a = b)) := fun H1 s Q q =>
  ha H1 s _ fun v H2 s2 hv => hb H2 (s.trans s2) _ fun w H3 s3 hw => by
    have hv' : v = .str _ := hv
    have hw' : w = .str _ := hw
    subst hv' hw'
    refine ⟨rfl, q _ H3 (s2.trans s3) ?_⟩
    show V.bl _ = V.bl _
    rw [decide_eq_decide.mpr kd_inj]
end
end Cf
set_option Elab.async false
set_option linter.all false
set_option maxRecDepth 100000
set_option maxHeartbeats 4000000
/-! A list that a def writes. -/
namespace Cf
open PySem PySem.Spec PyProof.Rows L2 Cs
theorem dl_trans {H H' H'' : Hp} {l : Addr} (a : Same (dl H l) H') (b : Same (dl H' l) H'') : Same (dl H l) H'' := (same_dl a (dl_same H l)).trans b
theorem dl_then {H H' H'' : Hp} {l : Addr} (a : Same (dl H l) H') (b : Same H' H'') : Same (dl H l) H'' := a.trans b
/-- at l a list of the data as, to be written -/
def Lat {α : Type} [RpK α] (H : Hp) (l : Addr) (as : List α) : Prop := ∃ ys, H l = some (.lst ys) ∧ All2 (Rp.is H) ys as
section
variable {K : PySem.W.Frag} {σ : L2.St} {H H' : Hp} {te tl ta tb : TE} {α β : Type} {l : Addr} {D : Ends} {tz : TS} {i : Nat}
theorem Lat.up [RpK α] {as : List α} (s : Same H H') (h : Lat H l as) : Lat H' l as := by
  obtain ⟨ys, h1, h2⟩ := h
  exact ⟨ys, s _ _ h1, h2.imp fun _ _ => Rp.mono s⟩
theorem Lat.is [RpK α] {as : List α} (h : Lat H l as) : Rp.is H (.ref l) (⟨as⟩ : Ls α) := by
  obtain ⟨ys, h1, h2⟩ := h
  exact ⟨l, ys, rfl, h1, h2⟩
theorem Lat.new [RpK α] : Lat (upd H l (.lst [])) l ([] : List α) := ⟨[], upd_same, trivial⟩
theorem Lat.kp [RpK α] {as : List α} (h : Lat H l as) (s : Same (dl H l) H') : Kp H H' := by
  obtain ⟨ys, h1, _⟩ := h
  exact kp_dl h1 s
theorem Lat.at [RpK α] {as : List α} (h : Lat H l as) : ∃ ys, H l = some (.lst ys) := by
  obtain ⟨ys, h1, _⟩ := h
  exact ⟨ys, h1⟩
theorem lat_of [Rp α] {v : V} {as : Ls α} (h : Rp.is H v as) (hn : H l = none) : v ≠ .ref l := fun e => by
  obtain ⟨q, xs, ev, h1, _⟩ := h
  rw [ev] at e
  have e2 := V.ref.inj e
  rw [e2, hn] at h1
  cases h1
theorem s_newL (k : ∀ l H1, H l = none → H1 = upd H l (.lst []) → Same H H1 → tz D (σ.set i (some (.ref l))) H1) : tSeq (tAsg (tLst tNil) (gName i)) tz D σ H := q_newL fun l hl => k l _ hl rfl (same_new hl)
theorem s_appL [RpK α] {as : List α} {a : α} (hσ : σ[i]? = some (some (.ref l))) (hl : Lat H l as) (h : EvR te σ H a) (hz : as.length < sizeLine) (k : ∀ H1, Lat H1 l (as ++ [a]) → Same (dl H l) H1 → Kp H H1 → D.nx σ H1) :
    tDrop (tBM K "list" rAppend (tVar i) (tCons te tNil)) D σ H := by
  obtain ⟨ys, h1, h2⟩ := id hl
  refine s_app (a := a) h1 (at_var hσ) h (by rw [h2.length]; exact hz) fun v H1 s1 hv => ?_
  have kk : Kp H1 (upd H1 l (.lst (ys ++ [v]))) := kp_lst (s1 _ _ h1)
  have sd : Same (dl H l) (upd H1 l (.lst (ys ++ [v]))) := dl_up ((dl_sub H l).trans s1)
  exact k _ ⟨ys ++ [v], upd_same, (h2.imp fun _ _ z => RpK.monoK kk (Rp.mono s1 z)).append ⟨RpK.monoK kk hv, trivial⟩⟩ sd ((kp_of s1).trans kk)
theorem q_appL [RpK α] {as : List α} {a : α} (hσ : σ[i]? = some (some (.ref l))) (hl : Lat H l as) (h : EvR te σ H a) (hz : as.length < sizeLine) (k : ∀ H1, Lat H1 l (as ++ [a]) → Same (dl H l) H1 → Kp H H1 → tz D σ H1) :
    tSeq (tDrop (tBM K "list" rAppend (tVar i) (tCons te tNil))) tz D σ H := s_appL (D := { D with nx := tz D }) hσ hl h hz k
theorem All2.dropLast {R : V → α → Prop} {vs : List V} {as : List α} (h : All2 R vs as) : All2 R vs.dropLast as.dropLast := by
  rw [List.dropLast_eq_take, List.dropLast_eq_take, h.length]
  exact h.take _
theorem s_setL [RpK α] {as : List α} {a : α} (hσ : σ[i]? = some (some (.ref l))) (hl : Lat H l as) (h : EvR te σ H a) (hne : as ≠ []) (k : ∀ H1, Lat H1 l (as.dropLast ++ [a]) → Same (dl H l) H1 → Kp H H1 → D.nx σ H1) :
    tAsg te (gSub (tVar i) (tUn (rU fun i => .int (-i)) (tC (.int 1))) rSetL) D σ H := by
  obtain ⟨ys, h1, h2⟩ := id hl
  refine s_setLast (a := a) h1 (at_var hσ) h (fun e => hne ?_) fun v H1 s1 hv => ?_
  · have := h2.length
    rw [e] at this
    exact List.length_eq_zero_iff.mp this.symm
  have kk : Kp H1 (upd H1 l (.lst (ys.dropLast ++ [v]))) := kp_lst (s1 _ _ h1)
  have sd : Same (dl H l) (upd H1 l (.lst (ys.dropLast ++ [v]))) := dl_up ((dl_sub H l).trans s1)
  exact k _ ⟨ys.dropLast ++ [v], upd_same, (h2.imp fun _ _ z => RpK.monoK kk (Rp.mono s1 z)).dropLast.append ⟨RpK.monoK kk hv, trivial⟩⟩ sd ((kp_of s1).trans kk)
theorem ev_last [RpK α] {as : List α} {a : α} (hσ : σ[i]? = some (some (.ref l))) (hl : Lat H l as) (ha : as.getLast? = some a) : EvR (tOp (rIxL K) (tVar i) (tUn (rU fun i => .int (-i)) (tC (.int 1)))) σ H a := ev_lastL (ev_var hσ hl.is) ha
/-- a test whose outcome is a proposition -/
theorem s_ifP {p : Prop} [Decidable p] {tt : TT} {t1 t2 : TS} (h : EtR tt σ H (decide p)) (h1 : p → ∀ H1, Same H H1 → t1 D σ H1) (h2 : ¬ p → ∀ H1, Same H H1 → t2 D σ H1) : tIfS tt t1 t2 D σ H :=
  s_if h (fun e => h1 (of_decide_eq_true e)) (fun e => h2 (of_decide_eq_false e))
theorem q_ifP {p : Prop} [Decidable p] {tt : TT} {t1 t2 : TS} (h : EtR tt σ H (decide p)) (h1 : p → ∀ H1, Same H H1 → t1 { D with nx := tz D } σ H1) (h2 : ¬ p → ∀ H1, Same H H1 → t2 { D with nx := tz D } σ H1) : tSeq (tIfS tt t1 t2) tz D σ H :=
  s_ifP (D := { D with nx := tz D }) h h1 h2
end
section
variable {K : PySem.W.Frag} {σ : L2.St} {H H' : Hp} {te : TE} {α β : Type} {D : Ends} {tz : TS} {i j : Nat}
/-- a, b = what is a pair -/
theorem s_asgP [RpK α] [RpK β] {p : α × β} (h : EvR te σ H p) (k : ∀ x y H1, Same H H1 → Rp.is H1 x p.1 → Rp.is H1 y p.2 → D.nx ((σ.set i (some x)).set j (some y)) H1) : tAsg te (gTup K 2 (gCons (gName i) (gCons (gName j) gNil))) D σ H := h H (Same.refl _) _ fun v H1 s hv => g_pair hv fun x y hx hy => k x y H1 s hx hy
theorem q_asgP [RpK α] [RpK β] {p : α × β} (h : EvR te σ H p) (k : ∀ x y H1, Same H H1 → Rp.is H1 x p.1 → Rp.is H1 y p.2 → tz D ((σ.set i (some x)).set j (some y)) H1) : tSeq (tAsg te (gTup K 2 (gCons (gName i) (gCons (gName j) gNil)))) tz D σ H := s_asgP (D := { D with nx := tz D }) h k
end
section
variable {X : Cx} {K : PySem.W.Frag}
/-! rules in a comprehension's block: K is named -/
theorem ix_listK (h : X.K = K) : IxR X (rIxL K) := h ▸ ix_list
theorem ix_tupK (h : X.K = K) : IxR X (rIxT K) := h ▸ ix_tup
theorem pi_listK {tg l : Expr} {tl : TE} (h : X.K = K) (hl : PE X l tl) : PI X tg l (iList K tl) := h ▸ pi_list hl
theorem pi_tupK {tg l : Expr} {tl : TE} (h : X.K = K) (hl : PE X l tl) : PI X tg l (iTup K tl) := h ▸ pi_tup hl
theorem call_len_seqK (h : X.K = K) : CallR X (.builtin "len") (fun xs H Q => ∃ p ys, xs = [.ref p] ∧ (SqL K H p ys ∨ SqT K H p ys) ∧ Q (.int ys.length) H) := h ▸ call_len_seq
theorem cr_sumK (h : X.K = K) (hc : X.calm = true) : CallR X (.builtin "sum") (rSum K) := h ▸ cr_sum hc
theorem cr_anyK (h : X.K = K) (hc : X.calm = true) : CallR X (.builtin "any") (rAny K) := h ▸ cr_any hc
theorem cr_allK (h : X.K = K) (hc : X.calm = true) : CallR X (.builtin "all") (rAll K) := h ▸ cr_all hc
theorem call_tuple_ofK (h : X.K = K) : CallR X (.type "tuple") (fun xs H Q => ∃ p ys, xs = [.ref p] ∧ ((SqL K H p ys ∧ ∀ l, H l = none → Q (.ref l) (upd H l (.tup ys))) ∨ (SqT K H p ys ∧ Q (.ref p) H))) := h ▸ call_tuple_of
end
theorem small_line {n : Nat} (h : n ≤ 100000) : n < sizeLine := Nat.lt_of_le_of_lt h (by decide)
end Cf
set_option Elab.async false
set_option linter.all false
set_option maxRecDepth 100000
set_option maxHeartbeats 4000000
/-! Words. -/
namespace Cf
open PySem PySem.Spec PyProof.Rows L2 Cs
local macro_rules | `(tactic| walk_at "lf") => `(tactic| first
  | assumption
  | exact rfl
  | exact Rp.mono (by assumption) (by assumption)
  | exact Rp.mono (Same.trans (by assumption) (by assumption)) (by assumption)
  | exact RpK.monoK (by assumption) (by assumption))
local macro_rules | `(tactic| walk_at "ev") => `(tactic| first
  | with_reducible exact ev_int
  | with_reducible exact ev_bl
  | with_reducible exact ev_fill
  | with_reducible exact ev_drop
  | with_reducible exact ev_str
  | ((with_reducible refine' ev_var ?hs ?hv); (case hs => exact rfl); (case hv => walk_at "lf"))
  | ((with_reducible refine' ev_opI ?ha ?hb); (case ha => walk_at "ev"); (case hb => walk_at "ev"))
  | ((with_reducible refine' ev_opB ?ha ?hb); (case ha => walk_at "ev"); (case hb => walk_at "ev"))
  | ((with_reducible refine' ev_opC ?ha ?hb ?hc); (case ha => walk_at "ev"); (case hb => walk_at "ev"); (case hc => first | assumption | skip))
  | ((with_reducible refine' ev_un ?ha); (case ha => walk_at "ev"))
  | ((with_reducible refine' ev_eqK ?ha ?hb); (case ha => walk_at "ev"); (case hb => walk_at "ev"))
  | ((with_reducible refine' ev_eqI ?ha ?hb); (case ha => walk_at "ev"); (case hb => walk_at "ev"))
  | ((with_reducible refine' ev_eqS ?ha ?hb); (case ha => walk_at "ev"); (case hb => walk_at "ev"))
  | ((with_reducible refine' ev_neK ?ha ?hb); (case ha => walk_at "ev"); (case hb => walk_at "ev"))
  | ((with_reducible refine' ev_neI ?ha ?hb); (case ha => walk_at "ev"); (case hb => walk_at "ev"))
  | ((with_reducible refine' ev_neS ?ha ?hb); (case ha => walk_at "ev"); (case hb => walk_at "ev"))
  | ((with_reducible refine' ev_tup2 ?ha ?hb); (case ha => walk_at "ev"); (case hb => walk_at "ev"))
  | ((with_reducible refine' ev_tup1 ?ha); (case ha => walk_at "ev"))
  | with_reducible exact ev_tup0
  | ((with_reducible refine' ev_fst ?ha); (case ha => walk_at "ev"))
  | ((with_reducible refine' ev_snd ?ha); (case ha => walk_at "ev"))
  | ((with_reducible refine' ev_max2 rfl ?ha ?hb); (case ha => walk_at "ev"); (case hb => walk_at "ev"))
  | ((with_reducible refine' ev_min2 rfl ?ha ?hb); (case ha => walk_at "ev"); (case hb => walk_at "ev"))
  | ((with_reducible refine' ev_abs rfl ?ha); (case ha => walk_at "ev"))
  | ((with_reducible refine' ev_intI rfl ?ha); (case ha => walk_at "ev"))
  | ((with_reducible refine' ev_intB rfl ?ha); (case ha => walk_at "ev"))
  | ((with_reducible refine' ev_len rfl ?ha); (case ha => walk_at "ev"))
  | ((with_reducible refine' ev_lenL rfl ?ha); (case ha => walk_at "ev"))
  | ((with_reducible refine' ev_tuple rfl ?ha); (case ha => walk_at "ev"))
  | ((with_reducible refine' ev_sum ?ha); (case ha => walk_at "ev"))
  | ((with_reducible refine' ev_chain ?ha ?hb ?hc); (case ha => walk_at "ev"); (case hb => walk_at "ev"); (case hc => walk_at "ev"))
  | ((with_reducible refine' et_test ?ha); (case ha => walk_at "ev"))
  | ((with_reducible refine' et_B ?ha); (case ha => walk_at "ev"))
  | ((with_reducible refine' et_not ?ha); (case ha => walk_at "ev"))
  | ((with_reducible refine' ev_not ?ha); (case ha => walk_at "ev"))
  | ((with_reducible refine' et_and ?ha ?hb); (case ha => walk_at "ev"); (case hb => intro _; walk_at "ev"))
  | ((with_reducible refine' et_or ?ha ?hb); (case ha => walk_at "ev"); (case hb => intro _; walk_at "ev"))
  | ((with_reducible refine' ev_and ?ha ?hb); (case ha => walk_at "ev"); (case hb => intro _; walk_at "ev"))
  | ((with_reducible refine' ev_or ?ha ?hb); (case ha => walk_at "ev"); (case hb => intro _; walk_at "ev"))
  | ((with_reducible refine' ev_call1 ?ha ?hp); (case ha => walk_at "ev"); (case hp => first | assumption | trivial))
  | ((with_reducible refine' ev_call2 ?ha ?hb ?hp); (case ha => walk_at "ev"); (case hb => walk_at "ev"); (case hp => first | assumption | trivial))
  | ((with_reducible refine' ev_call3 ?ha ?hb ?hc ?hp); (case ha => walk_at "ev"); (case hb => walk_at "ev"); (case hc => walk_at "ev"); (case hp => first | assumption | trivial)))
variable {P : Program} {w : World} {K : PySem.W.Frag} {mg : Str → Option Value} {base : Heap}
abbrev Wk := List (Kd × Int)
abbrev rtStep : Wk → Kd × Int → Wk := CM.rtStep
abbrev runTog : Wk → Wk := CM.runTog
def lettersM (u : Wk) : Int × Int := (CM.fillsR u, CM.dropsR u)
theorem kd_true (b : Kd) : decide (b = kF) = (show Bool from b) := by
  revert b
  intro (b : Bool)
  cases b <;> rfl
theorem kd_false (b : Kd) : decide (b = kD) = !(show Bool from b) := by
  revert b
  intro (b : Bool)
  cases b <;> rfl
theorem rt_no {found : CM.Wd} {x : Bool × Int} (c : ¬ 0 < x.2) : CM.rtStep found x = found := if_neg c
theorem rt_nil {found : CM.Wd} {x : Bool × Int} (c : 0 < x.2) (h : found.getLast? = none) : CM.rtStep found x = found ++ [x] := by
  have e : found = [] := List.getLast?_eq_none_iff.mp h
  subst e
  exact if_pos c
theorem rt_same {found : CM.Wd} {x l : Bool × Int} (c : 0 < x.2) (h : found.getLast? = some l) (e : l.1 = x.1) : CM.rtStep found x = found.dropLast ++ [(x.1, l.2 + x.2)] := by
  unfold CM.rtStep
  rw [if_pos c, h]
  exact if_pos e
theorem rt_other {found : CM.Wd} {x l : Bool × Int} (c : 0 < x.2) (h : found.getLast? = some l) (e : ¬ l.1 = x.1) : CM.rtStep found x = found ++ [x] := by
  unfold CM.rtStep
  rw [if_pos c, h]
  exact if_neg e
theorem sc_letters : FnScope ["word", "fills", "own", "many"] ["word"] (defScope s_letters) := ⟨rfl, rfl, rfl, by decide +kernel, rfl, by decide +kernel, by decide +kernel⟩
theorem F_letters (T : Tx w K mg) : Fn P w K mg base 1 d_letters ["word"] (Pure1 (fun u : Wk => u.length < sizeLine) lettersM) := by
  refine mk_pure1 T.f_letters sc_letters (fun _ _ _ _ _ _ _ => rfl) (fun cdv A outer s H Q E hr v a hv ha kk => ⟨_, (pss_cons (ps_set (i := 1) sc_letters.nd rfl (Or.inl rfl) (pe_callB (cr_sum rfl) (by rfl) T.b_sum (by decide +kernel) (pa_cons (pe_lc (own := [("own", 2), ("many", 3)]) (g := (gTup K 2 (gCons (gName 2) (gCons (gName 3) gNil)))) rfl sc_letters.nd (pi_tup (pv 0)) (blkOk_by (own := [("own", 2), ("many", 3)]) (N := ["word", "fills", "own", "many"]) (sc := defScope s_letters) (by decide +kernel)) (fun _ _ _ _ _ => (pg_tup rfl (pgs_cons (pg_name (i := 2) sc_letters.nd rfl (Or.inl rfl)) (pgs_cons (pg_name (i := 3) sc_letters.nd rfl (Or.inl rfl)) pgs_nil)))) (fun _ _ _ _ _ => (pts_one (pt_cmpR op_eq (pv 2) (pe_const T.c_FILL) (nomark _)))) (fun _ _ _ _ _ => (pv 3))) pa_nil)))
  (pss_one (ps_ret (pe_tup (pa_cons (pv 1) (pa_cons (pe_callB (cr_sum rfl) (by rfl) T.b_sum (by decide +kernel) (pa_cons (pe_lc (own := [("own", 2), ("many", 3)]) (g := (gTup K 2 (gCons (gName 2) (gCons (gName 3) gNil)))) rfl sc_letters.nd (pi_tup (pv 0)) (blkOk_by (own := [("own", 2), ("many", 3)]) (N := ["word", "fills", "own", "many"]) (sc := defScope s_letters) (by decide +kernel)) (fun _ _ _ _ _ => (pg_tup rfl (pgs_cons (pg_name (i := 2) sc_letters.nd rfl (Or.inl rfl)) (pgs_cons (pg_name (i := 3) sc_letters.nd rfl (Or.inl rfl)) pgs_nil)))) (fun _ _ _ _ _ => (pts_one (pt_cmpR op_eq (pv 2) (pe_const T.c_DROP) (nomark _)))) (fun _ _ _ _ _ => (pv 3))) pa_nil)) pa_nil)))))), ?_⟩)
  refine q_asg (a := CM.fillsR a) ((ev_sum (ev_lc (fun r : Kd × Int => decide (r.1 = kF)) (fun r => r.2) (iw_tup (by walk_at "ev")) ha (fun x u H2 s2 hx hu => g_pair hu fun y z hy hz => ⟨rfl, Same.refl _, by walk_at "ev", fun _ => by walk_at "ev"⟩) gm_pair)).eq ?_) fun u H1 s1 hu => ?_
  · show (List.map _ (List.filter _ a)).sum = _
    exact congrArg (fun z : Wk => (z.map fun r => r.2).sum) (List.filter_congr fun r _ => kd_true r.1)
  · have hv1 := Rp.mono s1 hv
    refine s_ret (a := lettersM a) (ev_tup2 (by walk_at "ev") ((ev_sum (ev_lc (fun r : Kd × Int => decide (r.1 = kD)) (fun r => r.2) (iw_tup (by walk_at "ev")) ha (fun x u H2 s2 hx hu => g_pair hu fun y z hy hz => ⟨rfl, Same.refl _, by walk_at "ev", fun _ => by walk_at "ev"⟩) gm_pair)).eq ?_)) fun u2 H2 s2 hu2 => kk _ _ (s1.trans s2) hu2
    show (List.map _ (List.filter _ a)).sum = _
    exact congrArg (fun z : Wk => (z.map fun r => r.2).sum) (List.filter_congr fun r _ => kd_false r.1)
theorem sc_run_together : FnScope ["runs", "found", "own", "many"] ["runs"] (defScope s_run_together) := ⟨rfl, rfl, rfl, by decide +kernel, rfl, by decide +kernel, by decide +kernel⟩
theorem F_run_together (T : Tx w K mg) : Fn P w K mg base 1 d_run_together ["runs"] (Pure1 (fun u : Ls (Kd × Int) => u.val.length ≤ 100000) fun u => runTog u.val) := by
  refine mk_pure1 T.f_run_together sc_run_together (fun _ _ _ _ _ _ _ => rfl) (fun cdv A outer s H Q E hr v a hv ha kk => ⟨_, (pss_cons (ps_set (i := 1) sc_run_together.nd rfl (Or.inl rfl) (pe_lst pa_nil))
  (pss_cons (ps_for PassesOwn.never rfl (pi_list (pv 0)) (pg_tup rfl (pgs_cons (pg_name (i := 2) sc_run_together.nd rfl (Or.inl rfl)) (pgs_cons (pg_name (i := 3) sc_run_together.nd rfl (Or.inl rfl)) pgs_nil)))
  (pss_one (ps_if (PW.pt (pw_and (pt_cmpR op_gt (pv 3) pe_int (nomark _)) (pw_and (pt_cmpR op_gt (pe_callB call_len_seq (by rfl) T.b_len PySem.boot_len (pa_cons (pv 1) pa_nil)) pe_int (nomark _)) (pw_and1 (pt_cmpR op_eq (pe_ix ix_tup (pe_ix ix_list (pv 1) (pe_un un_neg pe_int) (fun _ _ => rfl)) pe_int (fun _ _ => rfl)) (pv 2) (nomark _))))))
  (pss_one (ps_asg (pe_tup (pa_cons (pv 2) (pa_cons (pe_op op_add (pe_ix ix_tup (pe_ix ix_list (pv 1) (pe_un un_neg pe_int) (fun _ _ => rfl)) pe_int (fun _ _ => rfl)) (pv 3)) pa_nil))) (pg_sub (pv 1) (pe_un un_neg pe_int) set_list)))
  (pss_one (ps_if (pt_cmpR op_gt (pv 3) pe_int (nomark _))
  (pss_one (ps_expr (pe_bm PySem.F.plainAttrs_list PySem.F.slot_list_append PySem.F.type_list_append mt_append (pv 1) (pa_cons (pe_tup (pa_cons (pv 2) (pa_cons (pv 3) pa_nil))) pa_nil))))
  pss_nil)))))
  (pss_one (ps_ret (pe_callTy call_tuple_of (by rfl) T.b_tuple (by decide +kernel) (pa_cons (pv 1) pa_nil)))))), ?_⟩)
  refine s_newL fun l H1 hl e1 s1 => ?_
  have L1 : Lat H1 l ([] : Wk) := by rw [e1]; exact Lat.new
  obtain ⟨ys0, hy0⟩ := L1.at
  have hne : v ≠ .ref l := lat_of hv hl
  refine s_forL (il_listV hy0 rfl (Rp.mono s1 hv) hne) (fun r σ' H' => ∃ (y2 y3 : Option V) (found : Wk), σ' = [some v, some (.ref l), y2, y3] ∧ Lat H' l found ∧ found.length + r.length ≤ 100000 ∧ r.foldl rtStep found = runTog a.val)
    (fun H2 s2 => ⟨none, none, [], rfl, L1.up s2, by simpa using ha, rfl⟩) ?_ ?_
  · rintro H2 s2 x r u σ' H' H0 hx s0 sd ⟨y2, y3, found, rfl, L0, hz, hf⟩ hu
    have L' := L0.up s0
    refine g_pair hu fun p q hp hq => ?_
    have hz' : found.length + 1 + r.length ≤ 100000 := by rw [List.length_cons] at hz; omega
    have hl' := L'.is
    cases hlast : found.getLast? with
    | none =>
      have ef : found = [] := List.getLast?_eq_none_iff.mp hlast
      refine s_ifP (p := False) ((et_and (b := false) (by walk_at "ev") fun _ => (et_and (a := false) (b := false) ((show EtR _ _ _ (decide (0 < ((⟨found⟩ : Ls (Kd × Int)).val.length : Int))) by walk_at "ev").eq (by rw [ef]; rfl)) fun z => by cases z)).eq (by simp)) (fun z => z.elim) fun _ H3 s3 => ?_
      have L3 := L'.up s3
      refine s_ifP (p := 0 < x.2) (by walk_at "ev") (fun c H4 s4 => ?_) fun c H4 s4 => ?_
      · refine s_appL rfl (L3.up s4) (a := x) (by walk_at "ev") (small_line (by omega)) fun H5 L5 sd5 kp5 => ⟨⟨_, _, found ++ [x], rfl, L5, by rw [List.length_append, List.length_singleton]; exact hz', ?_⟩, dl_trans ((sd.trans s3).trans s4) sd5⟩
        rw [← hf, List.foldl_cons]
        exact congrArg (fun z => r.foldl rtStep z) (rt_nil c hlast).symm
      · refine ⟨⟨_, _, found, rfl, L3.up s4, by omega, ?_⟩, (sd.trans s3).trans s4⟩
        rw [← hf, List.foldl_cons]
        exact congrArg (fun z => r.foldl rtStep z) (rt_no c).symm
    | some last =>
      have hpos : 0 < found.length := List.length_pos_iff.mpr fun e => by rw [e] at hlast; cases hlast
      have hlv := ev_last (K := K) (σ := [some v, some (.ref l), some p, some q]) (i := 1) rfl L' hlast
      refine s_ifP (p := 0 < x.2 ∧ last.1 = x.1) ((et_and (b := decide (last.1 = x.1)) (by walk_at "ev") fun _ => (et_and (a := true) ((show EtR _ _ _ (decide (0 < ((⟨found⟩ : Ls (Kd × Int)).val.length : Int))) by walk_at "ev").eq (decide_eq_true (by show (0 : Int) < (found.length : Int); omega))) fun _ => et_test (ev_eqK (ev_fst hlv) (by walk_at "ev")))).eq (by simp)) (fun c H3 s3 => ?_) fun c H3 s3 => ?_
      · have L3 := L'.up s3
        refine s_setL rfl L3 (a := (x.1, last.2 + x.2)) (ev_tup2 (by walk_at "ev") (ev_opI (ev_snd (ev_last rfl L3 hlast)) (by walk_at "ev"))) (fun e => by rw [e] at hlast; cases hlast) fun H5 L5 sd5 kp5 => ⟨⟨_, _, found.dropLast ++ [(x.1, last.2 + x.2)], rfl, L5, by rw [List.length_append, List.length_singleton, List.length_dropLast]; omega, ?_⟩, dl_trans (sd.trans s3) sd5⟩
        rw [← hf, List.foldl_cons]
        exact congrArg (fun z => r.foldl rtStep z) (rt_same c.1 hlast c.2).symm
      · have L3 := L'.up s3
        refine s_ifP (p := 0 < x.2) (by walk_at "ev") (fun c2 H4 s4 => ?_) fun c2 H4 s4 => ?_
        · refine s_appL rfl (L3.up s4) (a := x) (by walk_at "ev") (small_line (by omega)) fun H5 L5 sd5 kp5 => ⟨⟨_, _, found ++ [x], rfl, L5, by rw [List.length_append, List.length_singleton]; exact hz', ?_⟩, dl_trans ((sd.trans s3).trans s4) sd5⟩
          rw [← hf, List.foldl_cons]
          exact congrArg (fun z => r.foldl rtStep z) (rt_other c2 hlast fun e => c ⟨c2, e⟩).symm
        · refine ⟨⟨_, _, found, rfl, L3.up s4, by omega, ?_⟩, (sd.trans s3).trans s4⟩
          rw [← hf, List.foldl_cons]
          exact congrArg (fun z => r.foldl rtStep z) (rt_no c2).symm
  · rintro H2 s2 σ' H' sd ⟨y2, y3, found, rfl, L0, hz, hf⟩
    have hl' := L0.is
    have hH : Same H H' := (same_dl (s1.trans s2) hl).trans sd
    refine s_ret (a := runTog a.val) ((ev_tuple rfl (ev_var rfl hl')).eq hf) fun u H3 s3 hu => kk _ _ (hH.trans s3) hu
end Cf
set_option Elab.async false
set_option linter.all false
set_option maxRecDepth 100000
set_option maxHeartbeats 4000000
namespace Cf
open PySem PySem.Spec PyProof.Rows L2 Cs
local macro_rules | `(tactic| walk_at "lf") => `(tactic| first
  | assumption
  | exact rfl
  | exact Rp.mono (by assumption) (by assumption)
  | exact Rp.mono (Same.trans (by assumption) (by assumption)) (by assumption)
  | exact RpK.monoK (by assumption) (by assumption))
local macro_rules | `(tactic| walk_at "ev") => `(tactic| first
  | with_reducible exact ev_int
  | with_reducible exact ev_bl
  | with_reducible exact ev_fill
  | with_reducible exact ev_drop
  | with_reducible exact ev_str
  | ((with_reducible refine' ev_var ?hs ?hv); (case hs => exact rfl); (case hv => walk_at "lf"))
  | ((with_reducible refine' ev_opI ?ha ?hb); (case ha => walk_at "ev"); (case hb => walk_at "ev"))
  | ((with_reducible refine' ev_opB ?ha ?hb); (case ha => walk_at "ev"); (case hb => walk_at "ev"))
  | ((with_reducible refine' ev_opC ?ha ?hb ?hc); (case ha => walk_at "ev"); (case hb => walk_at "ev"); (case hc => first | assumption | skip))
  | ((with_reducible refine' ev_un ?ha); (case ha => walk_at "ev"))
  | ((with_reducible refine' ev_eqK ?ha ?hb); (case ha => walk_at "ev"); (case hb => walk_at "ev"))
  | ((with_reducible refine' ev_eqI ?ha ?hb); (case ha => walk_at "ev"); (case hb => walk_at "ev"))
  | ((with_reducible refine' ev_eqS ?ha ?hb); (case ha => walk_at "ev"); (case hb => walk_at "ev"))
  | ((with_reducible refine' ev_neK ?ha ?hb); (case ha => walk_at "ev"); (case hb => walk_at "ev"))
  | ((with_reducible refine' ev_neI ?ha ?hb); (case ha => walk_at "ev"); (case hb => walk_at "ev"))
  | ((with_reducible refine' ev_neS ?ha ?hb); (case ha => walk_at "ev"); (case hb => walk_at "ev"))
  | ((with_reducible refine' ev_tup2 ?ha ?hb); (case ha => walk_at "ev"); (case hb => walk_at "ev"))
  | ((with_reducible refine' ev_tup1 ?ha); (case ha => walk_at "ev"))
  | with_reducible exact ev_tup0
  | ((with_reducible refine' ev_fst ?ha); (case ha => walk_at "ev"))
  | ((with_reducible refine' ev_snd ?ha); (case ha => walk_at "ev"))
  | ((with_reducible refine' ev_max2 rfl ?ha ?hb); (case ha => walk_at "ev"); (case hb => walk_at "ev"))
  | ((with_reducible refine' ev_min2 rfl ?ha ?hb); (case ha => walk_at "ev"); (case hb => walk_at "ev"))
  | ((with_reducible refine' ev_abs rfl ?ha); (case ha => walk_at "ev"))
  | ((with_reducible refine' ev_intI rfl ?ha); (case ha => walk_at "ev"))
  | ((with_reducible refine' ev_intB rfl ?ha); (case ha => walk_at "ev"))
  | ((with_reducible refine' ev_len rfl ?ha); (case ha => walk_at "ev"))
  | ((with_reducible refine' ev_lenL rfl ?ha); (case ha => walk_at "ev"))
  | ((with_reducible refine' ev_tuple rfl ?ha); (case ha => walk_at "ev"))
  | ((with_reducible refine' ev_sum ?ha); (case ha => walk_at "ev"))
  | ((with_reducible refine' ev_chain ?ha ?hb ?hc); (case ha => walk_at "ev"); (case hb => walk_at "ev"); (case hc => walk_at "ev"))
  | ((with_reducible refine' et_test ?ha); (case ha => walk_at "ev"))
  | ((with_reducible refine' et_B ?ha); (case ha => walk_at "ev"))
  | ((with_reducible refine' et_not ?ha); (case ha => walk_at "ev"))
  | ((with_reducible refine' ev_not ?ha); (case ha => walk_at "ev"))
  | ((with_reducible refine' et_and ?ha ?hb); (case ha => walk_at "ev"); (case hb => intro _; walk_at "ev"))
  | ((with_reducible refine' et_or ?ha ?hb); (case ha => walk_at "ev"); (case hb => intro _; walk_at "ev"))
  | ((with_reducible refine' ev_and ?ha ?hb); (case ha => walk_at "ev"); (case hb => intro _; walk_at "ev"))
  | ((with_reducible refine' ev_or ?ha ?hb); (case ha => walk_at "ev"); (case hb => intro _; walk_at "ev"))
  | ((with_reducible refine' ev_call1 ?ha ?hp); (case ha => walk_at "ev"); (case hp => first | assumption | trivial))
  | ((with_reducible refine' ev_call2 ?ha ?hb ?hp); (case ha => walk_at "ev"); (case hb => walk_at "ev"); (case hp => first | assumption | trivial))
  | ((with_reducible refine' ev_call3 ?ha ?hb ?hc ?hp); (case ha => walk_at "ev"); (case hb => walk_at "ev"); (case hc => walk_at "ev"); (case hp => first | assumption | trivial)))
variable {P : Program} {w : World} {K : PySem.W.Frag} {mg : Str → Option Value} {base : Heap}
abbrev alongR : Int → Int → List Int → Wk := CM.alongR
def alongM (hs : List Int) : Wk := runTog (alongR 0 0 hs)
theorem alongR_len : ∀ (hs : List Int) (a b : Int), (alongR a b hs).length = 2 * hs.length
  | [], _, _ => rfl
  | h :: r, a, b => by
    show (alongR (max a h) (min b h) r).length + 1 + 1 = _
    rw [alongR_len r]
    simp
    omega
theorem sc_along : FnScope ["heights", "runs", "high", "low", "height"] ["heights"] (defScope s_along) := ⟨rfl, rfl, rfl, by decide +kernel, rfl, by decide +kernel, by decide +kernel⟩
theorem F_along (T : Tx w K mg) : Fn P w K mg base 2 d_along ["heights"] (Pure1 (fun hs : List Int => hs.length ≤ 1000) alongM) := by
  have F_run_together : Fn P w K mg base 1 d_run_together ["runs"] _ := F_run_together T
  refine mk_pure1 T.f_along sc_along (fun _ _ _ _ _ _ _ => rfl) (fun cdv A outer s H Q E hr v hs hv ha kk => ⟨_, (pss_cons (ps_set (i := 1) sc_along.nd rfl (Or.inl rfl) (pe_lst pa_nil))
  (pss_cons (ps_asg (pe_tup (pa_cons pe_int (pa_cons pe_int pa_nil))) (pg_tup rfl (pgs_cons (pg_name (i := 2) sc_along.nd rfl (Or.inl rfl)) (pgs_cons (pg_name (i := 3) sc_along.nd rfl (Or.inl rfl)) pgs_nil))))
  (pss_cons (ps_for PassesOwn.never rfl (pi_tup (pv 0)) (pg_name (i := 4) sc_along.nd rfl (Or.inl rfl))
  (pss_cons (ps_expr (pe_bm PySem.F.plainAttrs_list PySem.F.slot_list_append PySem.F.type_list_append mt_append (pv 1) (pa_cons (pe_tup (pa_cons (pe_const T.c_FILL) (pa_cons (pe_op op_sub (pv 4) (pv 2)) pa_nil))) pa_nil)))
  (pss_cons (ps_expr (pe_bm PySem.F.plainAttrs_list PySem.F.slot_list_append PySem.F.type_list_append mt_append (pv 1) (pa_cons (pe_tup (pa_cons (pe_const T.c_DROP) (pa_cons (pe_op op_sub (pv 3) (pv 4)) pa_nil))) pa_nil)))
  (pss_one (ps_par (i := 2) (j := 3) (by rfl) sc_along.nd rfl rfl (by decide) rfl rfl (pa_cons (pe_callB (call_max2 rfl) (by rfl) T.b_max (by decide +kernel) (pa_cons (pv 2) (pa_cons (pv 4) pa_nil))) (pa_cons (pe_callB (call_min2 rfl) (by rfl) T.b_min (by decide +kernel) (pa_cons (pv 3) (pa_cons (pv 4) pa_nil))) pa_nil)) (by rfl))))))
  (pss_one (ps_ret (pe_fn F_run_together (hr.mono (by decide)) T.g_run_together (pa_cons (pv 1) pa_nil))))))), ?_⟩)
  refine s_newL fun l H1 hl e1 s1 => ?_
  have L1 : Lat H1 l ([] : Wk) := by rw [e1]; exact Lat.new
  refine q_asgP (p := ((0 : Int), (0 : Int))) (by walk_at "ev") fun v1 v2 H2 s2 hv1 hv2 => ?_
  obtain rfl : v1 = .int 0 := hv1
  obtain rfl : v2 = .int 0 := hv2
  have L2' := L1.up s2
  obtain ⟨ys0, hy0⟩ := L2'.at
  refine s_forL (il_tup hy0 (ev_var rfl (Rp.mono (s1.trans s2) hv))) (fun r σ' H' => ∃ (y : Option V) (high low : Int) (runs : Wk), σ' = [some v, some (.ref l), some (.int high), some (.int low), y] ∧ Lat H' l runs ∧ runs.length + 2 * r.length ≤ 2000 ∧ runs ++ alongR high low r = alongR 0 0 hs)
    (fun H3 s3 => ⟨none, 0, 0, [], rfl, L2'.up s3, by simp; omega, rfl⟩) ?_ ?_
  · rintro H3 s3 x r u σ' H' H0 hx s0 sd ⟨y, high, low, runs, rfl, L0, hz, hf⟩ hu
    obtain rfl : u = .int x := hu
    rw [List.length_cons] at hz
    refine q_appL rfl (L0.up s0) (a := ((kF, x - high) : Kd × Int)) (by walk_at "ev") (small_line (by omega)) fun H4 L4 sd4 kp4 => ?_
    refine q_appL rfl L4 (a := ((kD, low - x) : Kd × Int)) (by walk_at "ev") (small_line (by rw [List.length_append, List.length_singleton]; omega)) fun H5 L5 sd5 kp5 => ?_
    refine s_par (a := max high x) (b := min low x) (by walk_at "ev") (by walk_at "ev") fun v3 v4 H6 s6 hv3 hv4 => ?_
    obtain rfl : v3 = .int (max high x) := hv3
    obtain rfl : v4 = .int (min low x) := hv4
    refine ⟨⟨_, max high x, min low x, runs ++ [(kF, x - high)] ++ [(kD, low - x)], rfl, L5.up s6, by simp; omega, ?_⟩, (dl_trans (dl_trans sd sd4) sd5).trans s6⟩
    rw [← hf, List.append_assoc, List.append_assoc]
    rfl
  · rintro H3 s3 σ' H' sd ⟨y, high, low, runs, rfl, L0, hz, hf⟩
    have hl' := L0.is
    have hH : Same H H' := (same_dl ((s1.trans s2).trans s3) hl).trans sd
    have er : runs = alongR 0 0 hs := by rw [← hf]; exact (List.append_nil _).symm
    refine s_ret (a := alongM hs) ((ev_call1 (ev_var rfl hl') (by show runs.length ≤ 100000; rw [er, alongR_len]; omega)).eq (by show runTog runs = _; rw [er]; rfl)) fun u H4 s4 hu => kk _ _ (hH.trans s4) hu
def levelsF : Int → Int → Wk → List Int
  | _, _, [] => []
  | high, low, ((true : Bool), m) :: r => (high + m) :: levelsF (high + m) low r
  | high, low, ((false : Bool), m) :: r => (low - m) :: levelsF high (low - m) r
theorem levels_zl : ∀ (u : Wk) (a b : Int), CM.zl a b u = List.zip (show CM.Wd from u) (levelsF a b u)
  | [], _, _ => rfl
  | ((true : Bool), m) :: r, a, b => congrArg (_ :: ·) (levels_zl r (a + m) b)
  | ((false : Bool), m) :: r, a, b => congrArg (_ :: ·) (levels_zl r a (b - m))
theorem levelsF_len : ∀ (u : Wk) (a b : Int), (levelsF a b u).length = u.length
  | [], _, _ => rfl
  | ((true : Bool), m) :: r, a, b => congrArg Nat.succ (levelsF_len r (a + m) b)
  | ((false : Bool), m) :: r, a, b => congrArg Nat.succ (levelsF_len r a (b - m))
theorem levelsF_t {x : Kd × Int} {r : Wk} {a b : Int} (c : x.1 = kF) : levelsF a b (x :: r) = (a + x.2) :: levelsF (a + x.2) b r := by
  obtain ⟨x1, m⟩ := x
  have e : x1 = kF := c
  subst e
  rfl
theorem levelsF_f {x : Kd × Int} {r : Wk} {a b : Int} (c : ¬ x.1 = kF) : levelsF a b (x :: r) = (b - x.2) :: levelsF a (b - x.2) r := by
  obtain ⟨x1, m⟩ := x
  revert c
  revert x1
  intro (x1 : Bool) c
  cases x1 with
  | true => exact absurd rfl c
  | false => rfl
theorem sc_levels : FnScope ["word", "found", "high", "low", "own", "many"] ["word"] (defScope s_levels) := ⟨rfl, rfl, rfl, by decide +kernel, rfl, by decide +kernel, by decide +kernel⟩
theorem F_levels (T : Tx w K mg) : Fn P w K mg base 1 d_levels ["word"] (Pure1 (fun u : Wk => u.length ≤ 1000) (levelsF 0 0)) := by
  refine mk_pure1 T.f_levels sc_levels (fun _ _ _ _ _ _ _ => rfl) (fun cdv A outer s H Q E hr v a hv ha kk => ⟨_, (pss_cons (ps_set (i := 1) sc_levels.nd rfl (Or.inl rfl) (pe_lst pa_nil))
  (pss_cons (ps_asg (pe_tup (pa_cons pe_int (pa_cons pe_int pa_nil))) (pg_tup rfl (pgs_cons (pg_name (i := 2) sc_levels.nd rfl (Or.inl rfl)) (pgs_cons (pg_name (i := 3) sc_levels.nd rfl (Or.inl rfl)) pgs_nil))))
  (pss_cons (ps_for PassesOwn.never rfl (pi_tup (pv 0)) (pg_tup rfl (pgs_cons (pg_name (i := 4) sc_levels.nd rfl (Or.inl rfl)) (pgs_cons (pg_name (i := 5) sc_levels.nd rfl (Or.inl rfl)) pgs_nil)))
  (pss_one (ps_if (pt_cmpR op_eq (pv 4) (pe_const T.c_FILL) (nomark _))
  (pss_cons (ps_set (i := 2) sc_levels.nd rfl (Or.inl rfl) (pe_op op_add (pv 2) (pv 5)))
  (pss_one (ps_expr (pe_bm PySem.F.plainAttrs_list PySem.F.slot_list_append PySem.F.type_list_append mt_append (pv 1) (pa_cons (pv 2) pa_nil)))))
  (pss_cons (ps_set (i := 3) sc_levels.nd rfl (Or.inl rfl) (pe_op op_sub (pv 3) (pv 5)))
  (pss_one (ps_expr (pe_bm PySem.F.plainAttrs_list PySem.F.slot_list_append PySem.F.type_list_append mt_append (pv 1) (pa_cons (pv 3) pa_nil))))))))
  (pss_one (ps_ret (pe_callTy call_tuple_of (by rfl) T.b_tuple (by decide +kernel) (pa_cons (pv 1) pa_nil))))))), ?_⟩)
  refine s_newL fun l H1 hl e1 s1 => ?_
  have L1 : Lat H1 l ([] : List Int) := by rw [e1]; exact Lat.new
  refine q_asgP (p := ((0 : Int), (0 : Int))) (by walk_at "ev") fun v1 v2 H2 s2 hv1 hv2 => ?_
  obtain rfl : v1 = .int 0 := hv1
  obtain rfl : v2 = .int 0 := hv2
  have L2' := L1.up s2
  obtain ⟨ys0, hy0⟩ := L2'.at
  refine s_forL (il_tup hy0 (ev_var rfl (Rp.mono (s1.trans s2) hv))) (fun r σ' H' => ∃ (y y2 : Option V) (high low : Int) (found : List Int), σ' = [some v, some (.ref l), some (.int high), some (.int low), y, y2] ∧ Lat H' l found ∧ found.length + r.length ≤ 1000 ∧ found ++ levelsF high low r = levelsF 0 0 a)
    (fun H3 s3 => ⟨none, none, 0, 0, [], rfl, L2'.up s3, by simpa using ha, rfl⟩) ?_ ?_
  · rintro H3 s3 x r u σ' H' H0 hx s0 sd ⟨y, y2, high, low, found, rfl, L0, hz, hf⟩ hu
    rw [List.length_cons] at hz
    refine g_pair hu fun p q hp hq => ?_
    refine s_ifP (p := x.1 = kF) (by walk_at "ev") (fun c H4 s4 => ?_) fun c H4 s4 => ?_
    · refine q_asg (a := high + x.2) (by walk_at "ev") fun v3 H5 s5 hv3 => ?_
      obtain rfl : v3 = .int (high + x.2) := hv3
      refine s_appL rfl (((L0.up s0).up s4).up s5) (a := high + x.2) (by walk_at "ev") (small_line (by omega)) fun H6 L6 sd6 kp6 => ⟨⟨_, _, high + x.2, low, found ++ [high + x.2], rfl, L6, by simp; omega, ?_⟩, dl_trans ((sd.trans s4).trans s5) sd6⟩
      rw [← hf, levelsF_t c, List.append_assoc]
      rfl
    · refine q_asg (a := low - x.2) (by walk_at "ev") fun v3 H5 s5 hv3 => ?_
      obtain rfl : v3 = .int (low - x.2) := hv3
      refine s_appL rfl (((L0.up s0).up s4).up s5) (a := low - x.2) (by walk_at "ev") (small_line (by omega)) fun H6 L6 sd6 kp6 => ⟨⟨_, _, high, low - x.2, found ++ [low - x.2], rfl, L6, by simp; omega, ?_⟩, dl_trans ((sd.trans s4).trans s5) sd6⟩
      rw [← hf, levelsF_f c, List.append_assoc]
      rfl
  · rintro H3 s3 σ' H' sd ⟨y, y2, high, low, found, rfl, L0, hz, hf⟩
    have hl' := L0.is
    have hH : Same H H' := (same_dl ((s1.trans s2).trans s3) hl).trans sd
    refine s_ret (a := levelsF 0 0 a) ((ev_tuple rfl (ev_var rfl hl')).eq (by rw [← hf]; exact (List.append_nil _).symm)) fun u H4 s4 hu => kk _ _ (hH.trans s4) hu
abbrev cutRuns : Int → Int → Wk → Wk := CM.cutRuns
def cutM (u : Wk) (a b : Int) : Wk := CM.cutW a b u
theorem cut_t {x : Kd × Int} {r : Wk} {a b : Int} (c : x.1 = kF) : cutRuns a b (x :: r) = (x.1, x.2 - min a x.2) :: cutRuns (a - min a x.2) b r := by
  obtain ⟨x1, m⟩ := x
  have e : x1 = kF := c
  subst e
  rfl
theorem cut_f {x : Kd × Int} {r : Wk} {a b : Int} (c : ¬ x.1 = kF) : cutRuns a b (x :: r) = (x.1, x.2 - min b x.2) :: cutRuns a (b - min b x.2) r := by
  obtain ⟨x1, m⟩ := x
  revert c
  revert x1
  intro (x1 : Bool) c
  cases x1 with
  | true => exact absurd rfl c
  | false => rfl
theorem cutRuns_len : ∀ (u : Wk) (a b : Int), (cutRuns a b u).length = u.length
  | [], _, _ => rfl
  | ((true : Bool), m) :: r, a, b => congrArg Nat.succ (cutRuns_len r _ b)
  | ((false : Bool), m) :: r, a, b => congrArg Nat.succ (cutRuns_len r a _)
theorem sc_cut : FnScope ["word", "fills", "drops", "runs", "high", "low", "own", "many", "gone"] ["word", "fills", "drops"] (defScope s_cut) := ⟨rfl, rfl, rfl, by decide +kernel, rfl, by decide +kernel, by decide +kernel⟩
theorem F_cut (T : Tx w K mg) : Fn P w K mg base 2 d_cut ["word", "fills", "drops"] (Pure3 (fun (u : Wk) (_ _ : Int) => u.length ≤ 1000) cutM) := by
  have F_run_together : Fn P w K mg base 1 d_run_together ["runs"] _ := F_run_together T
  refine mk_pure3 T.f_cut sc_cut (fun _ _ _ _ _ _ _ _ _ => rfl) (fun cdv A outer s H Q E hr v v1 v2 a i j hv h1 h2 ha kk => ⟨_, (pss_cons (ps_set (i := 3) sc_cut.nd rfl (Or.inl rfl) (pe_lst pa_nil))
  (pss_cons (ps_par (i := 4) (j := 5) (by rfl) sc_cut.nd rfl rfl (by decide) rfl rfl (pa_cons (pv 1) (pa_cons (pv 2) pa_nil)) (by rfl))
  (pss_cons (ps_for PassesOwn.never rfl (pi_tup (pv 0)) (pg_tup rfl (pgs_cons (pg_name (i := 6) sc_cut.nd rfl (Or.inl rfl)) (pgs_cons (pg_name (i := 7) sc_cut.nd rfl (Or.inl rfl)) pgs_nil)))
  (pss_cons (ps_set (i := 8) sc_cut.nd rfl (Or.inl rfl) (pe_callB (call_min2 rfl) (by rfl) T.b_min (by decide +kernel) (pa_cons (pe_callTy call_int1 (by rfl) T.b_int (by decide +kernel) (pa_cons (pe_ifExp (pt_cmpR op_eq (pv 6) (pe_const T.c_FILL) (nomark _)) (pv 4) (pv 5)) pa_nil)) (pa_cons (pe_callTy call_int1 (by rfl) T.b_int (by decide +kernel) (pa_cons (pv 7) pa_nil)) pa_nil))))
  (pss_cons (ps_expr (pe_bm PySem.F.plainAttrs_list PySem.F.slot_list_append PySem.F.type_list_append mt_append (pv 3) (pa_cons (pe_tup (pa_cons (pv 6) (pa_cons (pe_op op_sub (pv 7) (pv 8)) pa_nil))) pa_nil)))
  (pss_one (ps_if (pt_cmpR op_eq (pv 6) (pe_const T.c_FILL) (nomark _))
  (pss_one (ps_set (i := 4) sc_cut.nd rfl (Or.inl rfl) (pe_op op_sub (pv 4) (pv 8))))
  (pss_one (ps_set (i := 5) sc_cut.nd rfl (Or.inl rfl) (pe_op op_sub (pv 5) (pv 8)))))))))
  (pss_one (ps_ret (pe_fn F_run_together (hr.mono (by decide)) T.g_run_together (pa_cons (pv 3) pa_nil))))))), ?_⟩)
  refine s_newL fun l H1 hl e1 s1 => ?_
  have L1 : Lat H1 l ([] : Wk) := by rw [e1]; exact Lat.new
  refine q_par (a := i) (b := j) (ev_var rfl (Rp.mono s1 h1)) (ev_var rfl (Rp.mono s1 h2)) fun v3 v4 H2 s2 hv3 hv4 => ?_
  obtain rfl : v3 = .int i := hv3
  obtain rfl : v4 = .int j := hv4
  have L2' := L1.up s2
  obtain ⟨ys0, hy0⟩ := L2'.at
  refine s_forL (il_tup hy0 (ev_var rfl (Rp.mono (s1.trans s2) hv))) (fun r σ' H' => ∃ (y y2 y3 : Option V) (high low : Int) (runs : Wk), σ' = [some v, some v1, some v2, some (.ref l), some (.int high), some (.int low), y, y2, y3] ∧ Lat H' l runs ∧ runs.length + r.length ≤ 1000 ∧ runs ++ cutRuns high low r = cutRuns i j a)
    (fun H3 s3 => ⟨none, none, none, i, j, [], rfl, L2'.up s3, by simpa using ha, rfl⟩) ?_ ?_
  · rintro H3 s3 x r u σ' H' H0 hx s0 sd ⟨y, y2, y3, high, low, runs, rfl, L0, hz, hf⟩ hu
    rw [List.length_cons] at hz
    refine g_pair hu fun p q hp hq => ?_
    refine q_asg (a := min (if x.1 = kF then high else low) x.2) (ev_min2 rfl (ev_intI rfl (ev_if (b := decide (x.1 = kF)) (by walk_at "ev") (fun c => by rw [if_pos (of_decide_eq_true c)]; walk_at "ev") (fun c => by rw [if_neg (of_decide_eq_false c)]; walk_at "ev"))) (by walk_at "ev")) fun v5 H4 s4 hv5 => ?_
    obtain rfl : v5 = .int _ := hv5
    have hp4 := Rp.mono s4 hp
    have hq4 := Rp.mono s4 hq
    refine q_appL rfl ((L0.up s0).up s4) (a := ((x.1, x.2 - min (if x.1 = kF then high else low) x.2) : Kd × Int)) (by walk_at "ev") (small_line (by omega)) fun H5 L5 sd5 kp5 => ?_
    have hp5 := RpK.monoK kp5 hp4
    refine s_ifP (p := x.1 = kF) (by walk_at "ev") (fun c H6 s6 => ?_) fun c H6 s6 => ?_
    · refine s_asg (a := high - min (if x.1 = kF then high else low) x.2) (by walk_at "ev") fun v6 H7 s7 hv6 => ?_
      obtain rfl : v6 = .int _ := hv6
      refine ⟨⟨_, _, _, _, low, _, rfl, (L5.up s6).up s7, by simp; omega, ?_⟩, ((dl_trans (sd.trans s4) sd5).trans s6).trans s7⟩
      rw [← hf, cut_t c, List.append_assoc, if_pos c]
      rfl
    · refine s_asg (a := low - min (if x.1 = kF then high else low) x.2) (by walk_at "ev") fun v6 H7 s7 hv6 => ?_
      obtain rfl : v6 = .int _ := hv6
      refine ⟨⟨_, _, _, high, _, _, rfl, (L5.up s6).up s7, by simp; omega, ?_⟩, ((dl_trans (sd.trans s4) sd5).trans s6).trans s7⟩
      rw [← hf, cut_f c, List.append_assoc, if_neg c]
      rfl
  · rintro H3 s3 σ' H' sd ⟨y, y2, y3, high, low, runs, rfl, L0, hz, hf⟩
    have hl' := L0.is
    have hH : Same H H' := (same_dl ((s1.trans s2).trans s3) hl).trans sd
    have er : runs = cutRuns i j a := by rw [← hf]; exact (List.append_nil _).symm
    refine s_ret (a := cutM a i j) ((ev_call1 (ev_var rfl hl') (by show runs.length ≤ 100000; rw [er, cutRuns_len]; omega)).eq (by show runTog runs = _; rw [er]; rfl)) fun u H4 s4 hu => kk _ _ (hH.trans s4) hu
end Cf
set_option Elab.async false
set_option linter.all false
set_option maxRecDepth 100000
set_option maxHeartbeats 4000000
/-! NoLetter(number): its own __init__ says super().__init__(asked) and keeps asked; the instance's dict is not told of. -/
namespace Cx
open PySem PySem.Spec PySem.W PySem.Calls PyProof.Rows PySem.HandSPX Cs L2
structure NlT (K : Frag) : Prop where
  ini : excInitIn K 62 leBase "LookupError.__new__" = true
  ovr : excOver K 62 leBase = true
  iC : findIn K (.ref 62) "__init__" = some (some (.ref 59))
  sa : findIn K (.ref 62) "__setattr__" = some (some (.builtin "object.__setattr__"))
  tak : takerIn K 62 "asked" = some none
  hd : hasDictIn K 62 = true
  tC : typeIn K (.ref 59) = some (.type "function")
  kC : keepIn K (.ref 62) = true
  exC : subIn K (.ref 62) (.type "BaseException") = some true
  leC : subIn K (.ref 62) (.type "LookupError") = some true
  tyC : typeIn K (.ref 62) = some (.type "type")
  te : exmOne K (.ref 62) (.ref 62) = some true
  sup : ks_superIn K 62 62 "__init__" = some (some (.builtin "LookupError.__init__"))
  tp : nsIn K cStatics "thirdparty.any" = some none
  cls : isClsIn K 62 = true
  mro : mroIn K 62 (.ref 62) = some true
  code : ∃ oc od vs sl f t, K.lookup 58 = some ⟨oc, od, .fields vs, sl⟩ ∧ vs[2]? = some (.str f t) ∧ f = PySem.Challenge.pw_cleanspans_k97_whole_within_for_rows_tha.main.file
  cell : ∃ oc od sl, K.lookup 47 = some ⟨oc, od, .cell (some (.ref 62)), sl⟩
  fn : ∀ oc od fd sl, K.lookup 59 = some ⟨oc, od, .func fd, sl⟩ → fd.code = .ref 58 ∧ fd.defaults = .none
theorem nl_of {K : Frag} (h : nlB K = true) : NlT K := by
  unfold nlB at h
  simp only [Bool.and_eq_true] at h
  obtain ⟨h1, h2, h3, h4, h5, h6, h7, h8, h9, h10, h11, h12, h13, h14, h15, h16, h17, h18, h19⟩ := h
  refine ⟨h1, h2, He.eqO_ok h3, He.eqO_ok h4, He.eqO_ok h5, h6, of_decide_eq_true h7, h8, of_decide_eq_true h9, of_decide_eq_true h10, of_decide_eq_true h11, of_decide_eq_true h12, He.eqO_ok h13, He.eqO_ok h14, h15, of_decide_eq_true h16, ?_, ?_, ?_⟩
  · unfold nlCode at h17
    split at h17
    · rename_i oc od vs sl e
      split at h17
      · rename_i f t e2
        exact ⟨oc, od, vs, sl, f, t, e, e2, of_decide_eq_true h17⟩
      · cases h17
    · cases h17
  · unfold nlCell at h18
    split at h18
    · rename_i oc od a sl e
      have e2 := of_decide_eq_true h18
      subst e2
      exact ⟨oc, od, sl, e⟩
    · cases h18
  · intro oc od fd sl e
    unfold nlFn at h19
    rw [e] at h19
    obtain ⟨c1, c2⟩ := He.ba h19
    exact ⟨of_decide_eq_true c1, of_decide_eq_true c2⟩
/-- what __init__ leaves -/
def NlEnd (h h' : Heap) (x : Addr) : Prop := (∀ b o, b ≠ x → h.get? b = some o → h'.get? b = some o) ∧ ∃ t1 dx : Addr, h'.get? x = some { cls := .ref 62, dict := some dx, data := .fields #[.ref t1, .none, .none, .none, .bool false, .none] }
/-- a class, as an object -/
theorem clsAt {K : Frag} {C : Addr} {cd : ClassData} (h : clsIn K C = some cd) : ∃ o, K.lookup C = some o ∧ o.data = .cls cd := by
  unfold clsIn at h
  split at h
  · rename_i c d cd' sl ho
    cases h
    exact ⟨_, ho, rfl⟩
  · cases h
theorem ne_get {h : Heap} {a b : Addr} {o u : Obj} (e : h.get? a = some o) (f : h.get? b = some u) (n : o ≠ u) : a ≠ b := fun z => by
  rw [z, f] at e
  exact n (Option.some.inj e).symm
theorem nl_cell : ∀ y ∈ (defScope d_NL.st).names, y.2 ≠ .cell := by decide +kernel
theorem nl_loc {a b : Value} : ∀ y ∈ [(("self" : Str), a), (("asked" : Str), b)], (defScope d_NL.st).names.lookup y.1 = some .local := fun y hy => by
  rcases List.mem_cons.mp hy with rfl | hy
  · exact (by decide +kernel : (defScope d_NL.st).names.lookup ("self" : Str) = some .local)
  · rw [List.mem_singleton] at hy
    rw [hy]
    exact (by decide +kernel : (defScope d_NL.st).names.lookup ("asked" : Str) = some .local)
section
variable {prog : Program} {w : World} {A : Around} {R : Result → Shared → Prop} {s : Shared} {K : Frag} {mg mb : Str → Option Value}
theorem nl_init (T : NlT K) (hf : fnL K d_NL.a = d_NL.val ∧ d_NL.ok K = true) (pf : prog.main.file = PySem.Challenge.pw_cleanspans_k97_whole_within_for_rows_tha.main.file) (pn : (prog.main.scope.names.lookup ("super" : Str)).isSome = false)
    {x t0 : Addr} {v : Value} (X : K.In s.heap) (hg : s.heap.Ns mainGlobals mg) (hsup : mg "super" = none) (hb : s.heap.Ns builtinsNs mb) (hbl : ∀ x : Str, x ≠ "__name__" → mb x = bootBuiltins x) (hlim : s.heap.NoLimit) (hx : s.heap.get? x = some (excO 62 t0)) (hnx : K.lookup x = none) (hroom : A.depth < recursionLimit)
    (hq : ∀ h' tk, NlEnd s.heap h' x → R (.ok (.ret .none)) { s with heap := h', toks := tk }) :
    codeAny (model prog w) A (.call (.ref 59) ⟨[.ref x, v], []⟩) R s := by
  obtain ⟨oc, od, dV, kV, doc, pm, an, cdv, ct, osl, ho, hcd⟩ := DefL.funC hf.1 hf.2
  have ho' : K.lookup 59 = _ := ho
  obtain rfl : cdv = .ref 58 := (T.fn _ _ _ _ ho').1
  obtain rfl : dV = .none := (T.fn _ _ _ _ ho').2
  obtain ⟨cc1, cc2, cvs, cc3, cf, ctk, hcode, hcv, hcf⟩ := T.code
  obtain ⟨ce1, ce2, ce3, hcell⟩ := T.cell
  obtain ⟨cd, hcls⟩ := Option.isSome_iff_exists.mp T.cls
  refine ks_codeAny_call_defAt (binds := [("self", .ref x), ("asked", v)]) hroom (X _ _ ho') rfl hlim (codeRec_of X hcd) rfl (BindsTo.of_eq (by first | rfl | with_unfolding_all rfl)) nl_cell nl_loc (fun h1 hn k1 => ?_) (by rfl) (by rfl) (by rfl)
  have X1 : K.In h1 := X.keeps k1
  have hx1 := k1 _ _ hx
  have xL : x ≠ s.heap.objs.size := Nat.ne_of_lt (Heap.lt_size hx)
  -- the ledger: x is new to it
  let h0 := hideAll s.heap [x]
  have X0 : K.In h0 := fun a o e => by
    have ne : a ∉ [x] := fun z => by
      rw [List.mem_singleton] at z
      rw [z, hnx] at e
      cases e
    exact hideAll_get [x] (X a o e) ne
  have F1 : Fr h0 s.heap.objs.size h1 _ := ⟨hn, fun b o e => k1 b o (of_hideAll [x] e), Nat.le_of_eq (hideAll_size [x] s.heap)⟩
  have N1 : News h0 s.heap.objs.size h1 [(x, excObj 62 t0 none .none)] := fun p hp => by
    rw [List.mem_singleton] at hp
    rw [hp]
    exact ⟨hx1, xL, hideAll_none [x] (List.mem_singleton.mpr rfl)⟩
  refine ks_wpAt_execs_cons (ks_wpAt_Expr_any (ks_wpAt_MethodCall ?_))
  obtain ⟨oD, hD, hDd⟩ := clsAt hcls
  have glob1 := hg.keeps k1
  have blt1 := hb.keeps k1
  refine ks_wpAt_super_base (f := 59) (cc := 58) (by rfl) (by rfl) (by rfl) (by rfl) (X1 _ _ ho') (by rfl) (by rfl) (by rfl) (X1 _ _ hcode) (by rfl) hcv (by rw [pf, hcf]; exact beq_self_eq_true _) pn ?_
  refine ks_loadName_global (by rfl) (by rfl) (loadGlobal_builtin glob1 hsup blt1 ((hbl _ (by decide +kernel)).trans (by rfl)) ⟨rfl, ?_⟩)
  refine wpAny_loadName_free (by rfl) (by rfl) (by rfl) ⟨_, X1 _ _ hcell, rfl⟩ ?_
  refine wpAny_loadName_local (by rfl) (by rfl) hn (by rfl) ?_
  refine ks_wpAny_isType_cls (X1 _ _ hD) hDd ⟨rfl, ?_⟩
  refine ks_wpAny_call_super (X1 _ _ hD) hDd hx1 rfl (fun c e => by cases e) (looks_mroIn X1 T.mro) (fun h2 e2 k2 => ?_)
  obtain ⟨F2, N2, l2⟩ := ks_newsPush (s := { s with heap := h1 }) (o := ks_superObj 62 x 62) F1 N1 rfl e2 k2
  refine kxs_method (C := 62) (D := 62) (odx := none) kxs_LookupError F2 X0 N2 (.head _) ⟨k2 _ _ hx1, rfl, rfl, trivial⟩ T.tp T.sup T.leC (by rfl) (fun q h3 F3 N3 l3 => ?_)
  have so2 : s.heap.objs.size < h1.objs.size := hn.lt
  refine kxs_callWith1 N3 (.head _) (spliced_more (wpAny_Name (wpAny_loadName_local (by rfl) (by rfl) F3.ns (by rfl) (spliced_none ⟨kxs_at N3 (.head _), ?_⟩)) (by decide)) (by rfl)) (by rfl) (by rfl)
  have x3 := l3 (x, excObj 62 t0 none .none) (.tail _ (.head _))
  have x2 := l2 (x, excObj 62 t0 none .none) (.head _)
  refine kxs_call F3 X0 N3 F.excBase_LookupError T.ini (.head _) (.tail (Nat.ne_of_gt x3) (.tail (Nat.ne_of_gt x2) (.head fun p h => nomatch h))) (by show 1 ≤ sizeLine; rw [sizeLine_eq]; decide) (fun t1 h4 F4 N4 l4 => ?_)
  have x4 := l4 (x, excObj 62 t0 none .none) (.tail _ (.tail _ (.head _)))
  refine ks_wpAt_execs_cons (ks_wpAt_Assign_Attr (wpAt_of_wpAny (wpAny_Name (wpAny_loadName_local (by rfl) (by rfl) F4.ns (by rfl) ?_) (by decide))) (by rfl))
  refine wpAny_Name (wpAny_loadName_local (by rfl) (by rfl) F4.ns (by rfl) ?_) (by decide)
  refine set_exc0 (t := t1) (c2 := .none) F.store_LookupError F4 X0 N4 (.tail _ (.tail _ (.tail _ (.head _)))) T.sa T.ovr T.tak T.hd rfl (.tail (Nat.ne_of_gt x4) (.tail (Nat.ne_of_gt x3) (.tail (Nat.ne_of_gt x2) (.head fun p h => nomatch h)))) (Nat.le_of_ble_eq_true rfl) (fun dx h5 F5 N5 l5 => ?_)
  refine wpAt_of_wpAny (wpAny_execs_nil ?_)
  refine hq h5 _ ⟨fun b o hb e => F5.keep b o (hideAll_get [x] e fun z => hb (List.mem_singleton.mp z)), t1, dx, (N5 (x, excObj 62 t1 (some dx) .none) (.tail _ (.tail _ (.tail _ (.tail _ (.head _)))))).1⟩
theorem nl_made (T : NlT K) (hf : fnL K d_NL.a = d_NL.val ∧ d_NL.ok K = true) (pf : prog.main.file = PySem.Challenge.pw_cleanspans_k97_whole_within_for_rows_tha.main.file) (pn : (prog.main.scope.names.lookup ("super" : Str)).isSome = false)
    {v : Value} (X : K.In s.heap) (hg : s.heap.Ns mainGlobals mg) (hsup : mg "super" = none) (hb : s.heap.Ns builtinsNs mb) (hbl : ∀ x : Str, x ≠ "__name__" → mb x = bootBuiltins x) (hlim : s.heap.NoLimit) (hroom : A.depth + 1 < recursionLimit)
    (hq : ∀ h' tk e t1 dx, (∀ b o, s.heap.get? b = some o → h'.get? b = some o) → s.heap.objs.size ≤ e → h'.get? e = some { cls := .ref 62, dict := some dx, data := .fields #[.ref t1, .none, .none, .none, .bool false, .none] } → R (.ok (.ret (.ref e))) { s with heap := h', toks := tk }) :
    codeAny (model prog w) A (.call (.ref 62) ⟨[v], []⟩) R s := by
  obtain ⟨nm, N, q, bs, bm, hdct, sn, sub, ab, col, dd, k0, k1, k2, k3, k5, hC, hbm⟩ := excInit_of X T.ini
  obtain ⟨hp, g, dr, tk, os⟩ := s
  have k : ∀ b o, hp.get? b = some o → ((hp.push (kdv_tup [v])).push (excO 62 hp.objs.size)).get? b = some o := fun b o e => Heap.get?_push_of_some _ (Heap.get?_push_of_some _ e)
  have hget : ((hp.push (kdv_tup [v])).push (excO 62 hp.objs.size)).get? (hp.objs.size + 1) = some (excO 62 hp.objs.size) := by heap_get
  have hnx : K.lookup (hp.objs.size + 1) = none := by
    cases e : K.lookup (hp.objs.size + 1) with
    | none => rfl
    | some o =>
      have z : hp.get? (hp.objs.size + 1) = some o := X _ _ e
      exact absurd (Nat.lt_of_succ_lt (Heap.lt_size z)) (Nat.lt_irrefl _)
  refine HandSPX.call_own F.excBase_LookupError hbm hC (looks_findIn X T.iC) (fun self => bind_fn X self T.tC) (by show 1 ≤ sizeLine; rw [sizeLine_eq]; decide) ?_
  refine nl_init (s := ⟨(hp.push (kdv_tup [v])).push (excO 62 hp.objs.size), g, dr, tk, os⟩) T hf pf pn (X.keeps k) (hg.keeps k) hsup (hb.keeps k) hbl (hlim.keeps k) hget hnx (by show A.depth + 1 < recursionLimit; exact hroom) fun h' tk' ⟨k', t1, dx, hx⟩ => ?_
  have old : ∀ b o, hp.get? b = some o → h'.get? b = some o := fun b o e => k' b o (Nat.ne_of_lt (Nat.lt_succ_of_lt (Heap.lt_size e))) (k b o e)
  exact ⟨rfl, hq h' tk' (hp.objs.size + 1) t1 dx old (Nat.le_succ _) hx⟩
end
end Cx
namespace L2
open PySem PySem.Spec PyProof.Rows Cs
section
variable {X : Cx}
/-- NoLetter(e) -/
def tMkNl (ta : TA) : St → Hp → XK → Prop := fun σ H Q => ta σ H fun vs H1 => ∃ v, vs = [v] ∧ ∀ d, Q (.ref 62) (some d) H1
theorem pmk_nl {a : Expr} {ta : TA} {p pos : Pos} {k : Nat} (T : nlB X.K = true) (hf : fnL X.K d_NL.a = d_NL.val ∧ d_NL.ok X.K = true) (pf : X.prog.main.file = PySem.Challenge.pw_cleanspans_k97_whole_within_for_rows_tha.main.file) (pn : (X.prog.main.scope.names.lookup ("super" : Str)).isSome = false)
    (gC : X.mg "NoLetter" = some (.ref 62)) (hsup : X.mg "super" = none) (hr : Room k X.A) (ha : PA X [a] ta) (hg : Gl X "NoLetter" := by rfl)
    (he : starEach (a :: []) X.env = (false, eval a X.env) :: starEach [] X.env := by rfl) (hpl : (backTo pos (starEach [] X.env)).any (·.1) = false := by rfl) :
    PMk X (.Call (.Name "NoLetter" p) [a] [] pos) (tMkNl ta) := by
  intro pins s σ H Q I h
  have N := Cx.nl_of T
  refine wpAny_Call_Name_kw (ld_glob I hg gC ?_)
  refine PySem.W.callWith_K (h₀ := X.base) I.ok.mod.kin N.kC (thn (ha.run pos pins s σ H _ I h) fun us s1 hh => ?_) he hpl
  obtain ⟨vs, H1, I1, r1, v, ev, q1⟩ := hh
  subst ev
  refine ⟨I1.kIn, ?_⟩
  cases r1 with
  | cons rv rn =>
    rename_i v' us'
    cases rn
    show wpAny _ _ (call (.ref 62) [v']) _ _ _
    have hlim := I1.nolimit
    obtain ⟨mb, b1, b2⟩ := I1.mod.blt
    have kb := I1.bk
    have gl := I1.mod.glob
    obtain ⟨hp, g, dr, tk, os⟩ := s1
    refine wpAny_call (Cx.nl_made (s := ⟨hp, g, dr, tk, os⟩) N hf pf pn I1.kIn (gl.keeps kb) hsup (b1.keeps kb) b2 hlim (by have := hr.dp; omega) fun h' tk' e t1 dx old new hx => ?_)
    show MkP X pins σ Q (.ref e) ⟨h', g, dr, tk', os⟩
    obtain ⟨G', g1, g2⟩ := restrict h' fun b => decide (b ≠ e)
    have gk : ∀ b, b ≠ e → G'.get? b = h'.get? b := fun b hb => g1 b (decide_eq_true hb)
    have ge : G'.get? e = none := g2 e (by simp)
    have old2 : ∀ b o, hp.get? b = some o → G'.get? b = some o := fun b o q => (gk b (Nat.ne_of_lt (Nat.lt_of_lt_of_le (Heap.lt_size q) new))).trans (old b o q)
    have J : Inv X pins σ H1 ⟨G', g, dr, tk', os⟩ := I1.kept (t' := tk') old2
    refine ⟨e, _, _, ⟨G', g, dr, tk', os⟩, H1, .ref 62, some dx, rfl, J, fun b o q => ?_, ge, hx, ⟨rfl, rfl⟩, rfl, rfl, I1.hok.fresh new, rfl, I1.bare, raises_own N.exC N.tyC, q1 dx⟩
    by_cases hb : b = e
    · have q' : G'.get? b = some o := q
      rw [hb, ge] at q'; cases q'
    · exact (gk b hb).symm.trans q
/-- raise NoLetter(e) -/
def tRaiseNl (W : WX) (ta : TA) : TS := fun _ σ H => tMkNl ta σ H fun cls d H' => W cls d σ H'
end
end L2
set_option Elab.async false
set_option linter.all false
set_option maxRecDepth 100000
set_option maxHeartbeats 4000000
/-! Words: what may raise NoLetter. -/
namespace Cf
open PySem PySem.Spec PyProof.Rows L2 Cs
local macro_rules | `(tactic| walk_at "lf") => `(tactic| first
  | assumption
  | exact rfl
  | exact Rp.mono (by assumption) (by assumption)
  | exact Rp.mono (Same.trans (by assumption) (by assumption)) (by assumption)
  | exact RpK.monoK (by assumption) (by assumption))
local macro_rules | `(tactic| walk_at "ev") => `(tactic| first
  | with_reducible exact ev_int
  | with_reducible exact ev_bl
  | with_reducible exact ev_fill
  | with_reducible exact ev_drop
  | with_reducible exact ev_str
  | ((with_reducible refine' ev_var ?hs ?hv); (case hs => exact rfl); (case hv => walk_at "lf"))
  | ((with_reducible refine' ev_opI ?ha ?hb); (case ha => walk_at "ev"); (case hb => walk_at "ev"))
  | ((with_reducible refine' ev_opB ?ha ?hb); (case ha => walk_at "ev"); (case hb => walk_at "ev"))
  | ((with_reducible refine' ev_opC ?ha ?hb ?hc); (case ha => walk_at "ev"); (case hb => walk_at "ev"); (case hc => first | assumption | skip))
  | ((with_reducible refine' ev_un ?ha); (case ha => walk_at "ev"))
  | ((with_reducible refine' ev_eqK ?ha ?hb); (case ha => walk_at "ev"); (case hb => walk_at "ev"))
  | ((with_reducible refine' ev_eqI ?ha ?hb); (case ha => walk_at "ev"); (case hb => walk_at "ev"))
  | ((with_reducible refine' ev_eqS ?ha ?hb); (case ha => walk_at "ev"); (case hb => walk_at "ev"))
  | ((with_reducible refine' ev_neK ?ha ?hb); (case ha => walk_at "ev"); (case hb => walk_at "ev"))
  | ((with_reducible refine' ev_neI ?ha ?hb); (case ha => walk_at "ev"); (case hb => walk_at "ev"))
  | ((with_reducible refine' ev_neS ?ha ?hb); (case ha => walk_at "ev"); (case hb => walk_at "ev"))
  | ((with_reducible refine' ev_tup2 ?ha ?hb); (case ha => walk_at "ev"); (case hb => walk_at "ev"))
  | ((with_reducible refine' ev_tup1 ?ha); (case ha => walk_at "ev"))
  | with_reducible exact ev_tup0
  | ((with_reducible refine' ev_fst ?ha); (case ha => walk_at "ev"))
  | ((with_reducible refine' ev_snd ?ha); (case ha => walk_at "ev"))
  | ((with_reducible refine' ev_max2 rfl ?ha ?hb); (case ha => walk_at "ev"); (case hb => walk_at "ev"))
  | ((with_reducible refine' ev_min2 rfl ?ha ?hb); (case ha => walk_at "ev"); (case hb => walk_at "ev"))
  | ((with_reducible refine' ev_abs rfl ?ha); (case ha => walk_at "ev"))
  | ((with_reducible refine' ev_intI rfl ?ha); (case ha => walk_at "ev"))
  | ((with_reducible refine' ev_intB rfl ?ha); (case ha => walk_at "ev"))
  | ((with_reducible refine' ev_len rfl ?ha); (case ha => walk_at "ev"))
  | ((with_reducible refine' ev_lenL rfl ?ha); (case ha => walk_at "ev"))
  | ((with_reducible refine' ev_tuple rfl ?ha); (case ha => walk_at "ev"))
  | ((with_reducible refine' ev_sum ?ha); (case ha => walk_at "ev"))
  | ((with_reducible refine' ev_chain ?ha ?hb ?hc); (case ha => walk_at "ev"); (case hb => walk_at "ev"); (case hc => walk_at "ev"))
  | ((with_reducible refine' et_test ?ha); (case ha => walk_at "ev"))
  | ((with_reducible refine' et_B ?ha); (case ha => walk_at "ev"))
  | ((with_reducible refine' et_not ?ha); (case ha => walk_at "ev"))
  | ((with_reducible refine' ev_not ?ha); (case ha => walk_at "ev"))
  | ((with_reducible refine' et_and ?ha ?hb); (case ha => walk_at "ev"); (case hb => intro _; walk_at "ev"))
  | ((with_reducible refine' et_or ?ha ?hb); (case ha => walk_at "ev"); (case hb => intro _; walk_at "ev"))
  | ((with_reducible refine' ev_and ?ha ?hb); (case ha => walk_at "ev"); (case hb => intro _; walk_at "ev"))
  | ((with_reducible refine' ev_or ?ha ?hb); (case ha => walk_at "ev"); (case hb => intro _; walk_at "ev"))
  | ((with_reducible refine' ev_call1 ?ha ?hp); (case ha => walk_at "ev"); (case hp => first | assumption | trivial))
  | ((with_reducible refine' ev_call2 ?ha ?hb ?hp); (case ha => walk_at "ev"); (case hb => walk_at "ev"); (case hp => first | assumption | trivial))
  | ((with_reducible refine' ev_call3 ?ha ?hb ?hc ?hp); (case ha => walk_at "ev"); (case hb => walk_at "ev"); (case hc => walk_at "ev"); (case hp => first | assumption | trivial)))
variable {P : Program} {w : World} {K : PySem.W.Frag} {mg : Str → Option Value} {base : Heap}
abbrev aheadK : Int → Int → Wk → Option Int := CM.aheadR
/-- what of the program's text is asked for by super() -/
def PMain (P : Program) : Prop := P.main.file = PySem.Challenge.pw_cleanspans_k97_whole_within_for_rows_tha.main.file ∧ (P.main.scope.names.lookup ("super" : Str)).isSome = false
/-- a def that may raise -/
def FnX (P : Program) (w : World) (K : PySem.W.Frag) (mg : Str → Option Value) (base : Heap) (k : Nat) (d : DefL) (ps : List Str) (sp : Sp) : Prop :=
  ∃ fd, FnOk P w K mg base (L2.CX P w) k d.a fd ps sp ∧ Binds K fd ps [] ∧ PySem.W.keepIn K (.ref d.a) = true
theorem mk_fnX {d : DefL} {N ps : List Str} {k : Nat} {sp : Sp} (F : ∃ fd, FunD K d.name d.qual (defArgs d.st) (defBody d.st) (defScope d.st) [] [] d.a fd) (S : FnScope N ps (defScope d.st))
    (hb : ∀ (kV doc pm : Value) (an : Option Addr) (cdv ct : Value) (us : List Value), us.length = ps.length → bindArgs (PySem.W.fnOf d.name d.qual (defArgs d.st) (defBody d.st) (defScope d.st) .none kV doc pm an cdv ct) ⟨us, []⟩ = pure (ps.zip us))
    (len : ∀ vs H Q E, sp vs H Q E → vs.length = ps.length)
    (body : ∀ (cdv : Value) (A : Around) (outer : List Env) (s : Shared) (H : Hp) (vs : List V) (Q : VK) (E : XK), Room k (A.deeper (envOfC d.qual (defScope d.st) s.heap.objs.size d.a cdv)) → sp vs H Q E →
      ∃ t, PSs (cxOf (L2.CX P w) P w K mg base N d.qual (defScope d.st) d.a cdv A outer s H E) (defBody d.st) t ∧ t { nx := fun _ H' => Q .non H', rt := Q } (start N vs) H) : FnX P w K mg base (k + 1) d ps sp := by
  obtain ⟨fd, F⟩ := F
  refine ⟨fd, F.ok S len fun cdv A outer s H vs Q E hr h => ?_, F.bindsN hb, F.kp⟩
  exact body cdv A outer s H vs Q E hr h
section
variable {X : Cx} {d : DefL} {ps : List Str} {sp : Sp} {k : Nat} {x : Str} {e : Expr} {es : List Expr} {t : TA} {p pos : Pos} {W : WX}
/-- a call of such a def; W takes what it raises -/
theorem pe_fnX (F : FnX X.prog X.w X.K X.mg X.base k d ps sp) (hr : Room k X.A) (hm : X.mg x = some (.ref d.a)) (tk : Takes X W) (ha : PA X (e :: es) t) (hg : Gl X x := by rfl) (hdb : (x == ("__debug__" : Str)) = false := by decide)
    (he : starEach (e :: es) X.env = (false, eval e X.env) :: starEach es X.env := by rfl) (hpl : (backTo pos (starEach es X.env)).any (·.1) = false := by rfl) : PE X (.Call (.Name x p) (e :: es) [] pos) (tCallS sp (WE W) t) := by
  obtain ⟨fd, F, b, kp⟩ := F
  exact pe_callS F hr hg hm kp b (fun σ => passAt tk σ) ha hdb he hpl
end
def AheadSp : Sp := fun vs H Q E => ∃ (v1 v3 : V) (u : Wk) (n : Int), vs = [v1, .str "fill", v3] ∧ Rp.is H v1 u ∧ v3 = .int n ∧ (∀ r, aheadK n 0 u = some r → ∀ H', Same H H' → Q (.int r) H') ∧ (aheadK n 0 u = none → ∀ d H', Same H H' → E (.ref 62) d H')
def DaSp : Sp := fun vs H Q E => ∃ (v1 v3 : V) (u : Wk) (n : Int), vs = [v1, v3] ∧ Rp.is H v1 u ∧ v3 = .int n ∧ (∀ r, aheadK n 0 u = some r → ∀ H', Same H H' → Q (.int r) H') ∧ (aheadK n 0 u = none → ∀ d H', Same H H' → E (.ref 62) d H')
theorem ahead_f {x : Kd × Int} {r : Wk} {a b : Int} (c : ¬ x.1 = kF) : aheadK a b (x :: r) = aheadK a (b + x.2) r := by
  obtain ⟨x1, m⟩ := x
  revert c
  revert x1
  intro (x1 : Bool) c
  cases x1 with
  | true => exact absurd rfl c
  | false => rfl
theorem ahead_t {x : Kd × Int} {r : Wk} {a b : Int} (c : x.1 = kF) : aheadK a b (x :: r) = if 0 < a ∧ a ≤ x.2 then some b else aheadK (a - x.2) b r := by
  obtain ⟨x1, m⟩ := x
  have e : x1 = kF := c
  subst e
  rfl
theorem sc_ahead : FnScope ["word", "kind", "number", "left", "others", "own", "many"] ["word", "kind", "number"] (defScope s_ahead) := ⟨rfl, rfl, rfl, by decide +kernel, rfl, by decide +kernel, by decide +kernel⟩
theorem F_ahead (T : Tx w K mg) (pm : PMain P) : FnX P w K mg base 1 d_ahead ["word", "kind", "number"] AheadSp := by
  refine mk_fnX T.f_ahead sc_ahead (fun kV doc pm an cdv ct us hl => match us, hl with | [_, _, _], _ => rfl) (fun vs H Q E h => by obtain ⟨v1, v3, u, n, e, _⟩ := h; rw [e]; rfl) (fun cdv A outer s H vs Q E hr h => ?_)
  obtain ⟨v1, v3, u, n, rfl, hu, rfl, kQ, kE⟩ := h
  have tk : Takes (cxOf (L2.CX P w) P w K mg base ["word", "kind", "number", "left", "others", "own", "many"] d_ahead.qual (defScope d_ahead.st) d_ahead.a cdv A outer s H E) (fun cls d _ H => E cls d H) := takes_of rfl rfl rfl rfl
  refine ⟨_, (pss_cons (ps_par (i := 3) (j := 4) (by rfl) sc_ahead.nd rfl rfl (by decide) rfl rfl (pa_cons (pv 2) (pa_cons pe_int pa_nil)) (by rfl))
    (pss_cons (ps_for (passes_of rfl) rfl (pi_tup (pv 0)) (pg_tup rfl (pgs_cons (pg_name (i := 5) sc_ahead.nd rfl (Or.inl rfl)) (pgs_cons (pg_name (i := 6) sc_ahead.nd rfl (Or.inl rfl)) pgs_nil)))
    (pss_one (ps_if (pt_cmpR op_ne (pv 5) (pv 1) (nomark _))
    (pss_one (ps_set (i := 4) sc_ahead.nd rfl (Or.inl rfl) (pe_op op_add (pv 4) (pv 6))))
    (pss_one (ps_if (pt_chain op_lt op_le pe_int (pv 3) (pv 6))
    (pss_one (ps_ret (pv 4)))
    (pss_one (ps_set (i := 3) sc_ahead.nd rfl (Or.inl rfl) (pe_op op_sub (pv 3) (pv 6)))))))))
    (pss_one (ps_raise rfl tk (pmk_nl T.nl T.f_NL pm.1 pm.2 T.g_NoLetter T.b_super hr (pa_cons (pv 2) pa_nil)))))), ?_⟩
  refine q_par (a := n) (b := (0 : Int)) (ev_var rfl rfl) ev_int fun v4 v5 H2 s2 hv4 hv5 => ?_
  obtain rfl : v4 = .int n := hv4
  obtain rfl : v5 = .int 0 := hv5
  have hu2 := Rp.mono s2 hu
  refine s_forS (iw_tup (ev_var rfl hu2)) (fun r σ' H' => ∃ (y2 y3 : Option V) (a b : Int), σ' = [some v1, some (.str "fill"), some (.int n), some (.int a), some (.int b), y2, y3] ∧ aheadK a b r = aheadK n 0 u)
    (fun H3 s3 => ⟨none, none, n, 0, rfl, rfl⟩) ?_ ?_
  · rintro H3 s3 x r uu σ' H' H0 hx s0 sd ⟨y2, y3, a, b, rfl, hf⟩ hu
    refine g_pair hu fun p q hp hq => ?_
    have hk : Rp.is H' (.str "fill") kF := rfl
    refine s_ifP (p := ¬ x.1 = kF) ((show EtR _ _ _ (!decide (x.1 = kF)) by walk_at "ev").eq (by simp)) (fun c H4 s4 => ?_) (fun c H4 s4 => ?_)
    · refine s_asg (a := b + x.2) (by walk_at "ev") fun v6 H5 s5 hv6 => ?_
      obtain rfl : v6 = .int _ := hv6
      exact ⟨⟨_, _, a, b + x.2, rfl, by rw [← hf, ahead_f c]⟩, (sd.trans s4).trans s5⟩
    · have c := Decidable.not_not.mp c
      rw [ahead_t c] at hf
      have hf' := hf
      refine s_ifP (p := 0 < a ∧ a ≤ x.2) ((show EtR _ _ _ (decide (0 < a) && decide (a ≤ x.2)) by walk_at "ev").eq (by simp)) (fun c H5 s5 => ?_) (fun c H5 s5 => ?_)
      · rw [if_pos c] at hf
        refine s_ret (a := b) (by walk_at "ev") fun v6 H6 s6 hv6 => ?_
        obtain rfl : v6 = .int b := hv6
        exact kQ b hf.symm _ ((((s2.trans s3).trans sd).trans s4).trans (s5.trans s6))
      · rw [if_neg c] at hf
        refine s_asg (a := a - x.2) (by walk_at "ev") fun v6 H6 s6 hv6 => ?_
        obtain rfl : v6 = .int _ := hv6
        exact ⟨⟨_, _, a - x.2, b, rfl, hf⟩, ((sd.trans s4).trans s5).trans s6⟩
  · rintro H3 s3 σ' H' sd ⟨y2, y3, a, b, rfl, hf⟩
    exact ⟨_, rfl, _, rfl, fun d => kE hf.symm (some d) _ ((s2.trans s3).trans sd)⟩
theorem sc_drops_ahead : FnScope ["word", "number"] ["word", "number"] (defScope s_drops_ahead) := ⟨rfl, rfl, rfl, by decide +kernel, rfl, by decide +kernel, by decide +kernel⟩
theorem F_drops_ahead (T : Tx w K mg) (pm : PMain P) : FnX P w K mg base 2 d_drops_ahead ["word", "number"] DaSp := by
  have FA : FnX P w K mg base 1 d_ahead ["word", "kind", "number"] AheadSp := F_ahead T pm
  refine mk_fnX T.f_drops_ahead sc_drops_ahead (fun kV doc pm an cdv ct us hl => match us, hl with | [_, _], _ => rfl) (fun vs H Q E h => by obtain ⟨v1, v3, u, n, e, _⟩ := h; rw [e]; rfl) (fun cdv A outer s H vs Q E hr h => ?_)
  obtain ⟨v1, v3, u, n, rfl, hu, rfl, kQ, kE⟩ := h
  have tk : Takes (cxOf (L2.CX P w) P w K mg base ["word", "number"] d_drops_ahead.qual (defScope d_drops_ahead.st) d_drops_ahead.a cdv A outer s H E) (fun cls d _ H => E cls d H) := takes_of rfl rfl rfl rfl
  refine ⟨_, (pss_one (ps_ret (pe_fnX FA hr T.g_ahead tk (pa_cons (pv 0) (pa_cons (pe_const T.c_FILL) (pa_cons (pv 1) pa_nil)))))), ?_⟩
  exact ⟨_, rfl, _, rfl, v1, .int n, u, n, rfl, hu, rfl, fun r hr H' s => kQ r hr H' s, fun hn d H' s => kE hn d H' s⟩
theorem sc_drops_up_to : FnScope ["word", "number", "most"] ["word", "number", "most"] (defScope s_drops_up_to) := ⟨rfl, rfl, rfl, by decide +kernel, rfl, by decide +kernel, by decide +kernel⟩
theorem F_drops_up_to (T : Tx w K mg) (pm : PMain P) : Fn P w K mg base 3 d_drops_up_to ["word", "number", "most"] (Pure3 (fun (_ : Wk) (_ _ : Int) => True) fun u n m => (aheadK n 0 u).getD m) := by
  have FA : FnX P w K mg base 2 d_drops_ahead ["word", "number"] DaSp := F_drops_ahead T pm
  refine mk_pure3 T.f_drops_up_to sc_drops_up_to (fun _ _ _ _ _ _ _ _ _ => rfl) (fun cdv A outer s H Q E hr v v1 v2 u n m hv h1 h2 _ kk => ⟨_, pss_one (ps_try_only (c := .ref 62) (tb := fun W => tRet (tCallS DaSp (WE W) (tCons (tVar 0) (tCons (tVar 1) tNil)))) (ts := fun _ _ _ => tRet (tVar 2)) (Wout := fun _ _ _ _ => False) rfl rfl ⟨rfl, by decide, Or.inl T.g_NoLetter⟩ takes0
    (fun W pn xe tk _ => pss_one (ps_ret (pe_fnX FA hr T.g_drops_ahead tk (by exact (pa_cons (pv 0) (pa_cons (pv 1) pa_nil))))))
    (fun a oe cls d pn hz hf => pss_one (ps_ret (by exact (pv 2))))), ?_⟩)
  obtain rfl : v1 = .int n := h1
  obtain rfl : v2 = .int m := h2
  refine ⟨_, rfl, _, rfl, v, .int n, u, n, rfl, hv, rfl, fun r hr H' s => ?_, fun hn d H' s => ?_⟩
  · exact kk _ _ s (by rw [hr]; rfl)
  · exact ⟨true, (Cx.nl_of T.nl).te, fun _ a ha => ⟨_, rfl, kk _ _ s (by rw [hn]; rfl)⟩, fun z => by cases z⟩
end Cf
set_option Elab.async false
set_option linter.all false
set_option maxRecDepth 100000
set_option maxHeartbeats 4000000
/-! Spans. -/
namespace Cf
open PySem PySem.Spec PyProof.Rows L2 Cs
local macro_rules | `(tactic| walk_at "lf") => `(tactic| first
  | assumption
  | exact rfl
  | exact Rp.mono (by assumption) (by assumption)
  | exact Rp.mono (Same.trans (by assumption) (by assumption)) (by assumption)
  | exact RpK.monoK (by assumption) (by assumption))
local macro_rules | `(tactic| walk_at "ev") => `(tactic| first
  | with_reducible exact ev_int
  | with_reducible exact ev_bl
  | with_reducible exact ev_fill
  | with_reducible exact ev_drop
  | with_reducible exact ev_str
  | ((with_reducible refine' ev_var ?hs ?hv); (case hs => exact rfl); (case hv => walk_at "lf"))
  | ((with_reducible refine' ev_opI ?ha ?hb); (case ha => walk_at "ev"); (case hb => walk_at "ev"))
  | ((with_reducible refine' ev_opB ?ha ?hb); (case ha => walk_at "ev"); (case hb => walk_at "ev"))
  | ((with_reducible refine' ev_opC ?ha ?hb ?hc); (case ha => walk_at "ev"); (case hb => walk_at "ev"); (case hc => first | assumption | skip))
  | ((with_reducible refine' ev_un ?ha); (case ha => walk_at "ev"))
  | ((with_reducible refine' ev_eqK ?ha ?hb); (case ha => walk_at "ev"); (case hb => walk_at "ev"))
  | ((with_reducible refine' ev_eqI ?ha ?hb); (case ha => walk_at "ev"); (case hb => walk_at "ev"))
  | ((with_reducible refine' ev_eqS ?ha ?hb); (case ha => walk_at "ev"); (case hb => walk_at "ev"))
  | ((with_reducible refine' ev_neK ?ha ?hb); (case ha => walk_at "ev"); (case hb => walk_at "ev"))
  | ((with_reducible refine' ev_neI ?ha ?hb); (case ha => walk_at "ev"); (case hb => walk_at "ev"))
  | ((with_reducible refine' ev_neS ?ha ?hb); (case ha => walk_at "ev"); (case hb => walk_at "ev"))
  | ((with_reducible refine' ev_tup2 ?ha ?hb); (case ha => walk_at "ev"); (case hb => walk_at "ev"))
  | ((with_reducible refine' ev_tup1 ?ha); (case ha => walk_at "ev"))
  | with_reducible exact ev_tup0
  | ((with_reducible refine' ev_fst ?ha); (case ha => walk_at "ev"))
  | ((with_reducible refine' ev_snd ?ha); (case ha => walk_at "ev"))
  | ((with_reducible refine' ev_max2 rfl ?ha ?hb); (case ha => walk_at "ev"); (case hb => walk_at "ev"))
  | ((with_reducible refine' ev_min2 rfl ?ha ?hb); (case ha => walk_at "ev"); (case hb => walk_at "ev"))
  | ((with_reducible refine' ev_abs rfl ?ha); (case ha => walk_at "ev"))
  | ((with_reducible refine' ev_intI rfl ?ha); (case ha => walk_at "ev"))
  | ((with_reducible refine' ev_intB rfl ?ha); (case ha => walk_at "ev"))
  | ((with_reducible refine' ev_len rfl ?ha); (case ha => walk_at "ev"))
  | ((with_reducible refine' ev_lenL rfl ?ha); (case ha => walk_at "ev"))
  | ((with_reducible refine' ev_tuple rfl ?ha); (case ha => walk_at "ev"))
  | ((with_reducible refine' ev_sum ?ha); (case ha => walk_at "ev"))
  | ((with_reducible refine' ev_chain ?ha ?hb ?hc); (case ha => walk_at "ev"); (case hb => walk_at "ev"); (case hc => walk_at "ev"))
  | ((with_reducible refine' et_test ?ha); (case ha => walk_at "ev"))
  | ((with_reducible refine' et_B ?ha); (case ha => walk_at "ev"))
  | ((with_reducible refine' et_not ?ha); (case ha => walk_at "ev"))
  | ((with_reducible refine' ev_not ?ha); (case ha => walk_at "ev"))
  | ((with_reducible refine' et_and ?ha ?hb); (case ha => walk_at "ev"); (case hb => intro _; walk_at "ev"))
  | ((with_reducible refine' et_or ?ha ?hb); (case ha => walk_at "ev"); (case hb => intro _; walk_at "ev"))
  | ((with_reducible refine' ev_and ?ha ?hb); (case ha => walk_at "ev"); (case hb => intro _; walk_at "ev"))
  | ((with_reducible refine' ev_or ?ha ?hb); (case ha => walk_at "ev"); (case hb => intro _; walk_at "ev"))
  | ((with_reducible refine' ev_call1 ?ha ?hp); (case ha => walk_at "ev"); (case hp => first | assumption | trivial))
  | ((with_reducible refine' ev_call2 ?ha ?hb ?hp); (case ha => walk_at "ev"); (case hb => walk_at "ev"); (case hp => first | assumption | trivial))
  | ((with_reducible refine' ev_call3 ?ha ?hb ?hc ?hp); (case ha => walk_at "ev"); (case hb => walk_at "ev"); (case hc => walk_at "ev"); (case hp => first | assumption | trivial)))
variable {P : Program} {w : World} {K : PySem.W.Frag} {mg : Str → Option Value} {base : Heap}
abbrev Sn := CM.Sn
/-- what rows are made of: nothing empty, beginnings and ends ascend -/
def Asc (X : List Sn) : Prop := (∀ x ∈ X, x.1 < x.2) ∧ X.Pairwise fun x y => x.1 < y.1 ∧ x.2 ≤ y.2
theorem asc_good {X : List Sn} (g : CM.Good 0 0 X) : Asc X := by
  refine ⟨fun x hx => by have := g.1 x hx; omega, ?_⟩
  refine List.Pairwise.imp_of_mem ?_ g.2
  intro x y hx hy h
  have h1 := g.1 x hx
  have h2 := g.1 y hy
  exact ⟨by omega, by omega⟩
theorem asc_cons {x : Sn} {r : List Sn} (h : Asc (x :: r)) : (x.1 < x.2 ∧ ∀ y ∈ r, x.1 < y.1 ∧ x.2 ≤ y.2) ∧ Asc r :=
  ⟨⟨h.1 x (.head _), (List.pairwise_cons.mp h.2).1⟩, fun y hy => h.1 y (.tail _ hy), (List.pairwise_cons.mp h.2).2⟩
theorem sc_is_number : FnScope ["thing"] ["thing"] (defScope s_is_number) := ⟨rfl, rfl, rfl, by decide +kernel, rfl, by decide +kernel, by decide +kernel⟩
theorem sc_pair_of : FnScope ["pair"] ["pair"] (defScope s_pair_of) := ⟨rfl, rfl, rfl, by decide +kernel, rfl, by decide +kernel, by decide +kernel⟩
theorem F_pair_of (T : Tx w K mg) : Fn P w K mg base 1 d_pair_of ["pair"] (Pure1 (fun _ : Sn => True) id) := by
  refine mk_pure1 T.f_pair_of sc_pair_of (fun _ _ _ _ _ _ _ => rfl) (fun cdv A outer s H Q E hr v a hv _ kk => ⟨_, (pss_one (ps_ret (pe_tup (pa_cons (pe_ix ix_tup (pv 0) pe_int (fun _ _ => rfl)) (pa_cons (pe_ix ix_tup (pv 0) pe_int (fun _ _ => rfl)) pa_nil))))), ?_⟩)
  exact s_ret (a := a) (by walk_at "ev") fun u H2 s2 hu => kk _ _ s2 hu
theorem F_is_number (T : Tx w K mg) : Fn P w K mg base 1 d_is_number ["thing"] (Pure1 (fun _ : Int => True) fun _ => true) := by
  refine mk_pure1 T.f_is_number sc_is_number (fun _ _ _ _ _ _ _ => rfl) (fun cdv A outer s H Q E hr v a hv _ kk => ⟨_, (pss_one (ps_ret (pe_and (pe_callB call_isi (by rfl) T.b_isinstance (by decide +kernel) (pa_cons (pv 0) (pa_cons (pe_bltn (v := .ty "int") (by rfl) T.b_int (by decide +kernel) rfl) pa_nil))) (pe_one (pe_not (pe_callB call_isi (by rfl) T.b_isinstance (by decide +kernel) (pa_cons (pv 0) (pa_cons (pe_bltn (v := .ty "bool") (by rfl) T.b_bool (by decide +kernel) rfl) pa_nil)))))))), ?_⟩)
  obtain rfl : v = .int a := hv
  refine s_ret (a := (true && !false)) (ev_and ?_ fun _ => ev_not ?_) fun u H2 s2 hu => kk _ _ s2 hu
  · exact fun H1 _ Q q => ⟨_, rfl, .int a, .ty "int", .type "int", .type "int", true, rfl, .ty _, .base (.int a), by rfl, q _ H1 (Same.refl _) rfl⟩
  · exact fun H1 _ Q q => ⟨_, rfl, .int a, .ty "bool", .type "int", .type "bool", false, rfl, .ty _, .base (.int a), by kernel_rfl, q _ H1 (Same.refl _) rfl⟩
/-- sorted, of what ascends -/
def prOf (H : Hp) : V → Int × Int
  | .ref t => match H t with
    | some (.tup [.int a, .int b]) => (a, b)
    | _ => (0, 0)
  | _ => (0, 0)
theorem prOf_is {H : Hp} {v : V} {p : Sn} (h : Rp.is H v p) : prOf H v = p ∧ ∃ t, v = .ref t ∧ H t = some (.tup [.int (prOf H v).1, .int (prOf H v).2]) := by
  obtain ⟨q, x, y, e, h1, h2, h3⟩ := h
  obtain ⟨a, b⟩ := p
  have e2 : x = .int a := h2
  have e3 : y = .int b := h3
  subst e e2 e3
  have ee : prOf H (.ref q) = (a, b) := by
    show (match H q with
    | some (.tup [.int a, .int b]) => (a, b)
    | _ => (0, 0)) = (a, b)
    rw [h1]
  exact ⟨ee, q, rfl, by rw [ee]; exact h1⟩
theorem srtd_of {H : Hp} : ∀ {xs : List V} {as : List Sn}, All2 (Rp.is H) xs as → as.Pairwise (fun x y => x.1 < y.1 ∧ x.2 ≤ y.2) → SrtO.Srtd (ltP (prOf H)) xs
  | [], [], _, _ => List.Pairwise.nil
  | x :: xs, a :: as, h, ha => by
    obtain ⟨h1, h2⟩ := List.pairwise_cons.mp ha
    refine List.pairwise_cons.mpr ⟨fun y hy => ?_, srtd_of h.2 h2⟩
    obtain ⟨i, hi⟩ := List.mem_iff_getElem?.mp hy
    obtain ⟨b, hb, rb⟩ := h.2.getV hi
    refine SrtO.lexB_no.mpr ?_
    rw [(prOf_is h.1).1, (prOf_is rb).1]
    have := h1 b (List.mem_of_getElem? hb)
    omega
  | [], _ :: _, q, _ => q.elim
  | _ :: _, [], q, _ => q.elim
theorem il_sorted {te : TE} {σ : L2.St} {H : Hp} {l : Addr} {ys : List V} {as : Ls Sn} (hl : H l = some (.lst ys)) (h : EvR te σ H as) (ha : Asc as.val) : IwL (iList K (tCB (rSortedPO K) (tCons te tNil))) σ H l as.val := fun R k => h H (Same.refl _) _ fun v H2 s2 hv => by
  obtain ⟨q, xs, e, h1, h2⟩ := hv
  refine ⟨q, xs, prOf H2, by rw [e], SqL.of h1, fun x hx => ?_, fun zs p h3 h4 hp => ?_⟩
  · obtain ⟨i, hi⟩ := List.mem_iff_getElem?.mp hx
    obtain ⟨b, hb, rb⟩ := h2.getV hi
    exact (prOf_is rb).2
  · have ez : zs = xs := SrtO.stb_uniq (ltP_swo _) h3 (srtd_of h2 ha.2) h4
    subst ez
    have ne : p ≠ l := fun c => by rw [c, s2 _ _ hl] at hp; cases hp
    have sn : Same H2 (upd H2 p (.lst zs)) := same_new hp
    refine ⟨p, rfl, ⟨zs, SqL.of upd_same⟩, k _ _ (fun H3 => SqL K H3 p zs) (YAt zs) (s2.trans sn) (fun H3 s3 => SqL.of (s3 _ _ (by rw [dl_ne ne]; exact upd_same))) (by rw [← h2.length]; exact walk_list) fun i H3 x H4 s3 y => ?_⟩
    obtain ⟨e3, hx⟩ := y
    obtain ⟨a, ha, ra⟩ := h2.getV hx
    rw [e3]
    exact ⟨Same.refl _, a, ha, RpK.monoK (kp_dl (sn _ _ (s2 _ _ hl)) s3) (Rp.mono sn ra)⟩
/-- merging, the last one open -/
def FillInv (g : Int) (all : List Sn) (r found : List Sn) : Prop := (found = [] ∧ r = all) ∨ ∃ F c, found = F ++ [c] ∧ F ++ CM.fillA g c r = CM.fill g all ∧ ∀ x ∈ r, c.2 ≤ x.2
theorem fillInv_end {g : Int} {all found : List Sn} (h : FillInv g all [] found) : found = CM.fill g all := by
  rcases h with ⟨e, e2⟩ | ⟨F, c, e, e2, _⟩
  · rw [e, ← e2]
    rfl
  · rw [e, ← e2]
    rfl
theorem fillInv_first {g : Int} {all r : List Sn} {x : Sn} (h : FillInv g all (x :: r) []) (ha : Asc (x :: r)) : FillInv g all r [x] := by
  rcases h with ⟨e, e2⟩ | ⟨F, c, e, e2, _⟩
  · refine .inr ⟨[], x, rfl, ?_, fun y hy => ((asc_cons ha).1.2 y hy).2⟩
    rw [← e2]
    rfl
  · exact absurd e (by simp)
theorem fillInv_join {g : Int} {all r F : List Sn} {x c : Sn} (h : FillInv g all (x :: r) (F ++ [c])) (ha : Asc (x :: r)) (hc : x.1 - c.2 ≤ g) : FillInv g all r (F ++ [(c.1, x.2)]) ∧ c.2 ≤ x.2 := by
  rcases h with ⟨e, e2⟩ | ⟨F', c', e, e2, e3⟩
  · exact absurd e (by simp)
  · obtain ⟨rfl, e4⟩ := List.append_inj' e rfl
    cases e4
    refine ⟨.inr ⟨F, _, rfl, ?_, fun y hy => ((asc_cons ha).1.2 y hy).2⟩, e3 x (.head _)⟩
    rw [← e2]
    unfold CM.fillA
    rw [if_pos hc]
    cases r <;> rfl
theorem fillInv_new {g : Int} {all r F : List Sn} {x c : Sn} (h : FillInv g all (x :: r) (F ++ [c])) (ha : Asc (x :: r)) (hc : ¬ x.1 - c.2 ≤ g) : FillInv g all r (F ++ [c] ++ [x]) := by
  rcases h with ⟨e, e2⟩ | ⟨F', c', e, e2, e3⟩
  · exact absurd e (by simp)
  · obtain ⟨rfl, e4⟩ := List.append_inj' e rfl
    cases e4
    refine .inr ⟨F ++ [c], x, rfl, ?_, fun y hy => ((asc_cons ha).1.2 y hy).2⟩
    rw [← e2, List.append_assoc]
    show F ++ ([c] ++ CM.fillA g x r) = F ++ CM.fillA g c (x :: r)
    conv => rhs; unfold CM.fillA
    rw [if_neg hc]
    cases r <;> rfl
theorem last_split {α : Type} {l : List α} {c : α} (h : l.getLast? = some c) : l = l.dropLast ++ [c] := by
  have hn : l ≠ [] := fun e => by rw [e] at h; cases h
  have e := List.dropLast_concat_getLast hn
  rw [List.getLast?_eq_some_getLast hn] at h
  rw [Option.some.inj h] at e
  exact e.symm
theorem sc_joined : FnScope ["pairs", "found", "first", "behind"] ["pairs"] (defScope s_joined) := ⟨rfl, rfl, rfl, by decide +kernel, rfl, by decide +kernel, by decide +kernel⟩
theorem F_joined (T : Tx w K mg) : Fn P w K mg base 1 d_joined ["pairs"] (Pure1 (fun u : Ls Sn => u.val.length ≤ 1000 ∧ Asc u.val) fun u => CM.fill 0 u.val) := by
  refine mk_pure1 T.f_joined sc_joined (fun _ _ _ _ _ _ _ => rfl) (fun cdv A outer s H Q E hr v a hv ha kk => ⟨_, (pss_cons (ps_set (i := 1) sc_joined.nd rfl (Or.inl rfl) (pe_lst pa_nil))
  (pss_cons (ps_for PassesOwn.never rfl (pi_list (pe_callB (cr_sortedPO) (by rfl) T.b_sorted (by decide +kernel) (pa_cons (pv 0) pa_nil))) (pg_tup rfl (pgs_cons (pg_name (i := 2) sc_joined.nd rfl (Or.inl rfl)) (pgs_cons (pg_name (i := 3) sc_joined.nd rfl (Or.inl rfl)) pgs_nil)))
  (pss_one (ps_if (PW.pt (pw_and (pt_cmpR op_gt (pe_callB call_len_seq (by rfl) T.b_len PySem.boot_len (pa_cons (pv 1) pa_nil)) pe_int (nomark _)) (pw_and1 (pt_cmpR op_le (pv 2) (pe_ix ix_tup (pe_ix ix_list (pv 1) (pe_un un_neg pe_int) (fun _ _ => rfl)) pe_int (fun _ _ => rfl)) (nomark _)))))
  (pss_one (ps_asg (pe_tup (pa_cons (pe_ix ix_tup (pe_ix ix_list (pv 1) (pe_un un_neg pe_int) (fun _ _ => rfl)) pe_int (fun _ _ => rfl)) (pa_cons (pe_callB (call_max2 rfl) (by rfl) T.b_max (by decide +kernel) (pa_cons (pe_ix ix_tup (pe_ix ix_list (pv 1) (pe_un un_neg pe_int) (fun _ _ => rfl)) pe_int (fun _ _ => rfl)) (pa_cons (pv 3) pa_nil))) pa_nil))) (pg_sub (pv 1) (pe_un un_neg pe_int) set_list)))
  (pss_one (ps_expr (pe_bm PySem.F.plainAttrs_list PySem.F.slot_list_append PySem.F.type_list_append mt_append (pv 1) (pa_cons (pe_tup (pa_cons (pv 2) (pa_cons (pv 3) pa_nil))) pa_nil)))))))
  (pss_one (ps_ret (pe_callTy call_tuple_of (by rfl) T.b_tuple (by decide +kernel) (pa_cons (pv 1) pa_nil)))))), ?_⟩)
  refine s_newL fun l H1 hl e1 s1 => ?_
  have L1 : Lat H1 l ([] : List Sn) := by rw [e1]; exact Lat.new
  obtain ⟨ys0, hy0⟩ := L1.at
  refine s_forL (il_sorted hy0 (ev_var rfl (Rp.mono s1 hv)) ha.2) (fun r σ' H' => ∃ (y2 y3 : Option V) (found : List Sn), σ' = [some v, some (.ref l), y2, y3] ∧ Lat H' l found ∧ found.length + r.length ≤ 1000 ∧ Asc r ∧ FillInv 0 a.val r found)
    (fun H2 s2 => ⟨none, none, [], rfl, L1.up s2, by simpa using ha.1, ha.2, .inl ⟨rfl, rfl⟩⟩) ?_ ?_
  · rintro H2 s2 x r u σ' H' H0 hx s0 sd ⟨y2, y3, found, rfl, L0, hz, hA, hf⟩ hu
    have L' := L0.up s0
    refine g_pair hu fun p q hp hq => ?_
    have hz' : found.length + 1 + r.length ≤ 1000 := by rw [List.length_cons] at hz; omega
    have hl' := L'.is
    have hA2 := (asc_cons hA).2
    cases hlast : found.getLast? with
    | none =>
      have ef : found = [] := List.getLast?_eq_none_iff.mp hlast
      refine s_ifP (p := False) ((et_and (a := false) (b := false) ((show EtR _ _ _ (decide (0 < ((⟨found⟩ : Ls Sn).val.length : Int))) by walk_at "ev").eq (by rw [ef]; rfl)) fun z => by cases z).eq (by simp)) (fun z => z.elim) fun _ H3 s3 => ?_
      refine s_appL rfl (L'.up s3) (a := x) (by walk_at "ev") (small_line (by omega)) fun H5 L5 sd5 kp5 => ⟨⟨_, _, found ++ [x], rfl, L5, by rw [List.length_append, List.length_singleton]; exact hz', hA2, ?_⟩, dl_trans (sd.trans s3) sd5⟩
      rw [ef] at hf ⊢
      exact fillInv_first hf hA
    | some last =>
      have hpos : 0 < found.length := List.length_pos_iff.mpr fun e => by rw [e] at hlast; cases hlast
      have es := last_split hlast
      have hlv := ev_last (K := K) (σ := [some v, some (.ref l), some p, some q]) (i := 1) rfl L' hlast
      refine s_ifP (p := x.1 ≤ last.2) ((et_and (a := true) (b := decide (x.1 ≤ last.2)) ((show EtR _ _ _ (decide (0 < ((⟨found⟩ : Ls Sn).val.length : Int))) by walk_at "ev").eq (decide_eq_true (by show (0 : Int) < (found.length : Int); omega))) fun _ => et_test (ev_opB (by walk_at "ev") (ev_snd hlv))).eq (by simp)) (fun c H3 s3 => ?_) fun c H3 s3 => ?_
      · have L3 := L'.up s3
        refine s_setL rfl L3 (a := (last.1, max last.2 x.2)) (ev_tup2 (ev_fst (ev_last rfl L3 hlast)) (ev_max2 rfl (ev_snd (ev_last rfl L3 hlast)) (by walk_at "ev"))) (fun e => by rw [e] at hlast; cases hlast) fun H5 L5 sd5 kp5 => ⟨⟨_, _, found.dropLast ++ [(last.1, max last.2 x.2)], rfl, L5, by rw [List.length_append, List.length_singleton, List.length_dropLast]; omega, hA2, ?_⟩, dl_trans (sd.trans s3) sd5⟩
        rw [es] at hf
        obtain ⟨f1, f2⟩ := fillInv_join hf hA (by omega)
        rw [show max last.2 x.2 = x.2 by omega]
        exact f1
      · have L3 := L'.up s3
        refine s_appL rfl L3 (a := x) (by walk_at "ev") (small_line (by omega)) fun H5 L5 sd5 kp5 => ⟨⟨_, _, found ++ [x], rfl, L5, by rw [List.length_append, List.length_singleton]; exact hz', hA2, ?_⟩, dl_trans (sd.trans s3) sd5⟩
        rw [es] at hf ⊢
        exact fillInv_new hf hA (by omega)
  · rintro H2 s2 σ' H' sd ⟨y2, y3, found, rfl, L0, hz, hA, hf⟩
    have hl' := L0.is
    have hH : Same H H' := (same_dl (s1.trans s2) hl).trans sd
    refine s_ret (a := CM.fill 0 a.val) ((ev_tuple rfl (ev_var rfl hl')).eq (fillInv_end hf)) fun u H3 s3 hu => kk _ _ (hH.trans s3) hu
theorem sc_filled : FnScope ["spans", "gap", "found", "first", "behind"] ["spans", "gap"] (defScope s_filled) := ⟨rfl, rfl, rfl, by decide +kernel, rfl, by decide +kernel, by decide +kernel⟩
theorem F_filled (T : Tx w K mg) : Fn P w K mg base 1 d_filled ["spans", "gap"] (Pure2 (fun (u : List Sn) (_ : Int) => u.length ≤ 1000 ∧ Asc u) fun u g => CM.fill g u) := by
  refine mk_pure2 T.f_filled sc_filled (fun _ _ _ _ _ _ _ _ => rfl) (fun cdv A outer s H Q E hr v v1 a g hv h1 ha kk => ⟨_, (pss_cons (ps_set (i := 2) sc_filled.nd rfl (Or.inl rfl) (pe_lst pa_nil))
  (pss_cons (ps_for PassesOwn.never rfl (pi_tup (pv 0)) (pg_tup rfl (pgs_cons (pg_name (i := 3) sc_filled.nd rfl (Or.inl rfl)) (pgs_cons (pg_name (i := 4) sc_filled.nd rfl (Or.inl rfl)) pgs_nil)))
  (pss_one (ps_if (PW.pt (pw_and (pt_cmpR op_gt (pe_callB call_len_seq (by rfl) T.b_len PySem.boot_len (pa_cons (pv 2) pa_nil)) pe_int (nomark _)) (pw_and1 (pt_cmpR op_le (pe_op op_sub (pv 3) (pe_ix ix_tup (pe_ix ix_list (pv 2) (pe_un un_neg pe_int) (fun _ _ => rfl)) pe_int (fun _ _ => rfl))) (pv 1) (nomark _)))))
  (pss_one (ps_asg (pe_tup (pa_cons (pe_ix ix_tup (pe_ix ix_list (pv 2) (pe_un un_neg pe_int) (fun _ _ => rfl)) pe_int (fun _ _ => rfl)) (pa_cons (pv 4) pa_nil))) (pg_sub (pv 2) (pe_un un_neg pe_int) set_list)))
  (pss_one (ps_expr (pe_bm PySem.F.plainAttrs_list PySem.F.slot_list_append PySem.F.type_list_append mt_append (pv 2) (pa_cons (pe_tup (pa_cons (pv 3) (pa_cons (pv 4) pa_nil))) pa_nil)))))))
  (pss_one (ps_ret (pe_callTy call_tuple_of (by rfl) T.b_tuple (by decide +kernel) (pa_cons (pv 2) pa_nil)))))), ?_⟩)
  obtain rfl : v1 = .int g := h1
  refine s_newL fun l H1 hl e1 s1 => ?_
  have L1 : Lat H1 l ([] : List Sn) := by rw [e1]; exact Lat.new
  obtain ⟨ys0, hy0⟩ := L1.at
  refine s_forL (il_tup hy0 (ev_var rfl (Rp.mono s1 hv))) (fun r σ' H' => ∃ (y2 y3 : Option V) (found : List Sn), σ' = [some v, some (.int g), some (.ref l), y2, y3] ∧ Lat H' l found ∧ found.length + r.length ≤ 1000 ∧ Asc r ∧ FillInv g a r found)
    (fun H2 s2 => ⟨none, none, [], rfl, L1.up s2, by simpa using ha.1, ha.2, .inl ⟨rfl, rfl⟩⟩) ?_ ?_
  · rintro H2 s2 x r u σ' H' H0 hx s0 sd ⟨y2, y3, found, rfl, L0, hz, hA, hf⟩ hu
    have L' := L0.up s0
    refine g_pair hu fun p q hp hq => ?_
    have hz' : found.length + 1 + r.length ≤ 1000 := by rw [List.length_cons] at hz; omega
    have hl' := L'.is
    have hA2 := (asc_cons hA).2
    cases hlast : found.getLast? with
    | none =>
      have ef : found = [] := List.getLast?_eq_none_iff.mp hlast
      refine s_ifP (p := False) ((et_and (a := false) (b := false) ((show EtR _ _ _ (decide (0 < ((⟨found⟩ : Ls Sn).val.length : Int))) by walk_at "ev").eq (by rw [ef]; rfl)) fun z => by cases z).eq (by simp)) (fun z => z.elim) fun _ H3 s3 => ?_
      refine s_appL rfl (L'.up s3) (a := x) (by walk_at "ev") (small_line (by omega)) fun H5 L5 sd5 kp5 => ⟨⟨_, _, found ++ [x], rfl, L5, by rw [List.length_append, List.length_singleton]; exact hz', hA2, ?_⟩, dl_trans (sd.trans s3) sd5⟩
      rw [ef] at hf ⊢
      exact fillInv_first hf hA
    | some last =>
      have hpos : 0 < found.length := List.length_pos_iff.mpr fun e => by rw [e] at hlast; cases hlast
      have es := last_split hlast
      have hlv := ev_last (K := K) (σ := [some v, some (.int g), some (.ref l), some p, some q]) (i := 2) rfl L' hlast
      refine s_ifP (p := x.1 - last.2 ≤ g) ((et_and (a := true) (b := decide (x.1 - last.2 ≤ g)) ((show EtR _ _ _ (decide (0 < ((⟨found⟩ : Ls Sn).val.length : Int))) by walk_at "ev").eq (decide_eq_true (by show (0 : Int) < (found.length : Int); omega))) fun _ => et_test (ev_opB (ev_opI (by walk_at "ev") (ev_snd hlv)) (ev_var rfl rfl))).eq (by simp)) (fun c H3 s3 => ?_) fun c H3 s3 => ?_
      · have L3 := L'.up s3
        refine s_setL rfl L3 (a := (last.1, x.2)) (ev_tup2 (ev_fst (ev_last rfl L3 hlast)) (by walk_at "ev")) (fun e => by rw [e] at hlast; cases hlast) fun H5 L5 sd5 kp5 => ⟨⟨_, _, found.dropLast ++ [(last.1, x.2)], rfl, L5, by rw [List.length_append, List.length_singleton, List.length_dropLast]; omega, hA2, ?_⟩, dl_trans (sd.trans s3) sd5⟩
        rw [es] at hf
        exact (fillInv_join hf hA c).1
      · have L3 := L'.up s3
        refine s_appL rfl L3 (a := x) (by walk_at "ev") (small_line (by omega)) fun H5 L5 sd5 kp5 => ⟨⟨_, _, found ++ [x], rfl, L5, by rw [List.length_append, List.length_singleton]; exact hz', hA2, ?_⟩, dl_trans (sd.trans s3) sd5⟩
        rw [es] at hf ⊢
        exact fillInv_new hf hA c
  · rintro H2 s2 σ' H' sd ⟨y2, y3, found, rfl, L0, hz, hA, hf⟩
    have hl' := L0.is
    have hH : Same H H' := (same_dl (s1.trans s2) hl).trans sd
    refine s_ret (a := CM.fill g a) ((ev_tuple rfl (ev_var rfl hl')).eq (fillInv_end hf)) fun u H3 s3 hu => kk _ _ (hH.trans s3) hu
theorem sc_moved : FnScope ["spans", "ahead", "after", "first", "behind"] ["spans", "ahead", "after"] (defScope s_moved) := ⟨rfl, rfl, rfl, by decide +kernel, rfl, by decide +kernel, by decide +kernel⟩
def movedM (X : List Sn) (a b : Int) : List Sn := (X.filter fun x => decide (x.1 + a < x.2 + b)).map fun x => (x.1 + a, x.2 + b)
theorem F_moved (T : Tx w K mg) : Fn P w K mg base 1 d_moved ["spans", "ahead", "after"] (Pure3 (fun (u : List Sn) (_ _ : Int) => u.length ≤ 1000) movedM) := by
  refine mk_pure3 T.f_moved sc_moved (fun _ _ _ _ _ _ _ _ _ => rfl) (fun cdv A outer s H Q E hr v v1 v2 a i j hv h1 h2 ha kk => ⟨_, (pss_one (ps_ret (pe_callTy call_tuple_of (by rfl) T.b_tuple (by decide +kernel) (pa_cons (pe_lc (own := [("first", 3), ("behind", 4)]) (g := (gTup K 2 (gCons (gName 3) (gCons (gName 4) gNil)))) rfl sc_moved.nd (pi_tup (pv 0)) (blkOk_by (own := [("first", 3), ("behind", 4)]) (N := ["spans", "ahead", "after", "first", "behind"]) (sc := defScope s_moved) (by decide +kernel)) (fun _ _ _ _ _ => (pg_tup rfl (pgs_cons (pg_name (i := 3) sc_moved.nd rfl (Or.inl rfl)) (pgs_cons (pg_name (i := 4) sc_moved.nd rfl (Or.inl rfl)) pgs_nil)))) (fun _ _ _ _ _ => (pts_one (pt_cmpR op_lt (pe_op op_add (pv 3) (pv 1)) (pe_op op_add (pv 4) (pv 2)) (nomark _)))) (fun _ _ _ _ _ => (pe_tup (pa_cons (pe_op op_add (pv 3) (pv 1)) (pa_cons (pe_op op_add (pv 4) (pv 2)) pa_nil))))) pa_nil)))), ?_⟩)
  refine s_ret (a := movedM a i j) (ev_tuple (as := ⟨movedM a i j⟩) rfl (ev_lc (fun x : Sn => decide (x.1 + i < x.2 + j)) (fun x => (x.1 + i, x.2 + j)) (iw_tup (by walk_at "ev")) (small_line (by omega)) (fun x u H2 s2 hx hu => g_pair hu fun y z hy hz => ⟨rfl, Same.refl _, by walk_at "ev", fun _ => by walk_at "ev"⟩) gm_pair)) fun u H2 s2 hu => kk _ _ s2 hu
end Cf
set_option Elab.async false
set_option linter.all false
set_option maxRecDepth 100000
set_option maxHeartbeats 4000000
/-! Spans in both, spans left over. -/
namespace Cf
open PySem PySem.Spec PyProof.Rows L2 Cs
local macro_rules | `(tactic| walk_at "lf") => `(tactic| first
  | assumption
  | exact rfl
  | exact Rp.mono (by assumption) (by assumption)
  | exact Rp.mono (Same.trans (by assumption) (by assumption)) (by assumption)
  | exact RpK.monoK (by assumption) (by assumption))
local macro_rules | `(tactic| walk_at "ev") => `(tactic| first
  | with_reducible exact ev_int
  | with_reducible exact ev_bl
  | with_reducible exact ev_fill
  | with_reducible exact ev_drop
  | with_reducible exact ev_str
  | ((with_reducible refine' ev_var ?hs ?hv); (case hs => exact rfl); (case hv => walk_at "lf"))
  | ((with_reducible refine' ev_opI ?ha ?hb); (case ha => walk_at "ev"); (case hb => walk_at "ev"))
  | ((with_reducible refine' ev_opB ?ha ?hb); (case ha => walk_at "ev"); (case hb => walk_at "ev"))
  | ((with_reducible refine' ev_opC ?ha ?hb ?hc); (case ha => walk_at "ev"); (case hb => walk_at "ev"); (case hc => first | assumption | skip))
  | ((with_reducible refine' ev_un ?ha); (case ha => walk_at "ev"))
  | ((with_reducible refine' ev_eqK ?ha ?hb); (case ha => walk_at "ev"); (case hb => walk_at "ev"))
  | ((with_reducible refine' ev_eqI ?ha ?hb); (case ha => walk_at "ev"); (case hb => walk_at "ev"))
  | ((with_reducible refine' ev_eqS ?ha ?hb); (case ha => walk_at "ev"); (case hb => walk_at "ev"))
  | ((with_reducible refine' ev_neK ?ha ?hb); (case ha => walk_at "ev"); (case hb => walk_at "ev"))
  | ((with_reducible refine' ev_neI ?ha ?hb); (case ha => walk_at "ev"); (case hb => walk_at "ev"))
  | ((with_reducible refine' ev_neS ?ha ?hb); (case ha => walk_at "ev"); (case hb => walk_at "ev"))
  | ((with_reducible refine' ev_tup2 ?ha ?hb); (case ha => walk_at "ev"); (case hb => walk_at "ev"))
  | ((with_reducible refine' ev_tup1 ?ha); (case ha => walk_at "ev"))
  | with_reducible exact ev_tup0
  | ((with_reducible refine' ev_fst ?ha); (case ha => walk_at "ev"))
  | ((with_reducible refine' ev_snd ?ha); (case ha => walk_at "ev"))
  | ((with_reducible refine' ev_max2 rfl ?ha ?hb); (case ha => walk_at "ev"); (case hb => walk_at "ev"))
  | ((with_reducible refine' ev_min2 rfl ?ha ?hb); (case ha => walk_at "ev"); (case hb => walk_at "ev"))
  | ((with_reducible refine' ev_abs rfl ?ha); (case ha => walk_at "ev"))
  | ((with_reducible refine' ev_intI rfl ?ha); (case ha => walk_at "ev"))
  | ((with_reducible refine' ev_intB rfl ?ha); (case ha => walk_at "ev"))
  | ((with_reducible refine' ev_len rfl ?ha); (case ha => walk_at "ev"))
  | ((with_reducible refine' ev_lenL rfl ?ha); (case ha => walk_at "ev"))
  | ((with_reducible refine' ev_tuple rfl ?ha); (case ha => walk_at "ev"))
  | ((with_reducible refine' ev_sum ?ha); (case ha => walk_at "ev"))
  | ((with_reducible refine' ev_chain ?ha ?hb ?hc); (case ha => walk_at "ev"); (case hb => walk_at "ev"); (case hc => walk_at "ev"))
  | ((with_reducible refine' et_test ?ha); (case ha => walk_at "ev"))
  | ((with_reducible refine' et_B ?ha); (case ha => walk_at "ev"))
  | ((with_reducible refine' et_not ?ha); (case ha => walk_at "ev"))
  | ((with_reducible refine' ev_not ?ha); (case ha => walk_at "ev"))
  | ((with_reducible refine' et_and ?ha ?hb); (case ha => walk_at "ev"); (case hb => intro _; walk_at "ev"))
  | ((with_reducible refine' et_or ?ha ?hb); (case ha => walk_at "ev"); (case hb => intro _; walk_at "ev"))
  | ((with_reducible refine' ev_and ?ha ?hb); (case ha => walk_at "ev"); (case hb => intro _; walk_at "ev"))
  | ((with_reducible refine' ev_or ?ha ?hb); (case ha => walk_at "ev"); (case hb => intro _; walk_at "ev"))
  | ((with_reducible refine' ev_call1 ?ha ?hp); (case ha => walk_at "ev"); (case hp => first | assumption | trivial))
  | ((with_reducible refine' ev_call2 ?ha ?hb ?hp); (case ha => walk_at "ev"); (case hb => walk_at "ev"); (case hp => first | assumption | trivial))
  | ((with_reducible refine' ev_call3 ?ha ?hb ?hc ?hp); (case ha => walk_at "ev"); (case hb => walk_at "ev"); (case hc => walk_at "ev"); (case hp => first | assumption | trivial)))
variable {P : Program} {w : World} {K : PySem.W.Frag} {mg : Str → Option Value} {base : Heap}
/-! ### more of the frame -/
section
variable {α β γ : Type} {σ : L2.St} {H : Hp} {ta tb te : TE}
theorem s_while {W : Nat → L2.St → Hp → Prop} {tc : TT} {tt : TS} {D : Ends} (h0 : ∃ m, W m σ H)
    (step : ∀ m σ' H', W m σ' H' → ∃ b, EtR tc σ' H' b ∧ (b = true → ∀ H1, Same H' H1 → tt { D with nx := fun σ'' H'' => ∃ m', m' < m ∧ W m' σ'' H'', ct := fun σ'' H'' => ∃ m', m' < m ∧ W m' σ'' H'', bk := D.nx } σ' H1) ∧ (b = false → ∀ H1, Same H' H1 → D.nx σ' H1)) : tWhile tc tt D σ H := by
  refine ⟨W, h0, fun m σ' H' hw => ?_⟩
  obtain ⟨b, h1, h2, h3⟩ := step m σ' H' hw
  refine h1 H' (Same.refl _) _ fun H1 s1 => ?_
  cases b with
  | true =>
    rw [if_pos rfl]
    exact ⟨_, fun σ'' H'' q => q, h2 rfl H1 s1⟩
  | false =>
    rw [if_neg (by decide)]
    exact h3 rfl H1 s1
theorem q_while {W : Nat → L2.St → Hp → Prop} {tc : TT} {tt tz : TS} {D : Ends} (h0 : ∃ m, W m σ H)
    (step : ∀ m σ' H', W m σ' H' → ∃ b, EtR tc σ' H' b ∧ (b = true → ∀ H1, Same H' H1 → tt { D with nx := fun σ'' H'' => ∃ m', m' < m ∧ W m' σ'' H'', ct := fun σ'' H'' => ∃ m', m' < m ∧ W m' σ'' H'', bk := tz D } σ' H1) ∧ (b = false → ∀ H1, Same H' H1 → tz D σ' H1)) : tSeq (tWhile tc tt) tz D σ H := s_while (D := { D with nx := tz D }) h0 step
/-- [e] -/
theorem ev_lst1 [RpK α] {a : α} (ha : EvR ta σ H a) : EvR (tLst (tCons ta tNil)) σ H (⟨[a]⟩ : Ls α) := fun H1 s Q q =>
  ha H1 s _ fun v H2 s2 hv => ⟨by show 1 ≤ sizeLine; decide, fun p hp => q _ _ (s2.trans (same_new hp)) ⟨p, [v], rfl, upd_same, Rp.mono (same_new hp) hv, trivial⟩⟩
theorem ev_lst2 [RpK α] {a b : α} (ha : EvR ta σ H a) (hb : EvR tb σ H b) : EvR (tLst (tCons ta (tCons tb tNil))) σ H (⟨[a, b]⟩ : Ls α) := fun H1 s Q q =>
  ha H1 s _ fun v H2 s2 hv => hb H2 (s.trans s2) _ fun u H3 s3 hu => ⟨by show 2 ≤ sizeLine; decide, fun p hp => q _ _ (s2.trans (s3.trans (same_new hp))) ⟨p, [v, u], rfl, upd_same, Rp.mono (s3.trans (same_new hp)) hv, Rp.mono (same_new hp) hu, trivial⟩⟩
theorem ev_lst0 [RpK α] : EvR (tLst tNil) σ H (⟨[]⟩ : Ls α) := fun H1 s Q q => ⟨Nat.zero_le _, fun p hp => q _ _ (same_new hp) ⟨p, [], rfl, upd_same, trivial⟩⟩
/-- one list behind the other -/
theorem ev_cat [RpK α] {a b : List α} (ha : EvR ta σ H (⟨a⟩ : Ls α)) (hb : EvR tb σ H (⟨b⟩ : Ls α)) (hz : a.length + b.length ≤ sizeLine) : EvR (tOp rCat ta tb) σ H (⟨a ++ b⟩ : Ls α) := fun H1 s Q q =>
  ha H1 s _ fun v H2 s2 hv => hb H2 (s.trans s2) _ fun u H3 s3 hu => by
    obtain ⟨p, xs, rfl, h1, h2⟩ := hv
    obtain ⟨r, ys, rfl, h3, h4⟩ := hu
    exact ⟨p, r, xs, ys, rfl, rfl, s3 _ _ h1, h3, by rw [h2.length, h4.length]; exact hz, fun l hl => q _ _ (s2.trans (s3.trans (same_new hl))) ⟨l, xs ++ ys, rfl, upd_same, (h2.imp fun _ _ z => Rp.mono (s3.trans (same_new hl)) z).append (h4.imp fun _ _ z => Rp.mono (same_new hl) z)⟩⟩
/-- from i by steps of c -/
def stepped (i c : Int) (n : Nat) : List Int := (List.range n).map fun (k : Nat) => i + (k : Int) * c
theorem stepped_get {i c : Int} {n k : Nat} (h : k < n) : (stepped i c n)[k]? = some (i + (k : Int) * c) := by
  unfold stepped
  rw [List.getElem?_map, List.getElem?_range h]
  rfl
theorem stepped_len (i c : Int) (n : Nat) : (stepped i c n).length = n := by
  unfold stepped
  rw [List.length_map, List.length_range]
theorem walk_stepped {i c : Int} {n : Nat} : Walk (Itc i c n) (stepped i c n).length (fun _ => True) (fun k H x H' => k < n ∧ H' = H ∧ x = .int (i + (k : Int) * c)) := by
  rw [stepped_len]
  exact ⟨fun _ _ hi _ => hi, fun _ _ => Nat.le_refl _, fun _ _ _ _ hi _ y => ⟨hi, y⟩⟩
theorem iw_range3 {tc : TE} {i j c : Int} {n : Nat} (hi : EvR ta σ H i) (hj : EvR tb σ H j) (hc : EvR tc σ H c) (hn : RgC i j c n) : IwR (iRng3 (tCons ta (tCons tb (tCons tc tNil)))) σ H (stepped i c n) := fun H1 s R k => hi H1 s _ fun u H0 s0 hu => hj H0 (s.trans s0) _ fun v H2 s2 hv => hc H2 ((s.trans s0).trans s2) _ fun x H3 s3 hx => by
  refine ⟨i, j, c, n, by rw [is_int.mp hv, is_int.mp hu, is_int.mp hx], hn, k _ H3 (fun _ => True) _ ((s0.trans s2).trans s3) (fun _ _ => trivial) walk_stepped fun i H4 x H5 s4 y => ?_⟩
  obtain ⟨hi, e, ex⟩ := y
  rw [e, ex]
  exact ⟨Same.refl _, _, stepped_get hi, rfl⟩
theorem yes_t {p q : Prop} (h : p) : if true = true then p else q := by
  rw [if_pos rfl]
  exact h
theorem it_any {J : It} {n : Nat} {G : Hp → Prop} {Y : Nat → Hp → V → Hp → Prop} {Qd : Hp → Prop} {H1 : Hp} (W : Walk J n G Y) (B : V → Hp → (Hp → Prop) → Prop) (Pv : Nat → Hp → Prop) (h0 : Pv 0 H1) (hG : ∀ i H, i ≤ n → Pv i H → G H) (hs : ∀ i x H H', i < n → Pv i H → Y i H x H' → B x H' (Pv (i + 1))) (hd : ∀ H, Pv n H → Qd H) :
    ∃ W : Nat → Nat → Hp → Prop, (∃ m, W 0 m H1) ∧ ∀ i m H, W i m H → (J.stop i H ∧ Qd H) ∨ (J.go i H ∧ ∃ Nx : Hp → Prop, (∀ H', Nx H' → ∃ m', m' < m ∧ W (i + 1) m' H') ∧ ∀ x H', J.yld i H x H' → B x H' Nx) := by
  refine ⟨fun i m H => m = n - i ∧ i ≤ n ∧ Pv i H, ⟨n, by simp, Nat.zero_le _, h0⟩, ?_⟩
  rintro i m H ⟨rfl, hi, p⟩
  have q := hG i H hi p
  by_cases hlt : i < n
  · exact .inr ⟨W.goes i H hlt q, Pv (i + 1), fun H' p' => ⟨n - (i + 1), by omega, rfl, hlt, p'⟩, fun x H' y => hs i x H H' hlt p (W.yields i H x H' hlt q y)⟩
  · obtain rfl : i = n := by omega
    exact .inl ⟨W.stops H q, hd H p⟩
theorem ev_lc2 [Rp α] [Rp β] [RpK γ] {wi wi1 : TI} {g g1 : TG} {vs vs1 : List Nat} {as : List α} (f : α → List β) (h : α → β → γ) (hw : IwR wi σ H as) (hz : (as.flatMap fun x => (f x).map (h x)).length < sizeLine)
    (turn : ∀ x v H1, Same H H1 → x ∈ as → Rp.is H1 v x → g v (wipe σ vs) H1 fun σ2 H2 => wipe σ2 vs = wipe σ vs ∧ Same H1 H2 ∧ (∀ H3, Same H2 H3 → ∀ l ys, H3 l = some (.lst ys) → IwL wi1 σ2 H3 l (f x)) ∧
      ∀ y u H3, Rp.is H3 u y → g1 u (wipe σ2 vs1) H3 fun σ3 H4 => wipe σ3 vs1 = wipe σ2 vs1 ∧ Same H3 H4 ∧ EvR te σ3 H4 (h x y))
    (gm : ∀ v σ' H' (Q Q' : L2.St → Hp → Prop), (∀ σ H, Q σ H → Q' σ H) → g v σ' H' Q → g v σ' H' Q') (gm1 : ∀ v σ' H' (Q Q' : L2.St → Hp → Prop), (∀ σ H, Q σ H → Q' σ H) → g1 v σ' H' Q → g1 v σ' H' Q') :
    EvR (tLc2 wi g tYes wi1 g1 tYes te vs vs1) σ H (⟨as.flatMap fun x => (f x).map (h x)⟩ : Ls γ) := fun H1 s Q q => hw H1 s _ fun J H2 G Y s2 hG W hY D hD => by
  let fl : List α → List γ := fun l => l.flatMap fun x => (f x).map (h x)
  have lec : ∀ i x, as[i]? = some x → ∀ j, (fl (as.take i)).length + ((f x).take j).length ≤ (fl as).length := fun i x hx j => by
    have e : as = as.take i ++ x :: as.drop (i + 1) := by rw [← drop_cons hx, List.take_append_drop]
    have e2 : fl as = fl (as.take i) ++ ((f x).map (h x) ++ fl (as.drop (i + 1))) := by
      conv => lhs; rw [e]
      show List.flatMap _ (_ ++ _) = _
      rw [List.flatMap_append]
      rfl
    rw [e2, List.length_append, List.length_append, List.length_map, List.length_take]
    omega
  refine it_any W (fun x H' Nx => g x (wipe σ vs) H' fun σ2 H2 => wipe σ2 vs = wipe σ vs ∧ tYes σ2 H2 fun b H3 => if b = true then wi1 σ2 H3 fun J1 H4 => ∃ W1 : Nat → Nat → Hp → Prop, (∃ m, W1 0 m H4) ∧ ∀ j k H, W1 j k H → (J1.stop j H ∧ Nx H) ∨ (J1.go j H ∧ ∃ Nx1 : Hp → Prop, (∀ H', Nx1 H' → ∃ k', k' < k ∧ W1 (j + 1) k' H') ∧ ∀ x H', J1.yld j H x H' → g1 x (wipe σ2 vs1) H' fun σ3 H5 => wipe σ3 vs1 = wipe σ2 vs1 ∧ tYes σ3 H5 fun b H6 => if b = true then te σ3 H6 fun y H7 => ∃ acc, H7 D = some (.lst acc) ∧ acc.length < sizeLine ∧ Nx1 (upd H7 D (.lst (acc ++ [y]))) else Nx1 H6) else Nx H3) (fun i H' => Same H2 H' ∧ ∃ ys, H' D = some (.lst ys) ∧ All2 (Rp.is H') ys (fl (as.take i))) ⟨same_new hD, [], upd_same, trivial⟩ (fun i H' _ r => hG H' r.1) (fun i x H3 H4 hi r y => ?_) (fun H' r => ?_)
  · obtain ⟨r1, ys, r2, r4⟩ := r
    obtain ⟨s4, a, ha, ra⟩ := hY i H3 x H4 r1 y
    have tk : fl (as.take (i + 1)) = fl (as.take i) ++ (f a).map (h a) := by
      rw [List.take_add_one, ha]
      show List.flatMap _ (_ ++ [a]) = _
      rw [List.flatMap_append, List.flatMap_singleton]
    refine gm _ _ _ _ _ ?_ (turn a x H4 ((s.trans s2).trans (r1.trans s4)) (List.mem_of_getElem? ha) ra)
    rintro σ5 H5 ⟨z1, z2, z3, z4⟩
    refine ⟨z1, ?_⟩
    simp only [tYes, if_true]
    have sD5 := z2 _ _ (s4 _ _ r2)
    refine z3 H5 (Same.refl _) D ys sD5 _ fun J1 H6 G1 Y1 s6 hG1 W1 hY1 => ?_
    have sD6 := s6 _ _ sD5
    have b6 : Same H2 H6 := ((r1.trans s4).trans z2).trans s6
    refine it_any W1 (fun x H' Nx1 => g1 x (wipe σ5 vs1) H' fun σ3 H5 => wipe σ3 vs1 = wipe σ5 vs1 ∧ tYes σ3 H5 fun b H6 => if b = true then te σ3 H6 fun y H7 => ∃ acc, H7 D = some (.lst acc) ∧ acc.length < sizeLine ∧ Nx1 (upd H7 D (.lst (acc ++ [y]))) else Nx1 H6) (fun j H' => Same (dl H6 D) H' ∧ ∃ zs, H' D = some (.lst zs) ∧ All2 (Rp.is H') zs (fl (as.take i) ++ ((f a).take j).map (h a))) ⟨dl_sub _ _, ys, sD6, by
      rw [List.take_zero, List.map_nil, List.append_nil]
      exact r4.imp fun _ _ z => Rp.mono (((s4.trans z2).trans s6)) z⟩ (fun j H' _ r => hG1 H' r.1) (fun j x1 H7 H8 hj r y1 => ?_) (fun H' r => ?_)
    · obtain ⟨t1, zs, t2, t3⟩ := r
      obtain ⟨s8, b, hb, rb⟩ := hY1 j H7 x1 H8 t1 y1
      have tk1 : ((f a).take (j + 1)).map (h a) = ((f a).take j).map (h a) ++ [h a b] := by rw [List.take_add_one, hb, List.map_append]; rfl
      refine gm1 _ _ _ _ _ ?_ (z4 b x1 H8 rb)
      rintro σ9 H9 ⟨y1, y2, y3⟩
      refine ⟨y1, ?_⟩
      simp only [tYes, if_true]
      refine y3 H9 (Same.refl _) _ fun v H10 s10 hv => ?_
      have sD := s10 _ _ (y2 _ _ (s8 _ _ t2))
      have sT : Same H7 H10 := (s8.trans y2).trans s10
      refine ⟨zs, sD, ?_, dl_up (t1.trans sT), zs ++ [v], upd_same, ?_⟩
      · have l1 := lec i a ha (j + 1)
        have l2 := t3.length
        rw [List.length_append, List.length_map] at l2
        have l3 : ((f a).take (j + 1)).length = ((f a).take j).length + 1 := by rw [List.take_add_one, hb, List.length_append]; rfl
        have : (fl as).length < sizeLine := hz
        omega
      · rw [tk1, ← List.append_assoc]
        exact (t3.imp fun u b hb => RpK.monoK (kp_lst sD) (Rp.mono sT hb)).append ⟨RpK.monoK (kp_lst sD) hv, trivial⟩
    · obtain ⟨t1, zs, t2, t3⟩ := r
      rw [List.take_length, ← tk] at t3
      refine ⟨?_, zs, t2, t3⟩
      exact (same_dl b6 hD).trans t1
  · obtain ⟨r1, ys, r2, r4⟩ := r
    refine q (.ref D) H' (s2.trans r1) ⟨D, ys, rfl, r2, ?_⟩
    rw [List.take_length] at r4
    exact r4
end
end Cf
set_option Elab.async false
set_option linter.all false
set_option maxRecDepth 100000
set_option maxHeartbeats 4000000
namespace Cf
open PySem PySem.Spec PyProof.Rows L2 Cs
local macro_rules | `(tactic| walk_at "lf") => `(tactic| first
  | assumption
  | exact rfl
  | exact Rp.mono (by assumption) (by assumption)
  | exact Rp.mono (Same.trans (by assumption) (by assumption)) (by assumption)
  | exact RpK.monoK (by assumption) (by assumption))
local macro_rules | `(tactic| walk_at "ev") => `(tactic| first
  | with_reducible exact ev_int
  | with_reducible exact ev_bl
  | with_reducible exact ev_fill
  | with_reducible exact ev_drop
  | with_reducible exact ev_str
  | ((with_reducible refine' ev_var ?hs ?hv); (case hs => exact rfl); (case hv => walk_at "lf"))
  | ((with_reducible refine' ev_opI ?ha ?hb); (case ha => walk_at "ev"); (case hb => walk_at "ev"))
  | ((with_reducible refine' ev_opB ?ha ?hb); (case ha => walk_at "ev"); (case hb => walk_at "ev"))
  | ((with_reducible refine' ev_opC ?ha ?hb ?hc); (case ha => walk_at "ev"); (case hb => walk_at "ev"); (case hc => first | assumption | skip))
  | ((with_reducible refine' ev_un ?ha); (case ha => walk_at "ev"))
  | ((with_reducible refine' ev_eqK ?ha ?hb); (case ha => walk_at "ev"); (case hb => walk_at "ev"))
  | ((with_reducible refine' ev_eqI ?ha ?hb); (case ha => walk_at "ev"); (case hb => walk_at "ev"))
  | ((with_reducible refine' ev_eqS ?ha ?hb); (case ha => walk_at "ev"); (case hb => walk_at "ev"))
  | ((with_reducible refine' ev_neK ?ha ?hb); (case ha => walk_at "ev"); (case hb => walk_at "ev"))
  | ((with_reducible refine' ev_neI ?ha ?hb); (case ha => walk_at "ev"); (case hb => walk_at "ev"))
  | ((with_reducible refine' ev_neS ?ha ?hb); (case ha => walk_at "ev"); (case hb => walk_at "ev"))
  | ((with_reducible refine' ev_tup2 ?ha ?hb); (case ha => walk_at "ev"); (case hb => walk_at "ev"))
  | ((with_reducible refine' ev_tup1 ?ha); (case ha => walk_at "ev"))
  | with_reducible exact ev_tup0
  | ((with_reducible refine' ev_fst ?ha); (case ha => walk_at "ev"))
  | ((with_reducible refine' ev_snd ?ha); (case ha => walk_at "ev"))
  | ((with_reducible refine' ev_max2 rfl ?ha ?hb); (case ha => walk_at "ev"); (case hb => walk_at "ev"))
  | ((with_reducible refine' ev_min2 rfl ?ha ?hb); (case ha => walk_at "ev"); (case hb => walk_at "ev"))
  | ((with_reducible refine' ev_abs rfl ?ha); (case ha => walk_at "ev"))
  | ((with_reducible refine' ev_intI rfl ?ha); (case ha => walk_at "ev"))
  | ((with_reducible refine' ev_intB rfl ?ha); (case ha => walk_at "ev"))
  | ((with_reducible refine' ev_len rfl ?ha); (case ha => walk_at "ev"))
  | ((with_reducible refine' ev_lenL rfl ?ha); (case ha => walk_at "ev"))
  | ((with_reducible refine' ev_tuple rfl ?ha); (case ha => walk_at "ev"))
  | ((with_reducible refine' ev_sum ?ha); (case ha => walk_at "ev"))
  | ((with_reducible refine' ev_chain ?ha ?hb ?hc); (case ha => walk_at "ev"); (case hb => walk_at "ev"); (case hc => walk_at "ev"))
  | ((with_reducible refine' et_test ?ha); (case ha => walk_at "ev"))
  | ((with_reducible refine' et_B ?ha); (case ha => walk_at "ev"))
  | ((with_reducible refine' et_not ?ha); (case ha => walk_at "ev"))
  | ((with_reducible refine' ev_not ?ha); (case ha => walk_at "ev"))
  | ((with_reducible refine' et_and ?ha ?hb); (case ha => walk_at "ev"); (case hb => intro _; walk_at "ev"))
  | ((with_reducible refine' et_or ?ha ?hb); (case ha => walk_at "ev"); (case hb => intro _; walk_at "ev"))
  | ((with_reducible refine' ev_and ?ha ?hb); (case ha => walk_at "ev"); (case hb => intro _; walk_at "ev"))
  | ((with_reducible refine' ev_or ?ha ?hb); (case ha => walk_at "ev"); (case hb => intro _; walk_at "ev"))
  | ((with_reducible refine' ev_call1 ?ha ?hp); (case ha => walk_at "ev"); (case hp => first | assumption | trivial))
  | ((with_reducible refine' ev_call2 ?ha ?hb ?hp); (case ha => walk_at "ev"); (case hb => walk_at "ev"); (case hp => first | assumption | trivial))
  | ((with_reducible refine' ev_call3 ?ha ?hb ?hc ?hp); (case ha => walk_at "ev"); (case hb => walk_at "ev"); (case hc => walk_at "ev"); (case hp => first | assumption | trivial)))
variable {P : Program} {w : World} {K : PySem.W.Frag} {mg : Str → Option Value} {base : Heap}
theorem rsz2 {k : Int} (h0 : 0 ≤ k) : Builtin.Range.rangeSize 0 (2 * k) 2 = k := by
  unfold Builtin.Range.rangeSize
  rw [if_pos (by decide)]
  split <;> omega
theorem small2 {k : Int} (h0 : 0 ≤ k) (h : k ≤ 100000) : Builtin.Range.small 0 (2 * k) 2 = true := by
  unfold Builtin.Range.small
  rw [rsz2 h0]
  unfold Builtin.Range.rangeFitsLong
  rw [if_pos (show (2 : Int) > 0 by decide)]
  simp only [Bool.and_eq_true, Bool.or_eq_true, decide_eq_true_eq]
  omega
theorem rgc2 {n : Nat} (h : n ≤ 100000) : RgC 0 (2 * (n : Int)) 2 n := ⟨by decide, by decide, small2 (by omega) (by omega), rsz2 (by omega)⟩
abbrev inB : List Sn → List Sn → List Sn := CM.inB
theorem inB_end1 {X Y : List Sn} {i : Nat} (h : X.length ≤ i) : inB (X.drop i) Y = [] := by
  rw [List.drop_eq_nil_of_le h]
  exact CM.inB_nil1 _
theorem inB_end2 {X Y : List Sn} {j : Nat} (h : Y.length ≤ j) : inB X (Y.drop j) = [] := by
  rw [List.drop_eq_nil_of_le h]
  exact CM.inB_nil2 _
theorem sc_in_both : FnScope ["mine", "its", "found", "one", "other", "first", "behind"] ["mine", "its"] (defScope s_in_both) := ⟨rfl, rfl, rfl, by decide +kernel, rfl, by decide +kernel, by decide +kernel⟩
theorem F_in_both (T : Tx w K mg) : Fn P w K mg base 1 d_in_both ["mine", "its"] (Pure2 (fun (u v : List Sn) => u.length ≤ 2000 ∧ v.length ≤ 2000) inB) := by
  refine mk_pure2 T.f_in_both sc_in_both (fun _ _ _ _ _ _ _ _ => rfl) (fun cdv A outer s H Q E hr v v1 a b hv h1 ha kk => ⟨_, (pss_cons (ps_set (i := 2) sc_in_both.nd rfl (Or.inl rfl) (pe_lst pa_nil))
  (pss_cons (ps_asg (pe_tup (pa_cons pe_int (pa_cons pe_int pa_nil))) (pg_tup rfl (pgs_cons (pg_name (i := 3) sc_in_both.nd rfl (Or.inl rfl)) (pgs_cons (pg_name (i := 4) sc_in_both.nd rfl (Or.inl rfl)) pgs_nil))))
  (pss_cons (ps_while PassesOwn.never (PW.pt (pw_and (pt_cmpR op_lt (pv 3) (pe_callB call_len_seq (by rfl) T.b_len PySem.boot_len (pa_cons (pv 0) pa_nil)) (nomark _)) (pw_and1 (pt_cmpR op_lt (pv 4) (pe_callB call_len_seq (by rfl) T.b_len PySem.boot_len (pa_cons (pv 1) pa_nil)) (nomark _)))))
  (pss_cons (ps_par (i := 5) (j := 6) (by rfl) sc_in_both.nd rfl rfl (by decide) rfl rfl (pa_cons (pe_callB (call_max2 rfl) (by rfl) T.b_max (by decide +kernel) (pa_cons (pe_ix ix_tup (pe_ix ix_tup (pv 0) (pv 3) (fun _ _ => rfl)) pe_int (fun _ _ => rfl)) (pa_cons (pe_ix ix_tup (pe_ix ix_tup (pv 1) (pv 4) (fun _ _ => rfl)) pe_int (fun _ _ => rfl)) pa_nil))) (pa_cons (pe_callB (call_min2 rfl) (by rfl) T.b_min (by decide +kernel) (pa_cons (pe_ix ix_tup (pe_ix ix_tup (pv 0) (pv 3) (fun _ _ => rfl)) pe_int (fun _ _ => rfl)) (pa_cons (pe_ix ix_tup (pe_ix ix_tup (pv 1) (pv 4) (fun _ _ => rfl)) pe_int (fun _ _ => rfl)) pa_nil))) pa_nil)) (by rfl))
  (pss_cons (ps_if (pt_cmpR op_lt (pv 5) (pv 6) (nomark _))
  (pss_one (ps_expr (pe_bm PySem.F.plainAttrs_list PySem.F.slot_list_append PySem.F.type_list_append mt_append (pv 2) (pa_cons (pe_tup (pa_cons (pv 5) (pa_cons (pv 6) pa_nil))) pa_nil))))
  pss_nil)
  (pss_one (ps_if (pt_cmpR op_lt (pe_ix ix_tup (pe_ix ix_tup (pv 0) (pv 3) (fun _ _ => rfl)) pe_int (fun _ _ => rfl)) (pe_ix ix_tup (pe_ix ix_tup (pv 1) (pv 4) (fun _ _ => rfl)) pe_int (fun _ _ => rfl)) (nomark _))
  (pss_one (ps_set (i := 3) sc_in_both.nd rfl (Or.inl rfl) (pe_op op_add (pv 3) pe_int)))
  (pss_one (ps_set (i := 4) sc_in_both.nd rfl (Or.inl rfl) (pe_op op_add (pv 4) pe_int))))))))
  (pss_one (ps_ret (pe_callTy call_tuple_of (by rfl) T.b_tuple (by decide +kernel) (pa_cons (pv 2) pa_nil))))))), ?_⟩)
  refine s_newL fun l H1 hl e1 s1 => ?_
  have L1 : Lat H1 l ([] : List Sn) := by rw [e1]; exact Lat.new
  refine q_asgP (p := ((0 : Int), (0 : Int))) (by walk_at "ev") fun v5 v6 H2 s2 hv5 hv6 => ?_
  obtain rfl : v5 = .int 0 := hv5
  obtain rfl : v6 = .int 0 := hv6
  obtain ⟨ys0, hy0⟩ := (L1.up s2).at
  have hv2 := Rp.mono (s1.trans s2) hv
  have h12 := Rp.mono (s1.trans s2) h1
  refine q_while (W := fun m σ' H' => ∃ (y5 y6 : Option V) (i j : Nat) (found : List Sn), σ' = [some v, some v1, some (.ref l), some (.int i), some (.int j), y5, y6] ∧ Lat H' l found ∧ Same (dl H2 l) H' ∧ i ≤ a.length ∧ j ≤ b.length ∧ m = (a.length - i) + (b.length - j) ∧ found.length + m ≤ 4000 ∧ found ++ inB (a.drop i) (b.drop j) = inB a b)
    ⟨_, none, none, 0, 0, [], rfl, L1.up s2, dl_sub _ _, Nat.zero_le _, Nat.zero_le _, rfl, by show 0 + _ ≤ 4000; omega, rfl⟩ ?_
  rintro m σ' H' ⟨y5, y6, i, j, found, rfl, L0, sd, hi, hj, rfl, hz, hf⟩
  have kp := kp_dl hy0 sd
  have hv3 := RpK.monoK kp hv2
  have h13 := RpK.monoK kp h12
  refine ⟨decide (i < a.length ∧ j < b.length), (show EtR _ _ _ (decide ((i : Int) < (a.length : Int)) && decide ((j : Int) < (b.length : Int))) by
    refine et_and ?_ fun _ => ?_
    · exact et_B (ev_opB (ev_var rfl rfl) (by walk_at "ev"))
    · exact et_B (ev_opB (ev_var rfl rfl) (by walk_at "ev"))).eq (by simp), fun c H3 s3 => ?_, fun c H3 s3 => ?_⟩
  · have c := of_decide_eq_true c
    have hx : a[i]? = some a[i] := List.getElem?_eq_getElem c.1
    have hy : b[j]? = some b[j] := List.getElem?_eq_getElem c.2
    have dx := drop_cons hx
    have dy := drop_cons hy
    generalize a[i] = x at hx dx
    generalize b[j] = y at hy dy
    have hv4 := Rp.mono s3 hv3
    have h14 := Rp.mono s3 h13
    rw [dx, dy] at hf
    have ex : ∀ {σ : L2.St} {H5 : Hp}, Same H3 H5 → σ[0]? = some (some v) → σ[3]? = some (some (.int i)) → EvR (tOp (rIxT K) (tVar 0) (tVar 3)) σ H5 x := fun s e1 e2 => ev_ixT (n := i) (ev_var e1 (Rp.mono s hv4)) (ev_var e2 rfl) rfl hx
    have ey : ∀ {σ : L2.St} {H5 : Hp}, Same H3 H5 → σ[1]? = some (some v1) → σ[4]? = some (some (.int j)) → EvR (tOp (rIxT K) (tVar 1) (tVar 4)) σ H5 y := fun s e1 e2 => ev_ixT (n := j) (ev_var e1 (Rp.mono s h14)) (ev_var e2 rfl) rfl hy
    refine q_par (a := max x.1 y.1) (b := min x.2 y.2) (ev_max2 rfl (ev_fst (ex (Same.refl _) rfl rfl)) (ev_fst (ey (Same.refl _) rfl rfl))) (ev_min2 rfl (ev_snd (ex (Same.refl _) rfl rfl)) (ev_snd (ey (Same.refl _) rfl rfl))) fun v7 v8 H4 s4 hv7 hv8 => ?_
    obtain rfl : v7 = .int _ := hv7
    obtain rfl : v8 = .int _ := hv8
    have L4 := (L0.up s3).up s4
    have tail : ∀ (H5 : Hp) (found' : List Sn), Lat H5 l found' → Same (dl H4 l) H5 → Kp H4 H5 → found'.length ≤ found.length + 1 → found' = found ++ (if max x.1 y.1 < min x.2 y.2 then [(max x.1 y.1, min x.2 y.2)] else []) →
      tIfS (tB (tOp (rI0 fun i j => V.bl (decide (i < j))) (tOp (rIxT K) (tOp (rIxT K) (tVar 0) (tVar 3)) (tC (.int 1))) (tOp (rIxT K) (tOp (rIxT K) (tVar 1) (tVar 4)) (tC (.int 1))))) (tAsg (tOp (rI0 fun i j => V.int (i + j)) (tVar 3) (tC (.int 1))) (gName 3)) (tAsg (tOp (rI0 fun i j => V.int (i + j)) (tVar 4) (tC (.int 1))) (gName 4))
      { ({ nx := fun _ H' => Q .non H', rt := Q } : Ends) with nx := fun σ'' H'' => ∃ m', m' < (a.length - i) + (b.length - j) ∧ ∃ (y5 y6 : Option V) (i j : Nat) (found : List Sn), σ'' = [some v, some v1, some (.ref l), some (.int i), some (.int j), y5, y6] ∧ Lat H'' l found ∧ Same (dl H2 l) H'' ∧ i ≤ a.length ∧ j ≤ b.length ∧ m' = (a.length - i) + (b.length - j) ∧ found.length + m' ≤ 4000 ∧ found ++ inB (a.drop i) (b.drop j) = inB a b }
      [some v, some v1, some (.ref l), some (.int i), some (.int j), some (.int (max x.1 y.1)), some (.int (min x.2 y.2))] H5 := fun H5 found' L5 sd5 kp5 hz5 hf5 => by
      have hv5 := RpK.monoK kp5 (Rp.mono s4 hv4)
      have h15 := RpK.monoK kp5 (Rp.mono s4 h14)
      have sdd : Same (dl H2 l) H5 := (sd.trans s3).trans s4 |> fun z => dl_trans z sd5
      refine s_ifP (p := x.2 < y.2) (et_B (ev_opB (ev_snd (ev_ixT (n := i) (ev_var rfl hv5) (ev_var rfl rfl) rfl hx)) (ev_snd (ev_ixT (n := j) (ev_var rfl h15) (ev_var rfl rfl) rfl hy)))) (fun c2 H6 s6 => ?_) (fun c2 H6 s6 => ?_)
      · refine s_asg (a := (i : Int) + 1) (ev_opI (ev_var rfl rfl) ev_int) fun v9 H7 s7 hv9 => ?_
        obtain rfl : v9 = .int _ := hv9
        refine ⟨_, ?_, _, _, i + 1, j, found', rfl, (L5.up s6).up s7, (sdd.trans s6).trans s7, c.1, hj, rfl, ?_, ?_⟩
        · have := c.1; omega
        · have := c.1; omega
        · rw [← hf, hf5, List.append_assoc, dy]
          exact congrArg (found ++ ·) (CM.inB_lt c2).symm
      · refine s_asg (a := (j : Int) + 1) (ev_opI (ev_var rfl rfl) ev_int) fun v9 H7 s7 hv9 => ?_
        obtain rfl : v9 = .int _ := hv9
        refine ⟨_, ?_, _, _, i, j + 1, found', rfl, (L5.up s6).up s7, (sdd.trans s6).trans s7, hi, c.2, rfl, ?_, ?_⟩
        · have := c.2; omega
        · have := c.2; omega
        · rw [← hf, hf5, List.append_assoc, dx]
          exact congrArg (found ++ ·) (CM.inB_ge c2).symm
    refine q_ifP (p := max x.1 y.1 < min x.2 y.2) (et_B (ev_opB (ev_var rfl rfl) (ev_var rfl rfl))) (fun c3 H5 s5 => ?_) (fun c3 H5 s5 => ?_)
    · refine s_appL rfl (L4.up s5) (a := ((max x.1 y.1, min x.2 y.2) : Sn)) (ev_tup2 (ev_var rfl rfl) (ev_var rfl rfl)) (small_line (by omega)) fun H6 L6 sd6 kp6 => ?_
      exact tail H6 _ L6 ((dl_mono s5).trans sd6) ((kp_of s5).trans kp6) (by simp) (by rw [if_pos c3])
    · exact tail H5 _ (L4.up s5) ((dl_sub _ _).trans s5) (kp_of s5) (by omega) (by rw [if_neg c3, List.append_nil])
  · have c := of_decide_eq_false c
    have ef : found = inB a b := by
      rw [← hf]
      by_cases c1 : a.length ≤ i
      · rw [inB_end1 c1, List.append_nil]
      · rw [inB_end2 (by omega), List.append_nil]
    have L3 := L0.up s3
    have hH : Same H H3 := ((same_dl (s1.trans s2) hl).trans sd).trans s3
    exact s_ret (a := inB a b) ((ev_tuple rfl (ev_var rfl L3.is)).eq ef) fun u H4 s4 hu => kk _ _ (hH.trans s4) hu
end Cf
set_option Elab.async false
set_option linter.all false
set_option maxRecDepth 100000
set_option maxHeartbeats 4000000
/-! What is left over; rows. -/
namespace Cf
open PySem PySem.Spec PyProof.Rows L2 Cs
local macro_rules | `(tactic| walk_at "lf") => `(tactic| first
  | assumption
  | exact rfl
  | exact Rp.mono (by assumption) (by assumption)
  | exact Rp.mono (Same.trans (by assumption) (by assumption)) (by assumption)
  | exact RpK.monoK (by assumption) (by assumption))
local macro_rules | `(tactic| walk_at "ev") => `(tactic| first
  | with_reducible exact ev_int
  | with_reducible exact ev_bl
  | with_reducible exact ev_fill
  | with_reducible exact ev_drop
  | with_reducible exact ev_str
  | ((with_reducible refine' ev_var ?hs ?hv); (case hs => exact rfl); (case hv => walk_at "lf"))
  | ((with_reducible refine' ev_opI ?ha ?hb); (case ha => walk_at "ev"); (case hb => walk_at "ev"))
  | ((with_reducible refine' ev_opB ?ha ?hb); (case ha => walk_at "ev"); (case hb => walk_at "ev"))
  | ((with_reducible refine' ev_opC ?ha ?hb ?hc); (case ha => walk_at "ev"); (case hb => walk_at "ev"); (case hc => first | assumption | skip))
  | ((with_reducible refine' ev_un ?ha); (case ha => walk_at "ev"))
  | ((with_reducible refine' ev_eqK ?ha ?hb); (case ha => walk_at "ev"); (case hb => walk_at "ev"))
  | ((with_reducible refine' ev_eqI ?ha ?hb); (case ha => walk_at "ev"); (case hb => walk_at "ev"))
  | ((with_reducible refine' ev_eqS ?ha ?hb); (case ha => walk_at "ev"); (case hb => walk_at "ev"))
  | ((with_reducible refine' ev_neK ?ha ?hb); (case ha => walk_at "ev"); (case hb => walk_at "ev"))
  | ((with_reducible refine' ev_neI ?ha ?hb); (case ha => walk_at "ev"); (case hb => walk_at "ev"))
  | ((with_reducible refine' ev_neS ?ha ?hb); (case ha => walk_at "ev"); (case hb => walk_at "ev"))
  | ((with_reducible refine' ev_tup2 ?ha ?hb); (case ha => walk_at "ev"); (case hb => walk_at "ev"))
  | ((with_reducible refine' ev_tup1 ?ha); (case ha => walk_at "ev"))
  | with_reducible exact ev_tup0
  | ((with_reducible refine' ev_fst ?ha); (case ha => walk_at "ev"))
  | ((with_reducible refine' ev_snd ?ha); (case ha => walk_at "ev"))
  | ((with_reducible refine' ev_max2 rfl ?ha ?hb); (case ha => walk_at "ev"); (case hb => walk_at "ev"))
  | ((with_reducible refine' ev_min2 rfl ?ha ?hb); (case ha => walk_at "ev"); (case hb => walk_at "ev"))
  | ((with_reducible refine' ev_abs rfl ?ha); (case ha => walk_at "ev"))
  | ((with_reducible refine' ev_intI rfl ?ha); (case ha => walk_at "ev"))
  | ((with_reducible refine' ev_intB rfl ?ha); (case ha => walk_at "ev"))
  | ((with_reducible refine' ev_len rfl ?ha); (case ha => walk_at "ev"))
  | ((with_reducible refine' ev_lenL rfl ?ha); (case ha => walk_at "ev"))
  | ((with_reducible refine' ev_tuple rfl ?ha); (case ha => walk_at "ev"))
  | ((with_reducible refine' ev_sum ?ha); (case ha => walk_at "ev"))
  | ((with_reducible refine' ev_chain ?ha ?hb ?hc); (case ha => walk_at "ev"); (case hb => walk_at "ev"); (case hc => walk_at "ev"))
  | ((with_reducible refine' et_test ?ha); (case ha => walk_at "ev"))
  | ((with_reducible refine' et_B ?ha); (case ha => walk_at "ev"))
  | ((with_reducible refine' et_not ?ha); (case ha => walk_at "ev"))
  | ((with_reducible refine' ev_not ?ha); (case ha => walk_at "ev"))
  | ((with_reducible refine' et_and ?ha ?hb); (case ha => walk_at "ev"); (case hb => intro _; walk_at "ev"))
  | ((with_reducible refine' et_or ?ha ?hb); (case ha => walk_at "ev"); (case hb => intro _; walk_at "ev"))
  | ((with_reducible refine' ev_and ?ha ?hb); (case ha => walk_at "ev"); (case hb => intro _; walk_at "ev"))
  | ((with_reducible refine' ev_or ?ha ?hb); (case ha => walk_at "ev"); (case hb => intro _; walk_at "ev"))
  | ((with_reducible refine' ev_call1 ?ha ?hp); (case ha => walk_at "ev"); (case hp => first | assumption | trivial))
  | ((with_reducible refine' ev_call2 ?ha ?hb ?hp); (case ha => walk_at "ev"); (case hb => walk_at "ev"); (case hp => first | assumption | trivial))
  | ((with_reducible refine' ev_call3 ?ha ?hb ?hc ?hp); (case ha => walk_at "ev"); (case hb => walk_at "ev"); (case hc => walk_at "ev"); (case hp => first | assumption | trivial)))
variable {P : Program} {w : World} {K : PySem.W.Frag} {mg : Str → Option Value} {base : Heap}
/-! ### == of data -/
/-- pairs of ints as data -/
def snD (p : Sn) : PyData := .tuple [.int p.1, .int p.2]
theorem dp_sn {H : Hp} {v : V} {p : Sn} (h : Rp.is H v p) : Dp K H v (snD p) := by
  obtain ⟨q, x, y, e, h1, h2, h3⟩ := h
  rw [e]
  have e2 : x = .int p.1 := h2
  have e3 : y = .int p.2 := h3
  rw [e2, e3] at h1
  exact .tup (SqT.of h1) (.cons (.int _) (.cons (.int _) .nil))
theorem dp_sns {H : Hp} : ∀ {vs : List V} {as : List Sn}, All2 (Rp.is H) vs as → DpAll K H vs (as.map snD)
  | [], [], _ => .nil
  | _ :: _, _ :: _, q => .cons (dp_sn q.1) (dp_sns q.2)
  | [], _ :: _, q => q.elim
  | _ :: _, [], q => q.elim
theorem lay_sns : ∀ as : List Sn, PyData.canLayAll0 (as.map snD) = true
  | [] => by simp [PyData.canLayAll0]
  | a :: as => by simp [PyData.canLayAll0, snD, PyData.canLay0, lay_sns as]
theorem dep_sns : ∀ as : List Sn, PyData.depthAll (as.map snD) ≤ 1
  | [] => by simp [PyData.depthAll]
  | a :: as => by
    have h1 := dep_sns as
    simp only [List.map_cons, PyData.depthAll, snD, PyData.depth]
    omega
theorem sns_shaped (as : List Sn) : SeqAt.shaped (.tuple (as.map snD)) = true := by
  have h1 := dep_sns as
  have h2 : PyData.depth (.tuple (as.map snD)) ≤ 64 := by
    simp only [PyData.depth]
    omega
  show (PyData.canLay0 (.tuple (as.map snD)) && decide (PyData.depth (.tuple (as.map snD)) ≤ 64)) = true
  rw [Bool.and_eq_true]
  exact ⟨by simp only [PyData.canLay0]; exact lay_sns as, decide_eq_true h2⟩
section
variable {σ : L2.St} {H : Hp} {ta tb te : TE}
/-- a tuple of spans == () -/
theorem ev_eqNil {as : List Sn} (ha : EvR ta σ H as) : EvR (tOp (rEqD K) ta (tTup tNil)) σ H (as.isEmpty) := fun H1 s Q q => ha H1 s _ fun v H2 s2 hv => ⟨Nat.zero_le _, fun p hp => by
  have s3 : Same H2 (upd H2 p (.tup [])) := same_new hp
  obtain ⟨a, xs, e, h1, h2⟩ := Rp.mono s3 hv
  refine ⟨.tuple (as.map snD), .tuple [], by rw [e]; exact .tup (SqT.of h1) (dp_sns h2), .tup (SqT.of upd_same) .nil, sns_shaped as, sns_shaped [], q _ _ (s2.trans s3) ?_⟩
  show V.bl _ = V.bl _
  cases as with
  | nil => simp only [List.map_nil, PyData.eqv, PyData.eqvAll, List.isEmpty_nil]
  | cons x r => simp only [List.map_cons, PyData.eqv, PyData.eqvAll, List.isEmpty_cons]⟩
end
/-! ### left_over -/
def leftM (X Y : List Sn) : List Sn := CM.leftM X Y
def edgesL (a : Int) (Y : List Sn) (b : Int) : List Int := [a] ++ (Y.flatMap fun y => [y.1, y.2]) ++ [b]
theorem edges_len (a b : Int) (Y : List Sn) : (edgesL a Y b).length = 2 * (Y.length + 1) := by
  unfold edgesL
  rw [List.length_append, List.length_append]
  have : (Y.flatMap fun y => [y.1, y.2]).length = 2 * Y.length := by
    induction Y with
    | nil => rfl
    | cons y r ih =>
      rw [List.flatMap_cons, List.length_append, ih]
      show 2 + 2 * r.length = 2 * (r.length + 1)
      omega
  rw [this]
  show 1 + 2 * Y.length + 1 = _
  omega
theorem edges_cons (a b : Int) (y : Sn) (r : List Sn) : edgesL a (y :: r) b = a :: y.1 :: edgesL y.2 r b := rfl
theorem gaps_edges : ∀ (Y : List Sn) (a b : Int), (List.range (Y.length + 1)).map (fun k => ((edgesL a Y b).getD (2 * k) 0, (edgesL a Y b).getD (2 * k + 1) 0)) = CM.gapsF a Y b
  | [], a, b => rfl
  | y :: r, a, b => by
    rw [List.length_cons, List.range_succ_eq_map, List.map_cons, List.map_map]
    show (a, y.1) :: _ = (a, y.1) :: CM.gapsF y.2 r b
    rw [← gaps_edges r y.2 b]
    refine congrArg (List.cons _) (List.map_congr_left fun k _ => ?_)
    show ((a :: y.1 :: edgesL y.2 r b).getD (2 * (k + 1)) 0, (a :: y.1 :: edgesL y.2 r b).getD (2 * (k + 1) + 1) 0) = _
    rw [show 2 * (k + 1) = 2 * k + 1 + 1 by omega, List.getD_cons_succ, List.getD_cons_succ, List.getD_cons_succ, List.getD_cons_succ]
theorem free_edges (Y : List Sn) (a b : Int) : (((stepped 0 2 (Y.length + 1)).filter fun k => decide ((edgesL a Y b).getD k.toNat 0 < (edgesL a Y b).getD (k.toNat + 1) 0)).map fun k => ((edgesL a Y b).getD k.toNat 0, (edgesL a Y b).getD (k.toNat + 1) 0)) = CM.freeF a Y b := by
  unfold CM.freeF
  rw [← gaps_edges Y a b]
  have e : (fun k : Int => decide ((edgesL a Y b).getD k.toNat 0 < (edgesL a Y b).getD (k.toNat + 1) 0)) = (fun p : Sn => decide (p.1 < p.2)) ∘ fun k : Int => ((edgesL a Y b).getD k.toNat 0, (edgesL a Y b).getD (k.toNat + 1) 0) := rfl
  rw [e, ← List.filter_map]
  unfold stepped
  rw [List.map_map]
  congr 1
  refine List.map_congr_left fun k _ => ?_
  show ((edgesL a Y b).getD (0 + (k : Int) * 2).toNat 0, (edgesL a Y b).getD ((0 + (k : Int) * 2).toNat + 1) 0) = _
  rw [show (0 + (k : Int) * 2).toNat = 2 * k by omega]
theorem getD_get {l : List Int} {n : Nat} (h : n < l.length) : l[n]? = some (l.getD n 0) := by
  rw [List.getElem?_eq_getElem h, List.getD_eq_getElem?_getD, List.getElem?_eq_getElem h]
  rfl
theorem freeF_len (a b : Int) (Y : List Sn) : (CM.freeF a Y b).length ≤ Y.length + 1 := by
  rw [← free_edges, List.length_map]
  refine Nat.le_trans (List.length_filter_le _ _) ?_
  rw [stepped_len]
  exact Nat.le_refl _
theorem last_ix {l : List Sn} {x : Sn} (h : l.getLast? = some x) {te : TE} {σ : L2.St} {H : Hp} (ht : EvR te σ H l) : EvR (tOp (rIxT K) te (tUn (rU fun i => .int (-i)) (tC (.int 1)))) σ H x := ev_lastT ht h
theorem sc_left_over : FnScope ["mine", "its", "edges", "pair", "edge", "free", "at"] ["mine", "its"] (defScope s_left_over) := ⟨rfl, rfl, rfl, by decide +kernel, rfl, by decide +kernel, by decide +kernel⟩
theorem F_left_over (T : Tx w K mg) : Fn P w K mg base 2 d_left_over ["mine", "its"] (Pure2 (fun (u v : List Sn) => u.length ≤ 1000 ∧ v.length ≤ 1000) leftM) := by
  have F_in_both : Fn P w K mg base 1 d_in_both ["mine", "its"] _ := F_in_both T
  refine mk_pure2 T.f_left_over sc_left_over (fun _ _ _ _ _ _ _ _ => rfl) (fun cdv A outer s H Q E hr v v1 X Y hv h1 ha kk => ⟨_, (pss_cons (ps_if (pt_cmpR op_eq (pe_callB call_len_seq (by rfl) T.b_len PySem.boot_len (pa_cons (pv 0) pa_nil)) pe_int (nomark _))
  (pss_one (ps_ret (pe_tup pa_nil)))
  pss_nil)
  (pss_cons (ps_set (i := 2) sc_left_over.nd rfl (Or.inr rfl) (pe_op op_cat (pe_op op_cat (pe_lst (pa_cons (pe_ix ix_tup (pe_ix ix_tup (pv 0) pe_int (fun _ _ => rfl)) pe_int (fun _ _ => rfl)) pa_nil)) (pe_lc2 (own := [("pair", 3), ("edge", 4)]) (vs1 := [4]) (g := (gName 3)) (g1 := (gName 4)) rfl sc_left_over.nd (pi_tup (pv 1)) (blkOk_by (own := [("pair", 3), ("edge", 4)]) (N := ["mine", "its", "edges", "pair", "edge", "free", "at"]) (sc := defScope s_left_over) (by decide +kernel)) (by decide) (fun _ _ _ _ _ => (pg_name (i := 3) sc_left_over.nd rfl (Or.inl rfl))) (fun _ _ _ _ _ => pts_nil) (fun _ _ _ _ _ => (pi_tupK (K := K) rfl (pv 3))) (fun _ _ _ _ _ => (pg_name (i := 4) sc_left_over.nd rfl (Or.inl rfl))) (fun _ _ _ _ _ => pts_nil) (fun _ _ _ _ _ => (pv 4)))) (pe_lst (pa_cons (pe_ix ix_tup (pe_ix ix_tup (pv 0) (pe_un un_neg pe_int) (fun _ _ => rfl)) pe_int (fun _ _ => rfl)) pa_nil))))
  (pss_cons (ps_setLc (i := 5) (own := [("at", 6)]) (g := (gName 6)) rfl sc_left_over.nd rfl rfl (by rfl) (pi_range3 (by rfl) T.b_range (pa_cons pe_int (pa_cons (pe_callB call_len_seq (by rfl) T.b_len PySem.boot_len (pa_cons (pv 2) pa_nil)) (pa_cons pe_int pa_nil)))) (blkOk_by (own := [("at", 6)]) (N := ["mine", "its", "edges", "pair", "edge", "free", "at"]) (sc := defScope s_left_over) (by decide +kernel)) (fun _ _ _ _ _ => (pg_name (i := 6) sc_left_over.nd rfl (Or.inl rfl))) (fun _ _ _ _ _ => (pts_one (pt_cmpR op_lt (pe_ix (ix_listK (K := K) rfl) (pv 2) (pv 6) (fun _ _ => rfl)) (pe_ix (ix_listK (K := K) rfl) (pv 2) (pe_op op_add (pv 6) pe_int) (fun _ _ => rfl)) (nomark _)))) (fun _ _ _ _ _ => (pe_tup (pa_cons (pe_ix (ix_listK (K := K) rfl) (pv 2) (pv 6) (fun _ _ => rfl)) (pa_cons (pe_ix (ix_listK (K := K) rfl) (pv 2) (pe_op op_add (pv 6) pe_int) (fun _ _ => rfl)) pa_nil)))))
  (pss_one (ps_ret (pe_fn F_in_both (hr.mono (by decide)) T.g_in_both (pa_cons (pv 0) (pa_cons (pe_callTy call_tuple_of (by rfl) T.b_tuple (by decide +kernel) (pa_cons (pv 5) pa_nil)) pa_nil)))))))), ?_⟩)
  cases X with
  | nil =>
    refine q_ifP (p := True) (et_B ((ev_eqI (a := ((([] : List Sn).length : Nat) : Int)) (by walk_at "ev") ev_int).eq (by rfl))) (fun _ H1 s1 => ?_) (fun c => absurd trivial c)
    exact s_ret (a := ([] : List Sn)) ev_tup0 fun u H2 s2 hu => kk _ _ (s1.trans s2) hu
  | cons x r =>
    refine q_ifP (p := False) (et_B ((ev_eqI (a := (((x :: r).length : Nat) : Int)) (by walk_at "ev") ev_int).eq (by
      rw [decide_eq_decide]
      exact ⟨fun z => by rw [List.length_cons] at z; omega, fun z => z.elim⟩))) (fun c => c.elim) (fun _ H1 s1 => ?_)
    have hv1 := Rp.mono s1 hv
    have h11 := Rp.mono s1 h1
    have hlast : (x :: r).getLast? = some ((x :: r).getLast (by simp)) := List.getLast?_eq_some_getLast (by simp)
    generalize hz : (x :: r).getLast (by simp) = z at hlast
    have fl : (Y.flatMap fun y => [y.1, y.2]).length = 2 * Y.length := by
      have e := edges_len x.1 z.2 Y
      unfold edgesL at e
      rw [List.length_append, List.length_append] at e
      have e2 : 1 + (Y.flatMap fun y => [y.1, y.2]).length + 1 = 2 * (Y.length + 1) := e
      omega
    refine q_asg (a := (⟨edgesL x.1 Y z.2⟩ : Ls Int)) (ev_cat (ev_cat (ev_lst1 (ev_fst (ev_ixT (n := 0) (ev_var rfl hv1) ev_int rfl rfl))) ((ev_lc2 (fun y : Sn => [y.1, y.2]) (fun _ (b : Int) => b) (iw_tup (by walk_at "ev")) (by
        simp only [List.map_id']
        rw [fl]
        exact small_line (by omega)) (fun y u H2 s2 hy hu => ⟨rfl, Same.refl _, fun H3 s3 l ys hl => il_tup hl (ev_var (a := [y.1, y.2]) rfl (by
          obtain ⟨q, p1, p2, e, g1, g2, g3⟩ := Rp.mono s3 hu
          exact ⟨q, [p1, p2], e, g1, g2, g3, trivial⟩)), fun b u H3 hb => ⟨rfl, Same.refl _, ev_var rfl hb⟩⟩) gm_name gm_name).eq (by simp only [List.map_id'])) (by rw [fl]; show 1 + _ ≤ sizeLine; exact Nat.le_of_lt (small_line (by omega)))) (ev_lst1 (ev_snd (last_ix hlast (ev_var rfl hv1)))) (by rw [List.length_append, fl]; show 1 + _ + 1 ≤ sizeLine; exact Nat.le_of_lt (small_line (by omega)))) fun ve H2 s2 hve => ?_
    have hE : (edgesL x.1 Y z.2).length = 2 * (Y.length + 1) := edges_len _ _ _
    refine q_asg (a := (⟨CM.freeF x.1 Y z.2⟩ : Ls Sn)) ((ev_lc (fun k : Int => decide ((edgesL x.1 Y z.2).getD k.toNat 0 < (edgesL x.1 Y z.2).getD (k.toNat + 1) 0)) (fun k => ((edgesL x.1 Y z.2).getD k.toNat 0, (edgesL x.1 Y z.2).getD (k.toNat + 1) 0)) (iw_range3 (n := Y.length + 1) ev_int ((ev_lenL rfl (ev_var rfl hve)).eq (show ((edgesL x.1 Y z.2).length : Int) = 2 * ((Y.length + 1 : Nat) : Int) by rw [hE]; omega)) ev_int (rgc2 (by omega))) (by rw [stepped_len]; exact small_line (by omega)) (fun k u H3 s3 hk hu => ?_) gm_name).eq (congrArg Ls.mk (free_edges Y x.1 z.2))) fun vf H3 s3 hvf => ?_
    · obtain ⟨m, hm, em⟩ := List.mem_map.mp hk
      have hm' := List.mem_range.mp hm
      have ek : k = ((2 * m : Nat) : Int) := by rw [← em]; omega
      obtain rfl : u = .int k := hu
      have et : k.toNat = 2 * m := by omega
      have g1 : (edgesL x.1 Y z.2)[k.toNat]? = some ((edgesL x.1 Y z.2).getD k.toNat 0) := getD_get (by omega)
      have g2 : (edgesL x.1 Y z.2)[k.toNat + 1]? = some ((edgesL x.1 Y z.2).getD (k.toNat + 1) 0) := getD_get (by omega)
      have hve3 := Rp.mono s3 hve
      have i1 : ∀ {σ : L2.St}, σ[2]? = some (some ve) → σ[6]? = some (some (.int k)) → EvR (tOp (rIxL K) (tVar 2) (tVar 6)) σ H3 ((edgesL x.1 Y z.2).getD k.toNat 0) := fun e1 e2 => ev_ixL (ev_var e1 hve3) (ev_var (a := k) e2 rfl) (by omega) g1
      have i2 : ∀ {σ : L2.St}, σ[2]? = some (some ve) → σ[6]? = some (some (.int k)) → EvR (tOp (rIxL K) (tVar 2) (tOp (rI0 fun i j => .int (i + j)) (tVar 6) (tC (.int 1)))) σ H3 ((edgesL x.1 Y z.2).getD (k.toNat + 1) 0) := fun e1 e2 => ev_ixL (ev_var e1 hve3) (ev_opI (ev_var (a := k) e2 rfl) ev_int) (by show k + 1 = _; omega) g2
      exact ⟨rfl, Same.refl _, et_B (ev_opB (i1 rfl rfl) (i2 rfl rfl)), fun _ => ev_tup2 (i1 rfl rfl) (i2 rfl rfl)⟩
    · have hv3 := Rp.mono (s2.trans s3) hv1
      have hfl := freeF_len x.1 z.2 Y
      refine s_ret (a := leftM (x :: r) Y) ((ev_call2 (ev_var rfl hv3) (ev_tuple rfl (ev_var rfl hvf)) ⟨by omega, by show (CM.freeF _ _ _).length ≤ _; omega⟩).eq ?_) fun u H4 s4 hu => kk _ _ (((s1.trans s2).trans s3).trans s4) hu
      subst hz
      rfl
end Cf
set_option Elab.async false
set_option linter.all false
set_option maxRecDepth 100000
set_option maxHeartbeats 4000000
/-! Rows, steps, pipelines as data; instances made, called, asked. -/
namespace Cf
open PySem PySem.Spec PyProof.Rows L2 Cs
/-! ### instances as data -/
structure RowO where
  sp : List Sn
instance : RpK RowO where
  is := fun H v r => ∃ a dx x, v = .ref a ∧ H a = some (.ins 422 dx [("own_spans", x)]) ∧ Rp.is H x r.sp
  mono := fun s ⟨a, dx, x, e, h, h1⟩ => ⟨a, dx, x, e, s _ _ h, Rp.mono s h1⟩
  monoK := fun s ⟨a, dx, x, e, h, h1⟩ => ⟨a, dx, x, e, s _ _ rfl h, RpK.monoK s h1⟩
abbrev Stp := CM.Stp
def kindS : Stp → Str
  | .fill _ => "fill"
  | .drop _ => "drop"
  | .widen _ _ => "widen"
  | .trim _ _ => "trim"
  | .shift _ => "shift"
def numsS : Stp → List Int
  | .fill g => [g]
  | .drop d => [d]
  | .widen a b => [a, b]
  | .trim a b => [a, b]
  | .shift n => [n]
/-- as (kind, numbers) -/
instance : RpK Stp where
  is := fun H v s => Rp.is H v ((kindS s, numsS s) : Str × List Int)
  mono := fun s h => Rp.mono (α := Str × List Int) s h
  monoK := fun s h => RpK.monoK (α := Str × List Int) s h
structure StepO where
  st : Stp
instance : RpK StepO where
  is := fun H v s => ∃ a dx x, v = .ref a ∧ H a = some (.ins 508 dx [("own_kind", .str (kindS s.st)), ("own_amounts", x)]) ∧ Rp.is H x (numsS s.st)
  mono := fun s ⟨a, dx, x, e, h, h1⟩ => ⟨a, dx, x, e, s _ _ h, Rp.mono s h1⟩
  monoK := fun s ⟨a, dx, x, e, h, h1⟩ => ⟨a, dx, x, e, s _ _ rfl h, RpK.monoK s h1⟩
structure PipeO where
  ss : List Stp
instance : RpK PipeO where
  is := fun H v p => ∃ a dx x, v = .ref a ∧ H a = some (.ins 718 dx [("own_steps", x)]) ∧ Rp.is H x (p.ss.map StepO.mk)
  mono := fun s ⟨a, dx, x, e, h, h1⟩ => ⟨a, dx, x, e, s _ _ h, Rp.mono s h1⟩
  monoK := fun s ⟨a, dx, x, e, h, h1⟩ => ⟨a, dx, x, e, s _ _ rfl h, RpK.monoK s h1⟩
/-! ### rules -/
section
variable {X : Cx} {d : DefL} {ps : List Str} {sp : Sp} {k : Nat} {x f m : Str} {e o : Expr} {es : List Expr} {t : TA} {ta : TE} {p pos apos : Pos} {C pa : Addr}
/-- a property -/
theorem pe_pr (F : Fn X.prog X.w X.K X.mg X.base k d ps sp) (hr : Room (k + 1) X.A) (c : Cls X.K C) (hp : PropOf X.K C f pa d.a) (he : PE X e ta) (hab : attributeBase e f X.env (eval e X.env) = eval e X.env := by rfl) : PE X (.Attribute e f pos) (tProp C sp [] E0 ta) := by
  obtain ⟨fd, F, b, kp, _⟩ := F
  exact pe_prop he c hp F hr b .nil pass0 hab
/-- C(e, ..) -/
theorem pe_mk (F : Fn X.prog X.w X.K X.mg X.base k d ps sp) (M : Mk X.K C d.a) (hr : Room (k + 1) X.A) (hm : X.mg x = some (.ref C)) (ha : PA X (e :: es) t) (hg : Gl X x := by rfl) (hdb : (x == ("__debug__" : Str)) = false := by decide)
    (he : starEach (e :: es) X.env = (false, eval e X.env) :: starEach es X.env := by rfl) (hpl : (backTo pos (starEach es X.env)).any (·.1) = false := by rfl) : PE X (.Call (.Name x p) (e :: es) [] pos) (tMake C sp [] E0 t) := by
  obtain ⟨fd, F, b, kp, _⟩ := F
  exact pe_make M F hr hg hm b .nil pass0 ha hdb he hpl
/-- o.m(e, ..) -/
theorem pe_me (F : Fn X.prog X.w X.K X.mg X.base k d ps sp) (hr : Room k X.A) (c : Cls X.K C) (hm : Meth X.K C m d.a) (he : PE X o ta) (ha : PA X (e :: es) t) {pl : Sem Bool} (hst : starEach (e :: es) X.env = (false, eval e X.env) :: starEach es X.env := by rfl) (hpl : (backTo pos (starEach es X.env)).any (·.1) = false := by rfl)
    (ht : eval (.Call (.Attribute o m apos) (e :: es) [] pos) X.env = (do
      let ov ← eval o X.env
      standAt apos.atName
      let (f, first) ← holding [ov] (getMethod ov m pl)
      callWith pos f first (backTo pos (starEach (e :: es) X.env)) (backToKw pos (keywordEach [] X.env))) := by rfl) :
    PE X (.Call (.Attribute o m apos) (e :: es) [] pos) (tMeth C m sp [] E0 ta t) := by
  obtain ⟨fd, F, b, kp, _⟩ := F
  exact pe_meth he c hm F hr b .nil pass0 ha hst hpl ht
/-- an instance called -/
def tCo (C : Addr) (sp : Sp) (tf : TE) (t : TA) : TE := fun σ H Q => tf σ H fun y H1 => ∃ a, y = V.ref a ∧ t σ H1 fun vs H2 => ((∃ dx vs, SlX.Slt H2 a C dx vs) ∨ ∃ dx fs, H2 a = some (.ins C dx fs)) ∧ sp (V.ref a :: vs) H2 Q E0
theorem pe_co {tf : TE} {fe : Expr} (F : Fn X.prog X.w X.K X.mg X.base k d ps sp) (hr : Room k X.A) (c : StX.CallO X.K C d.a) (hf : PE X fe tf) (ha : PA X (e :: es) t)
    (ht : eval (.Call fe (e :: es) [] pos) X.env = (do callWith pos (← eval fe X.env) [] (backTo pos (starEach (e :: es) X.env)) (backToKw pos (keywordEach [] X.env))) := by rfl)
    (he : starEach (e :: es) X.env = (false, eval e X.env) :: starEach es X.env := by rfl) (hpl : (backTo pos (starEach es X.env)).any (·.1) = false := by rfl) : PE X (.Call fe (e :: es) [] pos) (tCo C sp tf t) := by
  obtain ⟨fd, F, b, kp, _⟩ := F
  exact StX.pe_callO (E := E0) hf c ((F.raw b .nil).imp fun vs H Q E h => by rw [List.append_nil]; exact h) hr pass0 ha ht he hpl
end
section
variable {K : PySem.W.Frag} {σ : L2.St} {H : Hp} {te ta tf : TE} {α β : Type} {D : Ends} {tz : TS} {i : Nat} {C a dx : Addr} {f : Str} {fs : List (Str × V)}
/-- self.f = e -/
theorem s_fldE [Rp α] {x : α} (h : EvR te σ H x) (hσ : σ[i]? = some (some (.ref a))) (ha : H a = some (.ins C dx fs)) (hc : Cls K C) (hn : NoAttr K C f) (hl : fs.length < 1000) (k : ∀ v H1, Same H H1 → Rp.is H1 v x → D.nx σ (upd H1 a (.ins C dx (putF f v fs)))) : sFld K (tVar i) te f D σ H :=
  h H (Same.refl _) _ fun v H1 s hv => ⟨_, hσ, a, C, dx, fs, rfl, s _ _ ha, hc, hn, hl, k v H1 s hv⟩
theorem q_fldE [Rp α] {x : α} (h : EvR te σ H x) (hσ : σ[i]? = some (some (.ref a))) (ha : H a = some (.ins C dx fs)) (hc : Cls K C) (hn : NoAttr K C f) (hl : fs.length < 1000) (k : ∀ v H1, Same H H1 → Rp.is H1 v x → tz D σ (upd H1 a (.ins C dx (putF f v fs)))) : tSeq (sFld K (tVar i) te f) tz D σ H := s_fldE (D := { D with nx := tz D }) h hσ ha hc hn hl k
theorem ev_spans {r : RowO} (hc : Cls K 422) (hn : NoAttr K 422 "own_spans") (h : EvR ta σ H r) : EvR (tFld K ta "own_spans") σ H r.sp := fun H1 s Q q => h H1 s _ fun v H2 s2 hv => by
  obtain ⟨a, dx, x, e, h1, h2⟩ := hv
  exact ⟨a, 422, dx, _, x, e, h1, hc, hn, rfl, q x H2 s2 h2⟩
theorem ev_okind {r : StepO} (hc : Cls K 508) (hn : NoAttr K 508 "own_kind") (h : EvR ta σ H r) : EvR (tFld K ta "own_kind") σ H (kindS r.st) := fun H1 s Q q => h H1 s _ fun v H2 s2 hv => by
  obtain ⟨a, dx, x, e, h1, h2⟩ := hv
  exact ⟨a, 508, dx, _, _, e, h1, hc, hn, rfl, q _ H2 s2 rfl⟩
theorem ev_oamounts {r : StepO} (hc : Cls K 508) (hn : NoAttr K 508 "own_amounts") (h : EvR ta σ H r) : EvR (tFld K ta "own_amounts") σ H (numsS r.st) := fun H1 s Q q => h H1 s _ fun v H2 s2 hv => by
  obtain ⟨a, dx, x, e, h1, h2⟩ := hv
  exact ⟨a, 508, dx, _, x, e, h1, hc, hn, by rfl, q x H2 s2 h2⟩
theorem ev_osteps {r : PipeO} (hc : Cls K 718) (hn : NoAttr K 718 "own_steps") (h : EvR ta σ H r) : EvR (tFld K ta "own_steps") σ H (r.ss.map StepO.mk) := fun H1 s Q q => h H1 s _ fun v H2 s2 hv => by
  obtain ⟨a, dx, x, e, h1, h2⟩ := hv
  exact ⟨a, 718, dx, _, x, e, h1, hc, hn, rfl, q x H2 s2 h2⟩
/-- a property read of an instance -/
theorem ev_prR [Rp β] {g : RowO → β} {pre : RowO → Prop} {r : RowO} (h : EvR ta σ H r) (hp : pre r) : EvR (tProp 422 (Pure1 pre g) [] E0 ta) σ H (g r) := fun H1 s Q q => h H1 s _ fun v H2 s2 hv => by
  obtain ⟨a, dx, x, e, h1, h2⟩ := id hv
  exact ⟨a, dx, _, e, h1, v, r, by rw [e], hv, hp, fun u H3 s3 hu => q u H3 (s2.trans s3) hu⟩
theorem ev_prS [Rp β] {g : StepO → β} {pre : StepO → Prop} {r : StepO} (h : EvR ta σ H r) (hp : pre r) : EvR (tProp 508 (Pure1 pre g) [] E0 ta) σ H (g r) := fun H1 s Q q => h H1 s _ fun v H2 s2 hv => by
  obtain ⟨a, dx, x, e, h1, h2⟩ := id hv
  exact ⟨a, dx, _, e, h1, v, r, by rw [e], hv, hp, fun u H3 s3 hu => q u H3 (s2.trans s3) hu⟩
theorem ev_prP [Rp β] {g : PipeO → β} {pre : PipeO → Prop} {r : PipeO} (h : EvR ta σ H r) (hp : pre r) : EvR (tProp 718 (Pure1 pre g) [] E0 ta) σ H (g r) := fun H1 s Q q => h H1 s _ fun v H2 s2 hv => by
  obtain ⟨a, dx, x, e, h1, h2⟩ := id hv
  exact ⟨a, dx, _, e, h1, v, r, by rw [e], hv, hp, fun u H3 s3 hu => q u H3 (s2.trans s3) hu⟩
/-- an instance made: its __init__ sets all of its fields -/
def InitOf [Rp α] [Rp β] (C : Addr) (pre : α → Prop) (f : Str) (g : α → β) : Sp := fun vs H Q _ => ∃ a dx v1 x, vs = [.ref a, v1] ∧ H a = some (.ins C dx []) ∧ Rp.is H v1 x ∧ pre x ∧ ∀ H' y, Same H H' → Rp.is H' y (g x) → Q .non (upd H' a (.ins C dx [(f, y)]))
theorem ev_mk [Rp α] [RpK β] {pre : α → Prop} {g : α → β} {γ : Type} [Rp γ] {x : α} {z : γ} (h0 : 0 ≠ nf C) (hγ : ∀ H a dx y, H a = some (.ins C dx [(f, y)]) → Rp.is H y (g x) → Rp.is H (.ref a) z) (h : EvR te σ H x) (hp : pre x) : EvR (tMake C (InitOf C pre f g) [] E0 (tCons te tNil)) σ H z := fun H1 s Q q =>
  h H1 s _ fun v H2 s2 hv => fun a dx ha hd ne => by
    have s3 : Same H2 (upd (upd H2 dx (.own a)) a (.ins C dx [])) := (same_new hd).trans (same_new (by rw [upd_ne (Ne.symm ne)]; exact ha))
    refine ⟨a, dx, v, x, rfl, upd_same, Rp.mono s3 hv, hp, fun H' y s4 hy => ⟨rfl, ?_⟩⟩
    have h4 : H' a = some (.ins C dx []) := s4 _ _ upd_same
    refine q _ _ (s2.trans (same_mut (s3.trans s4) ha)) (hγ _ a dx y upd_same (RpK.monoK (kp_ins h4 h0) hy))
/-- o.m(e) -/
theorem ev_meR [Rp α] [Rp β] {g : RowO → α → β} {pre : RowO → α → Prop} {r : RowO} {x : α} {m : Str} (hm : ((("own_spans" : Str)) == m) = false) (h : EvR ta σ H r) (hx : EvR te σ H x) (hp : pre r x) : EvR (tMeth 422 m (Pure2 pre g) [] E0 ta (tCons te tNil)) σ H (g r x) := fun H1 s Q q => h H1 s _ fun v H2 s2 hv => by
  obtain ⟨a, dx, y, e, h1, h2⟩ := id hv
  refine ⟨a, dx, _, e, h1, ?_, hx H2 (s.trans s2) _ fun u H3 s3 hu => ⟨v, u, r, x, rfl, Rp.mono s3 hv, hu, hp, fun z H4 s4 hz => q z H4 (s2.trans (s3.trans s4)) hz⟩⟩
  have hm' : (m == ("own_spans" : Str)) = false := by
    rw [beq_eq_false_iff_ne] at hm ⊢
    exact Ne.symm hm
  simp only [List.lookup, hm']
/-- a step, a pipeline called -/
theorem ev_coS [Rp α] [Rp β] {g : StepO → α → β} {pre : StepO → α → Prop} {r : StepO} {x : α} (h : EvR tf σ H r) (hx : EvR te σ H x) (hp : pre r x) : EvR (tCo 508 (Pure2 pre g) tf (tCons te tNil)) σ H (g r x) := fun H1 s Q q => h H1 s _ fun v H2 s2 hv => by
  obtain ⟨a, dx, y, e, h1, h2⟩ := id hv
  refine ⟨a, e, hx H2 (s.trans s2) _ fun u H3 s3 hu => ⟨.inr ⟨dx, _, s3 _ _ h1⟩, v, u, r, x, by rw [e], Rp.mono s3 hv, hu, hp, fun z H4 s4 hz => q z H4 (s2.trans (s3.trans s4)) hz⟩⟩
theorem ev_coP [Rp α] [Rp β] {g : PipeO → α → β} {pre : PipeO → α → Prop} {r : PipeO} {x : α} (h : EvR tf σ H r) (hx : EvR te σ H x) (hp : pre r x) : EvR (tCo 718 (Pure2 pre g) tf (tCons te tNil)) σ H (g r x) := fun H1 s Q q => h H1 s _ fun v H2 s2 hv => by
  obtain ⟨a, dx, y, e, h1, h2⟩ := id hv
  refine ⟨a, e, hx H2 (s.trans s2) _ fun u H3 s3 hu => ⟨.inr ⟨dx, _, s3 _ _ h1⟩, v, u, r, x, by rw [e], Rp.mono s3 hv, hu, hp, fun z H4 s4 hz => q z H4 (s2.trans (s3.trans s4)) hz⟩⟩
end
/-! ### a def with one default -/
section
variable {P : Program} {w : World} {K : PySem.W.Frag} {mg : Str → Option Value} {base : Heap}
theorem mk_fnD {d : DefL} {N ps : List Str} {k : Nat} {sp : Sp} {dv : V} (F : ∃ fd, FunD K d.name d.qual (defArgs d.st) (defBody d.st) (defScope d.st) [dv] [] d.a fd) (S : FnScope N ps (defScope d.st)) (hl : ps.length = 2)
    (hb : ∀ (T : Addr) (kV doc pm : Value) (an : Option Addr) (cdv ct : Value) (us its : List Value), us.length = 2 → its.length = 1 →
      ∃ k, bindArgs (PySem.W.fnOf d.name d.qual (defArgs d.st) (defBody d.st) (defScope d.st) (.ref T) kV doc pm an cdv ct) ⟨us, []⟩ = seqItems? (.ref T) >>= k ∧ k (some its.toArray) = pure (ps.zip (us ++ its.drop 1)))
    (len : ∀ vs H Q E, sp vs H Q E → vs.length = ps.length)
    (body : ∀ (cdv : Value) (A : Around) (outer : List Env) (s : Shared) (H : Hp) (vs : List V) (Q : VK) (E : XK), Room k (A.deeper (envOfC d.qual (defScope d.st) s.heap.objs.size d.a cdv)) → sp vs H Q E →
      ∃ t, PSs (cxOf CX0 P w K mg base N d.qual (defScope d.st) d.a cdv A outer s H E).nox (defBody d.st) t ∧ t { nx := fun _ H' => Q .non H', rt := Q } (start N vs) H) : Fn P w K mg base (k + 1) d ps sp := by
  obtain ⟨fd, F⟩ := F
  obtain ⟨ds, h1, h2⟩ := F.binds1 2 1 (by simp) (by rw [hl]; rfl) hb
  cases h1
  refine ⟨fd, F.ok S len fun cdv A outer s H vs Q E hr h => ?_, h2, F.kp, funD_at F⟩
  obtain ⟨t, h1, h2⟩ := body cdv A outer s H vs Q E hr h
  exact ⟨t, h1.nox, h2⟩
end
end Cf
set_option Elab.async false
set_option linter.all false
set_option maxRecDepth 100000
set_option maxHeartbeats 4000000
/-! The class Row. -/
namespace Cf
open PySem PySem.Spec PyProof.Rows L2 Cs
local macro_rules | `(tactic| walk_at "lf") => `(tactic| first
  | assumption
  | exact rfl
  | exact Rp.mono (by assumption) (by assumption)
  | exact Rp.mono (Same.trans (by assumption) (by assumption)) (by assumption)
  | exact RpK.monoK (by assumption) (by assumption))
local macro_rules | `(tactic| walk_at "ev") => `(tactic| first
  | with_reducible exact ev_int
  | with_reducible exact ev_bl
  | with_reducible exact ev_fill
  | with_reducible exact ev_drop
  | with_reducible exact ev_str
  | ((with_reducible refine' ev_var ?hs ?hv); (case hs => exact rfl); (case hv => walk_at "lf"))
  | ((with_reducible refine' ev_opI ?ha ?hb); (case ha => walk_at "ev"); (case hb => walk_at "ev"))
  | ((with_reducible refine' ev_opB ?ha ?hb); (case ha => walk_at "ev"); (case hb => walk_at "ev"))
  | ((with_reducible refine' ev_opC ?ha ?hb ?hc); (case ha => walk_at "ev"); (case hb => walk_at "ev"); (case hc => first | assumption | skip))
  | ((with_reducible refine' ev_un ?ha); (case ha => walk_at "ev"))
  | ((with_reducible refine' ev_eqK ?ha ?hb); (case ha => walk_at "ev"); (case hb => walk_at "ev"))
  | ((with_reducible refine' ev_eqI ?ha ?hb); (case ha => walk_at "ev"); (case hb => walk_at "ev"))
  | ((with_reducible refine' ev_eqS ?ha ?hb); (case ha => walk_at "ev"); (case hb => walk_at "ev"))
  | ((with_reducible refine' ev_neK ?ha ?hb); (case ha => walk_at "ev"); (case hb => walk_at "ev"))
  | ((with_reducible refine' ev_neI ?ha ?hb); (case ha => walk_at "ev"); (case hb => walk_at "ev"))
  | ((with_reducible refine' ev_neS ?ha ?hb); (case ha => walk_at "ev"); (case hb => walk_at "ev"))
  | ((with_reducible refine' ev_tup2 ?ha ?hb); (case ha => walk_at "ev"); (case hb => walk_at "ev"))
  | ((with_reducible refine' ev_tup1 ?ha); (case ha => walk_at "ev"))
  | with_reducible exact ev_tup0
  | ((with_reducible refine' ev_fst ?ha); (case ha => walk_at "ev"))
  | ((with_reducible refine' ev_snd ?ha); (case ha => walk_at "ev"))
  | ((with_reducible refine' ev_max2 rfl ?ha ?hb); (case ha => walk_at "ev"); (case hb => walk_at "ev"))
  | ((with_reducible refine' ev_min2 rfl ?ha ?hb); (case ha => walk_at "ev"); (case hb => walk_at "ev"))
  | ((with_reducible refine' ev_abs rfl ?ha); (case ha => walk_at "ev"))
  | ((with_reducible refine' ev_intI rfl ?ha); (case ha => walk_at "ev"))
  | ((with_reducible refine' ev_intB rfl ?ha); (case ha => walk_at "ev"))
  | ((with_reducible refine' ev_len rfl ?ha); (case ha => walk_at "ev"))
  | ((with_reducible refine' ev_lenL rfl ?ha); (case ha => walk_at "ev"))
  | ((with_reducible refine' ev_tuple rfl ?ha); (case ha => walk_at "ev"))
  | ((with_reducible refine' ev_sum ?ha); (case ha => walk_at "ev"))
  | ((with_reducible refine' ev_chain ?ha ?hb ?hc); (case ha => walk_at "ev"); (case hb => walk_at "ev"); (case hc => walk_at "ev"))
  | ((with_reducible refine' et_test ?ha); (case ha => walk_at "ev"))
  | ((with_reducible refine' et_B ?ha); (case ha => walk_at "ev"))
  | ((with_reducible refine' et_not ?ha); (case ha => walk_at "ev"))
  | ((with_reducible refine' ev_not ?ha); (case ha => walk_at "ev"))
  | ((with_reducible refine' et_and ?ha ?hb); (case ha => walk_at "ev"); (case hb => intro _; walk_at "ev"))
  | ((with_reducible refine' et_or ?ha ?hb); (case ha => walk_at "ev"); (case hb => intro _; walk_at "ev"))
  | ((with_reducible refine' ev_and ?ha ?hb); (case ha => walk_at "ev"); (case hb => intro _; walk_at "ev"))
  | ((with_reducible refine' ev_or ?ha ?hb); (case ha => walk_at "ev"); (case hb => intro _; walk_at "ev"))
  | ((with_reducible refine' ev_call1 ?ha ?hp); (case ha => walk_at "ev"); (case hp => first | assumption | trivial))
  | ((with_reducible refine' ev_call2 ?ha ?hb ?hp); (case ha => walk_at "ev"); (case hb => walk_at "ev"); (case hp => first | assumption | trivial))
  | ((with_reducible refine' ev_call3 ?ha ?hb ?hc ?hp); (case ha => walk_at "ev"); (case hb => walk_at "ev"); (case hc => walk_at "ev"); (case hp => first | assumption | trivial)))
variable {P : Program} {w : World} {K : PySem.W.Frag} {mg : Str → Option Value} {base : Heap}
theorem sc_Row_init : FnScope ["self", "pairs", "own", "pair"] ["self", "pairs"] (defScope s_Row_init) := ⟨rfl, rfl, rfl, by decide +kernel, rfl, by decide +kernel, by decide +kernel⟩
abbrev RowPre (X : List Sn) : Prop := X.length ≤ 1000 ∧ Asc X
def rowT (X : List Sn) : List Sn := CM.fill 0 X
def rowL (X : Ls Sn) : List Sn := CM.fill 0 X.val
theorem row_bind : ∀ (T : Addr) (kV doc pm : Value) (an : Option Addr) (cdv ct : Value) (us its : List Value), us.length = 2 → its.length = 1 →
      ∃ k, bindArgs (PySem.W.fnOf d_Row_init.name d_Row_init.qual (defArgs d_Row_init.st) (defBody d_Row_init.st) (defScope d_Row_init.st) (.ref T) kV doc pm an cdv ct) ⟨us, []⟩ = seqItems? (.ref T) >>= k ∧ k (some its.toArray) = pure ([("self" : Str), "pairs"].zip (us ++ its.drop 1)) := fun T kV doc pm an cdv ct us its h1 h2 => match us, its, h1, h2 with
  | [_, _], [_], _, _ => ⟨_, rfl, rfl⟩
theorem F_Row_tup (T : Tx w K mg) : Fn P w K mg base 2 d_Row_init ["self", "pairs"] (InitOf 422 RowPre "own_spans" rowT) := by
  have F_pair_of : Fn P w K mg base 1 d_pair_of ["pair"] _ := F_pair_of T
  have F_joined : Fn P w K mg base 1 d_joined ["pairs"] _ := F_joined T
  refine mk_fnD T.f_Row_init sc_Row_init rfl row_bind (fun vs H Q E h => by obtain ⟨a, dx, v1, x, e, _⟩ := h; rw [e]; rfl) (fun cdv A outer s H vs Q E hr h => ?_)
  obtain ⟨a, dx, v1, X, rfl, ha, hv, hp, kk⟩ := h
  refine ⟨_, (pss_cons (ps_setLc (i := 2) (own := [("pair", 3)]) (g := (gName 3)) rfl sc_Row_init.nd rfl rfl (by rfl) (pi_tup (pv 1)) (blkOk_by (own := [("pair", 3)]) (N := ["self", "pairs", "own", "pair"]) (sc := defScope s_Row_init) (by decide +kernel)) (fun _ _ _ _ _ => (pg_name (i := 3) sc_Row_init.nd rfl (Or.inl rfl))) (fun _ _ _ _ _ => pts_nil) (fun _ _ _ _ _ => (pe_fn F_pair_of (hr.mono (by decide)) T.g_pair_of (pa_cons (pv 3) pa_nil))))
  (pss_cons (ps_for PassesOwn.never rfl (pi_list (pv 2)) (pg_name (i := 3) sc_Row_init.nd rfl (Or.inl rfl))
  (pss_one (ps_if (pt_cmpR op_ge (pe_ix ix_tup (pv 3) pe_int (fun _ _ => rfl)) (pe_ix ix_tup (pv 3) pe_int (fun _ _ => rfl)) (nomark _))
  (pss_one ps_never)
  pss_nil)))
  (pss_one (ps_fld (pv 0) (pe_fn F_joined (hr.mono (by decide)) T.g_joined (pa_cons (pv 2) pa_nil)) rfl)))), ?_⟩
  refine q_asg (a := (⟨X⟩ : Ls Sn)) ((ev_lcM (id : Sn → Sn) (iw_tup (ev_var rfl hv)) (small_line (by have := hp.1; omega)) (fun x u H2 s2 hx hu => ⟨rfl, Same.refl _, ev_call1 (ev_var rfl hu) trivial⟩) gm_name).eq (by rw [List.map_id])) fun v H1 s1 hv1 => ?_
  refine s_forS (iw_list (ev_var rfl hv1)) (fun r σ' H' => ∃ y, σ' = [some (.ref a), some v1, some v, y]) (fun H2 s2 => ⟨none, rfl⟩) ?_ ?_
  · rintro H2 s2 x r u σ' H' H0 hx s0 sd ⟨y, rfl⟩ hu
    have lt := hp.2.1 x hx
    refine s_ifP (p := False) ((et_B (ev_opB (ev_fst (ev_var rfl hu)) (ev_snd (ev_var rfl hu)))).eq (by simp; omega)) (fun c => c.elim) (fun _ H3 s3 => ⟨⟨_, rfl⟩, sd.trans s3⟩)
  · rintro H2 s2 σ' H' sd ⟨y, rfl⟩
    have hh : Same H H' := (s1.trans s2).trans sd
    show sFld K (tVar 0) (tCall _ [] E0 (tCons (tVar 2) tNil)) _ _ _ _
    refine s_fldE (x := rowT X) (ev_call1 (ev_var rfl (Rp.mono (s2.trans sd) hv1)) hp) rfl (hh _ _ ha) T.cl_Row T.na_own_spans (by decide) fun y H3 s3 hy => ?_
    exact kk H3 y (hh.trans s3) hy
theorem F_Row_lst (T : Tx w K mg) : Fn P w K mg base 2 d_Row_init ["self", "pairs"] (InitOf 422 (fun X : Ls Sn => RowPre X.val) "own_spans" rowL) := by
  have F_pair_of : Fn P w K mg base 1 d_pair_of ["pair"] _ := F_pair_of T
  have F_joined : Fn P w K mg base 1 d_joined ["pairs"] _ := F_joined T
  refine mk_fnD T.f_Row_init sc_Row_init rfl row_bind (fun vs H Q E h => by obtain ⟨a, dx, v1, x, e, _⟩ := h; rw [e]; rfl) (fun cdv A outer s H vs Q E hr h => ?_)
  obtain ⟨a, dx, v1, X, rfl, ha, hv, hp, kk⟩ := h
  refine ⟨_, (pss_cons (ps_setLc (i := 2) (own := [("pair", 3)]) (g := (gName 3)) rfl sc_Row_init.nd rfl rfl (by rfl) (pi_list (pv 1)) (blkOk_by (own := [("pair", 3)]) (N := ["self", "pairs", "own", "pair"]) (sc := defScope s_Row_init) (by decide +kernel)) (fun _ _ _ _ _ => (pg_name (i := 3) sc_Row_init.nd rfl (Or.inl rfl))) (fun _ _ _ _ _ => pts_nil) (fun _ _ _ _ _ => (pe_fn F_pair_of (hr.mono (by decide)) T.g_pair_of (pa_cons (pv 3) pa_nil))))
  (pss_cons (ps_for PassesOwn.never rfl (pi_list (pv 2)) (pg_name (i := 3) sc_Row_init.nd rfl (Or.inl rfl))
  (pss_one (ps_if (pt_cmpR op_ge (pe_ix ix_tup (pv 3) pe_int (fun _ _ => rfl)) (pe_ix ix_tup (pv 3) pe_int (fun _ _ => rfl)) (nomark _))
  (pss_one ps_never)
  pss_nil)))
  (pss_one (ps_fld (pv 0) (pe_fn F_joined (hr.mono (by decide)) T.g_joined (pa_cons (pv 2) pa_nil)) rfl)))), ?_⟩
  refine q_asg (a := X) ((ev_lcM (id : Sn → Sn) (iw_list (ev_var rfl hv)) (small_line (by have := hp.1; omega)) (fun x u H2 s2 hx hu => ⟨rfl, Same.refl _, ev_call1 (ev_var rfl hu) trivial⟩) gm_name).eq (by rw [List.map_id])) fun v H1 s1 hv1 => ?_
  refine s_forS (iw_list (ev_var rfl hv1)) (fun r σ' H' => ∃ y, σ' = [some (.ref a), some v1, some v, y]) (fun H2 s2 => ⟨none, rfl⟩) ?_ ?_
  · rintro H2 s2 x r u σ' H' H0 hx s0 sd ⟨y, rfl⟩ hu
    have lt := hp.2.1 x hx
    refine s_ifP (p := False) ((et_B (ev_opB (ev_fst (ev_var rfl hu)) (ev_snd (ev_var rfl hu)))).eq (by simp; omega)) (fun c => c.elim) (fun _ H3 s3 => ⟨⟨_, rfl⟩, sd.trans s3⟩)
  · rintro H2 s2 σ' H' sd ⟨y, rfl⟩
    have hh : Same H H' := (s1.trans s2).trans sd
    show sFld K (tVar 0) (tCall _ [] E0 (tCons (tVar 2) tNil)) _ _ _ _
    refine s_fldE (x := rowL X) (ev_call1 (ev_var rfl (Rp.mono (s2.trans sd) hv1)) hp) rfl (hh _ _ ha) T.cl_Row T.na_own_spans (by decide) fun y H3 s3 hy => ?_
    exact kk H3 y (hh.trans s3) hy
section
variable {σ : L2.St} {H : Hp} {te : TE}
theorem ev_rowT {X : List Sn} (h : EvR te σ H X) (hp : RowPre X) : EvR (tMake 422 (InitOf 422 RowPre "own_spans" rowT) [] E0 (tCons te tNil)) σ H (RowO.mk (CM.fill 0 X)) := ev_mk (by decide) (fun H a dx y h1 h2 => ⟨a, dx, y, rfl, h1, h2⟩) h hp
theorem ev_rowL {X : Ls Sn} (h : EvR te σ H X) (hp : RowPre X.val) : EvR (tMake 422 (InitOf 422 (fun X : Ls Sn => RowPre X.val) "own_spans" rowL) [] E0 (tCons te tNil)) σ H (RowO.mk (CM.fill 0 X.val)) := ev_mk (by decide) (fun H a dx y h1 h2 => ⟨a, dx, y, rfl, h1, h2⟩) h hp
end
theorem sc_Row_spans : FnScope ["self"] ["self"] (defScope s_Row_spans) := ⟨rfl, rfl, rfl, by decide +kernel, rfl, by decide +kernel, by decide +kernel⟩
theorem F_Row_spans (T : Tx w K mg) : Fn P w K mg base 1 d_Row_spans ["self"] (Pure1 (fun _ : RowO => True) RowO.sp) := by
  refine mk_pure1 T.f_Row_spans sc_Row_spans (fun _ _ _ _ _ _ _ => rfl) (fun cdv A outer s H Q E hr v a hv _ kk => ⟨_, (pss_one (ps_ret (pe_fld (pv 0) rfl))), ?_⟩)
  exact s_ret (ev_spans T.cl_Row T.na_own_spans (ev_var rfl hv)) fun u H2 s2 hu => kk _ _ s2 hu
theorem sc_Row_within : FnScope ["self", "b"] ["self", "b"] (defScope s_Row_within) := ⟨rfl, rfl, rfl, by decide +kernel, rfl, by decide +kernel, by decide +kernel⟩
abbrev WPre (a b : RowO) : Prop := a.sp.length ≤ 1000 ∧ b.sp.length ≤ 1000
def withinR (a b : RowO) : Bool := (leftM a.sp b.sp).isEmpty
theorem F_Row_within (T : Tx w K mg) : Fn P w K mg base 3 d_Row_within ["self", "b"] (Pure2 WPre withinR) := by
  have F_left_over : Fn P w K mg base 2 d_left_over ["mine", "its"] _ := F_left_over T
  have F_Row_spans : Fn P w K mg base 1 d_Row_spans ["self"] _ := F_Row_spans T
  refine mk_pure2 T.f_Row_within sc_Row_within (fun _ _ _ _ _ _ _ _ => rfl) (fun cdv A outer s H Q E hr v v1 a b hv h1 ha kk => ⟨_, (pss_one (ps_ret (pe_cmpR (op_eqD hr.units) (pe_fn F_left_over (hr.mono (by decide)) T.g_left_over (pa_cons (pe_fld (pv 0) rfl) (pa_cons (pe_pr F_Row_spans (hr.mono (by decide)) T.cl_Row T.pr_Row_spans (pv 1)) pa_nil))) (pe_tup pa_nil) (nomark _)))), ?_⟩)
  exact s_ret (a := withinR a b) (ev_eqNil (ev_call2 (ev_spans T.cl_Row T.na_own_spans (ev_var rfl hv)) (ev_prR (ev_var rfl h1) trivial) ha)) fun u H2 s2 hu => kk _ _ s2 hu
end Cf
set_option Elab.async false
set_option linter.all false
set_option maxRecDepth 100000
set_option maxHeartbeats 4000000
/-! Rules that the layer has not: d[key] of the dict of ints, min of a tuple. -/
namespace Cf
open PySem PySem.Spec PyProof.Rows L2 Cs
section
variable {X : Cx} {d : Addr} {es : Array DictEntry} {n : Nat} {K : PySem.W.Frag}
def rIxKd (K : PySem.W.Frag) (d : Addr) : R2 := fun x y H Q => ∃ (z : Str) (i : Int), x = .ref d ∧ y = .str z ∧ (∃ t, PySem.W.nsIn K d z = some (some (.int i t))) ∧ Q (.int i) H
theorem ix_kd (D : KDict X.K X.w d es n) : IxR X (rIxKd X.K d) := by
  intro value slice pins s σ H x y v u Q I rx ry h hs
  obtain ⟨z, i, rfl, rfl, ⟨t, e⟩, q⟩ := h
  cases rx
  obtain ⟨t', rfl⟩ := ry
  refine subscriptTail_builtinR (x := .int i t) (kd_type D I) slot_dict_getitem.lookup ?_ hs
  exact wpAny_getItem_of (PySem.strKind_is X.prog X.w z t') (PySem.W.mapOf_K (prog := X.prog) I.kIn D.at_ D.lit) (PySem.W.find_K D.at_ e) ⟨rfl, .int i, H, I.tok _, ⟨t, rfl⟩, q⟩
def rMinT (K : PySem.W.Frag) : List V → Hp → VK → Prop := fun vs H Q => ∃ (a : Addr) (m : Int) (ns : List Int), vs = [V.ref a] ∧ SqT K H a ((m :: ns).map V.int) ∧ Q (.int (PySem.W.minOf m ns)) H
theorem hold_ints {h : Heap} : ∀ {ns : List Int} {its : List Value}, Vals (ns.map V.int) its → PySem.W.HoldAll h its ns
  | [], [], _ => PySem.W.HoldAll.nil
  | n :: ns, v :: its, .cons r rs => by
    obtain ⟨t, rfl⟩ := r
    exact PySem.W.HoldAll.cons ⟨_, .int n t⟩ (hold_ints rs)
theorem cr_minT (hc : X.calm = true) (hu : X.A.units + 64 < cLine) : CallR X (.builtin "min") (rMinT X.K) := by
  intro pins s σ H vs us Q I r h
  obtain ⟨a, m, ns, rfl, hs, q⟩ := h
  obtain ⟨its, rv, hl, _⟩ := I.tuple hs
  rw [Vals.ref1 r]
  refine PySem.W.min_tuple_datum (α := Int) (I.ok.hd hc) hl (hold_ints rv) (by show X.A.units + 1 + 0 < cLine; omega) fun i v h' tk hi hv hk => ?_
  obtain ⟨as, hr⟩ := hv
  obtain ⟨t, rfl, _⟩ := PyProof.Rows.reads_int_inv hr
  exact ⟨.int _, H, I.kept hk, ⟨_, rfl⟩, q⟩
def rSumT (K : PySem.W.Frag) : List V → Hp → VK → Prop := fun vs H Q => ∃ (a : Addr) (ns : List Int), vs = [V.ref a] ∧ SqT K H a (ns.map V.int) ∧ Q (.int ns.sum) H
theorem cr_sumT (hc : X.calm = true) : CallR X (.builtin "sum") (rSumT X.K) := by
  intro pins s σ H vs us Q I r h
  obtain ⟨a, ns, rfl, hs, q⟩ := h
  obtain ⟨its, rv, hl, _⟩ := I.tuple hs
  rw [Vals.ref1 r]
  have hi := rv.ints
  obtain ⟨xs, hx⟩ := hi.allInts.items
  have hn : numsOf its.toArray.toList = ns := by rw [show its.toArray.toList = its from rfl, hi.numsOf]
  have hl2 : s.heap.IsTuple a its.toArray := hl
  rw [hx] at hl2 hn
  rw [nums_intItems] at hn
  refine PySem.W.ktm_sumG (I.ok.hd hc) hl2 fun h' tk t' hk => ⟨.int ns.sum, H, I.kept hk, ⟨t', ?_⟩, q⟩
  rw [preSum_eq, List.take_of_length_le (by simp), hn]
theorem pe_fldK {e : Expr} {f : Str} {pos : Pos} {ta : TE} (h : X.K = K) (he : PE X e ta) (hb : attributeBase e f X.env (eval e X.env) = eval e X.env) : PE X (.Attribute e f pos) (tFld K ta f) := h ▸ pe_fld he hb
theorem pe_no {e : Expr} : PE X e (fun _ _ _ => False) := ⟨fun _ _ _ _ _ _ h => h.elim⟩
theorem cr_sumTK (h : X.K = K) (hc : X.calm = true) : CallR X (.builtin "sum") (rSumT K) := h ▸ cr_sumT hc
end
section
variable {σ : L2.St} {H : Hp} {ta tb te : TE} {K : PySem.W.Frag}
theorem ev_sumT {as : List Int} (h : EvR te σ H as) : EvR (tCB (rSumT K) (tCons te tNil)) σ H as.sum := fun H1 s Q q =>
  h H1 s _ fun v H2 s2 hv => by
    obtain ⟨p, xs, ev, h1, h2⟩ := hv
    rw [all2_int h2] at h1
    exact ⟨p, as, by rw [ev], SqT.of h1, q _ H2 s2 rfl⟩
theorem ev_minT {m : Int} {as : List Int} (h : EvR te σ H (m :: as)) : EvR (tCB (rMinT K) (tCons te tNil)) σ H (PySem.W.minOf m as) := fun H1 s Q q =>
  h H1 s _ fun v H2 s2 hv => by
    obtain ⟨p, xs, ev, h1, h2⟩ := hv
    rw [all2_int h2] at h1
    exact ⟨p, m, as, by rw [ev], SqT.of h1, q _ H2 s2 rfl⟩
end
end Cf
set_option Elab.async false
set_option linter.all false
set_option maxRecDepth 100000
set_option maxHeartbeats 4000000
/-! The class Step. -/
namespace Cf
open PySem PySem.Spec PyProof.Rows L2 Cs
local macro_rules | `(tactic| walk_at "lf") => `(tactic| first
  | assumption
  | exact rfl
  | exact Rp.mono (by assumption) (by assumption)
  | exact Rp.mono (Same.trans (by assumption) (by assumption)) (by assumption)
  | exact RpK.monoK (by assumption) (by assumption))
local macro_rules | `(tactic| walk_at "ev") => `(tactic| first
  | with_reducible exact ev_int
  | with_reducible exact ev_bl
  | with_reducible exact ev_fill
  | with_reducible exact ev_drop
  | with_reducible exact ev_str
  | ((with_reducible refine' ev_var ?hs ?hv); (case hs => exact rfl); (case hv => walk_at "lf"))
  | ((with_reducible refine' ev_opI ?ha ?hb); (case ha => walk_at "ev"); (case hb => walk_at "ev"))
  | ((with_reducible refine' ev_opB ?ha ?hb); (case ha => walk_at "ev"); (case hb => walk_at "ev"))
  | ((with_reducible refine' ev_opC ?ha ?hb ?hc); (case ha => walk_at "ev"); (case hb => walk_at "ev"); (case hc => first | assumption | skip))
  | ((with_reducible refine' ev_un ?ha); (case ha => walk_at "ev"))
  | ((with_reducible refine' ev_eqK ?ha ?hb); (case ha => walk_at "ev"); (case hb => walk_at "ev"))
  | ((with_reducible refine' ev_eqI ?ha ?hb); (case ha => walk_at "ev"); (case hb => walk_at "ev"))
  | ((with_reducible refine' ev_eqS ?ha ?hb); (case ha => walk_at "ev"); (case hb => walk_at "ev"))
  | ((with_reducible refine' ev_neK ?ha ?hb); (case ha => walk_at "ev"); (case hb => walk_at "ev"))
  | ((with_reducible refine' ev_neI ?ha ?hb); (case ha => walk_at "ev"); (case hb => walk_at "ev"))
  | ((with_reducible refine' ev_neS ?ha ?hb); (case ha => walk_at "ev"); (case hb => walk_at "ev"))
  | ((with_reducible refine' ev_tup2 ?ha ?hb); (case ha => walk_at "ev"); (case hb => walk_at "ev"))
  | ((with_reducible refine' ev_tup1 ?ha); (case ha => walk_at "ev"))
  | with_reducible exact ev_tup0
  | ((with_reducible refine' ev_fst ?ha); (case ha => walk_at "ev"))
  | ((with_reducible refine' ev_snd ?ha); (case ha => walk_at "ev"))
  | ((with_reducible refine' ev_max2 rfl ?ha ?hb); (case ha => walk_at "ev"); (case hb => walk_at "ev"))
  | ((with_reducible refine' ev_min2 rfl ?ha ?hb); (case ha => walk_at "ev"); (case hb => walk_at "ev"))
  | ((with_reducible refine' ev_abs rfl ?ha); (case ha => walk_at "ev"))
  | ((with_reducible refine' ev_intI rfl ?ha); (case ha => walk_at "ev"))
  | ((with_reducible refine' ev_intB rfl ?ha); (case ha => walk_at "ev"))
  | ((with_reducible refine' ev_len rfl ?ha); (case ha => walk_at "ev"))
  | ((with_reducible refine' ev_lenL rfl ?ha); (case ha => walk_at "ev"))
  | ((with_reducible refine' ev_tuple rfl ?ha); (case ha => walk_at "ev"))
  | ((with_reducible refine' ev_sum ?ha); (case ha => walk_at "ev"))
  | ((with_reducible refine' ev_chain ?ha ?hb ?hc); (case ha => walk_at "ev"); (case hb => walk_at "ev"); (case hc => walk_at "ev"))
  | ((with_reducible refine' et_test ?ha); (case ha => walk_at "ev"))
  | ((with_reducible refine' et_B ?ha); (case ha => walk_at "ev"))
  | ((with_reducible refine' et_not ?ha); (case ha => walk_at "ev"))
  | ((with_reducible refine' ev_not ?ha); (case ha => walk_at "ev"))
  | ((with_reducible refine' et_and ?ha ?hb); (case ha => walk_at "ev"); (case hb => intro _; walk_at "ev"))
  | ((with_reducible refine' et_or ?ha ?hb); (case ha => walk_at "ev"); (case hb => intro _; walk_at "ev"))
  | ((with_reducible refine' ev_and ?ha ?hb); (case ha => walk_at "ev"); (case hb => intro _; walk_at "ev"))
  | ((with_reducible refine' ev_or ?ha ?hb); (case ha => walk_at "ev"); (case hb => intro _; walk_at "ev"))
  | ((with_reducible refine' ev_call1 ?ha ?hp); (case ha => walk_at "ev"); (case hp => first | assumption | trivial))
  | ((with_reducible refine' ev_call2 ?ha ?hb ?hp); (case ha => walk_at "ev"); (case hb => walk_at "ev"); (case hp => first | assumption | trivial))
  | ((with_reducible refine' ev_call3 ?ha ?hb ?hc ?hp); (case ha => walk_at "ev"); (case hb => walk_at "ev"); (case hc => walk_at "ev"); (case hp => first | assumption | trivial)))
variable {P : Program} {w : World} {K : PySem.W.Frag} {mg : Str → Option Value} {base : Heap}
theorem stp_ne {a b : Str} (h : decide (a = b) = false) : ¬ a = b := of_decide_eq_false h
/-! ### is_good -/
theorem am_of (T : Tx w K mg) (s : Stp) : ∃ t, PySem.W.nsIn K 432 (kindS s) = some (some (.int ((numsS s).length : Int) t)) := by
  cases s with
  | fill g => exact T.am_fill
  | drop g => exact T.am_drop
  | widen a b => exact T.am_widen
  | trim a b => exact T.am_trim
  | shift n => exact T.am_shift
def IsStp (k : Str) (l : List Int) : Prop := ∃ s : Stp, s.ok ∧ k = kindS s ∧ l = numsS s
theorem nums_len (s : Stp) : (numsS s).length ≤ 2 := by cases s <;> simp [numsS]
theorem sc_is_good : FnScope ["kind", "amounts", "one"] ["kind", "amounts"] (defScope s_is_good) := ⟨rfl, rfl, rfl, by decide +kernel, rfl, by decide +kernel, by decide +kernel⟩
theorem F_is_good (T : Tx w K mg) : Fn P w K mg base 2 d_is_good ["kind", "amounts"] (Pure2 IsStp fun _ _ => true) := by
  have F_is_number : Fn P w K mg base 1 d_is_number ["thing"] _ := F_is_number T
  obtain ⟨es, n, D⟩ := T.amd
  refine mk_pure2 T.f_is_good sc_is_good (fun _ _ _ _ _ _ _ _ => rfl) (fun cdv A outer s H Q E hr v v1 k l hv h1 ha kk => ⟨_, (pss_cons (ps_if (PW.pt (pw_or (pt_cmpR (op_notIn_kd D) (pv 0) (pe_glob (v := .ref 432) rfl T.g_AMOUNTS rfl) (by rfl)) (pw_or (pt_cmpR op_ne (pe_callB call_len_seq (by rfl) T.b_len PySem.boot_len (pa_cons (pv 1) pa_nil)) (pe_ix (ix_kd D) (pe_glob (v := .ref 432) rfl T.g_AMOUNTS rfl) (pv 0) (fun _ _ => rfl)) (nomark _)) (pw_or1 (pt_not (pt_val (pe_callB (cr_all rfl) (by rfl) T.b_all (by decide +kernel) (pa_cons (pe_lc (own := [("one", 2)]) (g := (gName 2)) rfl sc_is_good.nd (pi_tup (pv 1)) (blkOk_by (own := [("one", 2)]) (N := ["kind", "amounts", "one"]) (sc := defScope s_is_good) (by decide +kernel)) (fun _ _ _ _ _ => (pg_name (i := 2) sc_is_good.nd rfl (Or.inl rfl))) (fun _ _ _ _ _ => pts_nil) (fun _ _ _ _ _ => (pe_fn F_is_number (hr.mono (by decide)) T.g_is_number (pa_cons (pv 2) pa_nil)))) pa_nil))))))))
  (pss_one (ps_ret pe_bl))
  pss_nil)
  (pss_one (ps_ret (pe_or (pe_cmpR op_eq (pv 0) pe_str (nomark _)) (pe_one (pe_cmpR op_ge (pe_callB (cr_minT rfl hr.units) (by rfl) T.b_min (by decide +kernel) (pa_cons (pv 1) pa_nil)) pe_int (nomark _))))))), ?_⟩)
  obtain ⟨st, ok, rfl, rfl⟩ := ha
  obtain rfl : v = .str (kindS st) := hv
  obtain ⟨t, am⟩ := am_of T st
  refine q_ifP (p := False) ((et_or (a := false) ?_ fun _ => et_or (a := false) ?_ fun _ => ?_ : EtR _ _ _ (false || (false || false))).eq rfl) (fun c => c.elim) (fun _ H1 s1 => ?_)
  · exact et_B fun H1 _ Q q => ⟨_, rfl, kindS st, _, rfl, rfl, am, q _ H1 (Same.refl _) rfl⟩
  · refine et_B ((ev_neI (a := ((numsS st).length : Int)) (b := ((numsS st).length : Int)) (ev_len rfl (ev_var rfl h1)) fun H1 _ Q q => ⟨_, rfl, kindS st, _, rfl, rfl, ⟨t, am⟩, q _ H1 (Same.refl _) rfl⟩).eq ?_)
    simp
  · have e : EvR (tCB (rAll K) (tCons (tLc (iTup K (tVar 1)) (gName 2) tYes (tCall (Pure1 (fun _ : Int => True) fun _ => true) [] E0 (tCons (tVar 2) tNil)) [2]) tNil)) (start ["kind", "amounts", "one"] [V.str (kindS st), v1]) H ((⟨(numsS st).map fun _ => true⟩ : Ls Bool).val.all id) :=
      ev_all (ev_lcM (fun _ : Int => true) (iw_tup (ev_var rfl h1)) (small_line (by have := nums_len st; omega)) (fun x u H2 s2 hx hu => ⟨rfl, Same.refl _, ev_call1 (f := fun _ : Int => true) (ev_var rfl hu) trivial⟩) gm_name)
    exact (et_not (et_test e)).eq (by simp)
  · have h11 := Rp.mono s1 h1
    refine s_ret (a := true) ((ev_or (a := decide (kindS st = "shift")) (b := true) (ev_eqS (ev_var rfl rfl) ev_str) fun c => ?_).eq (by simp)) fun u H2 s2 hu => kk _ _ (s1.trans s2) hu
    have key : ∀ (m : Int) (as : List Int), numsS st = m :: as → 0 ≤ PySem.W.minOf m as → EvR (tOp (rI0 fun i j => .bl (decide (j ≤ i))) (tCB (rMinT K) (tCons (tVar 1) tNil)) (tC (.int 0))) (start ["kind", "amounts", "one"] [V.str (kindS st), v1]) H1 true := fun m as e h0 => by
      rw [e] at h11
      exact (ev_opB (f := fun i j => decide (j ≤ i)) (ev_minT (ev_var rfl h11)) ev_int).eq (decide_eq_true h0)
    cases st with
    | fill g => exact key g [] rfl ok
    | drop g => exact key g [] rfl ok
    | widen a b =>
      refine key a [b] rfl ?_
      show 0 ≤ (if decide (b < a) = true then b else a)
      have := ok.1
      have := ok.2
      split <;> omega
    | trim a b =>
      refine key a [b] rfl ?_
      show 0 ≤ (if decide (b < a) = true then b else a)
      have := ok.1
      have := ok.2
      split <;> omega
    | shift n => exact absurd rfl (stp_ne c)
/-! ### tupled -/
theorem F_no (T : Tx w K mg) : Fn P w K mg base 1 d_tupled ["thing"] (fun _ _ _ _ => False) := by
  refine mk_fn T.f_tupled (N := ["thing", "part"]) ⟨rfl, rfl, rfl, by decide +kernel, rfl, by decide +kernel, by decide +kernel⟩ (fun kV doc pm an cdv ct us hl => match us, hl with | [_], _ => rfl) (fun vs H Q E h => h.elim) (fun cdv A outer s H vs Q E hr h => h.elim)
theorem sc_tupled : FnScope ["thing", "part"] ["thing"] (defScope s_tupled) := ⟨rfl, rfl, rfl, by decide +kernel, rfl, by decide +kernel, by decide +kernel⟩
theorem ev_isiLT {α : Type} [Rp α] {σ : L2.St} {H : Hp} {ta : TE} {a : α} {t : Value} {b : Bool} (h : EvR ta σ H a) (ty : ∀ H v, Rp.is H v a → TyOf K H v t) (e : PySem.W.kitAny K t [.type "list", .type "tuple"] = some b) : EvR (tCB (rIsiT K) (tCons ta (tCons (tTup (tCons (tC (.ty "list")) (tCons (tC (.ty "tuple")) tNil))) tNil))) σ H b := fun H1 s Q q =>
  h H1 s _ fun v H2 s2 hv => ⟨by show 2 ≤ sizeLine; decide, fun p hp => ⟨v, p, _, t, _, b, rfl, upd_same, .cons (.ty _) (.cons (.ty _) .nil), .base (ty _ _ (Rp.mono (same_new hp) hv)), e, q _ _ (s2.trans (same_new hp)) rfl⟩⟩
theorem F_tupled0 (T : Tx w K mg) : Fn P w K mg base 2 d_tupled ["thing"] (Pure1 (fun _ : Int => True) id) := by
  have F_tupled : Fn P w K mg base 1 d_tupled ["thing"] _ := F_no T
  refine mk_pure1 T.f_tupled sc_tupled (fun _ _ _ _ _ _ _ => rfl) (fun cdv A outer s H Q E hr v a hv _ kk => ⟨_, (pss_one (ps_ret (pe_ifExp (pt_val (pe_callB call_isiT (by rfl) T.b_isinstance (by decide +kernel) (pa_cons (pv 0) (pa_cons (pe_tup (pa_cons (pe_bltn (v := .ty "list") (by rfl) T.b_list (by decide +kernel) rfl) (pa_cons (pe_bltn (v := .ty "tuple") (by rfl) T.b_tuple (by decide +kernel) rfl) pa_nil))) pa_nil)))) (pe_callTy call_tuple_of (by rfl) T.b_tuple (by decide +kernel) (pa_cons (pe_lc (own := [("part", 1)]) (g := (gName 1)) rfl sc_tupled.nd (pi_tup (pv 0)) (blkOk_by (own := [("part", 1)]) (N := ["thing", "part"]) (sc := defScope s_tupled) (by decide +kernel)) (fun _ _ _ _ _ => (pg_name (i := 1) sc_tupled.nd rfl (Or.inl rfl))) (fun _ _ _ _ _ => pts_nil) (fun _ _ _ _ _ => (pe_fn F_tupled (hr.mono (by decide)) T.g_tupled (pa_cons (pv 1) pa_nil)))) pa_nil)) (pv 0)))), ?_⟩)
  refine s_ret (a := a) (ev_if (b := false) (et_test (ev_isiLT (a := a) (t := .type "int") (ev_var rfl hv) (fun H v h => by obtain rfl : v = .int a := h; exact .int a) (by kernel_rfl))) (fun c => by cases c) (fun _ => ev_var rfl hv)) fun u H2 s2 hu => kk _ _ s2 hu
theorem F_tupled1 (T : Tx w K mg) : Fn P w K mg base 3 d_tupled ["thing"] (Pure1 (fun l : List Int => l.length ≤ 2) id) := by
  have F_tupled : Fn P w K mg base 2 d_tupled ["thing"] _ := F_tupled0 T
  refine mk_pure1 T.f_tupled sc_tupled (fun _ _ _ _ _ _ _ => rfl) (fun cdv A outer s H Q E hr v a hv ha kk => ⟨_, (pss_one (ps_ret (pe_ifExp (pt_val (pe_callB call_isiT (by rfl) T.b_isinstance (by decide +kernel) (pa_cons (pv 0) (pa_cons (pe_tup (pa_cons (pe_bltn (v := .ty "list") (by rfl) T.b_list (by decide +kernel) rfl) (pa_cons (pe_bltn (v := .ty "tuple") (by rfl) T.b_tuple (by decide +kernel) rfl) pa_nil))) pa_nil)))) (pe_callTy call_tuple_of (by rfl) T.b_tuple (by decide +kernel) (pa_cons (pe_lc (own := [("part", 1)]) (g := (gName 1)) rfl sc_tupled.nd (pi_tup (pv 0)) (blkOk_by (own := [("part", 1)]) (N := ["thing", "part"]) (sc := defScope s_tupled) (by decide +kernel)) (fun _ _ _ _ _ => (pg_name (i := 1) sc_tupled.nd rfl (Or.inl rfl))) (fun _ _ _ _ _ => pts_nil) (fun _ _ _ _ _ => (pe_fn F_tupled (hr.mono (by decide)) T.g_tupled (pa_cons (pv 1) pa_nil)))) pa_nil)) (pv 0)))), ?_⟩)
  refine s_ret (a := a) (ev_if (b := true) (et_test (ev_isiLT (a := a) (t := .type "tuple") (ev_var rfl hv) (fun H v h => by obtain ⟨q, xs, e, h1, h2⟩ := h; rw [e]; exact .tup h1) (by kernel_rfl))) (fun _ => ev_tuple (as := ⟨a⟩) rfl ((ev_lcM (id : Int → Int) (iw_tup (ev_var rfl hv)) (small_line (by omega)) (fun x u H2 s2 hx hu => ⟨rfl, Same.refl _, ev_call1 (ev_var rfl hu) trivial⟩) gm_name).eq (by rw [List.map_id]))) (fun c => by cases c)) fun u H2 s2 hu => kk _ _ s2 hu
/-! ### Step -/
theorem sc_Step_init : FnScope ["self", "kind", "amounts", "own"] ["self", "kind", "amounts"] (defScope s_Step_init) := ⟨rfl, rfl, rfl, by decide +kernel, rfl, by decide +kernel, by decide +kernel⟩
def InitStep : Sp := fun vs H Q _ => ∃ a dx v2 s, vs = [.ref a, .str (kindS s), v2] ∧ H a = some (.ins 508 dx []) ∧ Rp.is H v2 (numsS s) ∧ s.ok ∧ ∀ H' x, Same (dl H a) H' → H' a = some (.ins 508 dx [("own_kind", .str (kindS s)), ("own_amounts", x)]) → Rp.is H' x (numsS s) → Q .non H'
theorem F_Step_init (T : Tx w K mg) : Fn P w K mg base 4 d_Step_init ["self", "kind", "amounts"] InitStep := by
  have F_tupled : Fn P w K mg base 3 d_tupled ["thing"] _ := F_tupled1 T
  have F_is_good : Fn P w K mg base 2 d_is_good ["kind", "amounts"] _ := F_is_good T
  refine mk_fn T.f_Step_init sc_Step_init (fun kV doc pm an cdv ct us hl => match us, hl with | [_, _, _], _ => rfl) (fun vs H Q E h => by obtain ⟨a, dx, v1, x, e, _⟩ := h; rw [e]; rfl) (fun cdv A outer s H vs Q E hr h => ?_)
  obtain ⟨a, dx, v2, st, rfl, ha, hv, ok, kk⟩ := h
  refine ⟨_, (pss_cons (ps_set (i := 3) sc_Step_init.nd rfl (Or.inl rfl) (pe_fn F_tupled (hr.mono (by decide)) T.g_tupled (pa_cons (pv 2) pa_nil)))
  (pss_cons (ps_if (pt_not (pt_val (pe_fn F_is_good (hr.mono (by decide)) T.g_is_good (pa_cons (pv 1) (pa_cons (pv 3) pa_nil)))))
  (pss_one ps_never)
  pss_nil)
  (pss_cons (ps_fld (pv 0) (pv 1) rfl)
  (pss_one (ps_fld (pv 0) (pv 3) rfl))))), ?_⟩
  refine q_asg (a := numsS st) (ev_call1 (ev_var rfl hv) (nums_len st)) fun v3 H1 s1 hv3 => ?_
  refine q_ifP (p := False) ((et_not (et_test (ev_call2 (f := fun _ _ => true) (ev_var (a := kindS st) rfl rfl) (ev_var rfl hv3) ⟨st, ok, rfl, rfl⟩))).eq (by simp)) (fun c => c.elim) (fun _ H2 s2 => ?_)
  have h2 : H2 a = some (.ins 508 dx []) := s2 _ _ (s1 _ _ ha)
  refine q_fldE (x := kindS st) (ev_var rfl rfl) rfl h2 T.cl_Step T.na_own_kind (by decide) fun v4 H3 s3 hv4 => ?_
  obtain rfl : v4 = .str (kindS st) := hv4
  have h3 : H3 a = some (.ins 508 dx []) := s3 _ _ h2
  have k3 : Kp H3 (upd H3 a (.ins 508 dx [("own_kind", .str (kindS st))])) := kp_ins h3 (by decide)
  have hv3' := RpK.monoK k3 (Rp.mono (s2.trans s3) hv3)
  show sFld K (tVar 0) (tVar 3) _ _ _ _
  refine s_fldE (x := numsS st) (ev_var rfl hv3') rfl (upd_same (o := .ins 508 dx [("own_kind", .str (kindS st))])) T.cl_Step T.na_own_amounts (by show 1 < 1000; decide) fun v5 H4 s4 hv5 => ?_
  have h4 : H4 a = some (.ins 508 dx [("own_kind", .str (kindS st))]) := s4 _ _ upd_same
  refine kk _ v5 ?_ upd_same (RpK.monoK (kp_ins h4 (by show 1 ≠ nf 508; decide)) hv5)
  refine dl_up ?_
  have z : Same (dl H a) (upd H3 a (.ins 508 dx [("own_kind", .str (kindS st))])) := dl_up ((dl_sub H a).trans ((s1.trans s2).trans s3))
  exact z.trans s4
theorem ev_stepMk {σ : L2.St} {H : Hp} {ta tb : TE} {st : Stp} (h1 : EvR ta σ H (kindS st)) (h2 : EvR tb σ H (numsS st)) (ok : st.ok) : EvR (tMake 508 InitStep [] E0 (tCons ta (tCons tb tNil))) σ H (StepO.mk st) := fun H1 s Q q =>
  h1 H1 s _ fun v H2 s2 hv => h2 H2 (s.trans s2) _ fun u H3 s3 hu => fun a dx ha hd ne => by
    have s4 : Same H3 (upd (upd H3 dx (.own a)) a (.ins 508 dx [])) := (same_new hd).trans (same_new (by rw [upd_ne (Ne.symm ne)]; exact ha))
    have hv' : v = .str (kindS st) := hv
    refine ⟨a, dx, u, st, by rw [hv']; rfl, upd_same, Rp.mono s4 hu, ok, fun H' x s5 h5 hx => ⟨rfl, q _ _ ((s2.trans s3).trans ?_) ⟨a, dx, x, rfl, h5, hx⟩⟩⟩
    exact (same_dl s4 ha |> fun z => (same_dl ((same_new hd : Same H3 (upd H3 dx (.own a)))) ha).trans (by
      refine Same.trans (fun b o e => ?_) s5
      have hb : b ≠ a := fun c => by rw [c, dl_same] at e; cases e
      rw [dl_ne hb] at e ⊢
      rw [upd_ne hb]
      exact e))
theorem sc_Step_kind : FnScope ["self"] ["self"] (defScope s_Step_kind) := ⟨rfl, rfl, rfl, by decide +kernel, rfl, by decide +kernel, by decide +kernel⟩
theorem F_Step_kind (T : Tx w K mg) : Fn P w K mg base 1 d_Step_kind ["self"] (Pure1 (fun _ : StepO => True) fun r => kindS r.st) := by
  refine mk_pure1 T.f_Step_kind sc_Step_kind (fun _ _ _ _ _ _ _ => rfl) (fun cdv A outer s H Q E hr v a hv _ kk => ⟨_, (pss_one (ps_ret (pe_fld (pv 0) rfl))), ?_⟩)
  exact s_ret (ev_okind T.cl_Step T.na_own_kind (ev_var rfl hv)) fun u H2 s2 hu => kk _ _ s2 hu
theorem sc_Step_amounts : FnScope ["self"] ["self"] (defScope s_Step_amounts) := ⟨rfl, rfl, rfl, by decide +kernel, rfl, by decide +kernel, by decide +kernel⟩
theorem F_Step_amounts (T : Tx w K mg) : Fn P w K mg base 1 d_Step_amounts ["self"] (Pure1 (fun _ : StepO => True) fun r => numsS r.st) := by
  refine mk_pure1 T.f_Step_amounts sc_Step_amounts (fun _ _ _ _ _ _ _ => rfl) (fun cdv A outer s H Q E hr v a hv _ kk => ⟨_, (pss_one (ps_ret (pe_fld (pv 0) rfl))), ?_⟩)
  exact s_ret (ev_oamounts T.cl_Step T.na_own_amounts (ev_var rfl hv)) fun u H2 s2 hu => kk _ _ s2 hu
end Cf
set_option Elab.async false
set_option linter.all false
set_option maxRecDepth 100000
set_option maxHeartbeats 4000000
/-! What a step swings, its edges; a step called; combs. -/
namespace Cf
open PySem PySem.Spec PyProof.Rows L2 Cs
local macro_rules | `(tactic| walk_at "lf") => `(tactic| first
  | assumption
  | exact rfl
  | exact Rp.mono (by assumption) (by assumption)
  | exact Rp.mono (Same.trans (by assumption) (by assumption)) (by assumption)
  | exact RpK.monoK (by assumption) (by assumption))
local macro_rules | `(tactic| walk_at "ev") => `(tactic| first
  | with_reducible exact ev_int
  | with_reducible exact ev_bl
  | with_reducible exact ev_fill
  | with_reducible exact ev_drop
  | with_reducible exact ev_str
  | ((with_reducible refine' ev_var ?hs ?hv); (case hs => exact rfl); (case hv => walk_at "lf"))
  | ((with_reducible refine' ev_opI ?ha ?hb); (case ha => walk_at "ev"); (case hb => walk_at "ev"))
  | ((with_reducible refine' ev_opB ?ha ?hb); (case ha => walk_at "ev"); (case hb => walk_at "ev"))
  | ((with_reducible refine' ev_opC ?ha ?hb ?hc); (case ha => walk_at "ev"); (case hb => walk_at "ev"); (case hc => first | assumption | skip))
  | ((with_reducible refine' ev_un ?ha); (case ha => walk_at "ev"))
  | ((with_reducible refine' ev_eqK ?ha ?hb); (case ha => walk_at "ev"); (case hb => walk_at "ev"))
  | ((with_reducible refine' ev_eqI ?ha ?hb); (case ha => walk_at "ev"); (case hb => walk_at "ev"))
  | ((with_reducible refine' ev_eqS ?ha ?hb); (case ha => walk_at "ev"); (case hb => walk_at "ev"))
  | ((with_reducible refine' ev_neK ?ha ?hb); (case ha => walk_at "ev"); (case hb => walk_at "ev"))
  | ((with_reducible refine' ev_neI ?ha ?hb); (case ha => walk_at "ev"); (case hb => walk_at "ev"))
  | ((with_reducible refine' ev_neS ?ha ?hb); (case ha => walk_at "ev"); (case hb => walk_at "ev"))
  | ((with_reducible refine' ev_tup2 ?ha ?hb); (case ha => walk_at "ev"); (case hb => walk_at "ev"))
  | ((with_reducible refine' ev_tup1 ?ha); (case ha => walk_at "ev"))
  | with_reducible exact ev_tup0
  | ((with_reducible refine' ev_fst ?ha); (case ha => walk_at "ev"))
  | ((with_reducible refine' ev_snd ?ha); (case ha => walk_at "ev"))
  | ((with_reducible refine' ev_max2 rfl ?ha ?hb); (case ha => walk_at "ev"); (case hb => walk_at "ev"))
  | ((with_reducible refine' ev_min2 rfl ?ha ?hb); (case ha => walk_at "ev"); (case hb => walk_at "ev"))
  | ((with_reducible refine' ev_abs rfl ?ha); (case ha => walk_at "ev"))
  | ((with_reducible refine' ev_intI rfl ?ha); (case ha => walk_at "ev"))
  | ((with_reducible refine' ev_intB rfl ?ha); (case ha => walk_at "ev"))
  | ((with_reducible refine' ev_len rfl ?ha); (case ha => walk_at "ev"))
  | ((with_reducible refine' ev_lenL rfl ?ha); (case ha => walk_at "ev"))
  | ((with_reducible refine' ev_tuple rfl ?ha); (case ha => walk_at "ev"))
  | ((with_reducible refine' ev_sum ?ha); (case ha => walk_at "ev"))
  | ((with_reducible refine' ev_chain ?ha ?hb ?hc); (case ha => walk_at "ev"); (case hb => walk_at "ev"); (case hc => walk_at "ev"))
  | ((with_reducible refine' et_test ?ha); (case ha => walk_at "ev"))
  | ((with_reducible refine' et_B ?ha); (case ha => walk_at "ev"))
  | ((with_reducible refine' et_not ?ha); (case ha => walk_at "ev"))
  | ((with_reducible refine' ev_not ?ha); (case ha => walk_at "ev"))
  | ((with_reducible refine' et_and ?ha ?hb); (case ha => walk_at "ev"); (case hb => intro _; walk_at "ev"))
  | ((with_reducible refine' et_or ?ha ?hb); (case ha => walk_at "ev"); (case hb => intro _; walk_at "ev"))
  | ((with_reducible refine' ev_and ?ha ?hb); (case ha => walk_at "ev"); (case hb => intro _; walk_at "ev"))
  | ((with_reducible refine' ev_or ?ha ?hb); (case ha => walk_at "ev"); (case hb => intro _; walk_at "ev"))
  | ((with_reducible refine' ev_call1 ?ha ?hp); (case ha => walk_at "ev"); (case hp => first | assumption | trivial))
  | ((with_reducible refine' ev_call2 ?ha ?hb ?hp); (case ha => walk_at "ev"); (case hb => walk_at "ev"); (case hp => first | assumption | trivial))
  | ((with_reducible refine' ev_call3 ?ha ?hb ?hc ?hp); (case ha => walk_at "ev"); (case hb => walk_at "ev"); (case hc => walk_at "ev"); (case hp => first | assumption | trivial)))
variable {P : Program} {w : World} {K : PySem.W.Frag} {mg : Str → Option Value} {base : Heap}
theorem sc_swings_of : FnScope ["step", "much"] ["step"] (defScope s_swings_of) := ⟨rfl, rfl, rfl, by decide +kernel, rfl, by decide +kernel, by decide +kernel⟩
def kd1 (s : Stp) : Bool := match s with | .fill _ => true | _ => false
theorem kd_fill (s : Stp) : decide (kindS s = "fill") = (match s with | .fill _ => true | _ => false) := by cases s <;> first | rfl | decide +kernel
theorem kd_drop (s : Stp) : decide (kindS s = "drop") = (match s with | .drop _ => true | _ => false) := by cases s <;> first | rfl | decide +kernel
theorem kd_shift (s : Stp) : decide (kindS s = "shift") = (match s with | .shift _ => true | _ => false) := by cases s <;> first | rfl | decide +kernel
theorem kd_widen (s : Stp) : decide (kindS s = "widen") = (match s with | .widen _ _ => true | _ => false) := by cases s <;> first | rfl | decide +kernel
theorem kd_trim (s : Stp) : decide (kindS s = "trim") = (match s with | .trim _ _ => true | _ => false) := by cases s <;> first | rfl | decide +kernel
theorem F_swings_of (T : Tx w K mg) : Fn P w K mg base 3 d_swings_of ["step"] (Pure1 (fun _ : StepO => True) fun r => CM.swings r.st) := by
  have F_Step_kind : Fn P w K mg base 1 d_Step_kind ["self"] _ := F_Step_kind T
  have F_Step_amounts : Fn P w K mg base 1 d_Step_amounts ["self"] _ := F_Step_amounts T
  refine mk_pure1 T.f_swings_of sc_swings_of (fun _ _ _ _ _ _ _ => rfl) (fun cdv A outer s H Q E hr v a hv _ kk => ⟨_, (pss_cons (ps_set (i := 1) sc_swings_of.nd rfl (Or.inl rfl) (pe_callB (cr_sumT rfl) (by rfl) T.b_sum (by decide +kernel) (pa_cons (pe_pr F_Step_amounts (hr.mono (by decide)) T.cl_Step T.pr_Step_amounts (pv 0)) pa_nil)))
  (pss_cons (ps_if (pt_cmpR op_eq (pe_pr F_Step_kind (hr.mono (by decide)) T.cl_Step T.pr_Step_kind (pv 0)) pe_str (nomark _))
  (pss_one (ps_ret (pe_tup (pa_cons (pv 1) (pa_cons (pe_un un_neg (pv 1)) pa_nil)))))
  pss_nil)
  (pss_cons (ps_if (pt_cmpR op_eq (pe_pr F_Step_kind (hr.mono (by decide)) T.cl_Step T.pr_Step_kind (pv 0)) pe_str (nomark _))
  (pss_one (ps_ret (pe_tup (pa_cons (pe_un un_neg (pv 1)) (pa_cons (pv 1) pa_nil)))))
  pss_nil)
  (pss_cons (ps_if (pt_cmpR op_eq (pe_pr F_Step_kind (hr.mono (by decide)) T.cl_Step T.pr_Step_kind (pv 0)) pe_str (nomark _))
  (pss_one (ps_ret (pe_tup pa_nil)))
  pss_nil)
  (pss_one (ps_ret (pe_ifExp (pt_cmpR op_eq (pe_pr F_Step_kind (hr.mono (by decide)) T.cl_Step T.pr_Step_kind (pv 0)) pe_str (nomark _)) (pe_tup (pa_cons (pv 1) pa_nil)) (pe_tup (pa_cons (pe_un un_neg (pv 1)) pa_nil))))))))), ?_⟩)
  obtain ⟨st⟩ := a
  refine q_asg (a := (numsS st).sum) (ev_sumT (ev_prS (ev_var rfl hv) trivial)) fun v1 H1 s1 hv1 => ?_
  obtain rfl : v1 = .int (numsS st).sum := hv1
  have hv2 := Rp.mono s1 hv
  have kd : ∀ {H' : Hp} {z : Str}, Same H1 H' → EtR (tB (tOp rEq (tProp 508 (Pure1 (fun _ : StepO => True) fun r => kindS r.st) [] E0 (tVar 0)) (tC (.str z)))) [some v, some (.int (numsS st).sum)] H' (decide (kindS st = z)) := fun s => et_B (ev_eqS (ev_prS (ev_var (a := StepO.mk st) rfl (Rp.mono s hv2)) trivial) ev_str)
  cases st with
  | fill g =>
    have e : (numsS (.fill g)).sum = g := by show g + 0 = g; omega
    refine q_if (b := true) ((kd (Same.refl _)).eq (kd_fill _)) (fun _ H2 s2 => ?_) (fun c => by cases c)
    refine s_ret (a := [g, -g]) (ev_tupL2 (ev_var (a := g) rfl (by rw [e]; rfl)) (ev_un (ev_var (a := g) rfl (by rw [e]; rfl)))) fun u H3 s3 hu => kk _ _ ((s1.trans s2).trans s3) hu
  | drop g =>
    have e : (numsS (.drop g)).sum = g := by show g + 0 = g; omega
    refine q_if (b := false) ((kd (Same.refl _)).eq (kd_fill _)) (fun c => by cases c) (fun _ H2 s2 => ?_)
    refine q_if (b := true) ((kd s2).eq (kd_drop _)) (fun _ H3 s3 => ?_) (fun c => by cases c)
    refine s_ret (a := [-g, g]) (ev_tupL2 (ev_un (ev_var (a := g) rfl (by rw [e]; rfl))) (ev_var (a := g) rfl (by rw [e]; rfl))) fun u H4 s4 hu => kk _ _ (((s1.trans s2).trans s3).trans s4) hu
  | widen a b =>
    have e : (numsS (.widen a b)).sum = a + b := by show a + (b + 0) = a + b; omega
    refine q_if (b := false) ((kd (Same.refl _)).eq (kd_fill _)) (fun c => by cases c) (fun _ H2 s2 => ?_)
    refine q_if (b := false) ((kd s2).eq (kd_drop _)) (fun c => by cases c) (fun _ H3 s3 => ?_)
    refine q_if (b := false) ((kd (s2.trans s3)).eq (kd_shift _)) (fun c => by cases c) (fun _ H4 s4 => ?_)
    refine s_ret (a := [a + b]) (ev_if (b := true) ((kd ((s2.trans s3).trans s4)).eq (kd_widen _)) (fun _ => ev_tup1 (ev_var (a := a + b) rfl (by rw [e]; rfl))) (fun c => by cases c)) fun u H5 s5 hu => kk _ _ ((((s1.trans s2).trans s3).trans s4).trans s5) hu
  | trim a b =>
    have e : (numsS (.trim a b)).sum = a + b := by show a + (b + 0) = a + b; omega
    refine q_if (b := false) ((kd (Same.refl _)).eq (kd_fill _)) (fun c => by cases c) (fun _ H2 s2 => ?_)
    refine q_if (b := false) ((kd s2).eq (kd_drop _)) (fun c => by cases c) (fun _ H3 s3 => ?_)
    refine q_if (b := false) ((kd (s2.trans s3)).eq (kd_shift _)) (fun c => by cases c) (fun _ H4 s4 => ?_)
    refine s_ret (a := [-(a + b)]) (ev_if (b := false) ((kd ((s2.trans s3).trans s4)).eq (kd_widen _)) (fun c => by cases c) (fun _ => ev_tup1 (ev_un (ev_var (a := a + b) rfl (by rw [e]; rfl))))) fun u H5 s5 hu => kk _ _ ((((s1.trans s2).trans s3).trans s4).trans s5) hu
  | shift n =>
    refine q_if (b := false) ((kd (Same.refl _)).eq (kd_fill _)) (fun c => by cases c) (fun _ H2 s2 => ?_)
    refine q_if (b := false) ((kd s2).eq (kd_drop _)) (fun c => by cases c) (fun _ H3 s3 => ?_)
    refine q_if (b := true) ((kd (s2.trans s3)).eq (kd_shift _)) (fun _ H4 s4 => ?_) (fun c => by cases c)
    exact s_ret (a := ([] : List Int)) ev_tup0 fun u H5 s5 hu => kk _ _ ((((s1.trans s2).trans s3).trans s4).trans s5) hu
theorem sc_edges_of : FnScope ["step"] ["step"] (defScope s_edges_of) := ⟨rfl, rfl, rfl, by decide +kernel, rfl, by decide +kernel, by decide +kernel⟩
theorem F_edges_of (T : Tx w K mg) : Fn P w K mg base 3 d_edges_of ["step"] (Pure1 (fun _ : StepO => True) fun r => CM.edge r.st) := by
  have F_Step_kind : Fn P w K mg base 1 d_Step_kind ["self"] _ := F_Step_kind T
  have F_Step_amounts : Fn P w K mg base 1 d_Step_amounts ["self"] _ := F_Step_amounts T
  refine mk_pure1 T.f_edges_of sc_edges_of (fun _ _ _ _ _ _ _ => rfl) (fun cdv A outer s H Q E hr v a hv _ kk => ⟨_, (pss_cons (ps_if (pt_cmpR op_eq (pe_pr F_Step_kind (hr.mono (by decide)) T.cl_Step T.pr_Step_kind (pv 0)) pe_str (nomark _))
  (pss_one (ps_ret (pe_tup (pa_cons (pe_ix ix_tup (pe_pr F_Step_amounts (hr.mono (by decide)) T.cl_Step T.pr_Step_amounts (pv 0)) pe_int (fun _ _ => rfl)) (pa_cons (pe_ix ix_tup (pe_pr F_Step_amounts (hr.mono (by decide)) T.cl_Step T.pr_Step_amounts (pv 0)) pe_int (fun _ _ => rfl)) pa_nil)))))
  pss_nil)
  (pss_cons (ps_if (pt_cmpR op_eq (pe_pr F_Step_kind (hr.mono (by decide)) T.cl_Step T.pr_Step_kind (pv 0)) pe_str (nomark _))
  (pss_one (ps_ret (pe_tup (pa_cons (pe_un un_neg (pe_ix ix_tup (pe_pr F_Step_amounts (hr.mono (by decide)) T.cl_Step T.pr_Step_amounts (pv 0)) pe_int (fun _ _ => rfl))) (pa_cons (pe_ix ix_tup (pe_pr F_Step_amounts (hr.mono (by decide)) T.cl_Step T.pr_Step_amounts (pv 0)) pe_int (fun _ _ => rfl)) pa_nil)))))
  pss_nil)
  (pss_one (ps_ret (pe_ifExp (pt_cmpR op_eq (pe_pr F_Step_kind (hr.mono (by decide)) T.cl_Step T.pr_Step_kind (pv 0)) pe_str (nomark _)) (pe_tup (pa_cons (pe_ix ix_tup (pe_pr F_Step_amounts (hr.mono (by decide)) T.cl_Step T.pr_Step_amounts (pv 0)) pe_int (fun _ _ => rfl)) (pa_cons (pe_un un_neg (pe_ix ix_tup (pe_pr F_Step_amounts (hr.mono (by decide)) T.cl_Step T.pr_Step_amounts (pv 0)) pe_int (fun _ _ => rfl))) pa_nil))) (pe_tup (pa_cons pe_int (pa_cons pe_int pa_nil)))))))), ?_⟩)
  obtain ⟨st⟩ := a
  have kd : ∀ {H' : Hp} {z : Str}, Same H H' → EtR (tB (tOp rEq (tProp 508 (Pure1 (fun _ : StepO => True) fun r => kindS r.st) [] E0 (tVar 0)) (tC (.str z)))) [some v] H' (decide (kindS st = z)) := fun s => et_B (ev_eqS (ev_prS (ev_var (a := StepO.mk st) rfl (Rp.mono s hv)) trivial) ev_str)
  have am : ∀ {H' : Hp} {i : Int} {n : Nat} {x : Int}, Same H H' → i = (n : Int) → (numsS st)[n]? = some x → EvR (tOp (rIxT K) (tProp 508 (Pure1 (fun _ : StepO => True) fun r => numsS r.st) [] E0 (tVar 0)) (tC (.int i))) [some v] H' x := fun s ei e => ev_ixT (ev_prS (ev_var (a := StepO.mk st) rfl (Rp.mono s hv)) trivial) ev_int ei e
  cases st with
  | fill g =>
    refine q_if (b := false) ((kd (Same.refl _)).eq (kd_shift _)) (fun c => by cases c) (fun _ H2 s2 => ?_)
    refine q_if (b := false) ((kd s2).eq (kd_widen _)) (fun c => by cases c) (fun _ H3 s3 => ?_)
    exact s_ret (a := ((0 : Int), (0 : Int))) (ev_if (b := false) ((kd (s2.trans s3)).eq (kd_trim _)) (fun c => by cases c) (fun _ => ev_tup2 ev_int ev_int)) fun u H4 s4 hu => kk _ _ ((s2.trans s3).trans s4) hu
  | drop g =>
    refine q_if (b := false) ((kd (Same.refl _)).eq (kd_shift _)) (fun c => by cases c) (fun _ H2 s2 => ?_)
    refine q_if (b := false) ((kd s2).eq (kd_widen _)) (fun c => by cases c) (fun _ H3 s3 => ?_)
    exact s_ret (a := ((0 : Int), (0 : Int))) (ev_if (b := false) ((kd (s2.trans s3)).eq (kd_trim _)) (fun c => by cases c) (fun _ => ev_tup2 ev_int ev_int)) fun u H4 s4 hu => kk _ _ ((s2.trans s3).trans s4) hu
  | widen a b =>
    refine q_if (b := false) ((kd (Same.refl _)).eq (kd_shift _)) (fun c => by cases c) (fun _ H2 s2 => ?_)
    refine q_if (b := true) ((kd s2).eq (kd_widen _)) (fun _ H3 s3 => ?_) (fun c => by cases c)
    exact s_ret (a := (-a, b)) (ev_tup2 (ev_un (am (n := 0) (s2.trans s3) rfl rfl)) (am (n := 1) (s2.trans s3) rfl rfl)) fun u H4 s4 hu => kk _ _ ((s2.trans s3).trans s4) hu
  | trim a b =>
    refine q_if (b := false) ((kd (Same.refl _)).eq (kd_shift _)) (fun c => by cases c) (fun _ H2 s2 => ?_)
    refine q_if (b := false) ((kd s2).eq (kd_widen _)) (fun c => by cases c) (fun _ H3 s3 => ?_)
    exact s_ret (a := (a, -b)) (ev_if (b := true) ((kd (s2.trans s3)).eq (kd_trim _)) (fun _ => ev_tup2 (am (n := 0) (s2.trans s3) rfl rfl) (ev_un (am (n := 1) (s2.trans s3) rfl rfl))) (fun c => by cases c)) fun u H4 s4 hu => kk _ _ ((s2.trans s3).trans s4) hu
  | shift n =>
    refine q_if (b := true) ((kd (Same.refl _)).eq (kd_shift _)) (fun _ H2 s2 => ?_) (fun c => by cases c)
    exact s_ret (a := (n, n)) (ev_tup2 (am (n := 0) s2 rfl rfl) (am (n := 0) s2 rfl rfl)) fun u H3 s3 hu => kk _ _ (s2.trans s3) hu
/-! ### plain: what Row does to these -/
theorem fillA_len (g : Int) : ∀ (r : List Sn) (c : Sn), (CM.fillA g c r).length ≤ r.length + 1
  | [], _ => Nat.le_refl _
  | x :: r, c => by
    unfold CM.fillA
    split
    · have := fillA_len g r (c.1, x.2)
      simp only [List.length_cons]
      omega
    · have := fillA_len g r x
      simp only [List.length_cons]
      omega
theorem fill_len (g : Int) (X : List Sn) : (CM.fill g X).length ≤ X.length := by
  cases X with
  | nil => exact Nat.le_refl _
  | cons x r => exact fillA_len g r x
theorem moved_len (X : List Sn) (a b : Int) : (movedM X a b).length ≤ X.length := by
  unfold movedM
  rw [List.length_map]
  exact List.length_filter_le _ _
theorem asc_moved {X : List Sn} (g : CM.Good 0 0 X) (a b : Int) : Asc (movedM X a b) := by
  have h := asc_good g
  unfold movedM
  refine ⟨fun x hx => ?_, ?_⟩
  · obtain ⟨y, hy, rfl⟩ := List.mem_map.mp hx
    exact of_decide_eq_true (List.mem_filter.mp hy).2
  · refine List.pairwise_map.mpr ((h.2.sublist List.filter_sublist).imp fun q => ?_)
    show _ + a < _ + a ∧ _ + b ≤ _ + b
    omega
theorem row_good {J L : Int} {X : List Sn} (g : CM.Good J L X) (hL : 0 ≤ L) : CM.fill 0 X = X := CM.fill_id g hL
theorem step_fill {X : List Sn} (g : CM.Good 0 0 X) {n : Int} (h : 0 ≤ n) : CM.Good 0 0 (CM.fill n X) := CM.fill_good0 g
theorem moved_widen {X : List Sn} (g : CM.Good 0 0 X) {a b : Int} (ha : 0 ≤ a) (hb : 0 ≤ b) : movedM X (-a) b = CM.mov (-a) b X := by
  unfold movedM CM.mov
  rw [List.filter_eq_self.mpr fun x hx => decide_eq_true (by have := g.1 x hx; omega)]
theorem moved_shift {X : List Sn} (g : CM.Good 0 0 X) (n : Int) : movedM X n n = CM.mov n n X := by
  unfold movedM CM.mov
  rw [List.filter_eq_self.mpr fun x hx => decide_eq_true (by have := g.1 x hx; omega)]
theorem moved_trim {X : List Sn} {a b : Int} : movedM X a (-b) = CM.mov a (-b) (CM.drp (a + b) X) := by
  unfold movedM CM.mov CM.drp
  congr 1
  refine List.filter_congr fun x _ => ?_
  rw [decide_eq_decide]
  omega
theorem row_moved {X : List Sn} (g : CM.Good 0 0 X) {s : Stp} (ok : s.ok) (hk : ∀ n, s ≠ .fill n ∧ s ≠ .drop n) : CM.fill 0 (movedM X (CM.edge s).1 (CM.edge s).2) = CM.stepF s X := by
  cases s with
  | fill n => exact absurd rfl (hk n).1
  | drop n => exact absurd rfl (hk n).2
  | widen a b =>
    show CM.fill 0 (movedM X (-a) b) = CM.fill 0 (CM.mov (-a) b X)
    rw [moved_widen g ok.1 ok.2]
  | trim a b =>
    show CM.fill 0 (movedM X a (-b)) = CM.mov a (-b) (CM.drp (a + b) X)
    rw [moved_trim]
    exact CM.fill_id (CM.stepF_good (st := .trim a b) ok g) (Int.le_refl 0)
  | shift n =>
    show CM.fill 0 (movedM X n n) = CM.mov n n X
    rw [moved_shift g]
    exact CM.fill_id (CM.stepF_good (st := .shift n) ok g) (Int.le_refl 0)
theorem sc_Step_call : FnScope ["self", "row", "pair", "ahead", "after"] ["self", "row"] (defScope s_Step_call) := ⟨rfl, rfl, rfl, by decide +kernel, rfl, by decide +kernel, by decide +kernel⟩
abbrev CallPre (s : StepO) (r : RowO) : Prop := s.st.ok ∧ r.sp.length ≤ 1000 ∧ CM.Good 0 0 r.sp
def callS (s : StepO) (r : RowO) : RowO := ⟨CM.stepF s.st r.sp⟩
theorem F_Step_call (T : Tx w K mg) : Fn P w K mg base 4 d_Step_call ["self", "row"] (Pure2 CallPre callS) := by
  have F_Row_tup : Fn P w K mg base 2 d_Row_init ["self", "pairs"] _ := F_Row_tup T
  have F_Row_lst : Fn P w K mg base 2 d_Row_init ["self", "pairs"] _ := F_Row_lst T
  have F_Row_spans : Fn P w K mg base 1 d_Row_spans ["self"] _ := F_Row_spans T
  have F_filled : Fn P w K mg base 1 d_filled ["spans", "gap"] _ := F_filled T
  have F_moved : Fn P w K mg base 1 d_moved ["spans", "ahead", "after"] _ := F_moved T
  have F_edges_of : Fn P w K mg base 3 d_edges_of ["step"] _ := F_edges_of T
  refine mk_pure2 T.f_Step_call sc_Step_call (fun _ _ _ _ _ _ _ _ => rfl) (fun cdv A outer s H Q E hr v v1 a r hv h1 ha kk => ⟨_, (pss_cons (ps_if (pt_cmpR op_eq (pe_fld (pv 0) rfl) pe_str (nomark _))
  (pss_one (ps_ret (pe_mk F_Row_tup T.mk_Row (hr.mono (by decide)) T.g_Row (pa_cons (pe_fn F_filled (hr.mono (by decide)) T.g_filled (pa_cons (pe_pr F_Row_spans (hr.mono (by decide)) T.cl_Row T.pr_Row_spans (pv 1)) (pa_cons (pe_ix ix_tup (pe_fld (pv 0) rfl) pe_int (fun _ _ => rfl)) pa_nil))) pa_nil))))
  pss_nil)
  (pss_cons (ps_if (pt_cmpR op_eq (pe_fld (pv 0) rfl) pe_str (nomark _))
  (pss_one (ps_ret (pe_mk F_Row_lst T.mk_Row (hr.mono (by decide)) T.g_Row (pa_cons (pe_lc (own := [("pair", 2)]) (g := (gName 2)) rfl sc_Step_call.nd (pi_tup (pe_pr F_Row_spans (hr.mono (by decide)) T.cl_Row T.pr_Row_spans (pv 1))) (blkOk_by (own := [("pair", 2)]) (N := ["self", "row", "pair", "ahead", "after"]) (sc := defScope s_Step_call) (by decide +kernel)) (fun _ _ _ _ _ => (pg_name (i := 2) sc_Step_call.nd rfl (Or.inl rfl))) (fun _ _ _ _ _ => (pts_one (pt_cmpR op_gt (pe_op op_sub (pe_ix (ix_tupK (K := K) rfl) (pv 2) pe_int (fun _ _ => rfl)) (pe_ix (ix_tupK (K := K) rfl) (pv 2) pe_int (fun _ _ => rfl))) (pe_ix (ix_tupK (K := K) rfl) (pe_fldK (K := K) rfl (pv 0) rfl) pe_int (fun _ _ => rfl)) (nomark _)))) (fun _ _ _ _ _ => (pv 2))) pa_nil))))
  pss_nil)
  (pss_cons (ps_asg (pe_fn F_edges_of (hr.mono (by decide)) T.g_edges_of (pa_cons (pv 0) pa_nil)) (pg_tup rfl (pgs_cons (pg_name (i := 3) sc_Step_call.nd rfl (Or.inl rfl)) (pgs_cons (pg_name (i := 4) sc_Step_call.nd rfl (Or.inl rfl)) pgs_nil))))
  (pss_one (ps_ret (pe_mk F_Row_tup T.mk_Row (hr.mono (by decide)) T.g_Row (pa_cons (pe_fn F_moved (hr.mono (by decide)) T.g_moved (pa_cons (pe_pr F_Row_spans (hr.mono (by decide)) T.cl_Row T.pr_Row_spans (pv 1)) (pa_cons (pv 3) (pa_cons (pv 4) pa_nil)))) pa_nil))))))), ?_⟩)
  obtain ⟨st⟩ := a
  obtain ⟨X⟩ := r
  obtain ⟨ok, hl, g⟩ := ha
  have hl : X.length ≤ 1000 := hl
  have g : CM.Good 0 0 X := g
  have kd : ∀ {H' : Hp} {z : Str}, Same H H' → EtR (tB (tOp rEq (tFld K (tVar 0) "own_kind") (tC (.str z)))) [some v, some v1, none, none, none] H' (decide (kindS st = z)) := fun s => et_B (ev_eqS (ev_okind T.cl_Step T.na_own_kind (ev_var (a := StepO.mk st) rfl (Rp.mono s hv))) ev_str)
  have am : ∀ {σ : L2.St} {H' : Hp} {i : Int} {n : Nat} {x : Int}, σ[0]? = some (some v) → Same H H' → i = (n : Int) → (numsS st)[n]? = some x → EvR (tOp (rIxT K) (tFld K (tVar 0) "own_amounts") (tC (.int i))) σ H' x := fun e0 s ei e => ev_ixT (ev_oamounts T.cl_Step T.na_own_amounts (ev_var (a := StepO.mk st) e0 (Rp.mono s hv))) ev_int ei e
  have sp : ∀ {σ : L2.St} {H' : Hp}, σ[1]? = some (some v1) → Same H H' → EvR (tProp 422 (Pure1 (fun _ : RowO => True) RowO.sp) [] E0 (tVar 1)) σ H' X := fun e s => ev_prR (r := RowO.mk X) (ev_var e (Rp.mono s h1)) trivial
  have rest : ∀ {H3 : Hp}, Same H H3 → (∀ n, st ≠ .fill n ∧ st ≠ .drop n) → tSeq (tAsg (tCall (Pure1 (fun _ : StepO => True) fun r => CM.edge r.st) [] E0 (tCons (tVar 0) tNil)) (gTup K 2 (gCons (gName 3) (gCons (gName 4) gNil)))) (tRet (tMake 422 (InitOf 422 RowPre "own_spans" rowT) [] E0 (tCons (tCall (Pure3 (fun (u : List Sn) (_ _ : Int) => u.length ≤ 1000) movedM) [] E0 (tCons (tProp 422 (Pure1 (fun _ : RowO => True) RowO.sp) [] E0 (tVar 1)) (tCons (tVar 3) (tCons (tVar 4) tNil)))) tNil))) { nx := fun _ H' => Q .non H', rt := Q } [some v, some v1, none, none, none] H3 := fun {H3} s3 hk => by
    refine q_asgP (p := CM.edge st) (ev_call1 (ev_var (a := StepO.mk st) rfl (Rp.mono s3 hv)) trivial) fun x y H4 s4 hx hy => ?_
    refine s_ret (a := callS ⟨st⟩ ⟨X⟩) ((ev_rowT (ev_call3 (sp rfl (s3.trans s4)) (ev_var rfl hx) (ev_var rfl hy) hl) ⟨Nat.le_trans (moved_len _ _ _) hl, asc_moved g _ _⟩).eq ?_) fun u H5 s5 hu => kk _ _ ((s3.trans s4).trans s5) hu
    show RowO.mk (CM.fill 0 (movedM X _ _)) = RowO.mk _
    rw [row_moved g ok hk]
  cases st with
  | fill n =>
    refine q_if (b := true) ((kd (Same.refl _)).eq (kd_fill _)) (fun _ H2 s2 => ?_) (fun c => by cases c)
    have gf := step_fill g ok
    refine s_ret (a := callS ⟨.fill n⟩ ⟨X⟩) ((ev_rowT (ev_call2 (sp rfl s2) (am (n := 0) rfl s2 rfl rfl) ⟨hl, asc_good g⟩) ⟨Nat.le_trans (fill_len _ _) hl, asc_good gf⟩).eq ?_) fun u H3 s3 hu => kk _ _ (s2.trans s3) hu
    show RowO.mk (CM.fill 0 (CM.fill n X)) = RowO.mk (CM.fill n X)
    rw [row_good gf (Int.le_refl 0)]
  | drop n =>
    refine q_if (b := false) ((kd (Same.refl _)).eq (kd_fill _)) (fun c => by cases c) (fun _ H2 s2 => ?_)
    refine q_if (b := true) ((kd s2).eq (kd_drop _)) (fun _ H3 s3 => ?_) (fun c => by cases c)
    have gd := CM.drp_good0 (d := n) g
    refine s_ret (a := callS ⟨.drop n⟩ ⟨X⟩) ((ev_rowL (X := ⟨CM.drp n X⟩) ((ev_lc (fun x : Sn => decide (n < x.2 - x.1)) (id : Sn → Sn) (iw_tup (sp rfl (s2.trans s3))) (small_line (by omega)) (fun x u H4 s4 hx hu => ⟨rfl, Same.refl _, et_B (ev_opB (f := fun i j => decide (j < i)) (ev_opI (ev_snd (ev_var rfl hu)) (ev_fst (ev_var rfl hu))) (am (n := 0) rfl ((s2.trans s3).trans s4) rfl rfl)), fun _ => ev_var rfl hu⟩) gm_name).eq (congrArg Ls.mk (List.map_id _))) ⟨Nat.le_trans (List.length_filter_le _ _) hl, asc_good gd⟩).eq ?_) fun u H4 s4 hu => kk _ _ ((s2.trans s3).trans s4) hu
    show RowO.mk (CM.fill 0 (CM.drp n X)) = RowO.mk (CM.drp n X)
    rw [row_good gd (Int.le_refl 0)]
  | widen a b =>
    refine q_if (b := false) ((kd (Same.refl _)).eq (kd_fill _)) (fun c => by cases c) (fun _ H2 s2 => ?_)
    refine q_if (b := false) ((kd s2).eq (kd_drop _)) (fun c => by cases c) (fun _ H3 s3 => ?_)
    exact rest (s2.trans s3) fun n => ⟨fun e => (by cases e), fun e => (by cases e)⟩
  | trim a b =>
    refine q_if (b := false) ((kd (Same.refl _)).eq (kd_fill _)) (fun c => by cases c) (fun _ H2 s2 => ?_)
    refine q_if (b := false) ((kd s2).eq (kd_drop _)) (fun c => by cases c) (fun _ H3 s3 => ?_)
    exact rest (s2.trans s3) fun n => ⟨fun e => (by cases e), fun e => (by cases e)⟩
  | shift n =>
    refine q_if (b := false) ((kd (Same.refl _)).eq (kd_fill _)) (fun c => by cases c) (fun _ H2 s2 => ?_)
    refine q_if (b := false) ((kd s2).eq (kd_drop _)) (fun c => by cases c) (fun _ H3 s3 => ?_)
    exact rest (s2.trans s3) fun n => ⟨fun e => (by cases e), fun e => (by cases e)⟩
end Cf
set_option Elab.async false
set_option linter.all false
set_option maxRecDepth 100000
set_option maxHeartbeats 4000000
/-! The class Pipeline. -/
namespace Cf
open PySem PySem.Spec PyProof.Rows L2 Cs
local macro_rules | `(tactic| walk_at "lf") => `(tactic| first
  | assumption
  | exact rfl
  | exact Rp.mono (by assumption) (by assumption)
  | exact Rp.mono (Same.trans (by assumption) (by assumption)) (by assumption)
  | exact RpK.monoK (by assumption) (by assumption))
local macro_rules | `(tactic| walk_at "ev") => `(tactic| first
  | with_reducible exact ev_int
  | with_reducible exact ev_bl
  | with_reducible exact ev_fill
  | with_reducible exact ev_drop
  | with_reducible exact ev_str
  | ((with_reducible refine' ev_var ?hs ?hv); (case hs => exact rfl); (case hv => walk_at "lf"))
  | ((with_reducible refine' ev_opI ?ha ?hb); (case ha => walk_at "ev"); (case hb => walk_at "ev"))
  | ((with_reducible refine' ev_opB ?ha ?hb); (case ha => walk_at "ev"); (case hb => walk_at "ev"))
  | ((with_reducible refine' ev_opC ?ha ?hb ?hc); (case ha => walk_at "ev"); (case hb => walk_at "ev"); (case hc => first | assumption | skip))
  | ((with_reducible refine' ev_un ?ha); (case ha => walk_at "ev"))
  | ((with_reducible refine' ev_eqK ?ha ?hb); (case ha => walk_at "ev"); (case hb => walk_at "ev"))
  | ((with_reducible refine' ev_eqI ?ha ?hb); (case ha => walk_at "ev"); (case hb => walk_at "ev"))
  | ((with_reducible refine' ev_eqS ?ha ?hb); (case ha => walk_at "ev"); (case hb => walk_at "ev"))
  | ((with_reducible refine' ev_neK ?ha ?hb); (case ha => walk_at "ev"); (case hb => walk_at "ev"))
  | ((with_reducible refine' ev_neI ?ha ?hb); (case ha => walk_at "ev"); (case hb => walk_at "ev"))
  | ((with_reducible refine' ev_neS ?ha ?hb); (case ha => walk_at "ev"); (case hb => walk_at "ev"))
  | ((with_reducible refine' ev_tup2 ?ha ?hb); (case ha => walk_at "ev"); (case hb => walk_at "ev"))
  | ((with_reducible refine' ev_tup1 ?ha); (case ha => walk_at "ev"))
  | with_reducible exact ev_tup0
  | ((with_reducible refine' ev_fst ?ha); (case ha => walk_at "ev"))
  | ((with_reducible refine' ev_snd ?ha); (case ha => walk_at "ev"))
  | ((with_reducible refine' ev_max2 rfl ?ha ?hb); (case ha => walk_at "ev"); (case hb => walk_at "ev"))
  | ((with_reducible refine' ev_min2 rfl ?ha ?hb); (case ha => walk_at "ev"); (case hb => walk_at "ev"))
  | ((with_reducible refine' ev_abs rfl ?ha); (case ha => walk_at "ev"))
  | ((with_reducible refine' ev_intI rfl ?ha); (case ha => walk_at "ev"))
  | ((with_reducible refine' ev_intB rfl ?ha); (case ha => walk_at "ev"))
  | ((with_reducible refine' ev_len rfl ?ha); (case ha => walk_at "ev"))
  | ((with_reducible refine' ev_lenL rfl ?ha); (case ha => walk_at "ev"))
  | ((with_reducible refine' ev_tuple rfl ?ha); (case ha => walk_at "ev"))
  | ((with_reducible refine' ev_sum ?ha); (case ha => walk_at "ev"))
  | ((with_reducible refine' ev_chain ?ha ?hb ?hc); (case ha => walk_at "ev"); (case hb => walk_at "ev"); (case hc => walk_at "ev"))
  | ((with_reducible refine' et_test ?ha); (case ha => walk_at "ev"))
  | ((with_reducible refine' et_B ?ha); (case ha => walk_at "ev"))
  | ((with_reducible refine' et_not ?ha); (case ha => walk_at "ev"))
  | ((with_reducible refine' ev_not ?ha); (case ha => walk_at "ev"))
  | ((with_reducible refine' et_and ?ha ?hb); (case ha => walk_at "ev"); (case hb => intro _; walk_at "ev"))
  | ((with_reducible refine' et_or ?ha ?hb); (case ha => walk_at "ev"); (case hb => intro _; walk_at "ev"))
  | ((with_reducible refine' ev_and ?ha ?hb); (case ha => walk_at "ev"); (case hb => intro _; walk_at "ev"))
  | ((with_reducible refine' ev_or ?ha ?hb); (case ha => walk_at "ev"); (case hb => intro _; walk_at "ev"))
  | ((with_reducible refine' ev_call1 ?ha ?hp); (case ha => walk_at "ev"); (case hp => first | assumption | trivial))
  | ((with_reducible refine' ev_call2 ?ha ?hb ?hp); (case ha => walk_at "ev"); (case hb => walk_at "ev"); (case hp => first | assumption | trivial))
  | ((with_reducible refine' ev_call3 ?ha ?hb ?hc ?hp); (case ha => walk_at "ev"); (case hb => walk_at "ev"); (case hc => walk_at "ev"); (case hp => first | assumption | trivial)))
variable {P : Program} {w : World} {K : PySem.W.Frag} {mg : Str → Option Value} {base : Heap}
/-! ### combs -/
theorem sc_comb : FnScope ["first", "length", "gap", "many", "at"] ["first", "length", "gap", "many"] (defScope s_comb) := ⟨rfl, rfl, rfl, by decide +kernel, rfl, by decide +kernel, by decide +kernel⟩
abbrev CombPre (f l g n : Int) : Prop := f = 0 ∧ 0 < l ∧ 0 < g ∧ 0 ≤ n ∧ n ≤ 1000
def combM (f l g n : Int) : RowO := ⟨CM.combL f l g n.toNat⟩
theorem comb_list (f l g n : Int) : (upto 0 n.toNat).map (fun (i : Int) => (f + i * (l + g), f + i * (l + g) + l)) = CM.combL f l g n.toNat := by
  unfold upto CM.combL
  rw [List.map_map]
  refine List.map_congr_left fun i _ => ?_
  show (f + (0 + (i : Int)) * (l + g), f + (0 + (i : Int)) * (l + g) + l) = _
  rw [Int.zero_add]
theorem comb_good {l g : Int} (hl : 0 < l) (hg : 0 < g) (f : Int) (n : Nat) : CM.Good (l - 1) (g - 1) (CM.combL f l g n) := by
  rw [CM.combL_eq]
  exact CM.combR_good hl hg n f
theorem comb_len (f l g : Int) (n : Nat) : (CM.combL f l g n).length = n := by
  unfold CM.combL
  rw [List.length_map, List.length_range]
theorem F_comb (T : Tx w K mg) : Fn P w K mg base 4 d_comb ["first", "length", "gap", "many"] (Pure4 CombPre combM) := by
  have F_Row_lst : Fn P w K mg base 2 d_Row_init ["self", "pairs"] _ := F_Row_lst T
  refine mk_pure4 T.f_comb sc_comb (fun _ _ _ _ _ _ _ _ _ _ => rfl) (fun cdv A outer s H Q E hr v v1 v2 v3 f l g n hv h1 h2 h3 ha kk => ⟨_, (pss_one (ps_ret (pe_mk F_Row_lst T.mk_Row (hr.mono (by decide)) T.g_Row (pa_cons (pe_lc (own := [("at", 4)]) (g := (gName 4)) rfl sc_comb.nd (pi_range1 (by rfl) T.b_range (pa_cons (pv 3) pa_nil)) (blkOk_by (own := [("at", 4)]) (N := ["first", "length", "gap", "many", "at"]) (sc := defScope s_comb) (by decide +kernel)) (fun _ _ _ _ _ => (pg_name (i := 4) sc_comb.nd rfl (Or.inl rfl))) (fun _ _ _ _ _ => pts_nil) (fun _ _ _ _ _ => (pe_tup (pa_cons (pe_op op_add (pv 0) (pe_op op_mul (pv 4) (pe_op op_add (pv 1) (pv 2)))) (pa_cons (pe_op op_add (pe_op op_add (pv 0) (pe_op op_mul (pv 4) (pe_op op_add (pv 1) (pv 2)))) (pv 1)) pa_nil))))) pa_nil)))), ?_⟩)
  obtain ⟨hf, hl, hg, hn, hn2⟩ := ha
  obtain rfl : v = .int f := hv
  obtain rfl : v1 = .int l := h1
  obtain rfl : v2 = .int g := h2
  obtain rfl : v3 = .int n := h3
  have gd := comb_good hl hg f n.toNat
  have gd0 : CM.Good 0 0 (CM.combL f l g n.toNat) := gd.mono (by omega) (by omega)
  refine s_ret (a := combM f l g n) ((ev_rowL (X := ⟨CM.combL f l g n.toNat⟩) ((ev_lcM (fun (i : Int) => (f + i * (l + g), f + i * (l + g) + l)) (iw_range1 (ev_var (a := n) rfl rfl) ⟨by omega, by omega⟩) (by rw [upto_len]; exact small_line (by omega)) (fun x u H2 s2 hx hu => ⟨rfl, Same.refl _, ?_⟩) gm_name).eq (congrArg Ls.mk (comb_list f l g n))) ⟨by show (CM.combL f l g n.toNat).length ≤ 1000; rw [comb_len]; omega, asc_good gd0⟩).eq ?_) fun u H2 s2 hu => kk _ _ s2 hu
  · show RowO.mk (CM.fill 0 _) = RowO.mk _
    rw [CM.fill_id gd0 (Int.le_refl 0)]
  · obtain ⟨m, hm, em⟩ := List.mem_map.mp hx
    have hm' := List.mem_range.mp hm
    obtain rfl : u = .int x := hu
    have cm : CMul x (l + g) := .inl ⟨by omega, by omega⟩
    have e1 : EvR (tOp (rI CMul fun i j => .int (i * j)) (tVar 4) (tOp (rI0 fun i j => .int (i + j)) (tVar 1) (tVar 2))) [some (.int f), some (.int l), some (.int g), some (.int n), some (.int x)] H2 (x * (l + g)) := ev_opC (ev_var rfl rfl) (ev_opI (ev_var rfl rfl) (ev_var rfl rfl)) cm
    have e2 : EvR (tOp (rI0 fun i j => .int (i + j)) (tVar 0) (tOp (rI CMul fun i j => .int (i * j)) (tVar 4) (tOp (rI0 fun i j => .int (i + j)) (tVar 1) (tVar 2)))) [some (.int f), some (.int l), some (.int g), some (.int n), some (.int x)] H2 (f + x * (l + g)) := ev_opI (ev_var rfl rfl) e1
    exact ev_tup2 e2 (ev_opI e2 (ev_var rfl rfl))
/-! ### Pipeline -/
theorem sc_Pipeline_init : FnScope ["self", "steps"] ["self", "steps"] (defScope s_Pipeline_init) := ⟨rfl, rfl, rfl, by decide +kernel, rfl, by decide +kernel, by decide +kernel⟩
theorem pipe_bind : ∀ (T : Addr) (kV doc pm : Value) (an : Option Addr) (cdv ct : Value) (us its : List Value), us.length = 2 → its.length = 1 →
      ∃ k, bindArgs (PySem.W.fnOf d_Pipeline_init.name d_Pipeline_init.qual (defArgs d_Pipeline_init.st) (defBody d_Pipeline_init.st) (defScope d_Pipeline_init.st) (.ref T) kV doc pm an cdv ct) ⟨us, []⟩ = seqItems? (.ref T) >>= k ∧ k (some its.toArray) = pure ([("self" : Str), "steps"].zip (us ++ its.drop 1)) := fun T kV doc pm an cdv ct us its h1 h2 => match us, its, h1, h2 with
  | [_, _], [_], _, _ => ⟨_, rfl, rfl⟩
def lsVal (l : Ls StepO) : List StepO := l.val
theorem F_Pipeline_init (T : Tx w K mg) : Fn P w K mg base 1 d_Pipeline_init ["self", "steps"] (InitOf 718 (fun _ : Ls StepO => True) "own_steps" lsVal) := by
  refine mk_fnD T.f_Pipeline_init sc_Pipeline_init rfl pipe_bind (fun vs H Q E h => by obtain ⟨a, dx, v1, x, e, _⟩ := h; rw [e]; rfl) (fun cdv A outer s H vs Q E hr h => ?_)
  obtain ⟨a, dx, v1, X, rfl, ha, hv, hp, kk⟩ := h
  refine ⟨_, (pss_one (ps_fld (pv 0) (pe_callTy call_tuple_of (by rfl) T.b_tuple (by decide +kernel) (pa_cons (pv 1) pa_nil)) rfl)), ?_⟩
  show sFld K (tVar 0) (tCB _ (tCons (tVar 1) tNil)) _ _ _ _
  refine s_fldE (x := lsVal X) (ev_tuple rfl (ev_var rfl hv)) rfl ha T.cl_Pipeline T.na_own_steps (by decide) fun y H3 s3 hy => ?_
  exact kk H3 y s3 hy
theorem ev_pipe {σ : L2.St} {H : Hp} {te : TE} {p : List Stp} (h : EvR te σ H (⟨p.map StepO.mk⟩ : Ls StepO)) : EvR (tMake 718 (InitOf 718 (fun _ : Ls StepO => True) "own_steps" lsVal) [] E0 (tCons te tNil)) σ H (PipeO.mk p) := ev_mk (by decide) (fun H a dx y h1 h2 => ⟨a, dx, y, rfl, h1, h2⟩) h trivial
/-- heights by swings -/
def goS (h : Int) : List Int → List Int
  | [] => []
  | s :: r => (h + s) :: goS (h + s) r
theorem goS_app : ∀ (a b : List Int) (h : Int), goS h (a ++ b) = goS h a ++ goS (h + a.sum) b
  | [], b, h => by
    show goS h b = goS (h + 0) b
    rw [Int.add_zero]
  | x :: a, b, h => by
    show (h + x) :: goS (h + x) (a ++ b) = (h + x) :: (goS (h + x) a ++ goS (h + (x + a.sum)) b)
    rw [goS_app a b (h + x), Int.add_assoc]
theorem hts_go : ∀ (p : List Stp) (h : Int), CM.hts h p = goS h (p.flatMap CM.swings)
  | [], _ => rfl
  | .fill g :: r, h => by
    show (h + g) :: h :: CM.hts h r = (h + g) :: (h + g + -g) :: goS (h + g + -g) (r.flatMap CM.swings)
    rw [show h + g + -g = h by omega, hts_go r h]
  | .drop g :: r, h => by
    show (h - g) :: h :: CM.hts h r = (h + -g) :: (h + -g + g) :: goS (h + -g + g) (r.flatMap CM.swings)
    rw [show h + -g + g = h by omega, hts_go r h]
    rfl
  | .widen a b :: r, h => by
    show (h + (a + b)) :: CM.hts (h + (a + b)) r = (h + (a + b)) :: goS (h + (a + b)) (r.flatMap CM.swings)
    rw [hts_go r]
  | .trim a b :: r, h => by
    show (h - (a + b)) :: CM.hts (h - (a + b)) r = (h + -(a + b)) :: goS (h + -(a + b)) (r.flatMap CM.swings)
    rw [hts_go r]
    rfl
  | .shift n :: r, h => hts_go r h
theorem goS_len : ∀ (l : List Int) (h : Int), (goS h l).length = l.length
  | [], _ => rfl
  | _ :: l, h => congrArg Nat.succ (goS_len l _)
theorem swings_len (s : Stp) : (CM.swings s).length ≤ 2 := by cases s <;> simp [CM.swings]
theorem swl (p : List Stp) : (p.flatMap CM.swings).length ≤ 2 * p.length := by
  induction p with
  | nil => exact Nat.le_refl _
  | cons s r ih =>
    rw [List.flatMap_cons, List.length_append]
    have := swings_len s
    simp only [List.length_cons]
    omega
theorem trip_len (p : List Stp) : (CM.trip p).length ≤ 2 * p.length + 1 := by
  have e : CM.trip p = 0 :: goS 0 (p.flatMap CM.swings) := by rw [← hts_go]; rfl
  rw [e, List.length_cons, goS_len]
  have := swl p
  omega
theorem sc_Pipeline_heights : FnScope ["self", "found", "step", "swing"] ["self"] (defScope s_Pipeline_heights) := ⟨rfl, rfl, rfl, by decide +kernel, rfl, by decide +kernel, by decide +kernel⟩
abbrev PPre (p : PipeO) : Prop := p.ss.length ≤ 100
theorem F_Pipeline_heights (T : Tx w K mg) : Fn P w K mg base 4 d_Pipeline_heights ["self"] (Pure1 PPre fun p => CM.trip p.ss) := by
  have F_swings_of : Fn P w K mg base 3 d_swings_of ["step"] _ := F_swings_of T
  refine mk_pure1 T.f_Pipeline_heights sc_Pipeline_heights (fun _ _ _ _ _ _ _ => rfl) (fun cdv A outer s H Q E hr v a hv ha kk => ⟨_, (pss_cons (ps_set (i := 1) sc_Pipeline_heights.nd rfl (Or.inl rfl) (pe_lst (pa_cons pe_int pa_nil)))
  (pss_cons (ps_for PassesOwn.never rfl (pi_tup (pe_fld (pv 0) rfl)) (pg_name (i := 2) sc_Pipeline_heights.nd rfl (Or.inl rfl))
  (pss_one (ps_for PassesOwn.never rfl (pi_tup (pe_fn F_swings_of (hr.mono (by decide)) T.g_swings_of (pa_cons (pv 2) pa_nil))) (pg_name (i := 3) sc_Pipeline_heights.nd rfl (Or.inl rfl))
  (pss_one (ps_expr (pe_bm PySem.F.plainAttrs_list PySem.F.slot_list_append PySem.F.type_list_append mt_append (pv 1) (pa_cons (pe_op op_add (pe_ix ix_list (pv 1) (pe_un un_neg pe_int) (fun _ _ => rfl)) (pv 3)) pa_nil)))))))
  (pss_one (ps_ret (pe_callTy call_tuple_of (by rfl) T.b_tuple (by decide +kernel) (pa_cons (pv 1) pa_nil)))))), ?_⟩)
  obtain ⟨p⟩ := a
  have ha : p.length ≤ 100 := ha
  refine ⟨by show 1 ≤ sizeLine; decide, fun l hl => ?_⟩
  have L1 : Lat (upd H l (.lst [.int 0])) l ([0] : List Int) := ⟨[.int 0], upd_same, rfl, trivial⟩
  have s1 : Same H (upd H l (.lst [.int 0])) := same_new hl
  generalize upd H l (.lst [.int 0]) = H1 at L1 s1
  obtain ⟨ys0, hy0⟩ := L1.at
  refine s_forL (il_tup hy0 (ev_osteps T.cl_Pipeline T.na_own_steps (ev_var (a := PipeO.mk p) rfl (Rp.mono s1 hv)))) (fun r σ' H' => ∃ (y2 y3 : Option V) (found : List Int) (h : Int), σ' = [some v, some (.ref l), y2, y3] ∧ Lat H' l found ∧ found.length + (r.flatMap fun x => CM.swings x.st).length ≤ 1000 ∧ found.getLast? = some h ∧ found ++ goS h (r.flatMap fun x => CM.swings x.st) = CM.trip p)
    (fun H2 s2 => ⟨none, none, [0], 0, rfl, L1.up s2, ?_, rfl, ?_⟩) ?_ ?_
  · rw [List.flatMap_map]
    have := swl p
    show 1 + _ ≤ 1000
    show 1 + (p.flatMap CM.swings).length ≤ 1000
    omega
  · rw [List.flatMap_map]
    show 0 :: goS 0 (p.flatMap CM.swings) = _
    rw [← hts_go]
    rfl
  · rintro H2 s2 x r u σ' H' H0 hx s0 sd ⟨y2, y3, found, h, rfl, L0, hz, hla, hf⟩ hu
    have L' := L0.up s0
    obtain ⟨ys1, hy1⟩ := L'.at
    rw [List.flatMap_cons] at hz hf
    refine s_forL (il_tup hy1 (ev_call1 (f := fun r : StepO => CM.swings r.st) (ev_var rfl hu) trivial)) (fun r2 σ' H' => ∃ (y3 : Option V) (found : List Int) (h : Int), σ' = [some v, some (.ref l), some u, y3] ∧ Lat H' l found ∧ found.length + (r2 ++ r.flatMap fun x => CM.swings x.st).length ≤ 1000 ∧ found.getLast? = some h ∧ found ++ goS h (r2 ++ r.flatMap fun x => CM.swings x.st) = CM.trip p)
      (fun H3 s3 => ⟨y3, found, h, rfl, L'.up s3, hz, hla, hf⟩) ?_ ?_
    · rintro H3 s3 z r2 u2 σ' H'' H0 hx s0 sd2 ⟨y3, found, h, rfl, L0, hz, hla, hf⟩ hu2
      obtain rfl : u2 = .int z := hu2
      have L5 := L0.up s0
      rw [List.cons_append, List.length_cons] at hz
      refine s_appL rfl L5 (a := h + z) (ev_opI (ev_last rfl L5 hla) (ev_var rfl rfl)) (small_line (by omega)) fun H6 L6 sd6 kp6 => ⟨⟨_, found ++ [h + z], h + z, rfl, L6, by rw [List.length_append, List.length_singleton]; omega, by rw [List.getLast?_append]; rfl, ?_⟩, dl_trans sd2 sd6⟩
      rw [← hf, List.append_assoc]
      rfl
    · rintro H3 s3 σ' H'' sd2 ⟨y3, found, h, rfl, L0, hz, hla, hf⟩
      exact ⟨⟨_, _, found, h, rfl, L0, hz, hla, hf⟩, dl_trans (sd.trans s3) sd2⟩
  · rintro H2 s2 σ' H' sd ⟨y2, y3, found, h, rfl, L0, hz, hla, hf⟩
    have hH : Same H H' := (same_dl (s1.trans s2) hl).trans sd
    have ef : found = CM.trip p := by rw [← hf]; exact (List.append_nil _).symm
    exact s_ret (a := CM.trip p) ((ev_tuple rfl (ev_var rfl L0.is)).eq ef) fun u H4 s4 hu => kk _ _ (hH.trans s4) hu
end Cf
set_option Elab.async false
set_option linter.all false
set_option maxRecDepth 100000
set_option maxHeartbeats 4000000
/-! The class Pipeline: words, edges, calls. -/
namespace Cf
open PySem PySem.Spec PyProof.Rows L2 Cs
local macro_rules | `(tactic| walk_at "lf") => `(tactic| first
  | assumption
  | exact rfl
  | exact Rp.mono (by assumption) (by assumption)
  | exact Rp.mono (Same.trans (by assumption) (by assumption)) (by assumption)
  | exact RpK.monoK (by assumption) (by assumption))
local macro_rules | `(tactic| walk_at "ev") => `(tactic| first
  | with_reducible exact ev_int
  | with_reducible exact ev_bl
  | with_reducible exact ev_fill
  | with_reducible exact ev_drop
  | with_reducible exact ev_str
  | ((with_reducible refine' ev_var ?hs ?hv); (case hs => exact rfl); (case hv => walk_at "lf"))
  | ((with_reducible refine' ev_opI ?ha ?hb); (case ha => walk_at "ev"); (case hb => walk_at "ev"))
  | ((with_reducible refine' ev_opB ?ha ?hb); (case ha => walk_at "ev"); (case hb => walk_at "ev"))
  | ((with_reducible refine' ev_opC ?ha ?hb ?hc); (case ha => walk_at "ev"); (case hb => walk_at "ev"); (case hc => first | assumption | skip))
  | ((with_reducible refine' ev_un ?ha); (case ha => walk_at "ev"))
  | ((with_reducible refine' ev_eqK ?ha ?hb); (case ha => walk_at "ev"); (case hb => walk_at "ev"))
  | ((with_reducible refine' ev_eqI ?ha ?hb); (case ha => walk_at "ev"); (case hb => walk_at "ev"))
  | ((with_reducible refine' ev_eqS ?ha ?hb); (case ha => walk_at "ev"); (case hb => walk_at "ev"))
  | ((with_reducible refine' ev_neK ?ha ?hb); (case ha => walk_at "ev"); (case hb => walk_at "ev"))
  | ((with_reducible refine' ev_neI ?ha ?hb); (case ha => walk_at "ev"); (case hb => walk_at "ev"))
  | ((with_reducible refine' ev_neS ?ha ?hb); (case ha => walk_at "ev"); (case hb => walk_at "ev"))
  | ((with_reducible refine' ev_tup2 ?ha ?hb); (case ha => walk_at "ev"); (case hb => walk_at "ev"))
  | ((with_reducible refine' ev_tup1 ?ha); (case ha => walk_at "ev"))
  | with_reducible exact ev_tup0
  | ((with_reducible refine' ev_fst ?ha); (case ha => walk_at "ev"))
  | ((with_reducible refine' ev_snd ?ha); (case ha => walk_at "ev"))
  | ((with_reducible refine' ev_max2 rfl ?ha ?hb); (case ha => walk_at "ev"); (case hb => walk_at "ev"))
  | ((with_reducible refine' ev_min2 rfl ?ha ?hb); (case ha => walk_at "ev"); (case hb => walk_at "ev"))
  | ((with_reducible refine' ev_abs rfl ?ha); (case ha => walk_at "ev"))
  | ((with_reducible refine' ev_intI rfl ?ha); (case ha => walk_at "ev"))
  | ((with_reducible refine' ev_intB rfl ?ha); (case ha => walk_at "ev"))
  | ((with_reducible refine' ev_len rfl ?ha); (case ha => walk_at "ev"))
  | ((with_reducible refine' ev_lenL rfl ?ha); (case ha => walk_at "ev"))
  | ((with_reducible refine' ev_tuple rfl ?ha); (case ha => walk_at "ev"))
  | ((with_reducible refine' ev_sum ?ha); (case ha => walk_at "ev"))
  | ((with_reducible refine' ev_chain ?ha ?hb ?hc); (case ha => walk_at "ev"); (case hb => walk_at "ev"); (case hc => walk_at "ev"))
  | ((with_reducible refine' et_test ?ha); (case ha => walk_at "ev"))
  | ((with_reducible refine' et_B ?ha); (case ha => walk_at "ev"))
  | ((with_reducible refine' et_not ?ha); (case ha => walk_at "ev"))
  | ((with_reducible refine' ev_not ?ha); (case ha => walk_at "ev"))
  | ((with_reducible refine' et_and ?ha ?hb); (case ha => walk_at "ev"); (case hb => intro _; walk_at "ev"))
  | ((with_reducible refine' et_or ?ha ?hb); (case ha => walk_at "ev"); (case hb => intro _; walk_at "ev"))
  | ((with_reducible refine' ev_and ?ha ?hb); (case ha => walk_at "ev"); (case hb => intro _; walk_at "ev"))
  | ((with_reducible refine' ev_or ?ha ?hb); (case ha => walk_at "ev"); (case hb => intro _; walk_at "ev"))
  | ((with_reducible refine' ev_call1 ?ha ?hp); (case ha => walk_at "ev"); (case hp => first | assumption | trivial))
  | ((with_reducible refine' ev_call2 ?ha ?hb ?hp); (case ha => walk_at "ev"); (case hb => walk_at "ev"); (case hp => first | assumption | trivial))
  | ((with_reducible refine' ev_call3 ?ha ?hb ?hc ?hp); (case ha => walk_at "ev"); (case hb => walk_at "ev"); (case hc => walk_at "ev"); (case hp => first | assumption | trivial)))
variable {P : Program} {w : World} {K : PySem.W.Frag} {mg : Str → Option Value} {base : Heap}
def wordP (p : PipeO) : Wk := CM.wordR p.ss
theorem cm_rt_len (f : CM.Wd) (x : Bool × Int) : (CM.rtStep f x).length ≤ f.length + 1 := by
  unfold CM.rtStep
  split
  · split
    · split
      · rw [List.length_append, List.length_dropLast, List.length_singleton]
        omega
      · rw [List.length_append, List.length_singleton]
        exact Nat.le_refl _
    · show 1 ≤ f.length + 1
      omega
  · exact Nat.le_succ _
theorem rt_len (f : Wk) (x : Kd × Int) : (rtStep f x).length ≤ f.length + 1 := cm_rt_len f x
theorem rts_len : ∀ (l f : Wk), (l.foldl rtStep f).length ≤ f.length + l.length
  | [], f => Nat.le_refl _
  | x :: l, f => by
    have h1 := rts_len l (rtStep f x)
    have h2 := rt_len f x
    rw [List.foldl_cons, List.length_cons]
    omega
theorem runTog_len (l : Wk) : (runTog l).length ≤ l.length := by
  have := rts_len l []
  show (l.foldl rtStep []).length ≤ _
  simpa using this
theorem word_len {p : PipeO} (h : PPre p) : (wordP p).length ≤ 1000 := by
  have h1 := runTog_len (alongR 0 0 (CM.trip p.ss))
  have h2 := alongR_len (CM.trip p.ss) 0 0
  have h3 := trip_len p.ss
  have h4 : p.ss.length ≤ 100 := h
  show (runTog (alongR 0 0 (CM.trip p.ss))).length ≤ 1000
  omega
theorem sc_Pipeline_word : FnScope ["self"] ["self"] (defScope s_Pipeline_word) := ⟨rfl, rfl, rfl, by decide +kernel, rfl, by decide +kernel, by decide +kernel⟩
theorem F_Pipeline_word (T : Tx w K mg) : Fn P w K mg base 6 d_Pipeline_word ["self"] (Pure1 PPre wordP) := by
  have F_along : Fn P w K mg base 2 d_along ["heights"] _ := F_along T
  have F_Pipeline_heights : Fn P w K mg base 4 d_Pipeline_heights ["self"] _ := F_Pipeline_heights T
  refine mk_pure1 T.f_Pipeline_word sc_Pipeline_word (fun _ _ _ _ _ _ _ => rfl) (fun cdv A outer s H Q E hr v a hv ha kk => ⟨_, (pss_one (ps_ret (pe_fn F_along (hr.mono (by decide)) T.g_along (pa_cons (pe_pr F_Pipeline_heights (hr.mono (by decide)) T.cl_Pipeline T.pr_Pipeline_heights (pv 0)) pa_nil)))), ?_⟩)
  refine s_ret (a := wordP a) (ev_call1 (f := alongM) (ev_prP (ev_var rfl hv) ha) ?_) fun u H2 s2 hu => kk _ _ s2 hu
  have h1 := trip_len a.ss
  have h2 : a.ss.length ≤ 100 := ha
  show (CM.trip a.ss).length ≤ 1000
  omega
theorem sc_Pipeline_fills : FnScope ["self"] ["self"] (defScope s_Pipeline_fills) := ⟨rfl, rfl, rfl, by decide +kernel, rfl, by decide +kernel, by decide +kernel⟩
def fillsP (p : PipeO) : Int := CM.fillsR (CM.wordR p.ss)
def dropsP (p : PipeO) : Int := CM.dropsR (CM.wordR p.ss)
theorem F_Pipeline_fills (T : Tx w K mg) : Fn P w K mg base 8 d_Pipeline_fills ["self"] (Pure1 PPre fillsP) := by
  have F_letters : Fn P w K mg base 1 d_letters ["word"] _ := F_letters T
  have F_Pipeline_word : Fn P w K mg base 6 d_Pipeline_word ["self"] _ := F_Pipeline_word T
  refine mk_pure1 T.f_Pipeline_fills sc_Pipeline_fills (fun _ _ _ _ _ _ _ => rfl) (fun cdv A outer s H Q E hr v a hv ha kk => ⟨_, (pss_one (ps_ret (pe_ix ix_tup (pe_fn F_letters (hr.mono (by decide)) T.g_letters (pa_cons (pe_pr F_Pipeline_word (hr.mono (by decide)) T.cl_Pipeline T.pr_Pipeline_word (pv 0)) pa_nil)) pe_int (fun _ _ => rfl)))), ?_⟩)
  exact s_ret (a := fillsP a) (ev_fst (ev_call1 (f := lettersM) (ev_prP (ev_var rfl hv) ha) (small_line (Nat.le_trans (word_len ha) (by decide))))) fun u H2 s2 hu => kk _ _ s2 hu
theorem sc_Pipeline_drops : FnScope ["self"] ["self"] (defScope s_Pipeline_drops) := ⟨rfl, rfl, rfl, by decide +kernel, rfl, by decide +kernel, by decide +kernel⟩
theorem F_Pipeline_drops (T : Tx w K mg) : Fn P w K mg base 8 d_Pipeline_drops ["self"] (Pure1 PPre dropsP) := by
  have F_letters : Fn P w K mg base 1 d_letters ["word"] _ := F_letters T
  have F_Pipeline_word : Fn P w K mg base 6 d_Pipeline_word ["self"] _ := F_Pipeline_word T
  refine mk_pure1 T.f_Pipeline_drops sc_Pipeline_drops (fun _ _ _ _ _ _ _ => rfl) (fun cdv A outer s H Q E hr v a hv ha kk => ⟨_, (pss_one (ps_ret (pe_ix ix_tup (pe_fn F_letters (hr.mono (by decide)) T.g_letters (pa_cons (pe_pr F_Pipeline_word (hr.mono (by decide)) T.cl_Pipeline T.pr_Pipeline_word (pv 0)) pa_nil)) pe_int (fun _ _ => rfl)))), ?_⟩)
  exact s_ret (a := dropsP a) (ev_snd (ev_call1 (f := lettersM) (ev_prP (ev_var rfl hv) ha) (small_line (Nat.le_trans (word_len ha) (by decide))))) fun u H2 s2 hu => kk _ _ s2 hu
theorem sc_Pipeline_starts : FnScope ["self", "step"] ["self"] (defScope s_Pipeline_starts) := ⟨rfl, rfl, rfl, by decide +kernel, rfl, by decide +kernel, by decide +kernel⟩
def startsP (p : PipeO) : Int := CM.starts p.ss
def endsP (p : PipeO) : Int := CM.ends p.ss
theorem starts_sum : ∀ p : List Stp, ((p.map StepO.mk).map fun r => (CM.edge r.st).1).sum = CM.starts p
  | [] => rfl
  | s :: r => congrArg ((CM.edge s).1 + ·) (starts_sum r)
theorem ends_sum : ∀ p : List Stp, ((p.map StepO.mk).map fun r => (CM.edge r.st).2).sum = CM.ends p
  | [] => rfl
  | s :: r => congrArg ((CM.edge s).2 + ·) (ends_sum r)
theorem F_Pipeline_starts (T : Tx w K mg) : Fn P w K mg base 4 d_Pipeline_starts ["self"] (Pure1 PPre startsP) := by
  have F_edges_of : Fn P w K mg base 3 d_edges_of ["step"] _ := F_edges_of T
  refine mk_pure1 T.f_Pipeline_starts sc_Pipeline_starts (fun _ _ _ _ _ _ _ => rfl) (fun cdv A outer s H Q E hr v a hv ha kk => ⟨_, (pss_one (ps_ret (pe_callB (cr_sum rfl) (by rfl) T.b_sum (by decide +kernel) (pa_cons (pe_lc (own := [("step", 1)]) (g := (gName 1)) rfl sc_Pipeline_starts.nd (pi_tup (pe_fld (pv 0) rfl)) (blkOk_by (own := [("step", 1)]) (N := ["self", "step"]) (sc := defScope s_Pipeline_starts) (by decide +kernel)) (fun _ _ _ _ _ => (pg_name (i := 1) sc_Pipeline_starts.nd rfl (Or.inl rfl))) (fun _ _ _ _ _ => pts_nil) (fun _ _ _ _ _ => (pe_ix (ix_tupK (K := K) rfl) (pe_fn F_edges_of (hr.mono (by decide)) T.g_edges_of (pa_cons (pv 1) pa_nil)) pe_int (fun _ _ => rfl)))) pa_nil)))), ?_⟩)
  have ha : a.ss.length ≤ 100 := ha
  exact s_ret (a := startsP a) ((ev_sum (ev_lcM (fun r : StepO => (CM.edge r.st).1) (iw_tup (ev_osteps T.cl_Pipeline T.na_own_steps (ev_var rfl hv))) (by rw [List.length_map]; exact small_line (by omega)) (fun x u H2 s2 hx hu => ⟨rfl, Same.refl _, ev_fst (ev_call1 (f := fun r : StepO => CM.edge r.st) (ev_var rfl hu) trivial)⟩) gm_name)).eq (starts_sum a.ss)) fun u H2 s2 hu => kk _ _ s2 hu
theorem sc_Pipeline_ends : FnScope ["self", "step"] ["self"] (defScope s_Pipeline_ends) := ⟨rfl, rfl, rfl, by decide +kernel, rfl, by decide +kernel, by decide +kernel⟩
theorem F_Pipeline_ends (T : Tx w K mg) : Fn P w K mg base 4 d_Pipeline_ends ["self"] (Pure1 PPre endsP) := by
  have F_edges_of : Fn P w K mg base 3 d_edges_of ["step"] _ := F_edges_of T
  refine mk_pure1 T.f_Pipeline_ends sc_Pipeline_ends (fun _ _ _ _ _ _ _ => rfl) (fun cdv A outer s H Q E hr v a hv ha kk => ⟨_, (pss_one (ps_ret (pe_callB (cr_sum rfl) (by rfl) T.b_sum (by decide +kernel) (pa_cons (pe_lc (own := [("step", 1)]) (g := (gName 1)) rfl sc_Pipeline_ends.nd (pi_tup (pe_fld (pv 0) rfl)) (blkOk_by (own := [("step", 1)]) (N := ["self", "step"]) (sc := defScope s_Pipeline_ends) (by decide +kernel)) (fun _ _ _ _ _ => (pg_name (i := 1) sc_Pipeline_ends.nd rfl (Or.inl rfl))) (fun _ _ _ _ _ => pts_nil) (fun _ _ _ _ _ => (pe_ix (ix_tupK (K := K) rfl) (pe_fn F_edges_of (hr.mono (by decide)) T.g_edges_of (pa_cons (pv 1) pa_nil)) pe_int (fun _ _ => rfl)))) pa_nil)))), ?_⟩)
  have ha : a.ss.length ≤ 100 := ha
  exact s_ret (a := endsP a) ((ev_sum (ev_lcM (fun r : StepO => (CM.edge r.st).2) (iw_tup (ev_osteps T.cl_Pipeline T.na_own_steps (ev_var rfl hv))) (by rw [List.length_map]; exact small_line (by omega)) (fun x u H2 s2 hx hu => ⟨rfl, Same.refl _, ev_snd (ev_call1 (f := fun r : StepO => CM.edge r.st) (ev_var rfl hu) trivial)⟩) gm_name)).eq (ends_sum a.ss)) fun u H2 s2 hu => kk _ _ s2 hu
theorem sc_Pipeline_call : FnScope ["self", "row", "step"] ["self", "row"] (defScope s_Pipeline_call) := ⟨rfl, rfl, rfl, by decide +kernel, rfl, by decide +kernel, by decide +kernel⟩
def callP (p : PipeO) (r : RowO) : RowO := ⟨CM.pipe p.ss r.sp⟩
theorem mov_len (a b : Int) (X : List Sn) : (CM.mov a b X).length = X.length := List.length_map ..
theorem drp_len (d : Int) (X : List Sn) : (CM.drp d X).length ≤ X.length := List.length_filter_le _ _
theorem step_len (s : Stp) (X : List Sn) : (CM.stepF s X).length ≤ X.length := by
  cases s with
  | fill g => exact fill_len g X
  | drop d => exact drp_len d X
  | widen a b =>
    show (CM.fill 0 (CM.mov (-a) b X)).length ≤ _
    have := fill_len 0 (CM.mov (-a) b X)
    rw [mov_len] at this
    exact this
  | trim a b =>
    show (CM.mov a (-b) (CM.drp (a + b) X)).length ≤ _
    rw [mov_len]
    exact drp_len _ X
  | shift n =>
    show (CM.mov n n X).length ≤ _
    rw [mov_len]
    exact Nat.le_refl _
theorem pipe_len : ∀ (p : List Stp) (X : List Sn), (CM.pipe p X).length ≤ X.length
  | [], _ => Nat.le_refl _
  | s :: p, X => Nat.le_trans (pipe_len p (CM.stepF s X)) (step_len s X)
abbrev CallPPre (p : PipeO) (r : RowO) : Prop := (∀ s ∈ p.ss, s.ok) ∧ r.sp.length ≤ 1000 ∧ CM.Good 0 0 r.sp
theorem F_Pipeline_call (T : Tx w K mg) : Fn P w K mg base 5 d_Pipeline_call ["self", "row"] (Pure2 CallPPre callP) := by
  have F_Step_call : Fn P w K mg base 4 d_Step_call ["self", "row"] _ := F_Step_call T
  refine mk_pure2 T.f_Pipeline_call sc_Pipeline_call (fun _ _ _ _ _ _ _ _ => rfl) (fun cdv A outer s H Q E hr v v1 a r hv h1 ha kk => ⟨_, (pss_cons (ps_for PassesOwn.never rfl (pi_tup (pe_fld (pv 0) rfl)) (pg_name (i := 2) sc_Pipeline_call.nd rfl (Or.inl rfl))
  (pss_one (ps_set (i := 1) sc_Pipeline_call.nd rfl (Or.inl rfl) (pe_co F_Step_call (hr.mono (by decide)) T.co_Step (pv 2) (pa_cons (pv 1) pa_nil)))))
  (pss_one (ps_ret (pv 1)))), ?_⟩)
  obtain ⟨p⟩ := a
  obtain ⟨X⟩ := r
  obtain ⟨ok, hl, g⟩ := ha
  refine s_forS (iw_tup (ev_osteps T.cl_Pipeline T.na_own_steps (ev_var (a := PipeO.mk p) rfl hv))) (fun r σ' H' => ∃ (y : Option V) (v2 : V) (Y : List Sn) (q : List Stp), σ' = [some v, some v2, y] ∧ r = q.map StepO.mk ∧ Rp.is H' v2 (RowO.mk Y) ∧ Y.length ≤ 1000 ∧ CM.Good 0 0 Y ∧ (∀ s ∈ q, s.ok) ∧ CM.pipe q Y = CM.pipe p X)
    (fun H2 s2 => ⟨none, v1, X, p, rfl, rfl, Rp.mono s2 h1, hl, g, ok, rfl⟩) ?_ ?_
  · rintro H2 s2 x r u σ' H' H0 hx s0 sd ⟨y, v2, Y, q, rfl, er, hy, hly, gy, okq, hf⟩ hu
    cases q with
    | nil => cases er
    | cons st q =>
      rw [List.map_cons] at er
      obtain ⟨rfl, rfl⟩ := List.cons.inj er
      refine s_asg (a := callS ⟨st⟩ ⟨Y⟩) (ev_coS (g := callS) (ev_var rfl hu) (ev_var rfl (Rp.mono s0 hy)) ⟨okq st (.head _), hly, gy⟩) fun v3 H3 s3 hv3 => ?_
      exact ⟨⟨_, v3, CM.stepF st Y, q, rfl, rfl, hv3, Nat.le_trans (step_len st Y) hly, CM.stepF_good (okq st (.head _)) gy, fun s hs => okq s (.tail _ hs), hf⟩, sd.trans s3⟩
  · rintro H2 s2 σ' H' sd ⟨y, v2, Y, q, rfl, er, hy, hly, gy, okq, hf⟩
    have eq : q = [] := by
      cases q with
      | nil => rfl
      | cons st q => cases er
    subst eq
    have e : Y = CM.pipe p X := hf
    subst e
    exact s_ret (a := callP ⟨p⟩ ⟨X⟩) (ev_var rfl hy) fun u H3 s3 hu => kk _ _ ((s2.trans sd).trans s3) hu
end Cf
set_option Elab.async false
set_option linter.all false
set_option maxRecDepth 100000
set_option maxHeartbeats 4000000
/-! Sensors: the words left, the cell over, the row told. -/
namespace Cf
open PySem PySem.Spec PyProof.Rows L2 Cs
local macro_rules | `(tactic| walk_at "lf") => `(tactic| first
  | assumption
  | exact rfl
  | exact Rp.mono (by assumption) (by assumption)
  | exact Rp.mono (Same.trans (by assumption) (by assumption)) (by assumption)
  | exact RpK.monoK (by assumption) (by assumption))
local macro_rules | `(tactic| walk_at "ev") => `(tactic| first
  | with_reducible exact ev_int
  | with_reducible exact ev_bl
  | with_reducible exact ev_fill
  | with_reducible exact ev_drop
  | with_reducible exact ev_str
  | ((with_reducible refine' ev_var ?hs ?hv); (case hs => exact rfl); (case hv => walk_at "lf"))
  | ((with_reducible refine' ev_opI ?ha ?hb); (case ha => walk_at "ev"); (case hb => walk_at "ev"))
  | ((with_reducible refine' ev_opB ?ha ?hb); (case ha => walk_at "ev"); (case hb => walk_at "ev"))
  | ((with_reducible refine' ev_opC ?ha ?hb ?hc); (case ha => walk_at "ev"); (case hb => walk_at "ev"); (case hc => first | assumption | skip))
  | ((with_reducible refine' ev_un ?ha); (case ha => walk_at "ev"))
  | ((with_reducible refine' ev_eqK ?ha ?hb); (case ha => walk_at "ev"); (case hb => walk_at "ev"))
  | ((with_reducible refine' ev_eqI ?ha ?hb); (case ha => walk_at "ev"); (case hb => walk_at "ev"))
  | ((with_reducible refine' ev_eqS ?ha ?hb); (case ha => walk_at "ev"); (case hb => walk_at "ev"))
  | ((with_reducible refine' ev_neK ?ha ?hb); (case ha => walk_at "ev"); (case hb => walk_at "ev"))
  | ((with_reducible refine' ev_neI ?ha ?hb); (case ha => walk_at "ev"); (case hb => walk_at "ev"))
  | ((with_reducible refine' ev_neS ?ha ?hb); (case ha => walk_at "ev"); (case hb => walk_at "ev"))
  | ((with_reducible refine' ev_tup2 ?ha ?hb); (case ha => walk_at "ev"); (case hb => walk_at "ev"))
  | ((with_reducible refine' ev_tup1 ?ha); (case ha => walk_at "ev"))
  | with_reducible exact ev_tup0
  | ((with_reducible refine' ev_fst ?ha); (case ha => walk_at "ev"))
  | ((with_reducible refine' ev_snd ?ha); (case ha => walk_at "ev"))
  | ((with_reducible refine' ev_max2 rfl ?ha ?hb); (case ha => walk_at "ev"); (case hb => walk_at "ev"))
  | ((with_reducible refine' ev_min2 rfl ?ha ?hb); (case ha => walk_at "ev"); (case hb => walk_at "ev"))
  | ((with_reducible refine' ev_abs rfl ?ha); (case ha => walk_at "ev"))
  | ((with_reducible refine' ev_intI rfl ?ha); (case ha => walk_at "ev"))
  | ((with_reducible refine' ev_intB rfl ?ha); (case ha => walk_at "ev"))
  | ((with_reducible refine' ev_len rfl ?ha); (case ha => walk_at "ev"))
  | ((with_reducible refine' ev_lenL rfl ?ha); (case ha => walk_at "ev"))
  | ((with_reducible refine' ev_tuple rfl ?ha); (case ha => walk_at "ev"))
  | ((with_reducible refine' ev_sum ?ha); (case ha => walk_at "ev"))
  | ((with_reducible refine' ev_chain ?ha ?hb ?hc); (case ha => walk_at "ev"); (case hb => walk_at "ev"); (case hc => walk_at "ev"))
  | ((with_reducible refine' et_test ?ha); (case ha => walk_at "ev"))
  | ((with_reducible refine' et_B ?ha); (case ha => walk_at "ev"))
  | ((with_reducible refine' et_not ?ha); (case ha => walk_at "ev"))
  | ((with_reducible refine' ev_not ?ha); (case ha => walk_at "ev"))
  | ((with_reducible refine' et_and ?ha ?hb); (case ha => walk_at "ev"); (case hb => intro _; walk_at "ev"))
  | ((with_reducible refine' et_or ?ha ?hb); (case ha => walk_at "ev"); (case hb => intro _; walk_at "ev"))
  | ((with_reducible refine' ev_and ?ha ?hb); (case ha => walk_at "ev"); (case hb => intro _; walk_at "ev"))
  | ((with_reducible refine' ev_or ?ha ?hb); (case ha => walk_at "ev"); (case hb => intro _; walk_at "ev"))
  | ((with_reducible refine' ev_call1 ?ha ?hp); (case ha => walk_at "ev"); (case hp => first | assumption | trivial))
  | ((with_reducible refine' ev_call2 ?ha ?hb ?hp); (case ha => walk_at "ev"); (case hb => walk_at "ev"); (case hp => first | assumption | trivial))
  | ((with_reducible refine' ev_call3 ?ha ?hb ?hc ?hp); (case ha => walk_at "ev"); (case hb => walk_at "ev"); (case hc => walk_at "ev"); (case hp => first | assumption | trivial)))
variable {P : Program} {w : World} {K : PySem.W.Frag} {mg : Str → Option Value} {base : Heap}
section
variable {α β : Type} {σ : L2.St} {H : Hp} {ta tb te : TE} {D : Ends} {tz : TS} {i j : Nat}
theorem ev_some [RpK α] {a : α} (hn : ∀ H v, Rp.is H v a → v ≠ .non) (h : EvR te σ H a) : EvR te σ H (some a) := fun H1 s Q q => h H1 s Q fun v H2 s2 hv => q v H2 s2 ⟨hn _ _ hv, hv⟩
theorem q_asgL2 [RpK α] {a b : α} (h : EvR te σ H (⟨[a, b]⟩ : Ls α)) (k : ∀ x y H1, Same H H1 → Rp.is H1 x a → Rp.is H1 y b → tz D ((σ.set i (some x)).set j (some y)) H1) : tSeq (tAsg te (gLst K 2 (gCons (gName i) (gCons (gName j) gNil)))) tz D σ H := h H (Same.refl _) _ fun v H1 s hv => by
  obtain ⟨q, xs, e, h1, h2⟩ := hv
  match xs, h2 with
  | [x, y], ⟨hx, hy, _⟩ => exact ⟨q, [x, y], e, SqL.of h1, rfl, x, [y], rfl, y, [], rfl, rfl, k x y H1 s hx hy⟩
theorem walk_zipT {K : PySem.W.Frag} {a b : Addr} {xs ys : List V} {n : Nat} (hn : n = min xs.length ys.length) {H0 : Hp} (ha : H0 a = some (.tup xs)) (hb : H0 b = some (.tup ys)) : Walk (RZ.ItzT K a b) n (fun H => H a = some (.tup xs) ∧ H b = some (.tup ys)) (YPair (fun i => xs[i]?) (fun i => ys[i]?)) :=
  ⟨fun i H hi q => ⟨xs, ys, xs[i], ys[i], SqT.of q.1, SqT.of q.2, List.getElem?_eq_getElem (by omega), List.getElem?_eq_getElem (by omega)⟩, fun H q => ⟨xs, ys, SqT.of q.1, SqT.of q.2, by omega⟩, fun i H x H' hi q y => by
    obtain ⟨T, u, v, e1, e2, e3, e4, e5⟩ := y
    exact ⟨T, u, v, e1, e2, e3, e4 xs (SqT.of q.1), e5 ys (SqT.of q.2)⟩⟩
/-- zip of two tuples -/
theorem iw_zip {K : PySem.W.Frag} [RpK α] [RpK β] {as : List α} {bs : List β} (ha : EvR ta σ H as) (hb : EvR tb σ H bs) (hl : as.length = bs.length) : IwR (RZ.iZipA K (tCons ta (tCons tb tNil))) σ H (List.zip as bs) := fun H1 s R k =>
  ha H1 s _ fun v H2 s2 hv => hb H2 (s.trans s2) _ fun u H3 s3 hu => by
    obtain ⟨a, xs, rfl, h1, h2⟩ := Rp.mono s3 hv
    obtain ⟨b, ys, rfl, h3, h4⟩ := hu
    have l1 := h2.length
    have l2 := h4.length
    refine ⟨a, b, xs, ys, rfl, .inr ⟨SqT.of h1, SqT.of h3, k _ H3 (fun H' => H' a = some (.tup xs) ∧ H' b = some (.tup ys)) _ (s2.trans s3) (fun H4 s4 => ⟨s4 _ _ h1, s4 _ _ h3⟩) (walk_zipT (by rw [List.length_zip, l1, l2]) h1 h3) fun i H4 x H5 s4 y => ?_⟩⟩
    obtain ⟨T, p, q, rfl, hT, rfl, e4, e5⟩ := y
    obtain ⟨p', hp', rp⟩ := h2.getV e4
    obtain ⟨q', hq', rq⟩ := h4.getV e5
    refine ⟨same_new hT, (p', q'), ?_, T, p, q, rfl, upd_same, Rp.mono (s4.trans (same_new hT)) rp, Rp.mono (s4.trans (same_new hT)) rq⟩
    rw [List.getElem?_zip_eq_some]
    exact ⟨hp', hq'⟩
/-- drops_ahead where it tells -/
theorem ev_da {u : Wk} {n r : Int} (hu : EvR ta σ H u) (hn : EvR tb σ H n) (e : aheadK n 0 u = some r) : EvR (tCallS DaSp (WE fun _ _ _ _ => False) (tCons ta (tCons tb tNil))) σ H r := fun H1 s Q q =>
  hu H1 s _ fun v H2 s2 hv => hn H2 (s.trans s2) _ fun w' H3 s3 hw => ⟨v, w', u, n, rfl, Rp.mono s3 hv, hw, fun r' e' H' s4 => by
    rw [e] at e'
    obtain rfl := Option.some.inj e'
    exact q _ H' (s2.trans (s3.trans s4)) rfl, fun e' => by rw [e] at e'; cases e'⟩
end
theorem sc_many_for : FnScope ["length", "gap", "drops"] ["length", "gap", "drops"] (defScope s_many_for) := ⟨rfl, rfl, rfl, by decide +kernel, rfl, by decide +kernel, by decide +kernel⟩
abbrev ManyPre (l g d : Int) : Prop := 0 < l + g ∧ l + g < 1000000000 ∧ 0 ≤ d + g
theorem F_many_for (T : Tx w K mg) : Fn P w K mg base 1 d_many_for ["length", "gap", "drops"] (Pure3 ManyPre CM.manyFor) := by
  refine mk_pure3 T.f_many_for sc_many_for (fun _ _ _ _ _ _ _ _ _ => rfl) (fun cdv A outer s H Q E hr v v1 v2 l g d hv h1 h2 ha kk => ⟨_, (pss_one (ps_ret (pe_op op_add pe_int (pe_op op_fdivN (pe_op op_add (pv 2) (pv 1)) (pe_op op_add (pv 0) (pv 1)))))), ?_⟩)
  refine s_ret (a := CM.manyFor l g d) ((ev_opI ev_int (ev_opC (ev_opI (ev_var rfl h2) (ev_var rfl h1)) (ev_opI (ev_var rfl hv) (ev_var rfl h1)) ⟨by have := ha.1; omega, by have := ha.1; have := ha.2.1; omega⟩)).eq ?_) fun u H2 s2 hu => kk _ _ s2 hu
  show 2 + (d + g).fdiv (l + g) = 2 + (d + g) / (l + g)
  rw [Int.fdiv_eq_ediv_of_nonneg _ (by have := ha.1; omega)]
theorem sc_word_from : FnScope ["word", "least_span", "least_gap"] ["word", "least_span", "least_gap"] (defScope s_word_from) := ⟨rfl, rfl, rfl, by decide +kernel, rfl, by decide +kernel, by decide +kernel⟩
def wordFrom (u : Wk) (ls lg : Int) : Wk := cutM u (lg - 1) (ls - 1)
theorem F_word_from (T : Tx w K mg) : Fn P w K mg base 3 d_word_from ["word", "least_span", "least_gap"] (Pure3 (fun (u : Wk) (_ _ : Int) => u.length ≤ 1000) wordFrom) := by
  have F_cut : Fn P w K mg base 2 d_cut ["word", "fills", "drops"] _ := F_cut T
  refine mk_pure3 T.f_word_from sc_word_from (fun _ _ _ _ _ _ _ _ _ => rfl) (fun cdv A outer s H Q E hr v v1 v2 u ls lg hv h1 h2 ha kk => ⟨_, (pss_one (ps_ret (pe_fn F_cut (hr.mono (by decide)) T.g_cut (pa_cons (pv 0) (pa_cons (pe_op op_sub (pv 2) pe_int) (pa_cons (pe_op op_sub (pv 1) pe_int) pa_nil)))))), ?_⟩)
  exact s_ret (a := wordFrom u ls lg) (ev_call3 (ev_var rfl hv) (ev_opI (ev_var rfl h2) ev_int) (ev_opI (ev_var rfl h1) ev_int) ha) fun u H2 s2 hu => kk _ _ s2 hu
/-! ### cell_over -/
theorem zl_ahead : ∀ (u : CM.Wd) (high low : Int), CM.Pos u → 0 ≤ high → ∀ m L, ((true, m), L) ∈ CM.zl high low u → high + 1 ≤ L ∧ L ≤ high + CM.fillsR u
  | [], _, _, _, _, m, L, h => by cases h
  | (true, m0) :: r, high, low, hp, h0, m, L, h => by
    have hm : 0 < m0 := hp _ (.head _)
    have hr : CM.Pos r := fun x hx => hp x (.tail _ hx)
    have ef : CM.fillsR ((true, m0) :: r) = m0 + CM.fillsR r := by rw [CM.fillsR_cons]; rfl
    have hf : 0 ≤ CM.fillsR r := by
      unfold CM.fillsR
      have : ∀ l : CM.Wd, CM.Pos l → 0 ≤ (l.map fun r => r.2).sum := fun l => by
        induction l with
        | nil => intro _; exact Int.le_refl 0
        | cons x l ih =>
          intro hl
          have := ih fun y hy => hl y (.tail _ hy)
          have := hl x (.head _)
          rw [List.map_cons, List.sum_cons]
          omega
      exact this _ fun x hx => hr x (List.mem_filter.mp hx).1
    rcases List.mem_cons.mp (show ((true, m), L) ∈ ((true, m0), high + m0) :: CM.zl (high + m0) low r from h) with e | h
    · cases e
      omega
    · have := zl_ahead r (high + m0) low hr (by omega) m L h
      omega
  | (false, m0) :: r, high, low, hp, h0, m, L, h => by
    have hr : CM.Pos r := fun x hx => hp x (.tail _ hx)
    have ef : CM.fillsR ((false, m0) :: r) = 0 + CM.fillsR r := by rw [CM.fillsR_cons]; rfl
    rcases List.mem_cons.mp (show ((true, m), L) ∈ ((false, m0), low - m0) :: CM.zl high (low - m0) r from h) with e | h
    · cases e
    · have := zl_ahead r high (low - m0) hr h0 m L h
      omega
theorem ahead_there {u : CM.Wd} (hp : CM.Pos u) {m L : Int} (h : ((true, m), L) ∈ CM.zl 0 0 u) : ∃ a, CM.aheadR L 0 u = some a := by
  obtain ⟨h1, h2⟩ := zl_ahead u 0 0 hp (Int.le_refl 0) m L h
  rw [CM.aheadR_eq u L 0 hp (by omega)]
  have hc : (L - 1).toNat < (CM.expand u).count true := by
    have := (CM.letters_eq hp).1
    omega
  obtain ⟨a, ha⟩ := CM.ahd_some (CM.expand u) (L - 1).toNat hc
  rw [ha]
  exact ⟨_, rfl⟩
abbrev cellLoop : Wk → Wk → List ((Kd × Int) × Int) → Option (Int × Int) := CM.cellLoop
abbrev cellOver : Wk → Wk → Option (Int × Int) := CM.cellOver
abbrev PosW (u : Wk) : Prop := CM.Pos u
theorem loop_f {one other : Wk} {x : Kd × Int} {L : Int} {r : List ((Kd × Int) × Int)} (c : ¬ x.1 = kF) : cellLoop one other ((x, L) :: r) = cellLoop one other r := by
  obtain ⟨x1, m⟩ := x
  revert c
  revert x1
  intro (x1 : Bool) c
  cases x1 with
  | true => exact absurd rfl c
  | false => rfl
theorem loop_t {one other : Wk} {x : Kd × Int} {L a : Int} {r : List ((Kd × Int) × Int)} (c : x.1 = kF) (ha : aheadK L 0 one = some a) : cellLoop one other ((x, L) :: r) = if a < (aheadK L 0 other).getD (a + 1) then some (a + 1, L) else cellLoop one other r := by
  obtain ⟨x1, m⟩ := x
  have e : x1 = kF := c
  subst e
  have ea : (aheadK L 0 one).getD 0 = a := by rw [ha]; rfl
  have e2 : cellLoop one other (((kF, m), L) :: r) = if (aheadK L 0 one).getD 0 < (aheadK L 0 other).getD ((aheadK L 0 one).getD 0 + 1) then some ((aheadK L 0 one).getD 0 + 1, L) else cellLoop one other r := rfl
  rw [e2, ea]
theorem ahead_thereK {u : Wk} (hp : PosW u) {x : Kd × Int} {L : Int} (c : x.1 = kF) (h : (x, L) ∈ List.zip u (levelsF 0 0 u)) : ∃ a, aheadK L 0 u = some a := by
  obtain ⟨x1, m⟩ := x
  have e : x1 = kF := c
  subst e
  refine ahead_there (u := u) hp (m := m) ?_
  rw [levels_zl]
  exact h
theorem cell_of_loop {one other : Wk} {c : Int × Int} (h : cellLoop one other (List.zip one (levelsF 0 0 one)) = some c) : cellOver one other = some c := by
  have h2 : CM.cellLoop one other (CM.zl 0 0 one) = some c := by rw [levels_zl]; exact h
  show CM.cellOver one other = some c
  unfold CM.cellOver
  rw [h2]
theorem cell_no_loop {one other : Wk} (h : cellLoop one other (List.zip one (levelsF 0 0 one)) = none) : cellOver one other = if CM.dropsR one < CM.dropsR other then some (CM.dropsR one + 1, max (CM.fillsR one) (CM.fillsR other) + 1) else none := by
  have h2 : CM.cellLoop one other (CM.zl 0 0 one) = none := by rw [levels_zl]; exact h
  show CM.cellOver one other = _
  unfold CM.cellOver
  rw [h2]
theorem pair_no {H : Hp} {v : V} {p : Int × Int} (h : Rp.is H v p) : v ≠ .non := by
  obtain ⟨q, x, y, e, _⟩ := h
  rw [e]
  exact fun z => by cases z
theorem sc_cell_over : FnScope ["one", "other", "fills", "drops", "others", "more", "kind", "many", "level", "ahead"] ["one", "other"] (defScope s_cell_over) := ⟨rfl, rfl, rfl, by decide +kernel, rfl, by decide +kernel, by decide +kernel⟩
abbrev CellPre (a b : Wk) : Prop := a.length ≤ 1000 ∧ b.length ≤ 1000 ∧ PosW a
theorem F_cell_over (T : Tx w K mg) (pm : PMain P) : Fn P w K mg base 4 d_cell_over ["one", "other"] (Pure2 CellPre cellOver) := by
  have F_letters : Fn P w K mg base 1 d_letters ["word"] _ := F_letters T
  have F_levels : Fn P w K mg base 1 d_levels ["word"] _ := F_levels T
  have F_drops_ahead : FnX P w K mg base 2 d_drops_ahead ["word", "number"] _ := F_drops_ahead T pm
  have F_drops_up_to : Fn P w K mg base 3 d_drops_up_to ["word", "number", "most"] _ := F_drops_up_to T pm
  refine mk_pure2 T.f_cell_over sc_cell_over (fun _ _ _ _ _ _ _ _ => rfl) (fun cdv A outer s H Q E hr v v1 a b hv h1 ha kk => ⟨_, (pss_cons (ps_asg (pe_fn F_letters (hr.mono (by decide)) T.g_letters (pa_cons (pv 0) pa_nil)) (pg_tup rfl (pgs_cons (pg_name (i := 2) sc_cell_over.nd rfl (Or.inl rfl)) (pgs_cons (pg_name (i := 3) sc_cell_over.nd rfl (Or.inl rfl)) pgs_nil))))
  (pss_cons (ps_asg (pe_fn F_letters (hr.mono (by decide)) T.g_letters (pa_cons (pv 1) pa_nil)) (pg_tup rfl (pgs_cons (pg_name (i := 4) sc_cell_over.nd rfl (Or.inl rfl)) (pgs_cons (pg_name (i := 5) sc_cell_over.nd rfl (Or.inl rfl)) pgs_nil))))
  (pss_cons (ps_for PassesOwn.never rfl (RZ.pi_zipA (by rfl) T.b_zip (pa_cons (pv 0) (pa_cons (pe_fn F_levels (hr.mono (by decide)) T.g_levels (pa_cons (pv 0) pa_nil)) pa_nil))) (pg_tup rfl (pgs_cons (pg_tup rfl (pgs_cons (pg_name (i := 6) sc_cell_over.nd rfl (Or.inl rfl)) (pgs_cons (pg_name (i := 7) sc_cell_over.nd rfl (Or.inl rfl)) pgs_nil))) (pgs_cons (pg_name (i := 8) sc_cell_over.nd rfl (Or.inl rfl)) pgs_nil)))
  (pss_one (ps_if (pt_cmpR op_eq (pv 6) (pe_const T.c_FILL) (nomark _))
  (pss_cons (ps_set (i := 9) sc_cell_over.nd rfl (Or.inl rfl) (pe_fnX F_drops_ahead (hr.mono (by decide)) T.g_drops_ahead takes0 (pa_cons (pv 0) (pa_cons (pv 8) pa_nil))))
  (pss_one (ps_if (pt_cmpR op_gt (pe_fn F_drops_up_to (hr.mono (by decide)) T.g_drops_up_to (pa_cons (pv 1) (pa_cons (pv 8) (pa_cons (pe_op op_add (pv 9) pe_int) pa_nil)))) (pv 9) (nomark _))
  (pss_one (ps_ret (pe_tup (pa_cons (pe_op op_add (pv 9) pe_int) (pa_cons (pv 8) pa_nil)))))
  pss_nil)))
  pss_nil)))
  (pss_one (ps_ret (pe_ifExp (pt_cmpR op_gt (pv 5) (pv 3) (nomark _)) (pe_tup (pa_cons (pe_op op_add (pv 3) pe_int) (pa_cons (pe_op op_add (pe_callB (call_max2 rfl) (by rfl) T.b_max (by decide +kernel) (pa_cons (pv 2) (pa_cons (pv 4) pa_nil))) pe_int) pa_nil))) pe_non)))))), ?_⟩)
  obtain ⟨hla, hlb, hp⟩ := ha
  refine q_asgP (p := lettersM a) (ev_call1 (f := lettersM) (ev_var rfl hv) (small_line (by omega))) fun v2 v3 H1 s1 hv2 hv3 => ?_
  obtain rfl : v2 = .int (CM.fillsR a) := hv2
  obtain rfl : v3 = .int (CM.dropsR a) := hv3
  refine q_asgP (p := lettersM b) (ev_call1 (f := lettersM) (ev_var rfl (Rp.mono s1 h1)) (small_line (by omega))) fun v4 v5 H2 s2 hv4 hv5 => ?_
  obtain rfl : v4 = .int (CM.fillsR b) := hv4
  obtain rfl : v5 = .int (CM.dropsR b) := hv5
  have hv' := Rp.mono (s1.trans s2) hv
  have h1' := Rp.mono (s1.trans s2) h1
  refine s_forS (iw_zip (ev_var rfl hv') (ev_call1 (f := levelsF 0 0) (ev_var rfl hv') hla) (levelsF_len a 0 0).symm) (fun r σ' H' => ∃ (y6 y7 y8 y9 : Option V), σ' = [some v, some v1, some (.int (CM.fillsR a)), some (.int (CM.dropsR a)), some (.int (CM.fillsR b)), some (.int (CM.dropsR b)), y6, y7, y8, y9] ∧ cellLoop a b r = cellLoop a b (List.zip a (levelsF 0 0 a)))
    (fun H3 s3 => ⟨none, none, none, none, rfl, rfl⟩) ?_ ?_
  · rintro H3 s3 x r u σ' H' H0 hx s0 sd ⟨y6, y7, y8, y9, rfl, hf⟩ hu
    obtain ⟨x, L⟩ := x
    refine g_nest hu fun p q z hpp hq hz => ?_
    obtain rfl : z = .int L := hz
    have hv3 := Rp.mono (s3.trans sd) hv'
    have h13 := Rp.mono (s3.trans sd) h1'
    have base : Same H H' := ((s1.trans s2).trans s3).trans sd
    refine s_ifP (p := x.1 = kF) (et_B (ev_eqK (ev_var rfl hpp) ev_fill)) (fun c H4 s4 => ?_) (fun c H4 s4 => ?_)
    · obtain ⟨n, hn⟩ := ahead_thereK hp c hx
      rw [loop_t c hn] at hf
      refine q_asg (a := n) (ev_da (n := L) (ev_var rfl (Rp.mono s4 hv3)) (ev_var rfl rfl) hn) fun v6 H5 s5 hv6 => ?_
      obtain rfl : v6 = .int n := hv6
      refine s_ifP (p := n < (aheadK L 0 b).getD (n + 1)) (et_B (ev_opB (f := fun i j => decide (j < i)) (ev_call3 (f := fun (u : Wk) n m => (aheadK n 0 u).getD m) (a := b) (b := L) (c := n + 1) (ev_var rfl (Rp.mono (s4.trans s5) h13)) (ev_var rfl rfl) (ev_opI (ev_var rfl rfl) ev_int) trivial) (ev_var (a := n) rfl rfl))) (fun c2 H6 s6 => ?_) (fun c2 H6 s6 => ?_)
      · rw [if_pos c2] at hf
        refine s_ret (a := cellOver a b) ((ev_some (a := ((n + 1, L) : Int × Int)) (fun H v h => pair_no h) (ev_tup2 (ev_opI (ev_var (a := n) rfl rfl) ev_int) (ev_var (a := L) rfl rfl))).eq (cell_of_loop hf.symm).symm) fun u H7 s7 hu => kk _ _ ((base.trans s4).trans (s5.trans (s6.trans s7))) hu
      · rw [if_neg c2] at hf
        exact ⟨⟨_, _, _, _, rfl, hf⟩, (sd.trans s4).trans (s5.trans s6)⟩
    · rw [loop_f c] at hf
      exact ⟨⟨_, _, _, _, rfl, hf⟩, sd.trans s4⟩
  · rintro H3 s3 σ' H' sd ⟨y6, y7, y8, y9, rfl, hf⟩
    have hc := cell_no_loop (one := a) (other := b) hf.symm
    dsimp only
    refine s_ret (a := cellOver a b) ?_ fun u H7 s7 hu => ?_
    rotate_left
    · exact kk _ _ (((s1.trans s2).trans s3).trans (sd.trans s7)) hu
    rw [hc]
    refine ev_if (b := decide (CM.dropsR a < CM.dropsR b)) (et_test (ev_opB (f := fun i j => decide (j < i)) (ev_var (a := CM.dropsR b) rfl rfl) (ev_var (a := CM.dropsR a) rfl rfl))) (fun c => ?_) (fun c => ?_)
    · rw [if_pos (of_decide_eq_true c)]
      exact ev_some (fun H v h => pair_no h) (ev_tup2 (ev_opI (ev_var (a := CM.dropsR a) rfl rfl) ev_int) (ev_opI (ev_max2 rfl (ev_var (a := CM.fillsR a) rfl rfl) (ev_var (a := CM.fillsR b) rfl rfl)) ev_int))
    · rw [if_neg (of_decide_eq_false c)]
      exact ev_none
end Cf
set_option Elab.async false
set_option linter.all false
set_option maxRecDepth 100000
set_option maxHeartbeats 4000000
/-! outside_from, within_from. -/
namespace Cf
open PySem PySem.Spec PyProof.Rows L2 Cs
local macro_rules | `(tactic| walk_at "lf") => `(tactic| first
  | assumption
  | exact rfl
  | exact Rp.mono (by assumption) (by assumption)
  | exact Rp.mono (Same.trans (by assumption) (by assumption)) (by assumption)
  | exact RpK.monoK (by assumption) (by assumption))
local macro_rules | `(tactic| walk_at "ev") => `(tactic| first
  | with_reducible exact ev_int
  | with_reducible exact ev_bl
  | with_reducible exact ev_fill
  | with_reducible exact ev_drop
  | with_reducible exact ev_str
  | ((with_reducible refine' ev_var ?hs ?hv); (case hs => exact rfl); (case hv => walk_at "lf"))
  | ((with_reducible refine' ev_opI ?ha ?hb); (case ha => walk_at "ev"); (case hb => walk_at "ev"))
  | ((with_reducible refine' ev_opB ?ha ?hb); (case ha => walk_at "ev"); (case hb => walk_at "ev"))
  | ((with_reducible refine' ev_opC ?ha ?hb ?hc); (case ha => walk_at "ev"); (case hb => walk_at "ev"); (case hc => first | assumption | skip))
  | ((with_reducible refine' ev_un ?ha); (case ha => walk_at "ev"))
  | ((with_reducible refine' ev_eqK ?ha ?hb); (case ha => walk_at "ev"); (case hb => walk_at "ev"))
  | ((with_reducible refine' ev_eqI ?ha ?hb); (case ha => walk_at "ev"); (case hb => walk_at "ev"))
  | ((with_reducible refine' ev_eqS ?ha ?hb); (case ha => walk_at "ev"); (case hb => walk_at "ev"))
  | ((with_reducible refine' ev_neK ?ha ?hb); (case ha => walk_at "ev"); (case hb => walk_at "ev"))
  | ((with_reducible refine' ev_neI ?ha ?hb); (case ha => walk_at "ev"); (case hb => walk_at "ev"))
  | ((with_reducible refine' ev_neS ?ha ?hb); (case ha => walk_at "ev"); (case hb => walk_at "ev"))
  | ((with_reducible refine' ev_tup2 ?ha ?hb); (case ha => walk_at "ev"); (case hb => walk_at "ev"))
  | ((with_reducible refine' ev_tup1 ?ha); (case ha => walk_at "ev"))
  | with_reducible exact ev_tup0
  | ((with_reducible refine' ev_fst ?ha); (case ha => walk_at "ev"))
  | ((with_reducible refine' ev_snd ?ha); (case ha => walk_at "ev"))
  | ((with_reducible refine' ev_max2 rfl ?ha ?hb); (case ha => walk_at "ev"); (case hb => walk_at "ev"))
  | ((with_reducible refine' ev_min2 rfl ?ha ?hb); (case ha => walk_at "ev"); (case hb => walk_at "ev"))
  | ((with_reducible refine' ev_abs rfl ?ha); (case ha => walk_at "ev"))
  | ((with_reducible refine' ev_intI rfl ?ha); (case ha => walk_at "ev"))
  | ((with_reducible refine' ev_intB rfl ?ha); (case ha => walk_at "ev"))
  | ((with_reducible refine' ev_len rfl ?ha); (case ha => walk_at "ev"))
  | ((with_reducible refine' ev_lenL rfl ?ha); (case ha => walk_at "ev"))
  | ((with_reducible refine' ev_tuple rfl ?ha); (case ha => walk_at "ev"))
  | ((with_reducible refine' ev_sum ?ha); (case ha => walk_at "ev"))
  | ((with_reducible refine' ev_chain ?ha ?hb ?hc); (case ha => walk_at "ev"); (case hb => walk_at "ev"); (case hc => walk_at "ev"))
  | ((with_reducible refine' et_test ?ha); (case ha => walk_at "ev"))
  | ((with_reducible refine' et_B ?ha); (case ha => walk_at "ev"))
  | ((with_reducible refine' et_not ?ha); (case ha => walk_at "ev"))
  | ((with_reducible refine' ev_not ?ha); (case ha => walk_at "ev"))
  | ((with_reducible refine' et_and ?ha ?hb); (case ha => walk_at "ev"); (case hb => intro _; walk_at "ev"))
  | ((with_reducible refine' et_or ?ha ?hb); (case ha => walk_at "ev"); (case hb => intro _; walk_at "ev"))
  | ((with_reducible refine' ev_and ?ha ?hb); (case ha => walk_at "ev"); (case hb => intro _; walk_at "ev"))
  | ((with_reducible refine' ev_or ?ha ?hb); (case ha => walk_at "ev"); (case hb => intro _; walk_at "ev"))
  | ((with_reducible refine' ev_call1 ?ha ?hp); (case ha => walk_at "ev"); (case hp => first | assumption | trivial))
  | ((with_reducible refine' ev_call2 ?ha ?hb ?hp); (case ha => walk_at "ev"); (case hb => walk_at "ev"); (case hp => first | assumption | trivial))
  | ((with_reducible refine' ev_call3 ?ha ?hb ?hc ?hp); (case ha => walk_at "ev"); (case hb => walk_at "ev"); (case hc => walk_at "ev"); (case hp => first | assumption | trivial)))
variable {P : Program} {w : World} {K : PySem.W.Frag} {mg : Str → Option Value} {base : Heap}
theorem cut_len (u : Wk) (a b : Int) : (cutM u a b).length ≤ u.length := by
  have h := runTog_len (cutRuns a b u)
  rw [cutRuns_len] at h
  exact h
def wordA (p : PipeO) (ls lg : Int) : Wk := wordFrom (wordP p) ls lg
theorem wordA_len {p : PipeO} (h : PPre p) (ls lg : Int) : (wordA p ls lg).length ≤ 1000 := Nat.le_trans (cut_len _ _ _) (word_len h)
theorem wordA_pos (p : PipeO) (ls lg : Int) : PosW (wordA p ls lg) := CM.cutW_pos _ _ _
def cellA (p q : PipeO) (ls lg : Int) : Option (Int × Int) := cellOver (wordA p ls lg) (wordA q ls lg)
/-- how long a comb gets -/
def CombOk (p q : PipeO) (ls lg : Int) : Prop := ∀ c, cellA p q ls lg = some c → ManyPre (c.1 + ls - 1) (c.2 + lg - 1) (dropsP p + dropsP q) ∧ CombPre 0 (c.1 + ls - 1) (c.2 + lg - 1) (CM.manyFor (c.1 + ls - 1) (c.2 + lg - 1) (dropsP p + dropsP q))
theorem sc_row_over : FnScope ["p", "q", "least_span", "least_gap", "one", "other", "own", "cell", "length", "gap"] ["p", "q", "least_span", "least_gap"] (defScope s_row_over) := ⟨rfl, rfl, rfl, by decide +kernel, rfl, by decide +kernel, by decide +kernel⟩
abbrev OverPre (p q : PipeO) (ls lg : Int) : Prop := PPre p ∧ PPre q ∧ CombOk p q ls lg
def rowOver (p q : PipeO) (ls lg : Int) : Option RowO := match cellA p q ls lg with
  | none => none
  | some c => some (combM 0 (c.1 + ls - 1) (c.2 + lg - 1) (CM.manyFor (c.1 + ls - 1) (c.2 + lg - 1) (dropsP p + dropsP q)))
theorem row_no {H : Hp} {v : V} {r : RowO} (h : Rp.is H v r) : v ≠ .non := by
  obtain ⟨a, dx, x, e, _⟩ := h
  rw [e]
  exact fun z => by cases z
theorem ev_words {σ : L2.St} {H : Hp} {v v1 : V} {p q : PipeO} {ls lg : Int} {i : Nat} (hv : Rp.is H v p) (h1 : Rp.is H v1 q) (hp : PPre p) (hq : PPre q) (e0 : σ[0]? = some (some v)) (e1 : σ[1]? = some (some v1)) (e2 : (wipe σ [i])[2]? = some (some (.int ls))) (e3 : (wipe σ [i])[3]? = some (some (.int lg)))
    (wi : ∀ x : V, wipe ((wipe σ [i]).set i (some x)) [i] = wipe σ [i] ∧ ((wipe σ [i]).set i (some x))[i]? = some (some x) ∧ ((wipe σ [i]).set i (some x))[2]? = some (some (.int ls)) ∧ ((wipe σ [i]).set i (some x))[3]? = some (some (.int lg))) :
    EvR (tLc (iTup K (tTup (tCons (tVar 0) (tCons (tVar 1) tNil)))) (gName i) tYes (tCall (Pure3 (fun (u : Wk) (_ _ : Int) => u.length ≤ 1000) wordFrom) [] E0 (tCons (tProp 718 (Pure1 PPre wordP) [] E0 (tVar i)) (tCons (tVar 2) (tCons (tVar 3) tNil)))) [i]) σ H (⟨[wordA p ls lg, wordA q ls lg]⟩ : Ls Wk) :=
  ev_lcM (as := [p, q]) (fun o : PipeO => wordA o ls lg) (iw_tup (ev_tupL2 (ev_var e0 hv) (ev_var e1 h1))) (small_line (by show 2 ≤ 100000; decide)) (fun x u H2 s2 hx hu => by
    obtain ⟨z1, z2, z3, z4⟩ := wi u
    have hpx : PPre x := by
      rcases List.mem_cons.mp hx with e | hx
      · rw [e]; exact hp
      · rw [List.mem_singleton] at hx
        rw [hx]; exact hq
    exact ⟨z1, Same.refl _, ev_call3 (f := wordFrom) (ev_prP (ev_var z2 hu) hpx) (ev_var z3 rfl) (ev_var z4 rfl) (word_len hpx)⟩) gm_name
theorem F_row_over (T : Tx w K mg) (pm : PMain P) : Fn P w K mg base 11 d_row_over ["p", "q", "least_span", "least_gap"] (Pure4 OverPre rowOver) := by
  have F_word_from : Fn P w K mg base 3 d_word_from ["word", "least_span", "least_gap"] _ := F_word_from T
  have F_Pipeline_word : Fn P w K mg base 6 d_Pipeline_word ["self"] _ := F_Pipeline_word T
  have F_Pipeline_drops : Fn P w K mg base 8 d_Pipeline_drops ["self"] _ := F_Pipeline_drops T
  have F_cell_over : Fn P w K mg base 4 d_cell_over ["one", "other"] _ := F_cell_over T pm
  have F_comb : Fn P w K mg base 4 d_comb ["first", "length", "gap", "many"] _ := F_comb T
  have F_many_for : Fn P w K mg base 1 d_many_for ["length", "gap", "drops"] _ := F_many_for T
  refine mk_pure4 T.f_row_over sc_row_over (fun _ _ _ _ _ _ _ _ _ _ => rfl) (fun cdv A outer s H Q E hr v v1 v2 v3 p q ls lg hv h1 h2 h3 ha kk => ⟨_, (pss_cons (ps_asg (pe_lc (own := [("own", 6)]) (g := (gName 6)) rfl sc_row_over.nd (pi_tup (pe_tup (pa_cons (pv 0) (pa_cons (pv 1) pa_nil)))) (blkOk_by (own := [("own", 6)]) (N := ["p", "q", "least_span", "least_gap", "one", "other", "own", "cell", "length", "gap"]) (sc := defScope s_row_over) (by decide +kernel)) (fun _ _ _ _ _ => (pg_name (i := 6) sc_row_over.nd rfl (Or.inl rfl))) (fun _ _ _ _ _ => pts_nil) (fun _ _ _ _ _ => (pe_fn F_word_from (hr.mono (by decide)) T.g_word_from (pa_cons (pe_pr F_Pipeline_word (hr.mono (by decide)) T.cl_Pipeline T.pr_Pipeline_word (pv 6)) (pa_cons (pv 2) (pa_cons (pv 3) pa_nil)))))) (pg_lst rfl (pgs_cons (pg_name (i := 4) sc_row_over.nd rfl (Or.inl rfl)) (pgs_cons (pg_name (i := 5) sc_row_over.nd rfl (Or.inl rfl)) pgs_nil))))
  (pss_cons (ps_set (i := 7) sc_row_over.nd rfl (Or.inl rfl) (pe_fn F_cell_over (hr.mono (by decide)) T.g_cell_over (pa_cons (pv 4) (pa_cons (pv 5) pa_nil))))
  (pss_cons (ps_if (pt_cmpR op_isN (pv 7) pe_non (nomark _))
  (pss_one (ps_ret pe_non))
  pss_nil)
  (pss_cons (ps_par (i := 8) (j := 9) (by rfl) sc_row_over.nd rfl rfl (by decide) rfl rfl (pa_cons (pe_op op_sub (pe_op op_add (pe_ix ix_tup (pv 7) pe_int (fun _ _ => rfl)) (pv 2)) pe_int) (pa_cons (pe_op op_sub (pe_op op_add (pe_ix ix_tup (pv 7) pe_int (fun _ _ => rfl)) (pv 3)) pe_int) pa_nil)) (by rfl))
  (pss_one (ps_ret (pe_fn F_comb (hr.mono (by decide)) T.g_comb (pa_cons pe_int (pa_cons (pv 8) (pa_cons (pv 9) (pa_cons (pe_fn F_many_for (hr.mono (by decide)) T.g_many_for (pa_cons (pv 8) (pa_cons (pv 9) (pa_cons (pe_op op_add (pe_pr F_Pipeline_drops (hr.mono (by decide)) T.cl_Pipeline T.pr_Pipeline_drops (pv 0)) (pe_pr F_Pipeline_drops (hr.mono (by decide)) T.cl_Pipeline T.pr_Pipeline_drops (pv 1))) pa_nil)))) pa_nil))))))))))), ?_⟩)
  obtain ⟨hp, hq, hc⟩ := ha
  obtain rfl : v2 = .int ls := h2
  obtain rfl : v3 = .int lg := h3
  refine q_asgL2 (ev_words hv h1 hp hq rfl rfl rfl rfl fun x => ⟨rfl, rfl, rfl, rfl⟩) fun v4 v5 H1 s1 hv4 hv5 => ?_
  refine q_asg (a := cellA p q ls lg) (ev_call2 (f := cellOver) (ev_var rfl hv4) (ev_var rfl hv5) ⟨wordA_len hp _ _, wordA_len hq _ _, wordA_pos _ _ _⟩) fun v6 H2 s2 hv6 => ?_
  have hv2 := Rp.mono (s1.trans s2) hv
  have h12 := Rp.mono (s1.trans s2) h1
  cases e : cellA p q ls lg with
  | none =>
    rw [e] at hv6
    refine q_if (b := true) (et_B (ev_isN (a := (none : Option (Int × Int))) rfl (ev_var rfl hv6))) (fun _ H3 s3 => ?_) (fun c => by cases c)
    exact s_ret (a := rowOver p q ls lg) ((ev_none (α := RowO)).eq (by unfold rowOver; rw [e])) fun u H4 s4 hu => kk _ _ (((s1.trans s2).trans s3).trans s4) hu
  | some c =>
    obtain ⟨m1, m2⟩ := hc c e
    rw [e] at hv6
    refine q_if (b := false) (et_B (ev_isN (a := some c) rfl (ev_var rfl hv6))) (fun c => by cases c) (fun _ H3 s3 => ?_)
    have hv3 := Rp.mono s3 hv2
    have h13 := Rp.mono s3 h12
    have h6 : Rp.is H3 v6 c := (Rp.mono s3 hv6).2
    refine q_par (a := c.1 + ls - 1) (b := c.2 + lg - 1) (ev_opI (ev_opI (ev_fst (ev_var rfl h6)) (ev_var (a := ls) rfl rfl)) ev_int) (ev_opI (ev_opI (ev_snd (ev_var rfl h6)) (ev_var (a := lg) rfl rfl)) ev_int) fun v7 v8 H4 s4 hv7 hv8 => ?_
    obtain rfl : v7 = .int (c.1 + ls - 1) := hv7
    obtain rfl : v8 = .int (c.2 + lg - 1) := hv8
    have hv4 := Rp.mono s4 hv3
    have h14 := Rp.mono s4 h13
    refine s_ret (a := rowOver p q ls lg) ((ev_some (a := combM 0 (c.1 + ls - 1) (c.2 + lg - 1) (CM.manyFor (c.1 + ls - 1) (c.2 + lg - 1) (dropsP p + dropsP q))) (fun H v h => row_no h) (ev_call4 (f := combM) ev_int (ev_var (a := c.1 + ls - 1) rfl rfl) (ev_var (a := c.2 + lg - 1) rfl rfl) (ev_call3 (f := CM.manyFor) (ev_var (a := c.1 + ls - 1) rfl rfl) (ev_var (a := c.2 + lg - 1) rfl rfl) (ev_opI (ev_prP (ev_var rfl hv4) hp) (ev_prP (ev_var rfl h14) hq)) m1) m2)).eq (by unfold rowOver; rw [e])) fun u H5 s5 hu => kk _ _ ((((s1.trans s2).trans s3).trans s4).trans s5) hu
theorem sc_long_span : FnScope ["p", "q", "least_span"] ["p", "q", "least_span"] (defScope s_long_span) := ⟨rfl, rfl, rfl, by decide +kernel, rfl, by decide +kernel, by decide +kernel⟩
abbrev LongPre (p q : PipeO) (ls : Int) : Prop := PPre p ∧ PPre q ∧ 0 < ls + dropsP p + dropsP q
def longSpan (p q : PipeO) (ls : Int) : RowO := ⟨[(0, ls + dropsP p + dropsP q)]⟩
theorem F_long_span (T : Tx w K mg) : Fn P w K mg base 11 d_long_span ["p", "q", "least_span"] (Pure3 LongPre longSpan) := by
  have F_Pipeline_drops : Fn P w K mg base 8 d_Pipeline_drops ["self"] _ := F_Pipeline_drops T
  have F_Row_tup : Fn P w K mg base 2 d_Row_init ["self", "pairs"] _ := F_Row_tup T
  refine mk_pure3 T.f_long_span sc_long_span (fun _ _ _ _ _ _ _ _ _ => rfl) (fun cdv A outer s H Q E hr v v1 v2 p q ls hv h1 h2 ha kk => ⟨_, (pss_one (ps_ret (pe_mk F_Row_tup T.mk_Row (hr.mono (by decide)) T.g_Row (pa_cons (pe_tup (pa_cons (pe_tup (pa_cons pe_int (pa_cons (pe_op op_add (pe_op op_add (pv 2) (pe_pr F_Pipeline_drops (hr.mono (by decide)) T.cl_Pipeline T.pr_Pipeline_drops (pv 0))) (pe_pr F_Pipeline_drops (hr.mono (by decide)) T.cl_Pipeline T.pr_Pipeline_drops (pv 1))) pa_nil))) pa_nil)) pa_nil)))), ?_⟩)
  obtain ⟨hp, hq, hl⟩ := ha
  exact s_ret (a := longSpan p q ls) (ev_rowT (X := [(0, ls + dropsP p + dropsP q)]) (ev_tup1 (ev_tup2 ev_int (ev_opI (ev_opI (ev_var rfl h2) (ev_prP (ev_var rfl hv) hp)) (ev_prP (ev_var rfl h1) hq)))) ⟨by show 1 ≤ 1000; decide, fun x hx => by rw [List.mem_singleton] at hx; rw [hx]; exact hl, List.pairwise_singleton _ _⟩) fun u H2 s2 hu => kk _ _ s2 hu
theorem sc_outside_from : FnScope ["p", "q", "least_span", "least_gap"] ["p", "q", "least_span", "least_gap"] (defScope s_outside_from) := ⟨rfl, rfl, rfl, by decide +kernel, rfl, by decide +kernel, by decide +kernel⟩
abbrev OutPre (p q : PipeO) (ls lg : Int) : Prop := PPre p ∧ PPre q ∧ CombOk p q ls lg ∧ 0 < ls + dropsP p + dropsP q
def outsideF (p q : PipeO) (ls lg : Int) : Option RowO := if startsP p < startsP q ∨ endsP q < endsP p then some (longSpan p q ls) else rowOver p q ls lg
theorem ev_beyond {σ : L2.St} {H : Hp} {v v1 : V} {p q : PipeO} (hv : Rp.is H v p) (h1 : Rp.is H v1 q) (hp : PPre p) (hq : PPre q) (e0 : σ[0]? = some (some v)) (e1 : σ[1]? = some (some v1)) :
    EtR (tOr (tB (tOp (rI0 fun i j => .bl (decide (i < j))) (tProp 718 (Pure1 PPre startsP) [] E0 (tVar 0)) (tProp 718 (Pure1 PPre startsP) [] E0 (tVar 1)))) (tB (tOp (rI0 fun i j => .bl (decide (j < i))) (tProp 718 (Pure1 PPre endsP) [] E0 (tVar 0)) (tProp 718 (Pure1 PPre endsP) [] E0 (tVar 1))))) σ H (decide (startsP p < startsP q ∨ endsP q < endsP p)) :=
  (et_or (a := decide (startsP p < startsP q)) (b := decide (endsP q < endsP p)) (et_B (ev_opB (ev_prP (ev_var e0 hv) hp) (ev_prP (ev_var e1 h1) hq))) (fun _ => et_B (ev_opB (f := fun i j => decide (j < i)) (ev_prP (ev_var e0 hv) hp) (ev_prP (ev_var e1 h1) hq)))).eq (by simp)
theorem F_outside_from (T : Tx w K mg) (pm : PMain P) : Fn P w K mg base 12 d_outside_from ["p", "q", "least_span", "least_gap"] (Pure4 OutPre outsideF) := by
  have F_Pipeline_starts : Fn P w K mg base 4 d_Pipeline_starts ["self"] _ := F_Pipeline_starts T
  have F_Pipeline_ends : Fn P w K mg base 4 d_Pipeline_ends ["self"] _ := F_Pipeline_ends T
  have F_long_span : Fn P w K mg base 11 d_long_span ["p", "q", "least_span"] _ := F_long_span T
  have F_row_over : Fn P w K mg base 11 d_row_over ["p", "q", "least_span", "least_gap"] _ := F_row_over T pm
  refine mk_pure4 T.f_outside_from sc_outside_from (fun _ _ _ _ _ _ _ _ _ _ => rfl) (fun cdv A outer s H Q E hr v v1 v2 v3 p q ls lg hv h1 h2 h3 ha kk => ⟨_, (pss_cons (ps_if (PW.pt (pw_or (pt_cmpR op_lt (pe_pr F_Pipeline_starts (hr.mono (by decide)) T.cl_Pipeline T.pr_Pipeline_starts (pv 0)) (pe_pr F_Pipeline_starts (hr.mono (by decide)) T.cl_Pipeline T.pr_Pipeline_starts (pv 1)) (nomark _)) (pw_or1 (pt_cmpR op_gt (pe_pr F_Pipeline_ends (hr.mono (by decide)) T.cl_Pipeline T.pr_Pipeline_ends (pv 0)) (pe_pr F_Pipeline_ends (hr.mono (by decide)) T.cl_Pipeline T.pr_Pipeline_ends (pv 1)) (nomark _)))))
  (pss_one (ps_ret (pe_fn F_long_span (hr.mono (by decide)) T.g_long_span (pa_cons (pv 0) (pa_cons (pv 1) (pa_cons (pv 2) pa_nil))))))
  pss_nil)
  (pss_one (ps_ret (pe_fn F_row_over (hr.mono (by decide)) T.g_row_over (pa_cons (pv 0) (pa_cons (pv 1) (pa_cons (pv 2) (pa_cons (pv 3) pa_nil)))))))), ?_⟩)
  obtain ⟨hp, hq, hc, hl⟩ := ha
  refine q_ifP (ev_beyond hv h1 hp hq rfl rfl) (fun c H1 s1 => ?_) (fun c H1 s1 => ?_)
  · exact s_ret (a := outsideF p q ls lg) ((ev_some (fun H v h => row_no h) (ev_call3 (f := longSpan) (ev_var rfl (Rp.mono s1 hv)) (ev_var rfl (Rp.mono s1 h1)) (ev_var rfl (Rp.mono s1 h2)) ⟨hp, hq, hl⟩)).eq (by unfold outsideF; rw [if_pos c])) fun u H2 s2 hu => kk _ _ (s1.trans s2) hu
  · exact s_ret (a := outsideF p q ls lg) ((ev_call4 (f := rowOver) (ev_var rfl (Rp.mono s1 hv)) (ev_var rfl (Rp.mono s1 h1)) (ev_var rfl (Rp.mono s1 h2)) (ev_var rfl (Rp.mono s1 h3)) ⟨hp, hq, hc⟩).eq (by unfold outsideF; rw [if_neg c])) fun u H2 s2 hu => kk _ _ (s1.trans s2) hu
theorem sc_within_from : FnScope ["p", "q", "least_span", "least_gap", "one", "other", "own"] ["p", "q", "least_span", "least_gap"] (defScope s_within_from) := ⟨rfl, rfl, rfl, by decide +kernel, rfl, by decide +kernel, by decide +kernel⟩
abbrev InPre (p q : PipeO) (_ _ : Int) : Prop := PPre p ∧ PPre q
def withinF (p q : PipeO) (ls lg : Int) : Bool := if startsP p < startsP q ∨ endsP q < endsP p then false else (cellA p q ls lg).isNone
theorem F_within_from (T : Tx w K mg) (pm : PMain P) : Fn P w K mg base 12 d_within_from ["p", "q", "least_span", "least_gap"] (Pure4 InPre withinF) := by
  have F_Pipeline_starts : Fn P w K mg base 4 d_Pipeline_starts ["self"] _ := F_Pipeline_starts T
  have F_Pipeline_ends : Fn P w K mg base 4 d_Pipeline_ends ["self"] _ := F_Pipeline_ends T
  have F_word_from : Fn P w K mg base 3 d_word_from ["word", "least_span", "least_gap"] _ := F_word_from T
  have F_Pipeline_word : Fn P w K mg base 6 d_Pipeline_word ["self"] _ := F_Pipeline_word T
  have F_cell_over : Fn P w K mg base 4 d_cell_over ["one", "other"] _ := F_cell_over T pm
  refine mk_pure4 T.f_within_from sc_within_from (fun _ _ _ _ _ _ _ _ _ _ => rfl) (fun cdv A outer s H Q E hr v v1 v2 v3 p q ls lg hv h1 h2 h3 ha kk => ⟨_, (pss_cons (ps_if (PW.pt (pw_or (pt_cmpR op_lt (pe_pr F_Pipeline_starts (hr.mono (by decide)) T.cl_Pipeline T.pr_Pipeline_starts (pv 0)) (pe_pr F_Pipeline_starts (hr.mono (by decide)) T.cl_Pipeline T.pr_Pipeline_starts (pv 1)) (nomark _)) (pw_or1 (pt_cmpR op_gt (pe_pr F_Pipeline_ends (hr.mono (by decide)) T.cl_Pipeline T.pr_Pipeline_ends (pv 0)) (pe_pr F_Pipeline_ends (hr.mono (by decide)) T.cl_Pipeline T.pr_Pipeline_ends (pv 1)) (nomark _)))))
  (pss_one (ps_ret pe_bl))
  pss_nil)
  (pss_cons (ps_asg (pe_lc (own := [("own", 6)]) (g := (gName 6)) rfl sc_within_from.nd (pi_tup (pe_tup (pa_cons (pv 0) (pa_cons (pv 1) pa_nil)))) (blkOk_by (own := [("own", 6)]) (N := ["p", "q", "least_span", "least_gap", "one", "other", "own"]) (sc := defScope s_within_from) (by decide +kernel)) (fun _ _ _ _ _ => (pg_name (i := 6) sc_within_from.nd rfl (Or.inl rfl))) (fun _ _ _ _ _ => pts_nil) (fun _ _ _ _ _ => (pe_fn F_word_from (hr.mono (by decide)) T.g_word_from (pa_cons (pe_pr F_Pipeline_word (hr.mono (by decide)) T.cl_Pipeline T.pr_Pipeline_word (pv 6)) (pa_cons (pv 2) (pa_cons (pv 3) pa_nil)))))) (pg_lst rfl (pgs_cons (pg_name (i := 4) sc_within_from.nd rfl (Or.inl rfl)) (pgs_cons (pg_name (i := 5) sc_within_from.nd rfl (Or.inl rfl)) pgs_nil))))
  (pss_one (ps_ret (pe_cmpR op_isN (pe_fn F_cell_over (hr.mono (by decide)) T.g_cell_over (pa_cons (pv 4) (pa_cons (pv 5) pa_nil))) pe_non (nomark _)))))), ?_⟩)
  obtain ⟨hp, hq⟩ := ha
  obtain rfl : v2 = .int ls := h2
  obtain rfl : v3 = .int lg := h3
  refine q_ifP (ev_beyond hv h1 hp hq rfl rfl) (fun c H1 s1 => ?_) (fun c H1 s1 => ?_)
  · exact s_ret (a := withinF p q ls lg) (ev_bl.eq (by unfold withinF; rw [if_pos c])) fun u H2 s2 hu => kk _ _ (s1.trans s2) hu
  · refine q_asgL2 (ev_words (Rp.mono s1 hv) (Rp.mono s1 h1) hp hq rfl rfl rfl rfl fun x => ⟨rfl, rfl, rfl, rfl⟩) fun v4 v5 H2 s2 hv4 hv5 => ?_
    exact s_ret (a := withinF p q ls lg) ((ev_isN (a := cellA p q ls lg) rfl (ev_call2 (f := cellOver) (ev_var rfl hv4) (ev_var rfl hv5) ⟨wordA_len hp _ _, wordA_len hq _ _, wordA_pos _ _ _⟩)).eq (by unfold withinF; rw [if_neg c])) fun u H3 s3 hu => kk _ _ ((s1.trans s2).trans s3) hu
end Cf
set_option Elab.async false
set_option linter.all false
set_option maxRecDepth 100000
set_option maxHeartbeats 4000000
/-! Texts of two letters. -/
namespace Cf
open PySem PySem.Spec PyProof.Rows L2 Cs
/-- f for a fill, d for a drop -/
def lt (b : Bool) : Nat := if b then 102 else 100
def txtS (w : List Bool) : Str := ⟨(w.map lt).toArray⟩
structure Tb where
  w : List Bool
instance : RpK Tb := { is := fun _ v a => v = .str (txtS a.w), mono := fun _ h => h, monoK := fun _ h => h }
theorem txt_len (w : List Bool) : (txtS w).length = w.length := by
  show (w.map lt).toArray.size = _
  rw [List.size_toArray, List.length_map]
theorem txt_f : (("f" : Str)) = txtS [true] := by decide +kernel
theorem txt_d : (("d" : Str)) = txtS [false] := by decide +kernel
theorem txt_0 : (("" : Str)) = txtS [] := by decide +kernel
theorem txt_app (a b : List Bool) : txtS a ++ txtS b = txtS (a ++ b) := by
  show (⟨(a.map lt).toArray ++ (b.map lt).toArray⟩ : Str) = ⟨((a ++ b).map lt).toArray⟩
  rw [List.map_append, List.append_toArray]
theorem lt_inj {a b : Bool} : lt a = lt b ↔ a = b := by cases a <;> cases b <;> decide
theorem txt_one {a b : Bool} : txtS [a] = txtS [b] ↔ a = b := by cases a <;> cases b <;> decide +kernel
theorem rep_cps (b : Bool) : ∀ n : Nat, (List.replicate n (txtS [b]).cps).foldl (· ++ ·) #[] = (txtS (List.replicate n b)).cps := by
  have key : ∀ (n : Nat) (acc : List Bool), (List.replicate n (txtS [b]).cps).foldl (· ++ ·) (txtS acc).cps = (txtS (acc ++ List.replicate n b)).cps := fun n => by
    induction n with
    | zero => intro acc; rw [List.replicate_zero, List.replicate_zero, List.append_nil]; rfl
    | succ n ih =>
      intro acc
      rw [List.replicate_succ, List.foldl_cons]
      have e : (txtS acc).cps ++ (txtS [b]).cps = (txtS (acc ++ [b])).cps := congrArg Str.cps (txt_app acc [b])
      rw [e, ih, List.append_assoc]
      rfl
  intro n
  exact key n []
theorem txt_mul (b : Bool) (n : Int) : Txt.mul (txtS [b]) n = txtS (List.replicate n.toNat b) := by
  unfold Txt.mul
  by_cases h : n < 1
  · rw [if_pos h, show n.toNat = 0 by omega]
    rfl
  · rw [if_neg h]
    by_cases h1 : (n == 1 || (txtS [b]).length == 0) = true
    · rw [if_pos h1]
      have : n = 1 := by
        rw [txt_len] at h1
        simpa using h1
      rw [this]
      rfl
    · rw [if_neg h1, rep_cps]
theorem txt_count (w : List Bool) (b : Bool) : Txt.count (txtS w) (txtS [b]) = ((w.count b : Nat) : Int) := by
  have e : txtS [b] = ⟨#[lt b]⟩ := rfl
  rw [e, count_cnt]
  show PyProof.Rows.cnt (lt b) (w.map lt) = _
  induction w with
  | nil => rfl
  | cons x w ih =>
    rw [List.map_cons, cnt_cons, ih, List.count_cons]
    by_cases h : x = b
    · rw [if_pos (lt_inj.mpr h), if_pos (by simpa using h)]
      omega
    · rw [if_neg fun z => h (lt_inj.mp z), if_neg (by simpa using h)]
      omega
theorem txt_cut (w : List Bool) (k : Nat) : cutS (txtS w) none (some (k : Int)) = txtS (w.take k) := by
  unfold cutS
  rw [txt_len, HT.sIx_nat, HT.sIx_none]
  show (⟨_⟩ : Str) = ⟨_⟩
  have e : (txtS w).cps.toList = w.map lt := rfl
  rw [e, List.drop_zero, Nat.sub_zero, ← List.map_take]
  have e2 : w.take (min k w.length) = w.take k := by rw [List.take_eq_take_iff]; omega
  rw [e2]
section
variable {X : Cx}
/-- text * n -/
def rRepS : R2 := fun x y H Q => ∃ (b : Bool) (n : Int), x = .str (txtS [b]) ∧ y = .int n ∧ -1000000 < n ∧ n < 1000000 ∧ Q (.str (txtS (List.replicate n.toNat b))) H
theorem op_repS : OpR X (binaryOp .Mult) rRepS := by
  intro pins s σ H x y v u Q I rx ry h
  obtain ⟨b, n, rfl, rfl, h1, h2, q⟩ := h
  obtain ⟨t, rfl⟩ := rx
  obtain ⟨t', rfl⟩ := ry
  refine SB.mul ⟨?_, ?_, ?_⟩ fun t2 k => ⟨.str _, H, I.tok _, ⟨t2, by rw [txt_mul]⟩, q⟩
  · simp only [Bool.or_eq_false_iff, decide_eq_false_iff_not]
    omega
  · intro h3 h4
    rw [txt_len]
    show ¬ ((1 : Nat) : Int) > _
    have : (1 : Int) ≤ (2 ^ 63 - 1) / n := Int.le_ediv_of_mul_le (by omega) (by omega)
    omega
  · intro h3 h4
    rw [txt_len]
    show decide (1 * n.toNat > sizeLine) = false
    rw [sizeLine_eq]
    exact decide_eq_false (by omega)
end
section
variable {σ : L2.St} {H : Hp} {ta tb te : TE}
theorem ev_tf : EvR (tC (.str "f")) σ H (⟨[true]⟩ : Tb) := fun H1 _ Q q => q _ H1 (Same.refl _) (by show V.str "f" = V.str (txtS [true]); rw [txt_f])
theorem ev_td : EvR (tC (.str "d")) σ H (⟨[false]⟩ : Tb) := fun H1 _ Q q => q _ H1 (Same.refl _) (by show V.str "d" = V.str (txtS [false]); rw [txt_d])
theorem ev_t0 : EvR (tC (.str "")) σ H (⟨[]⟩ : Tb) := fun H1 _ Q q => q _ H1 (Same.refl _) (by show V.str "" = V.str (txtS []); rw [txt_0])
theorem ev_tcat {a b : Tb} {r : R2} (hr : r = fun x y H Q => ∃ i j, x = .str i ∧ y = .str j ∧ i.length + j.length ≤ sizeLine ∧ Q (.str (i ++ j)) H) (ha : EvR ta σ H a) (hb : EvR tb σ H b) (hz : a.w.length + b.w.length ≤ 100000) : EvR (tOp r ta tb) σ H (⟨a.w ++ b.w⟩ : Tb) := fun H1 s Q q =>
  ha H1 s _ fun v H2 s2 hv => hb H2 (s.trans s2) _ fun u H3 s3 hu => by
    subst hr
    refine ⟨_, _, hv, hu, by rw [txt_len, txt_len]; exact Nat.le_of_lt (small_line hz), q _ H3 (s2.trans s3) ?_⟩
    show V.str _ = V.str _
    rw [txt_app]
theorem ev_trep {b : Bool} {n : Int} (ha : EvR ta σ H (⟨[b]⟩ : Tb)) (hn : EvR tb σ H n) (h1 : -1000000 < n) (h2 : n < 1000000) : EvR (tOp rRepS ta tb) σ H (⟨List.replicate n.toNat b⟩ : Tb) := fun H1 s Q q =>
  ha H1 s _ fun v H2 s2 hv => hn H2 (s.trans s2) _ fun u H3 s3 hu => ⟨b, n, hv, hu, h1, h2, q _ H3 (s2.trans s3) rfl⟩
theorem ev_teq {a b : Bool} (ha : EvR ta σ H (⟨[a]⟩ : Tb)) (hb : EvR tb σ H (⟨[b]⟩ : Tb)) : EvR (tOp rEq ta tb) σ H (decide (a = b)) := fun H1 s Q q =>
  ha H1 s _ fun v H2 s2 hv => hb H2 (s.trans s2) _ fun u H3 s3 hu => by
    have hv' : v = .str (txtS [a]) := hv
    have hu' : u = .str (txtS [b]) := hu
    subst hv' hu'
    refine ⟨rfl, q _ H3 (s2.trans s3) ?_⟩
    show V.bl _ = V.bl _
    rw [decide_eq_decide.mpr ⟨fun e => txt_one.mp (V.str.inj e), fun e => by rw [e]⟩]
theorem ev_tne {a b : Bool} (ha : EvR ta σ H (⟨[a]⟩ : Tb)) (hb : EvR tb σ H (⟨[b]⟩ : Tb)) : EvR (tOp rNe ta tb) σ H (!decide (a = b)) := fun H1 s Q q =>
  ha H1 s _ fun v H2 s2 hv => hb H2 (s.trans s2) _ fun u H3 s3 hu => by
    have hv' : v = .str (txtS [a]) := hv
    have hu' : u = .str (txtS [b]) := hu
    subst hv' hu'
    refine ⟨rfl, q _ H3 (s2.trans s3) ?_⟩
    show V.bl _ = V.bl _
    rw [decide_eq_decide.mpr ⟨fun e => txt_one.mp (V.str.inj e), fun e => by rw [e]⟩]
theorem ev_tcount {w : Tb} {b : Bool} {r : V → List V → Hp → VK → Prop} (hr : r = fun x xs H Q => ∃ a b, x = .str a ∧ xs = [.str b] ∧ Q (.int (Txt.count a b)) H) (ha : EvR ta σ H w) (hb : EvR tb σ H (⟨[b]⟩ : Tb)) : EvR (tM1 r ta tb) σ H ((w.w.count b : Nat) : Int) := fun H1 s Q q =>
  ha H1 s _ fun v H2 s2 hv => ⟨⟨_, hv⟩, hb H2 (s.trans s2) _ fun u H3 s3 hu => by
    subst hr
    refine ⟨_, _, hv, by rw [show u = V.str (txtS [b]) from hu], q _ H3 (s2.trans s3) ?_⟩
    show V.int _ = V.int _
    rw [txt_count]⟩
theorem ev_tlen {w : Tb} {r : List V → Hp → VK → Prop} (hr : r = fun xs H Q => ∃ z, xs = [.str z] ∧ z.length ≤ sizeLine ∧ Q (.int z.length) H) (ha : EvR ta σ H w) (hz : w.w.length ≤ 100000) : EvR (tCB r (tCons ta tNil)) σ H ((w.w.length : Nat) : Int) := fun H1 s Q q =>
  ha H1 s _ fun v H2 s2 hv => by
    subst hr
    refine ⟨_, by rw [show v = V.str (txtS w.w) from hv], by rw [txt_len]; exact Nat.le_of_lt (small_line hz), q _ H2 s2 ?_⟩
    show V.int _ = V.int _
    rw [txt_len]
/-- w[:k] -/
theorem ev_tcut {w : Tb} {k : Nat} {i : Int} (ha : EvR ta σ H w) (hk : EvR tb σ H i) (e : i = (k : Int)) (hz : w.w.length ≤ 100000) : EvR (tSl rSlS ta tNoPart (tPart tb)) σ H (⟨w.w.take k⟩ : Tb) := fun H1 s Q q =>
  ha H1 s _ fun v H2 s2 hv => hk H2 (s.trans s2) _ fun u H3 s3 hu => ⟨i, hu, _, hv, by rw [txt_len]; exact Nat.le_of_lt (small_line hz), q _ H3 (s2.trans s3) (by
    show V.str _ = V.str _
    rw [e, txt_cut])⟩
def tbs (w : Tb) : List Tb := w.w.map fun b => ⟨[b]⟩
theorem iw_txt {w : Tb} (h : EvR ta σ H w) : IwR (iStr ta) σ H (tbs w) := fun H1 s R k => h H1 s _ fun v H2 s2 hv => by
  have hv' : v = .str (txtS w.w) := hv
  have hl : (tbs w).length = (txtS w.w).cps.size := by
    unfold tbs
    rw [List.length_map]
    exact (txt_len w.w).symm
  refine ⟨txtS w.w, hv', k _ H2 (fun _ => True) _ s2 (fun _ _ => trivial) (by rw [hl]; exact walk_str) fun i H3 x H4 s3 y => ?_⟩
  obtain ⟨e, c, hc, ex⟩ := y
  have e1 : (w.w.map lt).toArray[i]? = some c := hc
  rw [List.getElem?_toArray, List.getElem?_map] at e1
  cases hb : w.w[i]? with
  | none => rw [hb] at e1; cases e1
  | some b =>
    rw [hb] at e1
    have ec : lt b = c := Option.some.inj e1
    rw [e, ex]
    refine ⟨Same.refl _, ⟨[b]⟩, by unfold tbs; rw [List.getElem?_map, hb]; rfl, ?_⟩
    show V.str _ = V.str _
    rw [← ec]
    rfl
end
end Cf
set_option Elab.async false
set_option linter.all false
set_option maxRecDepth 100000
set_option maxHeartbeats 4000000
/-! The law's own: edges, trips, spelling. -/
namespace Cf
open PySem PySem.Spec PyProof.Rows L2 Cs
local macro_rules | `(tactic| walk_at "lf") => `(tactic| first
  | assumption
  | exact rfl
  | exact Rp.mono (by assumption) (by assumption)
  | exact Rp.mono (Same.trans (by assumption) (by assumption)) (by assumption)
  | exact RpK.monoK (by assumption) (by assumption))
local macro_rules | `(tactic| walk_at "ev") => `(tactic| first
  | with_reducible exact ev_int
  | with_reducible exact ev_bl
  | with_reducible exact ev_fill
  | with_reducible exact ev_drop
  | with_reducible exact ev_str
  | ((with_reducible refine' ev_var ?hs ?hv); (case hs => exact rfl); (case hv => walk_at "lf"))
  | ((with_reducible refine' ev_opI ?ha ?hb); (case ha => walk_at "ev"); (case hb => walk_at "ev"))
  | ((with_reducible refine' ev_opB ?ha ?hb); (case ha => walk_at "ev"); (case hb => walk_at "ev"))
  | ((with_reducible refine' ev_opC ?ha ?hb ?hc); (case ha => walk_at "ev"); (case hb => walk_at "ev"); (case hc => first | assumption | skip))
  | ((with_reducible refine' ev_un ?ha); (case ha => walk_at "ev"))
  | ((with_reducible refine' ev_eqK ?ha ?hb); (case ha => walk_at "ev"); (case hb => walk_at "ev"))
  | ((with_reducible refine' ev_eqI ?ha ?hb); (case ha => walk_at "ev"); (case hb => walk_at "ev"))
  | ((with_reducible refine' ev_eqS ?ha ?hb); (case ha => walk_at "ev"); (case hb => walk_at "ev"))
  | ((with_reducible refine' ev_neK ?ha ?hb); (case ha => walk_at "ev"); (case hb => walk_at "ev"))
  | ((with_reducible refine' ev_neI ?ha ?hb); (case ha => walk_at "ev"); (case hb => walk_at "ev"))
  | ((with_reducible refine' ev_neS ?ha ?hb); (case ha => walk_at "ev"); (case hb => walk_at "ev"))
  | ((with_reducible refine' ev_tup2 ?ha ?hb); (case ha => walk_at "ev"); (case hb => walk_at "ev"))
  | ((with_reducible refine' ev_tup1 ?ha); (case ha => walk_at "ev"))
  | with_reducible exact ev_tup0
  | ((with_reducible refine' ev_fst ?ha); (case ha => walk_at "ev"))
  | ((with_reducible refine' ev_snd ?ha); (case ha => walk_at "ev"))
  | ((with_reducible refine' ev_max2 rfl ?ha ?hb); (case ha => walk_at "ev"); (case hb => walk_at "ev"))
  | ((with_reducible refine' ev_min2 rfl ?ha ?hb); (case ha => walk_at "ev"); (case hb => walk_at "ev"))
  | ((with_reducible refine' ev_abs rfl ?ha); (case ha => walk_at "ev"))
  | ((with_reducible refine' ev_intI rfl ?ha); (case ha => walk_at "ev"))
  | ((with_reducible refine' ev_intB rfl ?ha); (case ha => walk_at "ev"))
  | ((with_reducible refine' ev_len rfl ?ha); (case ha => walk_at "ev"))
  | ((with_reducible refine' ev_lenL rfl ?ha); (case ha => walk_at "ev"))
  | ((with_reducible refine' ev_tuple rfl ?ha); (case ha => walk_at "ev"))
  | ((with_reducible refine' ev_sum ?ha); (case ha => walk_at "ev"))
  | ((with_reducible refine' ev_chain ?ha ?hb ?hc); (case ha => walk_at "ev"); (case hb => walk_at "ev"); (case hc => walk_at "ev"))
  | ((with_reducible refine' et_test ?ha); (case ha => walk_at "ev"))
  | ((with_reducible refine' et_B ?ha); (case ha => walk_at "ev"))
  | ((with_reducible refine' et_not ?ha); (case ha => walk_at "ev"))
  | ((with_reducible refine' ev_not ?ha); (case ha => walk_at "ev"))
  | ((with_reducible refine' et_and ?ha ?hb); (case ha => walk_at "ev"); (case hb => intro _; walk_at "ev"))
  | ((with_reducible refine' et_or ?ha ?hb); (case ha => walk_at "ev"); (case hb => intro _; walk_at "ev"))
  | ((with_reducible refine' ev_and ?ha ?hb); (case ha => walk_at "ev"); (case hb => intro _; walk_at "ev"))
  | ((with_reducible refine' ev_or ?ha ?hb); (case ha => walk_at "ev"); (case hb => intro _; walk_at "ev"))
  | ((with_reducible refine' ev_call1 ?ha ?hp); (case ha => walk_at "ev"); (case hp => first | assumption | trivial))
  | ((with_reducible refine' ev_call2 ?ha ?hb ?hp); (case ha => walk_at "ev"); (case hb => walk_at "ev"); (case hp => first | assumption | trivial))
  | ((with_reducible refine' ev_call3 ?ha ?hb ?hc ?hp); (case ha => walk_at "ev"); (case hb => walk_at "ev"); (case hc => walk_at "ev"); (case hp => first | assumption | trivial)))
variable {P : Program} {w : World} {K : PySem.W.Frag} {mg : Str → Option Value} {base : Heap}
section
variable {α : Type} {σ : L2.St} {H : Hp} {g : TG} {tb tz : TS} {D : Ends} {i : Nat} {v : V}
/-- for, over a tuple in a slot, whatever the body writes -/
theorem s_forT [RpK α] {as : List α} (hσ : σ[i]? = some (some v)) (hv : Rp.is H v as) (Inv : List α → L2.St → Hp → Prop) (h0 : Inv as σ H) (keep : ∀ r σ' H', Inv r σ' H' → Kp H H')
    (hs : ∀ x r u σ' H', x ∈ as → Inv (x :: r) σ' H' → Rp.is H' u x → g u σ' H' fun σ3 H3 => tb { D with nx := Inv r, ct := Inv r, bk := D.nx } σ3 H3)
    (hd : ∀ σ' H', Inv [] σ' H' → D.nx σ' H') : tFor (iTup K (tVar i)) g tb D σ H := by
  obtain ⟨q, xs, rfl, h1, h2⟩ := hv
  refine ⟨_, hσ, q, rfl, ⟨xs, SqT.of h1⟩, ?_⟩
  refine for_it (walk_tup (xs := xs)) (fun i σ' H' => Inv (as.drop i) σ' H') h0 (fun i σ' H' _ p => SqT.of (keep _ _ _ p _ _ trivial h1)) (fun i x σ' H1 H2 hi p y => ?_) (fun σ' H' p => ?_)
  · obtain ⟨e, hx⟩ := y
    subst e
    obtain ⟨b, hb, rb⟩ := h2.getV hx
    rw [drop_cons hb] at p
    exact hs b (as.drop (i + 1)) x σ' _ (List.mem_of_getElem? hb) p (RpK.monoK (keep _ _ _ p) rb)
  · rw [h2.length, List.drop_length] at p
    exact hd σ' H' p
theorem q_forT [RpK α] {as : List α} (hσ : σ[i]? = some (some v)) (hv : Rp.is H v as) (Inv : List α → L2.St → Hp → Prop) (h0 : Inv as σ H) (keep : ∀ r σ' H', Inv r σ' H' → Kp H H')
    (hs : ∀ x r u σ' H', x ∈ as → Inv (x :: r) σ' H' → Rp.is H' u x → g u σ' H' fun σ3 H3 => tb { D with nx := Inv r, ct := Inv r, bk := tz D } σ3 H3)
    (hd : ∀ σ' H', Inv [] σ' H' → tz D σ' H') : tSeq (tFor (iTup K (tVar i)) g tb) tz D σ H := s_forT (D := { D with nx := tz D }) hσ hv Inv h0 keep hs hd
/-- a step's two parts -/
theorem g_stp {u : V} {s : Stp} {j : Nat} {Q : L2.St → Hp → Prop} (h : Rp.is H u s) (k : ∀ y, Rp.is H y (numsS s) → Q ((σ.set i (some (.str (kindS s)))).set j (some y)) H) : gTup K 2 (gCons (gName i) (gCons (gName j) gNil)) u σ H Q :=
  g_pair (p := (kindS s, numsS s)) h fun x y hx hy => by
    obtain rfl : x = .str (kindS s) := hx
    exact k y hy
theorem ev_num {te : TE} {s : Stp} {i : Int} {n : Nat} {x : Int} (h : EvR te σ H (numsS s)) (ei : i = (n : Int)) (e : (numsS s)[n]? = some x) : EvR (tOp (rIxT K) te (tC (.int i))) σ H x := ev_ixT h ev_int ei e
end
abbrev LPre (p : List Stp) : Prop := p.length ≤ 100
theorem sc_Ledges : FnScope ["_law_line_here", "_law_one_so", "_law_two_so", "_law_sort_so", "_law_nums_so"] ["_law_line_here"] (defScope s_Ledges) := ⟨rfl, rfl, rfl, by decide +kernel, rfl, by decide +kernel, by decide +kernel⟩
theorem F_Ledges (T : Tx w K mg) : Fn P w K mg base 1 d_Ledges ["_law_line_here"] (Pure1 LPre fun p => (CM.starts p, CM.ends p)) := by
  refine mk_pure1 T.f_Ledges sc_Ledges (fun _ _ _ _ _ _ _ => rfl) (fun cdv A outer s H Q E hr v p hv ha kk => ⟨_, (pss_cons (ps_asg (pe_tup (pa_cons pe_int (pa_cons pe_int pa_nil))) (pg_tup rfl (pgs_cons (pg_name (i := 1) sc_Ledges.nd rfl (Or.inl rfl)) (pgs_cons (pg_name (i := 2) sc_Ledges.nd rfl (Or.inl rfl)) pgs_nil))))
  (pss_cons (ps_for PassesOwn.never rfl (pi_tup (pv 0)) (pg_tup rfl (pgs_cons (pg_name (i := 3) sc_Ledges.nd rfl (Or.inl rfl)) (pgs_cons (pg_name (i := 4) sc_Ledges.nd rfl (Or.inl rfl)) pgs_nil)))
  (pss_one (ps_if (pt_cmpR op_eq (pv 3) pe_str (nomark _))
  (pss_one (ps_par (i := 1) (j := 2) (by rfl) sc_Ledges.nd rfl rfl (by decide) rfl rfl (pa_cons (pe_op op_add (pv 1) (pe_ix ix_tup (pv 4) pe_int (fun _ _ => rfl))) (pa_cons (pe_op op_add (pv 2) (pe_ix ix_tup (pv 4) pe_int (fun _ _ => rfl))) pa_nil)) (by rfl)))
  (pss_one (ps_if (pt_cmpR op_eq (pv 3) pe_str (nomark _))
  (pss_one (ps_par (i := 1) (j := 2) (by rfl) sc_Ledges.nd rfl rfl (by decide) rfl rfl (pa_cons (pe_op op_sub (pv 1) (pe_ix ix_tup (pv 4) pe_int (fun _ _ => rfl))) (pa_cons (pe_op op_add (pv 2) (pe_ix ix_tup (pv 4) pe_int (fun _ _ => rfl))) pa_nil)) (by rfl)))
  (pss_one (ps_if (pt_cmpR op_eq (pv 3) pe_str (nomark _))
  (pss_one (ps_par (i := 1) (j := 2) (by rfl) sc_Ledges.nd rfl rfl (by decide) rfl rfl (pa_cons (pe_op op_add (pv 1) (pe_ix ix_tup (pv 4) pe_int (fun _ _ => rfl))) (pa_cons (pe_op op_sub (pv 2) (pe_ix ix_tup (pv 4) pe_int (fun _ _ => rfl))) pa_nil)) (by rfl)))
  pss_nil)))))))
  (pss_one (ps_ret (pe_tup (pa_cons (pv 1) (pa_cons (pv 2) pa_nil))))))), ?_⟩)
  refine q_asgP (p := ((0 : Int), (0 : Int))) (by walk_at "ev") fun v1 v2 H1 s1 hv1 hv2 => ?_
  obtain rfl : v1 = .int 0 := hv1
  obtain rfl : v2 = .int 0 := hv2
  have hv' := Rp.mono s1 hv
  refine s_forS (iw_tup (ev_var rfl hv')) (fun r σ' H' => ∃ (y3 y4 : Option V) (a b : Int), σ' = [some v, some (.int a), some (.int b), y3, y4] ∧ a + CM.starts r = CM.starts p ∧ b + CM.ends r = CM.ends p)
    (fun H2 s2 => ⟨none, none, 0, 0, rfl, Int.zero_add _, Int.zero_add _⟩) ?_ ?_
  · rintro H2 s2 x r u σ' H' H0 hx s0 sd ⟨y3, y4, a, b, rfl, h1, h2⟩ hu
    refine g_stp hu fun y hy => ?_
    have e1 : a + ((CM.edge x).1 + CM.starts r) = CM.starts p := h1
    have e2 : b + ((CM.edge x).2 + CM.ends r) = CM.ends p := h2
    have kd : ∀ {H'' : Hp} {z : Str}, EtR (tB (tOp rEq (tVar 3) (tC (.str z)))) [some v, some (.int a), some (.int b), some (.str (kindS x)), some y] H'' (decide (kindS x = z)) := et_B (ev_eqS (ev_var rfl rfl) ev_str)
    cases x with
    | fill g =>
      refine s_if (b := false) (kd.eq (kd_shift _)) (fun c => by cases c) (fun _ H3 s3 => ?_)
      refine s_if (b := false) (kd.eq (kd_widen _)) (fun c => by cases c) (fun _ H4 s4 => ?_)
      refine s_if (b := false) (kd.eq (kd_trim _)) (fun c => by cases c) (fun _ H5 s5 => ?_)
      exact ⟨⟨_, _, a, b, rfl, by rw [← e1]; show _ = a + (0 + _); omega, by rw [← e2]; show _ = b + (0 + _); omega⟩, (sd.trans s3).trans (s4.trans s5)⟩
    | drop g =>
      refine s_if (b := false) (kd.eq (kd_shift _)) (fun c => by cases c) (fun _ H3 s3 => ?_)
      refine s_if (b := false) (kd.eq (kd_widen _)) (fun c => by cases c) (fun _ H4 s4 => ?_)
      refine s_if (b := false) (kd.eq (kd_trim _)) (fun c => by cases c) (fun _ H5 s5 => ?_)
      exact ⟨⟨_, _, a, b, rfl, by rw [← e1]; show _ = a + (0 + _); omega, by rw [← e2]; show _ = b + (0 + _); omega⟩, (sd.trans s3).trans (s4.trans s5)⟩
    | widen m n =>
      refine s_if (b := false) (kd.eq (kd_shift _)) (fun c => by cases c) (fun _ H3 s3 => ?_)
      refine s_if (b := true) (kd.eq (kd_widen _)) (fun _ H4 s4 => ?_) (fun c => by cases c)
      have hy4 := Rp.mono (s3.trans s4) hy
      refine s_par (a := a - m) (b := b + n) (ev_opI (ev_var rfl rfl) (ev_num (n := 0) (ev_var rfl hy4) rfl rfl)) (ev_opI (ev_var rfl rfl) (ev_num (n := 1) (ev_var rfl hy4) rfl rfl)) fun v5 v6 H5 s5 hv5 hv6 => ?_
      obtain rfl : v5 = .int _ := hv5
      obtain rfl : v6 = .int _ := hv6
      exact ⟨⟨_, _, a - m, b + n, rfl, by rw [← e1]; show _ = a + (-m + _); omega, by rw [← e2]; show _ = b + (n + _); omega⟩, (sd.trans s3).trans (s4.trans s5)⟩
    | trim m n =>
      refine s_if (b := false) (kd.eq (kd_shift _)) (fun c => by cases c) (fun _ H3 s3 => ?_)
      refine s_if (b := false) (kd.eq (kd_widen _)) (fun c => by cases c) (fun _ H4 s4 => ?_)
      refine s_if (b := true) (kd.eq (kd_trim _)) (fun _ H5 s5 => ?_) (fun c => by cases c)
      have hy4 := Rp.mono ((s3.trans s4).trans s5) hy
      refine s_par (a := a + m) (b := b - n) (ev_opI (ev_var rfl rfl) (ev_num (n := 0) (ev_var rfl hy4) rfl rfl)) (ev_opI (ev_var rfl rfl) (ev_num (n := 1) (ev_var rfl hy4) rfl rfl)) fun v5 v6 H6 s6 hv5 hv6 => ?_
      obtain rfl : v5 = .int _ := hv5
      obtain rfl : v6 = .int _ := hv6
      exact ⟨⟨_, _, a + m, b - n, rfl, by rw [← e1]; show _ = a + (m + _); omega, by rw [← e2]; show _ = b + (-n + _); omega⟩, ((sd.trans s3).trans (s4.trans s5)).trans s6⟩
    | shift m =>
      refine s_if (b := true) (kd.eq (kd_shift _)) (fun _ H3 s3 => ?_) (fun c => by cases c)
      have hy4 := Rp.mono s3 hy
      refine s_par (a := a + m) (b := b + m) (ev_opI (ev_var rfl rfl) (ev_num (n := 0) (ev_var rfl hy4) rfl rfl)) (ev_opI (ev_var rfl rfl) (ev_num (n := 0) (ev_var rfl hy4) rfl rfl)) fun v5 v6 H4 s4 hv5 hv6 => ?_
      obtain rfl : v5 = .int _ := hv5
      obtain rfl : v6 = .int _ := hv6
      exact ⟨⟨_, _, a + m, b + m, rfl, by rw [← e1]; show _ = a + (m + _); omega, by rw [← e2]; show _ = b + (m + _); omega⟩, (sd.trans s3).trans s4⟩
  · rintro H2 s2 σ' H' sd ⟨y3, y4, a, b, rfl, h1, h2⟩
    have e1 : a = CM.starts p := by rw [← h1]; show a = a + 0; omega
    have e2 : b = CM.ends p := by rw [← h2]; show b = b + 0; omega
    subst e1 e2
    exact s_ret (a := (CM.starts p, CM.ends p)) (ev_tup2 (ev_var rfl rfl) (ev_var rfl rfl)) fun u H3 s3 hu => kk _ _ (((s1.trans s2).trans sd).trans s3) hu
end Cf
set_option Elab.async false
set_option linter.all false
set_option maxRecDepth 100000
set_option maxHeartbeats 4000000
namespace Cf
open PySem PySem.Spec PyProof.Rows L2 Cs
local macro_rules | `(tactic| walk_at "lf") => `(tactic| first
  | assumption
  | exact rfl
  | exact Rp.mono (by assumption) (by assumption)
  | exact Rp.mono (Same.trans (by assumption) (by assumption)) (by assumption)
  | exact RpK.monoK (by assumption) (by assumption))
local macro_rules | `(tactic| walk_at "ev") => `(tactic| first
  | with_reducible exact ev_int
  | with_reducible exact ev_bl
  | with_reducible exact ev_fill
  | with_reducible exact ev_drop
  | with_reducible exact ev_str
  | ((with_reducible refine' ev_var ?hs ?hv); (case hs => exact rfl); (case hv => walk_at "lf"))
  | ((with_reducible refine' ev_opI ?ha ?hb); (case ha => walk_at "ev"); (case hb => walk_at "ev"))
  | ((with_reducible refine' ev_opB ?ha ?hb); (case ha => walk_at "ev"); (case hb => walk_at "ev"))
  | ((with_reducible refine' ev_opC ?ha ?hb ?hc); (case ha => walk_at "ev"); (case hb => walk_at "ev"); (case hc => first | assumption | skip))
  | ((with_reducible refine' ev_un ?ha); (case ha => walk_at "ev"))
  | ((with_reducible refine' ev_eqK ?ha ?hb); (case ha => walk_at "ev"); (case hb => walk_at "ev"))
  | ((with_reducible refine' ev_eqI ?ha ?hb); (case ha => walk_at "ev"); (case hb => walk_at "ev"))
  | ((with_reducible refine' ev_eqS ?ha ?hb); (case ha => walk_at "ev"); (case hb => walk_at "ev"))
  | ((with_reducible refine' ev_neK ?ha ?hb); (case ha => walk_at "ev"); (case hb => walk_at "ev"))
  | ((with_reducible refine' ev_neI ?ha ?hb); (case ha => walk_at "ev"); (case hb => walk_at "ev"))
  | ((with_reducible refine' ev_neS ?ha ?hb); (case ha => walk_at "ev"); (case hb => walk_at "ev"))
  | ((with_reducible refine' ev_tup2 ?ha ?hb); (case ha => walk_at "ev"); (case hb => walk_at "ev"))
  | ((with_reducible refine' ev_tup1 ?ha); (case ha => walk_at "ev"))
  | with_reducible exact ev_tup0
  | ((with_reducible refine' ev_fst ?ha); (case ha => walk_at "ev"))
  | ((with_reducible refine' ev_snd ?ha); (case ha => walk_at "ev"))
  | ((with_reducible refine' ev_max2 rfl ?ha ?hb); (case ha => walk_at "ev"); (case hb => walk_at "ev"))
  | ((with_reducible refine' ev_min2 rfl ?ha ?hb); (case ha => walk_at "ev"); (case hb => walk_at "ev"))
  | ((with_reducible refine' ev_abs rfl ?ha); (case ha => walk_at "ev"))
  | ((with_reducible refine' ev_intI rfl ?ha); (case ha => walk_at "ev"))
  | ((with_reducible refine' ev_intB rfl ?ha); (case ha => walk_at "ev"))
  | ((with_reducible refine' ev_len rfl ?ha); (case ha => walk_at "ev"))
  | ((with_reducible refine' ev_lenL rfl ?ha); (case ha => walk_at "ev"))
  | ((with_reducible refine' ev_tuple rfl ?ha); (case ha => walk_at "ev"))
  | ((with_reducible refine' ev_sum ?ha); (case ha => walk_at "ev"))
  | ((with_reducible refine' ev_chain ?ha ?hb ?hc); (case ha => walk_at "ev"); (case hb => walk_at "ev"); (case hc => walk_at "ev"))
  | ((with_reducible refine' et_test ?ha); (case ha => walk_at "ev"))
  | ((with_reducible refine' et_B ?ha); (case ha => walk_at "ev"))
  | ((with_reducible refine' et_not ?ha); (case ha => walk_at "ev"))
  | ((with_reducible refine' ev_not ?ha); (case ha => walk_at "ev"))
  | ((with_reducible refine' et_and ?ha ?hb); (case ha => walk_at "ev"); (case hb => intro _; walk_at "ev"))
  | ((with_reducible refine' et_or ?ha ?hb); (case ha => walk_at "ev"); (case hb => intro _; walk_at "ev"))
  | ((with_reducible refine' ev_and ?ha ?hb); (case ha => walk_at "ev"); (case hb => intro _; walk_at "ev"))
  | ((with_reducible refine' ev_or ?ha ?hb); (case ha => walk_at "ev"); (case hb => intro _; walk_at "ev"))
  | ((with_reducible refine' ev_call1 ?ha ?hp); (case ha => walk_at "ev"); (case hp => first | assumption | trivial))
  | ((with_reducible refine' ev_call2 ?ha ?hb ?hp); (case ha => walk_at "ev"); (case hb => walk_at "ev"); (case hp => first | assumption | trivial))
  | ((with_reducible refine' ev_call3 ?ha ?hb ?hc ?hp); (case ha => walk_at "ev"); (case hb => walk_at "ev"); (case hc => walk_at "ev"); (case hp => first | assumption | trivial)))
variable {P : Program} {w : World} {K : PySem.W.Frag} {mg : Str → Option Value} {base : Heap}
section
variable {α β γ : Type} {σ : L2.St} {H : Hp} {ta tb tc te : TE} {tz : TS} {D : Ends} {i j k : Nat} {l : Addr}
/-- l = l + [a, b], a new list -/
theorem s_cat2 [RpK α] {as : List α} {a b : α} (hσ : σ[i]? = some (some (.ref l))) (hl : Lat H l as) (ha : EvR ta σ H a) (hb : EvR tb σ H b) (hz : as.length + 2 ≤ 100000) (k : ∀ H1 p, Same H H1 → H p = none → Lat H1 p (as ++ [a, b]) → D.nx (σ.set i (some (.ref p))) H1) :
    tAsg (tOp rCat (tVar i) (tLst (tCons ta (tCons tb tNil)))) (gName i) D σ H := by
  obtain ⟨ys, h1, h2⟩ := id hl
  refine ⟨_, hσ, ha H (Same.refl _) _ fun v H1 s1 hv => hb H1 s1 _ fun u H2 s2 hu => ⟨by show 2 ≤ sizeLine; decide, fun r hr => ?_⟩⟩
  have sH : Same H (upd H2 r (.lst [v, u])) := (s1.trans s2).trans (same_new hr)
  refine ⟨l, r, ys, [v, u], rfl, rfl, sH _ _ h1, upd_same, by rw [h2.length]; exact Nat.le_of_lt (small_line hz), fun p hp => ?_⟩
  have sp : Same (upd H2 r (.lst [v, u])) (upd (upd H2 r (.lst [v, u])) p (.lst (ys ++ [v, u]))) := same_new hp
  have hn : H p = none := by
    cases e : H p with
    | none => rfl
    | some o => rw [sH _ _ e] at hp; cases hp
  exact k _ p (sH.trans sp) hn ⟨_, upd_same, (h2.imp fun _ _ z => Rp.mono (sH.trans sp) z).append ⟨Rp.mono ((s2.trans (same_new hr)).trans sp) hv, Rp.mono ((same_new hr).trans sp) hu, trivial⟩⟩
/-- three names given at once -/
theorem q_asg3 [RpK α] [RpK β] [RpK γ] {a : α} {b : β} {c : γ} (ha : EvR ta σ H a) (hb : EvR tb σ H b) (hc : EvR tc σ H c) (kk : ∀ x y z H1, Same H H1 → Rp.is H1 x a → Rp.is H1 y b → Rp.is H1 z c → tz D (((σ.set i (some x)).set j (some y)).set k (some z)) H1) :
    tSeq (tAsg (tTup (tCons ta (tCons tb (tCons tc tNil)))) (gTup K 3 (gCons (gName i) (gCons (gName j) (gCons (gName k) gNil))))) tz D σ H :=
  ha H (Same.refl _) _ fun v H1 s1 hv => hb H1 s1 _ fun u H2 s2 hu => hc H2 (s1.trans s2) _ fun x H3 s3 hx => ⟨by show 3 ≤ sizeLine; decide, fun p hp => ⟨p, [v, u, x], rfl, SqT.of upd_same, rfl, v, [u, x], rfl, u, [x], rfl, x, [], rfl, rfl,
    kk v u x _ (((s1.trans s2).trans s3).trans (same_new hp)) (Rp.mono ((s2.trans s3).trans (same_new hp)) hv) (Rp.mono (s3.trans (same_new hp)) hu) (Rp.mono (same_new hp) hx)⟩⟩
end
theorem sc_Ltrip : FnScope ["_law_line_here", "_law_trip_here", "_law_sort_so", "_law_nums_so"] ["_law_line_here"] (defScope s_Ltrip) := ⟨rfl, rfl, rfl, by decide +kernel, rfl, by decide +kernel, by decide +kernel⟩
theorem F_Ltrip (T : Tx w K mg) : Fn P w K mg base 1 d_Ltrip ["_law_line_here"] (Pure1 LPre fun p => (⟨CM.trip p⟩ : Ls Int)) := by
  refine mk_pure1 T.f_Ltrip sc_Ltrip (fun _ _ _ _ _ _ _ => rfl) (fun cdv A outer s H Q E hr v p hv ha kk => ⟨_, (pss_cons (ps_set (i := 1) sc_Ltrip.nd rfl (Or.inl rfl) (pe_lst (pa_cons pe_int pa_nil)))
  (pss_cons (ps_for PassesOwn.never rfl (pi_tup (pv 0)) (pg_tup rfl (pgs_cons (pg_name (i := 2) sc_Ltrip.nd rfl (Or.inl rfl)) (pgs_cons (pg_name (i := 3) sc_Ltrip.nd rfl (Or.inl rfl)) pgs_nil)))
  (pss_one (ps_if (pt_cmpR op_eq (pv 2) pe_str (nomark _))
  (pss_one (ps_set (i := 1) sc_Ltrip.nd rfl (Or.inl rfl) (pe_op op_cat (pv 1) (pe_lst (pa_cons (pe_op op_add (pe_ix ix_list (pv 1) (pe_un un_neg pe_int) (fun _ _ => rfl)) (pe_ix ix_tup (pv 3) pe_int (fun _ _ => rfl))) (pa_cons (pe_ix ix_list (pv 1) (pe_un un_neg pe_int) (fun _ _ => rfl)) pa_nil))))))
  (pss_one (ps_if (pt_cmpR op_eq (pv 2) pe_str (nomark _))
  (pss_one (ps_set (i := 1) sc_Ltrip.nd rfl (Or.inl rfl) (pe_op op_cat (pv 1) (pe_lst (pa_cons (pe_op op_sub (pe_ix ix_list (pv 1) (pe_un un_neg pe_int) (fun _ _ => rfl)) (pe_ix ix_tup (pv 3) pe_int (fun _ _ => rfl))) (pa_cons (pe_ix ix_list (pv 1) (pe_un un_neg pe_int) (fun _ _ => rfl)) pa_nil))))))
  (pss_one (ps_if (pt_cmpR op_eq (pv 2) pe_str (nomark _))
  (pss_one (ps_expr (pe_bm PySem.F.plainAttrs_list PySem.F.slot_list_append PySem.F.type_list_append mt_append (pv 1) (pa_cons (pe_op op_add (pe_op op_add (pe_ix ix_list (pv 1) (pe_un un_neg pe_int) (fun _ _ => rfl)) (pe_ix ix_tup (pv 3) pe_int (fun _ _ => rfl))) (pe_ix ix_tup (pv 3) pe_int (fun _ _ => rfl))) pa_nil))))
  (pss_one (ps_if (pt_cmpR op_eq (pv 2) pe_str (nomark _))
  (pss_one (ps_expr (pe_bm PySem.F.plainAttrs_list PySem.F.slot_list_append PySem.F.type_list_append mt_append (pv 1) (pa_cons (pe_op op_sub (pe_op op_sub (pe_ix ix_list (pv 1) (pe_un un_neg pe_int) (fun _ _ => rfl)) (pe_ix ix_tup (pv 3) pe_int (fun _ _ => rfl))) (pe_ix ix_tup (pv 3) pe_int (fun _ _ => rfl))) pa_nil))))
  pss_nil)))))))))
  (pss_one (ps_ret (pv 1))))), ?_⟩)
  refine ⟨by show 1 ≤ sizeLine; decide, fun l0 hl0 => ?_⟩
  have L1 : Lat (upd H l0 (.lst [.int 0])) l0 ([0] : List Int) := ⟨[.int 0], upd_same, rfl, trivial⟩
  have s1 : Same H (upd H l0 (.lst [.int 0])) := same_new hl0
  generalize upd H l0 (.lst [.int 0]) = H1 at L1 s1
  obtain ⟨ys0, hy0⟩ := L1.at
  refine q_forT (as := p) rfl (Rp.mono s1 hv) (fun r σ' H' => ∃ (y2 y3 : Option V) (l : Addr) (found : List Int) (h : Int), σ' = [some v, some (.ref l), y2, y3] ∧ Lat H' l found ∧ Same (dl H1 l0) H' ∧ dl H1 l0 l = none ∧ (∃ ys, H' l0 = some (.lst ys)) ∧ found.getLast? = some h ∧ found.length + 2 * r.length ≤ 1000 ∧ found ++ CM.hts h r = CM.trip p)
    ⟨none, none, l0, [0], 0, rfl, L1, dl_sub _ _, dl_same _ _, ⟨ys0, hy0⟩, rfl, by show 1 + 2 * p.length ≤ 1000; have : p.length ≤ 100 := ha; omega, rfl⟩
    (fun r σ' H' h => by obtain ⟨_, _, _, _, _, _, _, sd, _⟩ := h; exact kp_dl hy0 sd) ?_ ?_
  · rintro x r u σ' H' hx ⟨y2, y3, l, found, h, rfl, L0, sd, hln, ⟨ys, hl0'⟩, hla, hz, hf⟩ hu
    rw [List.length_cons] at hz
    refine g_stp hu fun y hy => ?_
    have kd : ∀ {H'' : Hp} {z : Str}, EtR (tB (tOp rEq (tVar 2) (tC (.str z)))) [some v, some (.ref l), some (.str (kindS x)), some y] H'' (decide (kindS x = z)) := et_B (ev_eqS (ev_var rfl rfl) ev_str)
    have lastE : ∀ {H'' : Hp}, Same H' H'' → EvR (tOp (rIxL K) (tVar 1) (tUn (rU fun i => .int (-i)) (tC (.int 1)))) [some v, some (.ref l), some (.str (kindS x)), some y] H'' h := fun s => ev_last rfl (L0.up s) hla
    have fresh : ∀ {H'' : Hp} {q : Addr}, Same H' H'' → H'' q = none → dl H1 l0 q = none := fun {H'' q} s hq => by
      by_cases c : q = l0
      · rw [c]; exact dl_same _ _
      · rw [dl_ne c]
        cases e : H1 q with
        | none => rfl
        | some o => rw [s _ _ (sd _ _ (by rw [dl_ne c]; exact e))] at hq; cases hq
    cases x with
    | fill g =>
      refine s_if (b := true) (kd.eq (kd_fill _)) (fun _ H3 s3 => ?_) (fun c => by cases c)
      refine s_cat2 rfl (L0.up s3) (a := h + g) (b := h) (ev_opI (lastE s3) (ev_num (n := 0) (ev_var rfl (Rp.mono s3 hy)) rfl rfl)) (lastE s3) (by omega) fun H4 q s4 hq L4 => ?_
      exact ⟨_, _, q, _, h, rfl, L4, (sd.trans s3).trans s4, fresh s3 hq, ⟨ys, s4 _ _ (s3 _ _ hl0')⟩, by simp, by simp; omega, by rw [← hf, List.append_assoc]; rfl⟩
    | drop g =>
      refine s_if (b := false) (kd.eq (kd_fill _)) (fun c => by cases c) (fun _ H2 s2 => ?_)
      refine s_if (b := true) (kd.eq (kd_drop _)) (fun _ H3' s3' => ?_) (fun c => by cases c)
      have s3 := s2.trans s3'
      refine s_cat2 rfl (L0.up s3) (a := h - g) (b := h) (ev_opI (lastE s3) (ev_num (n := 0) (ev_var rfl (Rp.mono s3 hy)) rfl rfl)) (lastE s3) (by omega) fun H4 q s4 hq L4 => ?_
      exact ⟨_, _, q, _, h, rfl, L4, (sd.trans s3).trans s4, fresh s3 hq, ⟨ys, s4 _ _ (s3 _ _ hl0')⟩, by simp, by simp; omega, by rw [← hf, List.append_assoc]; rfl⟩
    | widen m n =>
      refine s_if (b := false) (kd.eq (kd_fill _)) (fun c => by cases c) (fun _ H2 s2 => ?_)
      refine s_if (b := false) (kd.eq (kd_drop _)) (fun c => by cases c) (fun _ H3 s3 => ?_)
      refine s_if (b := true) (kd.eq (kd_widen _)) (fun _ H4 s4 => ?_) (fun c => by cases c)
      have s' := (s2.trans s3).trans s4
      refine s_appL rfl (L0.up s') (a := h + m + n) (ev_opI (ev_opI (lastE s') (ev_num (n := 0) (ev_var rfl (Rp.mono s' hy)) rfl rfl)) (ev_num (n := 1) (ev_var rfl (Rp.mono s' hy)) rfl rfl)) (small_line (by omega)) fun H5 L5 sd5 kp5 => ?_
      obtain ⟨ysl, hyl⟩ := L5.at
      refine ⟨_, _, l, _, h + m + n, rfl, L5, ?_, hln, ?_, by simp, by simp; omega, by rw [← hf, List.append_assoc]; show _ = found ++ ((h + (m + n)) :: _); rw [Int.add_assoc]; rfl⟩
      · exact Same.trans (same_dl (sd.trans s') hln) sd5
      · by_cases c : l0 = l
        · exact ⟨ysl, by rw [c]; exact hyl⟩
        · exact ⟨ys, sd5 _ _ (by rw [dl_ne c]; exact s' _ _ hl0')⟩
    | trim m n =>
      refine s_if (b := false) (kd.eq (kd_fill _)) (fun c => by cases c) (fun _ H2 s2 => ?_)
      refine s_if (b := false) (kd.eq (kd_drop _)) (fun c => by cases c) (fun _ H3 s3 => ?_)
      refine s_if (b := false) (kd.eq (kd_widen _)) (fun c => by cases c) (fun _ H4 s4 => ?_)
      refine s_if (b := true) (kd.eq (kd_trim _)) (fun _ H5 s5 => ?_) (fun c => by cases c)
      have s' := ((s2.trans s3).trans s4).trans s5
      refine s_appL rfl (L0.up s') (a := h - m - n) (ev_opI (ev_opI (lastE s') (ev_num (n := 0) (ev_var rfl (Rp.mono s' hy)) rfl rfl)) (ev_num (n := 1) (ev_var rfl (Rp.mono s' hy)) rfl rfl)) (small_line (by omega)) fun H6 L6 sd6 kp6 => ?_
      obtain ⟨ysl, hyl⟩ := L6.at
      refine ⟨_, _, l, _, h - m - n, rfl, L6, ?_, hln, ?_, by simp, by simp; omega, by rw [← hf, List.append_assoc]; show _ = found ++ ((h - (m + n)) :: _); rw [show h - (m + n) = h - m - n by omega]; rfl⟩
      · exact Same.trans (same_dl (sd.trans s') hln) sd6
      · by_cases c : l0 = l
        · exact ⟨ysl, by rw [c]; exact hyl⟩
        · exact ⟨ys, sd6 _ _ (by rw [dl_ne c]; exact s' _ _ hl0')⟩
    | shift m =>
      refine s_if (b := false) (kd.eq (kd_fill _)) (fun c => by cases c) (fun _ H2 s2 => ?_)
      refine s_if (b := false) (kd.eq (kd_drop _)) (fun c => by cases c) (fun _ H3 s3 => ?_)
      refine s_if (b := false) (kd.eq (kd_widen _)) (fun c => by cases c) (fun _ H4 s4 => ?_)
      refine s_if (b := false) (kd.eq (kd_trim _)) (fun c => by cases c) (fun _ H5 s5 => ?_)
      have s' := ((s2.trans s3).trans s4).trans s5
      exact ⟨_, _, l, found, h, rfl, L0.up s', sd.trans s', hln, ⟨ys, s' _ _ hl0'⟩, hla, by omega, hf⟩
  · rintro σ' H' ⟨y2, y3, l, found, h, rfl, L0, sd, hln, _, hla, hz, hf⟩
    have hH : Same H H' := (same_dl s1 hl0).trans sd
    have ef : found = CM.trip p := by rw [← hf]; exact (List.append_nil _).symm
    subst ef
    exact s_ret (a := (⟨CM.trip p⟩ : Ls Int)) (ev_var rfl L0.is) fun u H4 s4 hu => kk _ _ (hH.trans s4) hu
end Cf
set_option Elab.async false
set_option linter.all false
set_option maxRecDepth 100000
set_option maxHeartbeats 4000000
namespace Cf
open PySem PySem.Spec PyProof.Rows L2 Cs
local macro_rules | `(tactic| walk_at "lf") => `(tactic| first
  | assumption
  | exact rfl
  | exact Rp.mono (by assumption) (by assumption)
  | exact Rp.mono (Same.trans (by assumption) (by assumption)) (by assumption)
  | exact RpK.monoK (by assumption) (by assumption))
local macro_rules | `(tactic| walk_at "ev") => `(tactic| first
  | with_reducible exact ev_int
  | with_reducible exact ev_bl
  | with_reducible exact ev_fill
  | with_reducible exact ev_drop
  | with_reducible exact ev_str
  | ((with_reducible refine' ev_var ?hs ?hv); (case hs => exact rfl); (case hv => walk_at "lf"))
  | ((with_reducible refine' ev_opI ?ha ?hb); (case ha => walk_at "ev"); (case hb => walk_at "ev"))
  | ((with_reducible refine' ev_opB ?ha ?hb); (case ha => walk_at "ev"); (case hb => walk_at "ev"))
  | ((with_reducible refine' ev_opC ?ha ?hb ?hc); (case ha => walk_at "ev"); (case hb => walk_at "ev"); (case hc => first | assumption | skip))
  | ((with_reducible refine' ev_un ?ha); (case ha => walk_at "ev"))
  | ((with_reducible refine' ev_eqK ?ha ?hb); (case ha => walk_at "ev"); (case hb => walk_at "ev"))
  | ((with_reducible refine' ev_eqI ?ha ?hb); (case ha => walk_at "ev"); (case hb => walk_at "ev"))
  | ((with_reducible refine' ev_eqS ?ha ?hb); (case ha => walk_at "ev"); (case hb => walk_at "ev"))
  | ((with_reducible refine' ev_neK ?ha ?hb); (case ha => walk_at "ev"); (case hb => walk_at "ev"))
  | ((with_reducible refine' ev_neI ?ha ?hb); (case ha => walk_at "ev"); (case hb => walk_at "ev"))
  | ((with_reducible refine' ev_neS ?ha ?hb); (case ha => walk_at "ev"); (case hb => walk_at "ev"))
  | ((with_reducible refine' ev_tup2 ?ha ?hb); (case ha => walk_at "ev"); (case hb => walk_at "ev"))
  | ((with_reducible refine' ev_tup1 ?ha); (case ha => walk_at "ev"))
  | with_reducible exact ev_tup0
  | ((with_reducible refine' ev_fst ?ha); (case ha => walk_at "ev"))
  | ((with_reducible refine' ev_snd ?ha); (case ha => walk_at "ev"))
  | ((with_reducible refine' ev_max2 rfl ?ha ?hb); (case ha => walk_at "ev"); (case hb => walk_at "ev"))
  | ((with_reducible refine' ev_min2 rfl ?ha ?hb); (case ha => walk_at "ev"); (case hb => walk_at "ev"))
  | ((with_reducible refine' ev_abs rfl ?ha); (case ha => walk_at "ev"))
  | ((with_reducible refine' ev_intI rfl ?ha); (case ha => walk_at "ev"))
  | ((with_reducible refine' ev_intB rfl ?ha); (case ha => walk_at "ev"))
  | ((with_reducible refine' ev_len rfl ?ha); (case ha => walk_at "ev"))
  | ((with_reducible refine' ev_lenL rfl ?ha); (case ha => walk_at "ev"))
  | ((with_reducible refine' ev_tuple rfl ?ha); (case ha => walk_at "ev"))
  | ((with_reducible refine' ev_sum ?ha); (case ha => walk_at "ev"))
  | ((with_reducible refine' ev_chain ?ha ?hb ?hc); (case ha => walk_at "ev"); (case hb => walk_at "ev"); (case hc => walk_at "ev"))
  | ((with_reducible refine' et_test ?ha); (case ha => walk_at "ev"))
  | ((with_reducible refine' et_B ?ha); (case ha => walk_at "ev"))
  | ((with_reducible refine' et_not ?ha); (case ha => walk_at "ev"))
  | ((with_reducible refine' ev_not ?ha); (case ha => walk_at "ev"))
  | ((with_reducible refine' et_and ?ha ?hb); (case ha => walk_at "ev"); (case hb => intro _; walk_at "ev"))
  | ((with_reducible refine' et_or ?ha ?hb); (case ha => walk_at "ev"); (case hb => intro _; walk_at "ev"))
  | ((with_reducible refine' ev_and ?ha ?hb); (case ha => walk_at "ev"); (case hb => intro _; walk_at "ev"))
  | ((with_reducible refine' ev_or ?ha ?hb); (case ha => walk_at "ev"); (case hb => intro _; walk_at "ev"))
  | ((with_reducible refine' ev_call1 ?ha ?hp); (case ha => walk_at "ev"); (case hp => first | assumption | trivial))
  | ((with_reducible refine' ev_call2 ?ha ?hb ?hp); (case ha => walk_at "ev"); (case hb => walk_at "ev"); (case hp => first | assumption | trivial))
  | ((with_reducible refine' ev_call3 ?ha ?hb ?hc ?hp); (case ha => walk_at "ev"); (case hb => walk_at "ev"); (case hc => walk_at "ev"); (case hp => first | assumption | trivial)))
variable {P : Program} {w : World} {K : PySem.W.Frag} {mg : Str → Option Value} {base : Heap}
theorem sc_Lspell : FnScope ["_law_line_here", "_law_high", "_law_low", "_law_spelt", "_law_here"] ["_law_line_here"] (defScope s_Lspell) := ⟨rfl, rfl, rfl, by decide +kernel, rfl, by decide +kernel, by decide +kernel⟩
abbrev SpPre (p : List Stp) : Prop := LPre p ∧ (CM.word p).length ≤ 10000
theorem rep_max (b : Bool) (n : Int) : List.replicate (max 0 n).toNat b = List.replicate n.toNat b := by
  rw [show (max 0 n).toNat = n.toNat by omega]
theorem F_Lspell (T : Tx w K mg) : Fn P w K mg base 2 d_Lspell ["_law_line_here"] (Pure1 SpPre fun p => (⟨CM.word p⟩ : Tb)) := by
  have F_Ltrip : Fn P w K mg base 1 d_Ltrip ["_law_line_here"] _ := F_Ltrip T
  refine mk_pure1 T.f_Lspell sc_Lspell (fun _ _ _ _ _ _ _ => rfl) (fun cdv A outer s H Q E hr v p hv ha kk => ⟨_, (pss_cons (ps_asg (pe_tup (pa_cons pe_int (pa_cons pe_int (pa_cons pe_str pa_nil)))) (pg_tup rfl (pgs_cons (pg_name (i := 1) sc_Lspell.nd rfl (Or.inl rfl)) (pgs_cons (pg_name (i := 2) sc_Lspell.nd rfl (Or.inl rfl)) (pgs_cons (pg_name (i := 3) sc_Lspell.nd rfl (Or.inl rfl)) pgs_nil)))))
  (pss_cons (ps_for PassesOwn.never rfl (pi_list (pe_fn F_Ltrip (hr.mono (by decide)) T.g_Ltrip (pa_cons (pv 0) pa_nil))) (pg_name (i := 4) sc_Lspell.nd rfl (Or.inl rfl))
  (pss_cons (ps_set (i := 3) sc_Lspell.nd rfl (Or.inl rfl) (pe_op op_add_str (pe_op op_add_str (pv 3) (pe_op op_repS pe_str (pe_callB (call_max2 rfl) (by rfl) T.b_max (by decide +kernel) (pa_cons pe_int (pa_cons (pe_op op_sub (pv 4) (pv 1)) pa_nil))))) (pe_op op_repS pe_str (pe_callB (call_max2 rfl) (by rfl) T.b_max (by decide +kernel) (pa_cons pe_int (pa_cons (pe_op op_sub (pv 2) (pv 4)) pa_nil))))))
  (pss_one (ps_par (i := 1) (j := 2) (by rfl) sc_Lspell.nd rfl rfl (by decide) rfl rfl (pa_cons (pe_callB (call_max2 rfl) (by rfl) T.b_max (by decide +kernel) (pa_cons (pv 1) (pa_cons (pv 4) pa_nil))) (pa_cons (pe_callB (call_min2 rfl) (by rfl) T.b_min (by decide +kernel) (pa_cons (pv 2) (pa_cons (pv 4) pa_nil))) pa_nil)) (by rfl)))))
  (pss_one (ps_ret (pv 3))))), ?_⟩)
  refine q_asg3 (a := (0 : Int)) (b := (0 : Int)) (c := (⟨[]⟩ : Tb)) ev_int ev_int ev_t0 fun v1 v2 v3 H1 s1 hv1 hv2 hv3 => ?_
  obtain rfl : v1 = .int 0 := hv1
  obtain rfl : v2 = .int 0 := hv2
  have hw : CM.spell 0 0 (CM.trip p) = CM.word p := rfl
  refine s_forS (iw_list (ev_call1 (f := fun p => (⟨CM.trip p⟩ : Ls Int)) (ev_var rfl (Rp.mono s1 hv)) ha.1)) (fun r σ' H' => ∃ (y : Option V) (v3 : V) (a b : Int) (t : List Bool), σ' = [some v, some (.int a), some (.int b), some v3, y] ∧ Rp.is H' v3 (⟨t⟩ : Tb) ∧ t ++ CM.spell a b r = CM.word p)
    (fun H2 s2 => ⟨none, v3, 0, 0, [], rfl, Rp.mono s2 hv3, hw⟩) ?_ ?_
  · rintro H2 s2 x r u σ' H' H0 hx s0 sd ⟨y, v3, a, b, t, rfl, ht, hf⟩ hu
    obtain rfl : u = .int x := hu
    have ht' := Rp.mono s0 ht
    have hlen : t.length + (x - a).toNat + (b - x).toNat ≤ 10000 := by
      have h2 := ha.2
      rw [← hf] at h2
      rw [List.length_append] at h2
      have : (CM.spell a b (x :: r)).length = (x - a).toNat + ((b - x).toNat + (CM.spell (max a x) (min b x) r).length) := by
        show (List.replicate (x - a).toNat true ++ (List.replicate (b - x).toNat false ++ CM.spell (max a x) (min b x) r)).length = _
        rw [List.length_append, List.length_append, List.length_replicate, List.length_replicate]
      omega
    have ex : EvR (tVar 4) [some v, some (.int a), some (.int b), some v3, some (.int x)] H' x := ev_var rfl rfl
    refine q_asg (a := (⟨(t ++ List.replicate (max 0 (x - a)).toNat true) ++ List.replicate (max 0 (b - x)).toNat false⟩ : Tb)) (ev_tcat (a := ⟨t ++ List.replicate (max 0 (x - a)).toNat true⟩) (b := ⟨List.replicate (max 0 (b - x)).toNat false⟩) rfl (ev_tcat (a := ⟨t⟩) (b := ⟨List.replicate (max 0 (x - a)).toNat true⟩) rfl (ev_var rfl ht') (ev_trep ev_tf (ev_max2 rfl ev_int (ev_opI ex (ev_var (a := a) rfl rfl))) (by omega) (by omega)) (by show t.length + (List.replicate _ _).length ≤ _; rw [List.length_replicate]; omega)) (ev_trep ev_td (ev_max2 rfl ev_int (ev_opI (ev_var (a := b) rfl rfl) ex)) (by omega) (by omega)) (by show (t ++ List.replicate _ _).length + (List.replicate _ _).length ≤ _; rw [List.length_append, List.length_replicate, List.length_replicate]; omega)) fun v5 H3 s3 hv5 => ?_
    refine s_par (a := max a x) (b := min b x) (ev_max2 rfl (ev_var (a := a) rfl rfl) (ev_var (a := x) rfl rfl)) (ev_min2 rfl (ev_var (a := b) rfl rfl) (ev_var (a := x) rfl rfl)) fun v6 v7 H4 s4 hv6 hv7 => ?_
    obtain rfl : v6 = .int _ := hv6
    obtain rfl : v7 = .int _ := hv7
    refine ⟨⟨_, v5, max a x, min b x, _, rfl, Rp.mono s4 hv5, ?_⟩, (sd.trans s3).trans s4⟩
    rw [← hf, rep_max, rep_max, List.append_assoc, List.append_assoc]
    rfl
  · rintro H2 s2 σ' H' sd ⟨y, v3, a, b, t, rfl, ht, hf⟩
    have et : t = CM.word p := by rw [← hf]; exact (List.append_nil _).symm
    subst et
    exact s_ret (a := (⟨CM.word p⟩ : Tb)) (ev_var rfl ht) fun u H3 s3 hu => kk _ _ (((s1.trans s2).trans sd).trans s3) hu
theorem sc_Lleft : FnScope ["_law_spelt", "_law_most_f", "_law_most_d", "_law_found", "_law_one_so", "_law_two_so", "_law_sign"] ["_law_spelt", "_law_most_f", "_law_most_d"] (defScope s_Lleft) := ⟨rfl, rfl, rfl, by decide +kernel, rfl, by decide +kernel, by decide +kernel⟩
abbrev LePre (t : Tb) (_ _ : Int) : Prop := t.w.length ≤ 10000
def leftT (t : Tb) (a b : Int) : Tb := ⟨CM.left a b 0 0 t.w⟩
def nextL (a b k j : Int) (x : Bool) : List Bool := match x with
  | true => if k + 1 > a then [true] else []
  | false => if j + 1 > b then [false] else []
theorem left_cons (a b k j : Int) (x : Bool) (r : List Bool) : CM.left a b k j (x :: r) = nextL a b k j x ++ CM.left a b (k + if x then 1 else 0) (j + if x then 0 else 1) r := by
  cases x with
  | true =>
    show (if k + 1 > a then true :: CM.left a b (k + 1) j r else CM.left a b (k + 1) j r) = (if k + 1 > a then [true] else []) ++ CM.left a b (k + 1) (j + 0) r
    rw [Int.add_zero]
    split <;> rfl
  | false =>
    show (if j + 1 > b then false :: CM.left a b k (j + 1) r else CM.left a b k (j + 1) r) = (if j + 1 > b then [false] else []) ++ CM.left a b (k + 0) (j + 1) r
    rw [Int.add_zero]
    split <;> rfl
theorem F_Lleft (T : Tx w K mg) : Fn P w K mg base 1 d_Lleft ["_law_spelt", "_law_most_f", "_law_most_d"] (Pure3 LePre leftT) := by
  refine mk_pure3 T.f_Lleft sc_Lleft (fun _ _ _ _ _ _ _ _ _ => rfl) (fun cdv A outer s H Q E hr v v1 v2 t a b hv h1 h2 ha kk => ⟨_, (pss_cons (ps_asg (pe_tup (pa_cons pe_str (pa_cons pe_int (pa_cons pe_int pa_nil)))) (pg_tup rfl (pgs_cons (pg_name (i := 3) sc_Lleft.nd rfl (Or.inl rfl)) (pgs_cons (pg_name (i := 4) sc_Lleft.nd rfl (Or.inl rfl)) (pgs_cons (pg_name (i := 5) sc_Lleft.nd rfl (Or.inl rfl)) pgs_nil)))))
  (pss_cons (ps_for PassesOwn.never rfl (pi_str (pv 0)) (pg_name (i := 6) sc_Lleft.nd rfl (Or.inl rfl))
  (pss_cons (ps_par (i := 4) (j := 5) (by rfl) sc_Lleft.nd rfl rfl (by decide) rfl rfl (pa_cons (pe_op op_add (pv 4) (pe_callTy call_int1 (by rfl) T.b_int (by decide +kernel) (pa_cons (pe_cmpR op_eq (pv 6) pe_str (nomark _)) pa_nil))) (pa_cons (pe_op op_add (pv 5) (pe_callTy call_int1 (by rfl) T.b_int (by decide +kernel) (pa_cons (pe_cmpR op_eq (pv 6) pe_str (nomark _)) pa_nil))) pa_nil)) (by rfl))
  (pss_one (ps_if (PW.pt (pw_or (PW.pt (pw_and (pt_cmpR op_eq (pv 6) pe_str (nomark _)) (pw_and1 (pt_cmpR op_gt (pv 4) (pv 1) (nomark _))))) (pw_or1 (PW.pt (pw_and (pt_cmpR op_eq (pv 6) pe_str (nomark _)) (pw_and1 (pt_cmpR op_gt (pv 5) (pv 2) (nomark _))))))))
  (pss_one (ps_set (i := 3) sc_Lleft.nd rfl (Or.inl rfl) (pe_op op_add_str (pv 3) (pv 6))))
  pss_nil))))
  (pss_one (ps_ret (pv 3))))), ?_⟩)
  obtain rfl : v1 = .int a := h1
  obtain rfl : v2 = .int b := h2
  refine q_asg3 (a := (⟨[]⟩ : Tb)) (b := (0 : Int)) (c := (0 : Int)) ev_t0 ev_int ev_int fun v3 v4 v5 H1 s1 hv3 hv4 hv5 => ?_
  obtain rfl : v4 = .int 0 := hv4
  obtain rfl : v5 = .int 0 := hv5
  refine s_forS (iw_txt (ev_var rfl (Rp.mono s1 hv))) (fun r σ' H' => ∃ (y : Option V) (v3 : V) (k j : Int) (f q : List Bool), σ' = [some v, some (.int a), some (.int b), some v3, some (.int k), some (.int j), y] ∧ Rp.is H' v3 (⟨f⟩ : Tb) ∧ r = q.map (fun x => (⟨[x]⟩ : Tb)) ∧ f.length + q.length ≤ 10000 ∧ f ++ CM.left a b k j q = CM.left a b 0 0 t.w)
    (fun H2 s2 => ⟨none, v3, 0, 0, [], t.w, rfl, Rp.mono s2 hv3, rfl, by simpa using ha, rfl⟩) ?_ ?_
  · rintro H2 s2 x r u σ' H' H0 hx s0 sd ⟨y, v3, k, j, f, q, rfl, hf3, er, hz, hf⟩ hu
    cases q with
    | nil => cases er
    | cons c q =>
      rw [List.map_cons] at er
      obtain ⟨rfl, rfl⟩ := List.cons.inj er
      have hf' := Rp.mono s0 hf3
      rw [List.length_cons] at hz
      have ee : ∀ {σ : L2.St} {H'' : Hp} {b : Bool} {te : TE}, σ[6]? = some (some u) → Same H' H'' → EvR te σ H'' (⟨[b]⟩ : Tb) → EvR (tOp rEq (tVar 6) te) σ H'' (decide (c = b)) := fun e s h => ev_teq (ev_var e (Rp.mono s hu)) h
      refine q_par (a := k + if decide (c = true) then (1 : Int) else 0) (b := j + if decide (c = false) then (1 : Int) else 0) (ev_opI (ev_var (a := k) rfl rfl) (ev_intB rfl (ee rfl (Same.refl _) ev_tf))) (ev_opI (ev_var (a := j) rfl rfl) (ev_intB rfl (ee rfl (Same.refl _) ev_td))) fun v6 v7 H3 s3 hv6 hv7 => ?_
      obtain rfl : v6 = .int _ := hv6
      obtain rfl : v7 = .int _ := hv7
      have e1 : (k + if decide (c = true) then (1 : Int) else 0) = k + if c then 1 else 0 := by cases c <;> rfl
      have e2 : (j + if decide (c = false) then (1 : Int) else 0) = j + if c then 0 else 1 := by cases c <;> rfl
      rw [e1, e2]
      rw [left_cons] at hf
      have hnl : (nextL a b k j c).length ≤ 1 := by
        unfold nextL
        cases c
        · show (if j + 1 > b then [false] else []).length ≤ 1
          split <;> simp
        · show (if k + 1 > a then [true] else []).length ≤ 1
          split <;> simp
      refine s_ifP (p := (c = true ∧ k + 1 > a) ∨ (c = false ∧ j + 1 > b)) ((et_or (a := decide (c = true) && decide (k + 1 > a)) (b := decide (c = false) && decide (j + 1 > b)) (et_and (et_B (ee rfl s3 ev_tf)) fun z => et_B ((ev_opB (f := fun i j => decide (j < i)) (ev_var (a := k + if c then 1 else 0) rfl rfl) (ev_var (a := a) rfl rfl)).eq (by have z := of_decide_eq_true z; subst z; rfl))) fun _ => et_and (et_B (ee rfl s3 ev_td)) fun z => et_B ((ev_opB (f := fun i j => decide (j < i)) (ev_var (a := j + if c then 0 else 1) rfl rfl) (ev_var (a := b) rfl rfl)).eq (by have z := of_decide_eq_true z; subst z; rfl))).eq (by simp)) (fun cc H4 s4 => ?_) (fun cc H4 s4 => ?_)
      · have en : nextL a b k j c = [c] := by
          rcases cc with ⟨rfl, h⟩ | ⟨rfl, h⟩
          · exact if_pos h
          · exact if_pos h
        rw [en] at hf
        refine s_asg (a := (⟨f ++ [c]⟩ : Tb)) (ev_tcat (a := ⟨f⟩) (b := ⟨[c]⟩) rfl (ev_var rfl (Rp.mono (s3.trans s4) hf')) (ev_var rfl (Rp.mono (s3.trans s4) hu)) (by show f.length + 1 ≤ _; omega)) fun v8 H5 s5 hv8 => ?_
        exact ⟨⟨_, v8, _, _, f ++ [c], q, rfl, hv8, rfl, by rw [List.length_append, List.length_singleton]; omega, by rw [← hf, List.append_assoc]⟩, ((sd.trans s3).trans s4).trans s5⟩
      · have en : nextL a b k j c = [] := by
          cases c with
          | true => exact if_neg fun h => cc (.inl ⟨rfl, h⟩)
          | false => exact if_neg fun h => cc (.inr ⟨rfl, h⟩)
        rw [en, List.nil_append] at hf
        exact ⟨⟨_, v3, _, _, f, q, rfl, Rp.mono (s3.trans s4) hf', rfl, by omega, hf⟩, (sd.trans s3).trans s4⟩
  · rintro H2 s2 σ' H' sd ⟨y, v3, k, j, f, q, rfl, hf3, er, hz, hf⟩
    have eq : q = [] := by
      cases q with
      | nil => rfl
      | cons c q => cases er
    subst eq
    have ef : f = CM.left a b 0 0 t.w := by rw [← hf]; exact (List.append_nil _).symm
    subst ef
    exact s_ret (a := leftT t a b) (ev_var rfl hf3) fun u H3 s3 hu => kk _ _ (((s1.trans s2).trans sd).trans s3) hu
end Cf
set_option Elab.async false
set_option linter.all false
set_option maxRecDepth 100000
set_option maxHeartbeats 4000000
namespace Cf
open PySem PySem.Spec PyProof.Rows L2 Cs
local macro_rules | `(tactic| walk_at "lf") => `(tactic| first
  | assumption
  | exact rfl
  | exact Rp.mono (by assumption) (by assumption)
  | exact Rp.mono (Same.trans (by assumption) (by assumption)) (by assumption)
  | exact RpK.monoK (by assumption) (by assumption))
local macro_rules | `(tactic| walk_at "ev") => `(tactic| first
  | with_reducible exact ev_int
  | with_reducible exact ev_bl
  | with_reducible exact ev_fill
  | with_reducible exact ev_drop
  | with_reducible exact ev_str
  | ((with_reducible refine' ev_var ?hs ?hv); (case hs => exact rfl); (case hv => walk_at "lf"))
  | ((with_reducible refine' ev_opI ?ha ?hb); (case ha => walk_at "ev"); (case hb => walk_at "ev"))
  | ((with_reducible refine' ev_opB ?ha ?hb); (case ha => walk_at "ev"); (case hb => walk_at "ev"))
  | ((with_reducible refine' ev_opC ?ha ?hb ?hc); (case ha => walk_at "ev"); (case hb => walk_at "ev"); (case hc => first | assumption | skip))
  | ((with_reducible refine' ev_un ?ha); (case ha => walk_at "ev"))
  | ((with_reducible refine' ev_eqK ?ha ?hb); (case ha => walk_at "ev"); (case hb => walk_at "ev"))
  | ((with_reducible refine' ev_eqI ?ha ?hb); (case ha => walk_at "ev"); (case hb => walk_at "ev"))
  | ((with_reducible refine' ev_eqS ?ha ?hb); (case ha => walk_at "ev"); (case hb => walk_at "ev"))
  | ((with_reducible refine' ev_neK ?ha ?hb); (case ha => walk_at "ev"); (case hb => walk_at "ev"))
  | ((with_reducible refine' ev_neI ?ha ?hb); (case ha => walk_at "ev"); (case hb => walk_at "ev"))
  | ((with_reducible refine' ev_neS ?ha ?hb); (case ha => walk_at "ev"); (case hb => walk_at "ev"))
  | ((with_reducible refine' ev_tup2 ?ha ?hb); (case ha => walk_at "ev"); (case hb => walk_at "ev"))
  | ((with_reducible refine' ev_tup1 ?ha); (case ha => walk_at "ev"))
  | with_reducible exact ev_tup0
  | ((with_reducible refine' ev_fst ?ha); (case ha => walk_at "ev"))
  | ((with_reducible refine' ev_snd ?ha); (case ha => walk_at "ev"))
  | ((with_reducible refine' ev_max2 rfl ?ha ?hb); (case ha => walk_at "ev"); (case hb => walk_at "ev"))
  | ((with_reducible refine' ev_min2 rfl ?ha ?hb); (case ha => walk_at "ev"); (case hb => walk_at "ev"))
  | ((with_reducible refine' ev_abs rfl ?ha); (case ha => walk_at "ev"))
  | ((with_reducible refine' ev_intI rfl ?ha); (case ha => walk_at "ev"))
  | ((with_reducible refine' ev_intB rfl ?ha); (case ha => walk_at "ev"))
  | ((with_reducible refine' ev_len rfl ?ha); (case ha => walk_at "ev"))
  | ((with_reducible refine' ev_lenL rfl ?ha); (case ha => walk_at "ev"))
  | ((with_reducible refine' ev_tuple rfl ?ha); (case ha => walk_at "ev"))
  | ((with_reducible refine' ev_sum ?ha); (case ha => walk_at "ev"))
  | ((with_reducible refine' ev_chain ?ha ?hb ?hc); (case ha => walk_at "ev"); (case hb => walk_at "ev"); (case hc => walk_at "ev"))
  | ((with_reducible refine' et_test ?ha); (case ha => walk_at "ev"))
  | ((with_reducible refine' et_B ?ha); (case ha => walk_at "ev"))
  | ((with_reducible refine' et_not ?ha); (case ha => walk_at "ev"))
  | ((with_reducible refine' ev_not ?ha); (case ha => walk_at "ev"))
  | ((with_reducible refine' et_and ?ha ?hb); (case ha => walk_at "ev"); (case hb => intro _; walk_at "ev"))
  | ((with_reducible refine' et_or ?ha ?hb); (case ha => walk_at "ev"); (case hb => intro _; walk_at "ev"))
  | ((with_reducible refine' ev_and ?ha ?hb); (case ha => walk_at "ev"); (case hb => intro _; walk_at "ev"))
  | ((with_reducible refine' ev_or ?ha ?hb); (case ha => walk_at "ev"); (case hb => intro _; walk_at "ev"))
  | ((with_reducible refine' ev_call1 ?ha ?hp); (case ha => walk_at "ev"); (case hp => first | assumption | trivial))
  | ((with_reducible refine' ev_call2 ?ha ?hb ?hp); (case ha => walk_at "ev"); (case hb => walk_at "ev"); (case hp => first | assumption | trivial))
  | ((with_reducible refine' ev_call3 ?ha ?hb ?hc ?hp); (case ha => walk_at "ev"); (case hb => walk_at "ev"); (case hc => walk_at "ev"); (case hp => first | assumption | trivial)))
variable {P : Program} {w : World} {K : PySem.W.Frag} {mg : Str → Option Value} {base : Heap}
theorem sc_Lfirst : FnScope ["_law_spelt", "_law_sign", "_law_number", "_law_most_so", "_law_seen", "_law_others", "_law_own"] ["_law_spelt", "_law_sign", "_law_number", "_law_most_so"] (defScope s_Lfirst) := ⟨rfl, rfl, rfl, by decide +kernel, rfl, by decide +kernel, by decide +kernel⟩
abbrev FiPre (t s : Tb) (n _ : Int) : Prop := s = ⟨[true]⟩ ∧ 1 ≤ n ∧ t.w.length ≤ 10000
def firstM (t _ : Tb) (n m : Int) : Bool := match CM.ahd (n - 1).toNat t.w with
  | some a => decide ((a : Int) ≤ m)
  | none => false
theorem F_Lfirst (T : Tx w K mg) : Fn P w K mg base 1 d_Lfirst ["_law_spelt", "_law_sign", "_law_number", "_law_most_so"] (Pure4 FiPre firstM) := by
  refine mk_pure4 T.f_Lfirst sc_Lfirst (fun _ _ _ _ _ _ _ _ _ _ => rfl) (fun cdv A outer s H Q E hr v v1 v2 v3 t sg n m hv h1 h2 h3 ha kk => ⟨_, (pss_cons (ps_asg (pe_tup (pa_cons pe_int (pa_cons pe_int pa_nil))) (pg_tup rfl (pgs_cons (pg_name (i := 4) sc_Lfirst.nd rfl (Or.inl rfl)) (pgs_cons (pg_name (i := 5) sc_Lfirst.nd rfl (Or.inl rfl)) pgs_nil))))
  (pss_cons (ps_if (pt_cmpR op_eq (pv 2) pe_int (nomark _))
  (pss_one (ps_ret pe_bl))
  pss_nil)
  (pss_cons (ps_for PassesOwn.never rfl (pi_str (pv 0)) (pg_name (i := 6) sc_Lfirst.nd rfl (Or.inl rfl))
  (pss_cons (ps_set (i := 4) sc_Lfirst.nd rfl (Or.inl rfl) (pe_op op_add (pv 4) (pe_callTy call_int1 (by rfl) T.b_int (by decide +kernel) (pa_cons (pe_cmpR op_eq (pv 6) (pv 1) (nomark _)) pa_nil))))
  (pss_cons (ps_set (i := 5) sc_Lfirst.nd rfl (Or.inl rfl) (pe_op op_add (pv 5) (pe_callTy call_int1 (by rfl) T.b_int (by decide +kernel) (pa_cons (pe_cmpR op_ne (pv 6) (pv 1) (nomark _)) pa_nil))))
  (pss_one (ps_if (pt_cmpR op_eq (pv 4) (pv 2) (nomark _))
  (pss_one (ps_ret (pe_cmpR op_le (pv 5) (pv 3) (nomark _))))
  pss_nil)))))
  (pss_one (ps_ret pe_bl))))), ?_⟩)
  obtain ⟨rfl, hn, hz⟩ := ha
  obtain rfl : v2 = .int n := h2
  obtain rfl : v3 = .int m := h3
  refine q_asgP (p := ((0 : Int), (0 : Int))) (by walk_at "ev") fun v4 v5 H1 s1 hv4 hv5 => ?_
  obtain rfl : v4 = .int 0 := hv4
  obtain rfl : v5 = .int 0 := hv5
  refine q_ifP (p := False) (et_B ((ev_eqI (ev_var (a := n) rfl rfl) ev_int).eq (decide_eq_decide.mpr ⟨fun z => by omega, fun z => z.elim⟩))) (fun c => c.elim) (fun _ H2 s2 => ?_)
  have hv' := Rp.mono (s1.trans s2) hv
  have h1' := Rp.mono (s1.trans s2) h1
  refine s_forS (iw_txt (ev_var rfl hv')) (fun r σ' H' => ∃ (y : Option V) (k j : Int) (q : List Bool), σ' = [some v, some v1, some (.int n), some (.int m), some (.int k), some (.int j), y] ∧ r = q.map (fun x => (⟨[x]⟩ : Tb)) ∧ 0 ≤ k ∧ k < n ∧ (CM.ahd (n - 1 - k).toNat q).map (fun a : Nat => j + (a : Int)) = (CM.ahd (n - 1).toNat t.w).map (fun a : Nat => (a : Int)))
    (fun H3 s3 => ⟨none, 0, 0, t.w, rfl, rfl, Int.le_refl 0, by omega, by rw [show n - 1 - 0 = n - 1 by omega]; simp⟩) ?_ ?_
  · rintro H3 s3 x r u σ' H' H0 hx s0 sd ⟨y, k, j, q, rfl, er, h0, hk, hf⟩ hu
    cases q with
    | nil => cases er
    | cons c q =>
      rw [List.map_cons] at er
      obtain ⟨rfl, rfl⟩ := List.cons.inj er
      have h1'' := Rp.mono (s3.trans sd) h1'
      refine q_asg (a := k + if decide (c = true) then (1 : Int) else 0) (ev_opI (ev_var (a := k) rfl rfl) (ev_intB rfl (ev_teq (ev_var rfl hu) (ev_var rfl h1'')))) fun v6 H4 s4 hv6 => ?_
      obtain rfl : v6 = .int _ := hv6
      refine q_asg (a := j + if (!decide (c = true)) then (1 : Int) else 0) (ev_opI (ev_var (a := j) rfl rfl) (ev_intB rfl (ev_tne (ev_var rfl (Rp.mono s4 hu)) (ev_var rfl (Rp.mono s4 h1''))))) fun v7 H5 s5 hv7 => ?_
      obtain rfl : v7 = .int _ := hv7
      cases c with
      | true =>
        by_cases e : k + 1 = n
        · refine s_ifP (p := True) (et_B ((ev_eqI (ev_var (a := k + 1) rfl rfl) (ev_var (a := n) rfl rfl)).eq (by simp [e]))) (fun _ H6 s6 => ?_) (fun c => absurd trivial c)
          rw [show (n - 1 - k).toNat = 0 by omega] at hf
          have hf2 : some (j + ((0 : Nat) : Int)) = (CM.ahd (n - 1).toNat t.w).map (fun a : Nat => (a : Int)) := hf
          refine s_ret (a := firstM t ⟨[true]⟩ n m) ((ev_opB (f := fun i j => decide (i ≤ j)) (ev_var (a := j + 0) rfl rfl) (ev_var (a := m) rfl rfl)).eq ?_) fun u H7 s7 hu => kk _ _ (((((s1.trans s2).trans s3).trans sd).trans s4).trans ((s5.trans s6).trans s7)) hu
          unfold firstM
          cases ea : CM.ahd (n - 1).toNat t.w with
          | none => rw [ea] at hf2; cases hf2
          | some a =>
            rw [ea] at hf2
            have this : j + ((0 : Nat) : Int) = (a : Int) := Option.some.inj hf2
            show decide (j + 0 ≤ m) = decide ((a : Int) ≤ m)
            rw [← this]
            rfl
        · refine s_ifP (p := False) (et_B ((ev_eqI (ev_var (a := k + 1) rfl rfl) (ev_var (a := n) rfl rfl)).eq (by simp [e]))) (fun c => c.elim) (fun _ H6 s6 => ?_)
          rw [show (n - 1 - k).toNat = (n - 1 - (k + 1)).toNat + 1 by omega] at hf
          exact ⟨⟨_, k + 1, j + 0, q, rfl, rfl, by omega, by omega, by rw [← hf, Int.add_zero]; rfl⟩, ((sd.trans s4).trans s5).trans s6⟩
      | false =>
        refine s_ifP (p := False) (et_B ((ev_eqI (ev_var (a := k + 0) rfl rfl) (ev_var (a := n) rfl rfl)).eq (by simp; omega))) (fun c => c.elim) (fun _ H6 s6 => ?_)
        rw [CM.ahd_false, Option.map_map] at hf
        refine ⟨⟨_, k + 0, j + 1, q, rfl, rfl, by omega, by omega, ?_⟩, ((sd.trans s4).trans s5).trans s6⟩
        rw [← hf, Int.add_zero]
        congr 1
        funext a
        show j + 1 + (a : Int) = j + ((a + 1 : Nat) : Int)
        omega
  · rintro H3 s3 σ' H' sd ⟨y, k, j, q, rfl, er, h0, hk, hf⟩
    have eq : q = [] := by
      cases q with
      | nil => rfl
      | cons c q => cases er
    subst eq
    have hf2 : none = (CM.ahd (n - 1).toNat t.w).map (fun a : Nat => (a : Int)) := by
      rw [← hf]
      cases (n - 1 - k).toNat <;> rfl
    have eb : false = firstM t ⟨[true]⟩ n m := by
      unfold firstM
      cases ea : CM.ahd (n - 1).toNat t.w with
      | none => rfl
      | some a => rw [ea] at hf2; cases hf2
    dsimp only
    exact s_ret (a := firstM t ⟨[true]⟩ n m) (ev_bl.eq eb) fun u H7 s7 hu => kk _ _ ((((s1.trans s2).trans s3).trans sd).trans s7) hu
/-! ### where the n-th fill stands -/
def nth : Nat → List Bool → Option Nat
  | _, [] => none
  | 0, true :: _ => some 0
  | n + 1, true :: w => (nth n w).map (· + 1)
  | n, false :: w => (nth n w).map (· + 1)
theorem nth_false (n : Nat) (w : List Bool) : nth n (false :: w) = (nth n w).map (· + 1) := by cases n <;> rfl
theorem nth_find : ∀ (u : List Bool) (n : Nat), (List.range u.length).find? (fun k => decide ((u.take (k + 1)).count true = n + 1)) = nth n u
  | [], n => by cases n <;> rfl
  | true :: w, 0 => by
    rw [List.length_cons, List.range_succ_eq_map, List.find?_cons_of_pos (by simp)]
    rfl
  | true :: w, n + 1 => by
    rw [List.length_cons, List.range_succ_eq_map, List.find?_cons_of_neg (by simp), List.find?_map]
    show Option.map _ (List.find? _ _) = (nth n w).map (· + 1)
    rw [← nth_find w n]
    refine congrArg (Option.map Nat.succ) (congrArg (fun p => List.find? p (List.range w.length)) (funext fun k => ?_))
    show decide (((true :: w).take (k + 1 + 1)).count true = n + 1 + 1) = decide ((w.take (k + 1)).count true = n + 1)
    rw [List.take_succ_cons, List.count_cons]
    simp
  | false :: w, n => by
    rw [List.length_cons, List.range_succ_eq_map, List.find?_cons_of_neg (by simp), List.find?_map, nth_false, ← nth_find w n]
    refine congrArg (Option.map Nat.succ) (congrArg (fun p => List.find? p (List.range w.length)) (funext fun k => ?_))
    show decide (((false :: w).take (k + 1 + 1)).count true = n + 1) = decide ((w.take (k + 1)).count true = n + 1)
    rw [List.take_succ_cons, List.count_cons]
    simp
theorem nth_ahd : ∀ (u : List Bool) (n : Nat), CM.ahd n u = (nth n u).map fun k => (u.take k).count false
  | [], n => by cases n <;> rfl
  | true :: w, 0 => rfl
  | true :: w, n + 1 => by
    show CM.ahd n w = ((nth n w).map (· + 1)).map _
    rw [nth_ahd w n, Option.map_map]
    refine congrArg (fun f => Option.map f (nth n w)) (funext fun k => ?_)
    show (w.take k).count false = ((true :: w).take (k + 1)).count false
    rw [List.take_succ_cons, List.count_cons]
    simp
  | false :: w, n => by
    rw [CM.ahd_false, nth_false, nth_ahd w n, Option.map_map, Option.map_map]
    refine congrArg (fun f => Option.map f (nth n w)) (funext fun k => ?_)
    show (w.take k).count false + 1 = ((false :: w).take (k + 1)).count false
    rw [List.take_succ_cons, List.count_cons]
    simp
theorem nth_some {u : List Bool} {n : Nat} (h : n < u.count true) : ∃ k, nth n u = some k := by
  obtain ⟨a, ha⟩ := CM.ahd_some u n h
  rw [nth_ahd] at ha
  cases e : nth n u with
  | none => rw [e] at ha; cases ha
  | some k => exact ⟨k, rfl⟩
theorem near_get (u : List Bool) (n k : Nat) (h : nth n u = some k) : (((upto 0 u.length).filter fun i => decide ((((u.take (i.toNat + 1)).count true : Nat) : Int) = (n : Int) + 1)).map (fun i : Int => i))[0]? = some (k : Int) := by
  rw [List.map_id', ← List.head?_eq_getElem?, List.head?_filter]
  unfold upto
  rw [List.find?_map]
  have e : ((fun i : Int => decide ((((u.take (i.toNat + 1)).count true : Nat) : Int) = (n : Int) + 1)) ∘ fun (i : Nat) => 0 + (i : Int)) = fun k : Nat => decide ((u.take (k + 1)).count true = n + 1) := by
    funext i
    show decide ((((u.take ((0 + (i : Int)).toNat + 1)).count true : Nat) : Int) = (n : Int) + 1) = _
    rw [show (0 + (i : Int)).toNat = i by omega, decide_eq_decide]
    omega
  rw [e, nth_find, h]
  show some (0 + (k : Int)) = _
  rw [Int.zero_add]
end Cf
set_option Elab.async false
set_option linter.all false
set_option maxRecDepth 100000
set_option maxHeartbeats 4000000
namespace Cf
open PySem PySem.Spec PyProof.Rows L2 Cs
local macro_rules | `(tactic| walk_at "lf") => `(tactic| first
  | assumption
  | exact rfl
  | exact Rp.mono (by assumption) (by assumption)
  | exact Rp.mono (Same.trans (by assumption) (by assumption)) (by assumption)
  | exact RpK.monoK (by assumption) (by assumption))
local macro_rules | `(tactic| walk_at "ev") => `(tactic| first
  | with_reducible exact ev_int
  | with_reducible exact ev_bl
  | with_reducible exact ev_fill
  | with_reducible exact ev_drop
  | with_reducible exact ev_str
  | ((with_reducible refine' ev_var ?hs ?hv); (case hs => exact rfl); (case hv => walk_at "lf"))
  | ((with_reducible refine' ev_opI ?ha ?hb); (case ha => walk_at "ev"); (case hb => walk_at "ev"))
  | ((with_reducible refine' ev_opB ?ha ?hb); (case ha => walk_at "ev"); (case hb => walk_at "ev"))
  | ((with_reducible refine' ev_opC ?ha ?hb ?hc); (case ha => walk_at "ev"); (case hb => walk_at "ev"); (case hc => first | assumption | skip))
  | ((with_reducible refine' ev_un ?ha); (case ha => walk_at "ev"))
  | ((with_reducible refine' ev_eqK ?ha ?hb); (case ha => walk_at "ev"); (case hb => walk_at "ev"))
  | ((with_reducible refine' ev_eqI ?ha ?hb); (case ha => walk_at "ev"); (case hb => walk_at "ev"))
  | ((with_reducible refine' ev_eqS ?ha ?hb); (case ha => walk_at "ev"); (case hb => walk_at "ev"))
  | ((with_reducible refine' ev_neK ?ha ?hb); (case ha => walk_at "ev"); (case hb => walk_at "ev"))
  | ((with_reducible refine' ev_neI ?ha ?hb); (case ha => walk_at "ev"); (case hb => walk_at "ev"))
  | ((with_reducible refine' ev_neS ?ha ?hb); (case ha => walk_at "ev"); (case hb => walk_at "ev"))
  | ((with_reducible refine' ev_tup2 ?ha ?hb); (case ha => walk_at "ev"); (case hb => walk_at "ev"))
  | ((with_reducible refine' ev_tup1 ?ha); (case ha => walk_at "ev"))
  | with_reducible exact ev_tup0
  | ((with_reducible refine' ev_fst ?ha); (case ha => walk_at "ev"))
  | ((with_reducible refine' ev_snd ?ha); (case ha => walk_at "ev"))
  | ((with_reducible refine' ev_max2 rfl ?ha ?hb); (case ha => walk_at "ev"); (case hb => walk_at "ev"))
  | ((with_reducible refine' ev_min2 rfl ?ha ?hb); (case ha => walk_at "ev"); (case hb => walk_at "ev"))
  | ((with_reducible refine' ev_abs rfl ?ha); (case ha => walk_at "ev"))
  | ((with_reducible refine' ev_intI rfl ?ha); (case ha => walk_at "ev"))
  | ((with_reducible refine' ev_intB rfl ?ha); (case ha => walk_at "ev"))
  | ((with_reducible refine' ev_len rfl ?ha); (case ha => walk_at "ev"))
  | ((with_reducible refine' ev_lenL rfl ?ha); (case ha => walk_at "ev"))
  | ((with_reducible refine' ev_tuple rfl ?ha); (case ha => walk_at "ev"))
  | ((with_reducible refine' ev_sum ?ha); (case ha => walk_at "ev"))
  | ((with_reducible refine' ev_chain ?ha ?hb ?hc); (case ha => walk_at "ev"); (case hb => walk_at "ev"); (case hc => walk_at "ev"))
  | ((with_reducible refine' et_test ?ha); (case ha => walk_at "ev"))
  | ((with_reducible refine' et_B ?ha); (case ha => walk_at "ev"))
  | ((with_reducible refine' et_not ?ha); (case ha => walk_at "ev"))
  | ((with_reducible refine' ev_not ?ha); (case ha => walk_at "ev"))
  | ((with_reducible refine' et_and ?ha ?hb); (case ha => walk_at "ev"); (case hb => intro _; walk_at "ev"))
  | ((with_reducible refine' et_or ?ha ?hb); (case ha => walk_at "ev"); (case hb => intro _; walk_at "ev"))
  | ((with_reducible refine' ev_and ?ha ?hb); (case ha => walk_at "ev"); (case hb => intro _; walk_at "ev"))
  | ((with_reducible refine' ev_or ?ha ?hb); (case ha => walk_at "ev"); (case hb => intro _; walk_at "ev"))
  | ((with_reducible refine' ev_call1 ?ha ?hp); (case ha => walk_at "ev"); (case hp => first | assumption | trivial))
  | ((with_reducible refine' ev_call2 ?ha ?hb ?hp); (case ha => walk_at "ev"); (case hb => walk_at "ev"); (case hp => first | assumption | trivial))
  | ((with_reducible refine' ev_call3 ?ha ?hb ?hc ?hp); (case ha => walk_at "ev"); (case hb => walk_at "ev"); (case hc => walk_at "ev"); (case hp => first | assumption | trivial)))
variable {P : Program} {w : World} {K : PySem.W.Frag} {mg : Str → Option Value} {base : Heap}
theorem sc_Lless : FnScope ["_law_mine", "_law_its", "_law_left_here", "_law_right_here", "_law_one_so", "_law_two_so", "_law_number", "_law_near", "_law_k"] ["_law_mine", "_law_its", "_law_left_here", "_law_right_here"] (defScope s_Lless) := ⟨rfl, rfl, rfl, by decide +kernel, rfl, by decide +kernel, by decide +kernel⟩
abbrev LessPre (p q : List Stp) (u v : Tb) : Prop := LPre p ∧ LPre q ∧ u.w.length ≤ 10000 ∧ v.w.length ≤ 10000
def LessOk (p q : List Stp) (u v : Tb) : Prop := CM.starts q ≤ CM.starts p ∧ CM.ends p ≤ CM.ends q ∧ CM.Cond u.w v.w
open Classical in
noncomputable def lessM (p q : List Stp) (u v : Tb) : Bool := decide (LessOk p q u v)
open Classical in
theorem less_no {p q : List Stp} {u v : Tb} (h : ¬ LessOk p q u v) : false = lessM p q u v := by
  unfold lessM
  rw [decide_eq_false h]
open Classical in
theorem less_yes {p q : List Stp} {u v : Tb} (h : LessOk p q u v) : true = lessM p q u v := by
  unfold lessM
  rw [decide_eq_true h]
theorem F_Lless (T : Tx w K mg) : Fn P w K mg base 2 d_Lless ["_law_mine", "_law_its", "_law_left_here", "_law_right_here"] (Pure4 LessPre lessM) := by
  have F_Ledges : Fn P w K mg base 1 d_Ledges ["_law_line_here"] _ := F_Ledges T
  have F_Lfirst : Fn P w K mg base 1 d_Lfirst ["_law_spelt", "_law_sign", "_law_number", "_law_most_so"] _ := F_Lfirst T
  refine mk_pure4 T.f_Lless sc_Lless (fun _ _ _ _ _ _ _ _ _ _ => rfl) (fun cdv A outer s H Q E hr v v1 v2 v3 p q t r hv h1 h2 h3 ha kk => ⟨_, (pss_cons (ps_par (i := 4) (j := 5) (by rfl) sc_Lless.nd rfl rfl (by decide) rfl rfl (pa_cons (pe_fn F_Ledges (hr.mono (by decide)) T.g_Ledges (pa_cons (pv 0) pa_nil)) (pa_cons (pe_fn F_Ledges (hr.mono (by decide)) T.g_Ledges (pa_cons (pv 1) pa_nil)) pa_nil)) (by rfl))
  (pss_cons (ps_if (PW.pt (pw_or (pt_cmpR op_lt (pe_ix ix_tup (pv 4) pe_int (fun _ _ => rfl)) (pe_ix ix_tup (pv 5) pe_int (fun _ _ => rfl)) (nomark _)) (pw_or (pt_cmpR op_gt (pe_ix ix_tup (pv 4) pe_int (fun _ _ => rfl)) (pe_ix ix_tup (pv 5) pe_int (fun _ _ => rfl)) (nomark _)) (pw_or1 (pt_cmpR op_gt (pe_m1 PySem.F.slot_str_count PySem.F.type_str_count mt_count (pv 3) pe_str) (pe_m1 PySem.F.slot_str_count PySem.F.type_str_count mt_count (pv 2) pe_str) (nomark _))))))
  (pss_one (ps_ret pe_bl))
  pss_nil)
  (pss_cons (ps_for PassesOwn.never rfl (pi_range2 (by rfl) T.b_range (pa_cons pe_int (pa_cons (pe_op op_add pe_int (pe_m1 PySem.F.slot_str_count PySem.F.type_str_count mt_count (pv 2) pe_str)) pa_nil))) (pg_name (i := 6) sc_Lless.nd rfl (Or.inr rfl))
  (pss_cons (ps_set (i := 7) sc_Lless.nd rfl (Or.inl rfl) (pe_ix ix_list (pe_lc (own := [("_law_k", 8)]) (g := (gName 8)) rfl sc_Lless.nd (pi_range1 (by rfl) T.b_range (pa_cons (pe_callB call_len_str (by rfl) T.b_len PySem.boot_len (pa_cons (pv 2) pa_nil)) pa_nil)) (blkOk_by (own := [("_law_k", 8)]) (N := ["_law_mine", "_law_its", "_law_left_here", "_law_right_here", "_law_one_so", "_law_two_so", "_law_number", "_law_near", "_law_k"]) (sc := defScope s_Lless) (by decide +kernel)) (fun _ _ _ _ _ => (pg_name (i := 8) sc_Lless.nd rfl (Or.inl rfl))) (fun _ _ _ _ _ => (pts_one (pt_cmpR op_eq (pe_m1 PySem.F.slot_str_count PySem.F.type_str_count mt_count (pe_slice sl_str (pv 2) po_none (po_some (pe_op op_add (pv 8) pe_int))) pe_str) (pv 6) (nomark _)))) (fun _ _ _ _ _ => (pv 8))) pe_int (fun _ _ => rfl)))
  (pss_one (ps_if (pt_not (pt_val (pe_fn F_Lfirst (hr.mono (by decide)) T.g_Lfirst (pa_cons (pv 3) (pa_cons pe_str (pa_cons (pv 6) (pa_cons (pe_m1 PySem.F.slot_str_count PySem.F.type_str_count mt_count (pe_slice sl_str (pv 2) po_none (po_some (pv 7))) pe_str) pa_nil)))))))
  (pss_one (ps_ret pe_bl))
  pss_nil))))
  (pss_one (ps_ret pe_bl))))), ?_⟩)
  obtain ⟨hp, hq, ht, hrr⟩ := ha
  refine q_par (a := (CM.starts p, CM.ends p)) (b := (CM.starts q, CM.ends q)) (ev_call1 (f := fun p => (CM.starts p, CM.ends p)) (ev_var rfl hv) hp) (ev_call1 (f := fun p => (CM.starts p, CM.ends p)) (ev_var rfl h1) hq) fun v4 v5 H1 s1 hv4 hv5 => ?_
  have h21 := Rp.mono s1 h2
  have h31 := Rp.mono s1 h3
  have hcnt : ∀ {σ : L2.St} {H' : Hp} {i : Nat} {vv : V} {b : Bool} {z : Tb} {te : TE}, σ[i]? = some (some vv) → Rp.is H' vv z → EvR te σ H' (⟨[b]⟩ : Tb) → EvR (tM1 (fun x xs H Q => ∃ a b, x = .str a ∧ xs = [.str b] ∧ Q (.int (Txt.count a b)) H) (tVar i) te) σ H' ((z.w.count b : Nat) : Int) := fun e h hb => ev_tcount rfl (ev_var e h) hb
  refine q_ifP (p := CM.starts p < CM.starts q ∨ CM.ends q < CM.ends p ∨ t.w.count false < r.w.count false) ((et_or (a := decide (CM.starts p < CM.starts q)) (et_B (ev_opB (ev_fst (ev_var rfl hv4)) (ev_fst (ev_var rfl hv5)))) fun _ => et_or (a := decide (CM.ends q < CM.ends p)) (et_B (ev_opB (f := fun i j => decide (j < i)) (ev_snd (ev_var rfl hv4)) (ev_snd (ev_var rfl hv5)))) fun _ => et_B (ev_opB (f := fun i j => decide (j < i)) (hcnt rfl h31 ev_td) (hcnt rfl h21 ev_td))).eq (by simp)) (fun c H2 s2 => ?_) (fun c H2 s2 => ?_)
  · exact s_ret (a := lessM p q t r) (ev_bl.eq (less_no fun h => by
      obtain ⟨l1, l2, l3, _⟩ := h
      rcases c with c | c | c <;> omega)) fun u H3 s3 hu => kk _ _ ((s1.trans s2).trans s3) hu
  · have c1 : CM.starts q ≤ CM.starts p := by by_cases z : CM.starts p < CM.starts q; exact absurd (.inl z) c; omega
    have c2 : CM.ends p ≤ CM.ends q := by by_cases z : CM.ends q < CM.ends p; exact absurd (.inr (.inl z)) c; omega
    have c3 : r.w.count false ≤ t.w.count false := by by_cases z : t.w.count false < r.w.count false; exact absurd (.inr (.inr z)) c; omega
    have h22 := Rp.mono s2 h21
    have h32 := Rp.mono s2 h31
    have hcl : t.w.count true ≤ 10000 := Nat.le_trans List.count_le_length ht
    refine s_forS (iw_range2 (m := 1) (n := 1 + ((t.w.count true : Nat) : Int)) ev_int (ev_opI ev_int (hcnt rfl h22 ev_tf)) ⟨by omega, by omega, by omega, by omega⟩) (fun l σ' H' => ∃ (y6 y7 y8 : Option V), σ' = [some v, some v1, some v2, some v3, some v4, some v5, y6, y7, y8] ∧ ∀ n, n < t.w.count true → ((n : Int) + 1) ∉ l → ∀ a, CM.ahd n t.w = some a → ∃ b, CM.ahd n r.w = some b ∧ b ≤ a)
      (fun H3 s3 => ⟨none, none, none, rfl, fun n hn hno => absurd (by
        unfold upto
        refine List.mem_map.mpr ⟨n, List.mem_range.mpr (by omega), by omega⟩) hno⟩) ?_ ?_
    · rintro H3 s3 x l u σ' H' H0 hx s0 sd ⟨y6, y7, y8, rfl, hall⟩ hu
      obtain rfl : u = .int x := hu
      obtain ⟨m, hm, em⟩ := List.mem_map.mp hx
      have hm' : m < t.w.count true := by have := List.mem_range.mp hm; omega
      obtain ⟨k, hk⟩ := nth_some hm'
      have h23 := Rp.mono (s3.trans sd) h22
      have h33 := Rp.mono (s3.trans sd) h32
      have hklen : k < t.w.length := by
        have h := nth_find t.w m
        rw [hk] at h
        exact List.mem_range.mp (List.mem_of_find?_eq_some h)
      refine q_asg (a := (k : Int)) (ev_ixL (as := ⟨((upto 0 t.w.length).filter fun i => decide ((((t.w.take (i.toNat + 1)).count true : Nat) : Int) = (m : Int) + 1)).map (fun i : Int => i)⟩) (n := 0) (ev_lc (fun i : Int => decide ((((t.w.take (i.toNat + 1)).count true : Nat) : Int) = (m : Int) + 1)) (fun i : Int => i) (iw_range1 (n := ((t.w.length : Nat) : Int)) (ev_tlen rfl (ev_var rfl h23) (by omega)) ⟨by omega, by omega⟩) (by rw [upto_len]; exact small_line (by omega)) (fun i u H4 s4 hi hu => ⟨rfl, Same.refl _, ?_, fun _ => ev_var rfl hu⟩) gm_name) ev_int rfl (near_get t.w m k hk)) fun v6 H4 s4 hv6 => ?_
      rotate_left
      · obtain ⟨i0, hi0, ei⟩ := List.mem_map.mp hi
        refine et_B ((ev_eqI (a := (((t.w.take (i.toNat + 1)).count true : Nat) : Int)) (b := x) (ev_tcount (w := ⟨t.w.take (i.toNat + 1)⟩) rfl (ev_tcut (k := i.toNat + 1) (ev_var rfl (Rp.mono s4 h23)) (ev_opI (ev_var rfl hu) ev_int) (by omega) (by omega)) ev_tf) (ev_var (a := x) rfl rfl)).eq ?_)
        rw [decide_eq_decide]
        omega
      · obtain rfl : v6 = .int (k : Int) := hv6
        have ha : CM.ahd m t.w = some ((t.w.take k).count false) := by rw [nth_ahd, hk]; rfl
        have h24 := Rp.mono s4 h23
        have h34 := Rp.mono s4 h33
        refine s_ifP (p := firstM r ⟨[true]⟩ x (((t.w.take k).count false : Nat) : Int) = false) ((et_not (et_test (ev_call4 (f := firstM) (ev_var rfl h34) ev_tf (ev_var (a := x) rfl rfl) (ev_tcount (w := ⟨t.w.take k⟩) rfl (ev_tcut (k := k) (ev_var rfl h24) (ev_var (a := (k : Int)) rfl rfl) rfl (by omega)) ev_td) ⟨rfl, by omega, hrr⟩))).eq (by cases firstM r ⟨[true]⟩ x (((t.w.take k).count false : Nat) : Int) <;> rfl)) (fun cc H5 s5 => ?_) (fun cc H5 s5 => ?_)
        · refine s_ret (a := lessM p q t r) (ev_bl.eq (less_no fun h => ?_)) fun u H6 s6 hu => kk _ _ ((((s1.trans s2).trans s3).trans sd).trans ((s4.trans s5).trans s6)) hu
          obtain ⟨b, hb, hle⟩ := h.2.2.2 m _ ha
          unfold firstM at cc
          rw [show (x - 1).toNat = m by omega, hb] at cc
          exact absurd (of_decide_eq_false cc) (by omega)
        · refine ⟨⟨_, _, _, rfl, fun n hn hno a hna => ?_⟩, (sd.trans s4).trans s5⟩
          by_cases e : (n : Int) + 1 = x
          · have enm : n = m := by omega
            subst enm
            rw [ha] at hna
            obtain rfl := Option.some.inj hna
            have cc : firstM r ⟨[true]⟩ x (((t.w.take k).count false : Nat) : Int) = true := by
              cases z : firstM r ⟨[true]⟩ x (((t.w.take k).count false : Nat) : Int) with
              | true => rfl
              | false => exact absurd z cc
            unfold firstM at cc
            rw [show (x - 1).toNat = n by omega] at cc
            cases eb : CM.ahd n r.w with
            | none => rw [eb] at cc; cases cc
            | some b =>
              rw [eb] at cc
              have := of_decide_eq_true cc
              exact ⟨b, rfl, by omega⟩
          · exact hall n hn (fun z => by
              rcases List.mem_cons.mp z with z | z
              · exact e z
              · exact hno z) a hna
    · rintro H3 s3 σ' H' sd ⟨y6, y7, y8, rfl, hall⟩
      dsimp only
      refine s_ret (a := lessM p q t r) (ev_bl.eq (less_yes ⟨c1, c2, c3, fun n a hna => ?_⟩)) fun u H6 s6 hu => kk _ _ ((((s1.trans s2).trans s3).trans sd).trans s6) hu
      exact hall n (CM.ahd_lt _ _ _ hna).1 (by simp) a hna
theorem sc_Ldue : FnScope ["_law_mine", "_law_its", "_law_low_so", "_law_hole_so", "_law_left_here", "_law_right_here"] ["_law_mine", "_law_its", "_law_low_so", "_law_hole_so"] (defScope s_Ldue) := ⟨rfl, rfl, rfl, by decide +kernel, rfl, by decide +kernel, by decide +kernel⟩
abbrev DuePre (p q : List Stp) (_ _ : Int) : Prop := SpPre p ∧ SpPre q
open Classical in
noncomputable def dueM (p q : List Stp) (ls lg : Int) : Bool := lessM p q (leftT ⟨CM.word p⟩ (lg - 1) (ls - 1)) (leftT ⟨CM.word q⟩ (lg - 1) (ls - 1))
open Classical in
theorem due_iff (p q : List Stp) (ls lg : Int) : dueM p q ls lg = true ↔ CM.Due p q ls lg := by
  unfold dueM lessM
  rw [decide_eq_true_iff]
  rfl
theorem left_len (a b : Int) : ∀ (u : List Bool) (k j : Int), (CM.left a b k j u).length ≤ u.length
  | [], _, _ => Nat.le_refl _
  | true :: u, k, j => by
    have := left_len a b u (k + 1) j
    show (if k + 1 > a then true :: CM.left a b (k + 1) j u else CM.left a b (k + 1) j u).length ≤ u.length + 1
    split
    · rw [List.length_cons]; omega
    · omega
  | false :: u, k, j => by
    have := left_len a b u k (j + 1)
    show (if j + 1 > b then false :: CM.left a b k (j + 1) u else CM.left a b k (j + 1) u).length ≤ u.length + 1
    split
    · rw [List.length_cons]; omega
    · omega
theorem F_Ldue (T : Tx w K mg) : Fn P w K mg base 4 d_Ldue ["_law_mine", "_law_its", "_law_low_so", "_law_hole_so"] (Pure4 DuePre dueM) := by
  have F_Lspell : Fn P w K mg base 2 d_Lspell ["_law_line_here"] _ := F_Lspell T
  have F_Lleft : Fn P w K mg base 1 d_Lleft ["_law_spelt", "_law_most_f", "_law_most_d"] _ := F_Lleft T
  have F_Lless : Fn P w K mg base 2 d_Lless ["_law_mine", "_law_its", "_law_left_here", "_law_right_here"] _ := F_Lless T
  refine mk_pure4 T.f_Ldue sc_Ldue (fun _ _ _ _ _ _ _ _ _ _ => rfl) (fun cdv A outer s H Q E hr v v1 v2 v3 p q ls lg hv h1 h2 h3 ha kk => ⟨_, (pss_cons (ps_set (i := 4) sc_Ldue.nd rfl (Or.inl rfl) (pe_fn F_Lleft (hr.mono (by decide)) T.g_Lleft (pa_cons (pe_fn F_Lspell (hr.mono (by decide)) T.g_Lspell (pa_cons (pv 0) pa_nil)) (pa_cons (pe_op op_sub (pv 3) pe_int) (pa_cons (pe_op op_sub (pv 2) pe_int) pa_nil)))))
  (pss_cons (ps_set (i := 5) sc_Ldue.nd rfl (Or.inl rfl) (pe_fn F_Lleft (hr.mono (by decide)) T.g_Lleft (pa_cons (pe_fn F_Lspell (hr.mono (by decide)) T.g_Lspell (pa_cons (pv 1) pa_nil)) (pa_cons (pe_op op_sub (pv 3) pe_int) (pa_cons (pe_op op_sub (pv 2) pe_int) pa_nil)))))
  (pss_one (ps_ret (pe_fn F_Lless (hr.mono (by decide)) T.g_Lless (pa_cons (pv 0) (pa_cons (pv 1) (pa_cons (pv 4) (pa_cons (pv 5) pa_nil))))))))), ?_⟩)
  obtain ⟨hp, hq⟩ := ha
  refine q_asg (a := leftT ⟨CM.word p⟩ (lg - 1) (ls - 1)) (ev_call3 (f := leftT) (ev_call1 (f := fun p => (⟨CM.word p⟩ : Tb)) (ev_var rfl hv) hp) (ev_opI (ev_var rfl h3) ev_int) (ev_opI (ev_var rfl h2) ev_int) hp.2) fun v4 H1 s1 hv4 => ?_
  refine q_asg (a := leftT ⟨CM.word q⟩ (lg - 1) (ls - 1)) (ev_call3 (f := leftT) (ev_call1 (f := fun p => (⟨CM.word p⟩ : Tb)) (ev_var rfl (Rp.mono s1 h1)) hq) (ev_opI (ev_var rfl (Rp.mono s1 h3)) ev_int) (ev_opI (ev_var rfl (Rp.mono s1 h2)) ev_int) hq.2) fun v5 H2 s2 hv5 => ?_
  have s12 := s1.trans s2
  exact s_ret (a := dueM p q ls lg) (ev_call4 (f := lessM) (ev_var rfl (Rp.mono s12 hv)) (ev_var rfl (Rp.mono s12 h1)) (ev_var rfl (Rp.mono s2 hv4)) (ev_var rfl hv5) ⟨hp.1, hq.1, Nat.le_trans (left_len _ _ _ _ _) hp.2, Nat.le_trans (left_len _ _ _ _ _) hq.2⟩) fun u H3 s3 hu => kk _ _ (s12.trans s3) hu
end Cf
set_option Elab.async false
set_option linter.all false
set_option maxRecDepth 100000
set_option maxHeartbeats 4000000
namespace Cf
open PySem PySem.Spec PyProof.Rows L2 Cs
local macro_rules | `(tactic| walk_at "lf") => `(tactic| first
  | assumption
  | exact rfl
  | exact Rp.mono (by assumption) (by assumption)
  | exact Rp.mono (Same.trans (by assumption) (by assumption)) (by assumption)
  | exact RpK.monoK (by assumption) (by assumption))
local macro_rules | `(tactic| walk_at "ev") => `(tactic| first
  | with_reducible exact ev_int
  | with_reducible exact ev_bl
  | with_reducible exact ev_fill
  | with_reducible exact ev_drop
  | with_reducible exact ev_str
  | ((with_reducible refine' ev_var ?hs ?hv); (case hs => exact rfl); (case hv => walk_at "lf"))
  | ((with_reducible refine' ev_opI ?ha ?hb); (case ha => walk_at "ev"); (case hb => walk_at "ev"))
  | ((with_reducible refine' ev_opB ?ha ?hb); (case ha => walk_at "ev"); (case hb => walk_at "ev"))
  | ((with_reducible refine' ev_opC ?ha ?hb ?hc); (case ha => walk_at "ev"); (case hb => walk_at "ev"); (case hc => first | assumption | skip))
  | ((with_reducible refine' ev_un ?ha); (case ha => walk_at "ev"))
  | ((with_reducible refine' ev_eqK ?ha ?hb); (case ha => walk_at "ev"); (case hb => walk_at "ev"))
  | ((with_reducible refine' ev_eqI ?ha ?hb); (case ha => walk_at "ev"); (case hb => walk_at "ev"))
  | ((with_reducible refine' ev_eqS ?ha ?hb); (case ha => walk_at "ev"); (case hb => walk_at "ev"))
  | ((with_reducible refine' ev_neK ?ha ?hb); (case ha => walk_at "ev"); (case hb => walk_at "ev"))
  | ((with_reducible refine' ev_neI ?ha ?hb); (case ha => walk_at "ev"); (case hb => walk_at "ev"))
  | ((with_reducible refine' ev_neS ?ha ?hb); (case ha => walk_at "ev"); (case hb => walk_at "ev"))
  | ((with_reducible refine' ev_tup2 ?ha ?hb); (case ha => walk_at "ev"); (case hb => walk_at "ev"))
  | ((with_reducible refine' ev_tup1 ?ha); (case ha => walk_at "ev"))
  | with_reducible exact ev_tup0
  | ((with_reducible refine' ev_fst ?ha); (case ha => walk_at "ev"))
  | ((with_reducible refine' ev_snd ?ha); (case ha => walk_at "ev"))
  | ((with_reducible refine' ev_max2 rfl ?ha ?hb); (case ha => walk_at "ev"); (case hb => walk_at "ev"))
  | ((with_reducible refine' ev_min2 rfl ?ha ?hb); (case ha => walk_at "ev"); (case hb => walk_at "ev"))
  | ((with_reducible refine' ev_abs rfl ?ha); (case ha => walk_at "ev"))
  | ((with_reducible refine' ev_intI rfl ?ha); (case ha => walk_at "ev"))
  | ((with_reducible refine' ev_intB rfl ?ha); (case ha => walk_at "ev"))
  | ((with_reducible refine' ev_len rfl ?ha); (case ha => walk_at "ev"))
  | ((with_reducible refine' ev_lenL rfl ?ha); (case ha => walk_at "ev"))
  | ((with_reducible refine' ev_tuple rfl ?ha); (case ha => walk_at "ev"))
  | ((with_reducible refine' ev_sum ?ha); (case ha => walk_at "ev"))
  | ((with_reducible refine' ev_chain ?ha ?hb ?hc); (case ha => walk_at "ev"); (case hb => walk_at "ev"); (case hc => walk_at "ev"))
  | ((with_reducible refine' et_test ?ha); (case ha => walk_at "ev"))
  | ((with_reducible refine' et_B ?ha); (case ha => walk_at "ev"))
  | ((with_reducible refine' et_not ?ha); (case ha => walk_at "ev"))
  | ((with_reducible refine' ev_not ?ha); (case ha => walk_at "ev"))
  | ((with_reducible refine' et_and ?ha ?hb); (case ha => walk_at "ev"); (case hb => intro _; walk_at "ev"))
  | ((with_reducible refine' et_or ?ha ?hb); (case ha => walk_at "ev"); (case hb => intro _; walk_at "ev"))
  | ((with_reducible refine' ev_and ?ha ?hb); (case ha => walk_at "ev"); (case hb => intro _; walk_at "ev"))
  | ((with_reducible refine' ev_or ?ha ?hb); (case ha => walk_at "ev"); (case hb => intro _; walk_at "ev"))
  | ((with_reducible refine' ev_call1 ?ha ?hp); (case ha => walk_at "ev"); (case hp => first | assumption | trivial))
  | ((with_reducible refine' ev_call2 ?ha ?hb ?hp); (case ha => walk_at "ev"); (case hb => walk_at "ev"); (case hp => first | assumption | trivial))
  | ((with_reducible refine' ev_call3 ?ha ?hb ?hc ?hp); (case ha => walk_at "ev"); (case hb => walk_at "ev"); (case hc => walk_at "ev"); (case hp => first | assumption | trivial)))
variable {P : Program} {w : World} {K : PySem.W.Frag} {mg : Str → Option Value} {base : Heap}
theorem op_leTK {X : Cx} (h : X.K = K) (hu : X.A.units < cLine) : OpR X (compareOp .LtE) (rLeT K) := h ▸ op_leT hu
section
variable {α : Type} {σ : L2.St} {H : Hp} {ta tb te tn : TE} {D : Ends} {i : Nat} {l : Addr}
/-- pairs in order -/
theorem ev_leT {a b : Sn} (ha : EvR ta σ H a) (hb : EvR tb σ H b) : EvR (tOp (rLeT K) ta tb) σ H (decide (a.1 < b.1 ∨ (a.1 = b.1 ∧ a.2 ≤ b.2))) := fun H1 s Q q =>
  ha H1 s _ fun v H2 s2 hv => hb H2 (s.trans s2) _ fun u H3 s3 hu => by
    obtain ⟨p, x, y, e, h1, h2, h3⟩ := Rp.mono s3 hv
    obtain ⟨p', x', y', e', h1', h2', h3'⟩ := hu
    obtain rfl : x = .int a.1 := h2
    obtain rfl : y = .int a.2 := h3
    obtain rfl : x' = .int b.1 := h2'
    obtain rfl : y' = .int b.2 := h3'
    refine ⟨p, p', [a.1, a.2], [b.1, b.2], e, e', SqT.of h1, SqT.of h1', q _ H3 (s2.trans s3) ?_⟩
    show V.bl _ = V.bl _
    congr 1
    show (if decide (a.1 = b.1) = true then (if decide (a.2 = b.2) = true then decide (2 ≤ 2) else decide (a.2 ≤ b.2)) else decide (a.1 ≤ b.1)) = _
    by_cases c : a.1 = b.1
    · rw [if_pos (decide_eq_true c)]
      by_cases c2 : a.2 = b.2
      · rw [if_pos (decide_eq_true c2)]
        exact (decide_eq_true (.inr ⟨c, by omega⟩)).symm
      · rw [if_neg (by simpa using c2), decide_eq_decide]
        omega
    · rw [if_neg (by simpa using c), decide_eq_decide]
      omega
def rIns : V → List V → Hp → VK → Prop := fun x vs H Q => ∃ (l : Addr) (xs : List V) (i : Int) (y : V), x = .ref l ∧ vs = [.int i, y] ∧ H l = some (.lst xs) ∧ xs.length < sizeLine ∧ 0 ≤ i ∧ i < 2 ^ 63 ∧ Q .non (upd H l (.lst (xs.take i.toNat ++ [y] ++ xs.drop i.toNat)))
/-- l.insert(len(l), e) -/
theorem s_insL [RpK α] {as : List α} {a : α} (hσ : σ[i]? = some (some (.ref l))) (hl : Lat H l as) (hn : EvR tn σ H (as.length : Int)) (h : EvR te σ H a) (hz : as.length ≤ 100000) (k : ∀ H1, Lat H1 l (as ++ [a]) → Same (dl H l) H1 → Kp H H1 → D.nx σ H1) :
    tDrop (tBM K "list" rIns (tVar i) (tCons tn (tCons te tNil))) D σ H := by
  obtain ⟨ys, h1, h2⟩ := id hl
  refine ⟨_, hσ, .inl ⟨rfl, _, SqL.of h1⟩, hn H (Same.refl _) _ fun w' H1 s1 hw => h H1 s1 _ fun v H2 s2 hv => ?_⟩
  have hl2 := s2 _ _ (s1 _ _ h1)
  have sH := s1.trans s2
  have e : ys.length = as.length := h2.length
  refine ⟨l, ys, (as.length : Int), v, rfl, by rw [show w' = V.int _ from hw], hl2, by rw [e]; exact small_line hz, by omega, by omega, ?_⟩
  rw [show ((as.length : Nat) : Int).toNat = ys.length by omega, List.take_length, List.drop_length, List.append_nil]
  have kk : Kp H2 (upd H2 l (.lst (ys ++ [v]))) := kp_lst hl2
  exact k _ ⟨ys ++ [v], upd_same, (h2.imp fun _ _ z => RpK.monoK kk (Rp.mono sH z)).append ⟨RpK.monoK kk hv, trivial⟩⟩ (dl_up ((dl_sub H l).trans sH)) ((kp_of sH).trans kk)
end
theorem sc_Lrising : FnScope ["_law_pairs_so", "_law_found", "_law_own", "_law_far"] ["_law_pairs_so"] (defScope s_Lrising) := ⟨rfl, rfl, rfl, by decide +kernel, rfl, by decide +kernel, by decide +kernel⟩
theorem asc_le {X Y : List Sn} {x y : Sn} (h : Asc (X ++ y :: Y)) (hx : x ∈ X) : x.1 < y.1 := ((List.pairwise_append.mp h.2).2.2 x hx y (.head _)).1
def RisingSp : Sp := fun vs H Q _ => ∃ (v : V) (a : Ls Sn), vs = [v] ∧ Rp.is H v a ∧ (a.val.length ≤ 1000 ∧ Asc a.val) ∧ ∀ q H', Same H H' → H q = none → Rp.is H' (.ref q) a → Q (.ref q) H'
theorem F_Lrising (T : Tx w K mg) : Fn P w K mg base 1 d_Lrising ["_law_pairs_so"] RisingSp := by
  refine mk_fn T.f_Lrising sc_Lrising (fun kV doc pm an cdv ct us hl => match us, hl with | [_], _ => rfl) (fun vs H Q E h => by obtain ⟨v, a, e, _⟩ := h; rw [e]; rfl) (fun cdv A outer s H vs Q E hr h => ?_)
  obtain ⟨v, a, rfl, hv, ha, kk⟩ := h
  refine ⟨_, (pss_cons (ps_set (i := 1) sc_Lrising.nd rfl (Or.inl rfl) (pe_lst pa_nil))
  (pss_cons (ps_for PassesOwn.never rfl (pi_list (pv 0)) (pg_name (i := 2) sc_Lrising.nd rfl (Or.inr rfl))
  (pss_one (ps_expr (pe_bm PySem.F.plainAttrs_list PySem.F.slot_list_insert PySem.F.type_list_insert mt_insert (pv 1) (pa_cons (pe_callB call_len_seq (by rfl) T.b_len PySem.boot_len (pa_cons (pe_lc (own := [("_law_far", 3)]) (g := (gName 3)) rfl sc_Lrising.nd (pi_list (pv 1)) (blkOk_by (own := [("_law_far", 3)]) (N := ["_law_pairs_so", "_law_found", "_law_own", "_law_far"]) (sc := defScope s_Lrising) (by decide +kernel)) (fun _ _ _ _ _ => (pg_name (i := 3) sc_Lrising.nd rfl (Or.inl rfl))) (fun _ _ _ _ _ => (pts_one (pt_cmpR (op_leTK (K := K) rfl hr.units0) (pv 3) (pv 2) (nomark _)))) (fun _ _ _ _ _ => pe_int)) pa_nil)) (pa_cons (pv 2) pa_nil))))))
  (pss_one (ps_ret (pv 1))))), ?_⟩
  refine s_newL fun l H1 hl e1 s1 => ?_
  have L1 : Lat H1 l ([] : List Sn) := by rw [e1]; exact Lat.new
  obtain ⟨ys0, hy0⟩ := L1.at
  have hne : v ≠ .ref l := lat_of hv hl
  refine s_forL (il_listV hy0 rfl (Rp.mono s1 hv) hne) (fun r σ' H' => ∃ (y2 y3 : Option V) (found : List Sn), σ' = [some v, some (.ref l), y2, y3] ∧ Lat H' l found ∧ found ++ r = a.val)
    (fun H2 s2 => ⟨none, none, [], rfl, L1.up s2, rfl⟩) ?_ ?_
  · rintro H2 s2 x r u σ' H' H0 hx s0 sd ⟨y2, y3, found, rfl, L0, hf⟩ hu
    have L' := L0.up s0
    have hlen : found.length ≤ 1000 := by
      have := ha.1
      rw [← hf, List.length_append] at this
      omega
    have hasc := ha.2
    rw [← hf] at hasc
    have hcount : ((found.filter fun f : Sn => decide (f.1 < x.1 ∨ (f.1 = x.1 ∧ f.2 ≤ x.2))).map fun _ => (1 : Int)).length = found.length := by
      rw [List.length_map, List.filter_eq_self.mpr fun f hf => decide_eq_true (.inl (asc_le hasc hf))]
    refine s_insL rfl L' (a := x) ((ev_lenL (as := ⟨(found.filter fun f : Sn => decide (f.1 < x.1 ∨ (f.1 = x.1 ∧ f.2 ≤ x.2))).map fun _ => (1 : Int)⟩) rfl (ev_lc (fun f : Sn => decide (f.1 < x.1 ∨ (f.1 = x.1 ∧ f.2 ≤ x.2))) (fun _ => (1 : Int)) (iw_list (as := ⟨found⟩) (ev_var rfl L'.is)) (small_line (by show found.length ≤ _; omega)) (fun f uf H3 s3 hfm huf => ⟨rfl, Same.refl _, et_B (ev_leT (ev_var rfl huf) (ev_var rfl (Rp.mono s3 hu))), fun _ => ev_int⟩) gm_name)).eq (congrArg Nat.cast hcount)) (ev_var rfl hu) (by omega) fun H5 L5 sd5 kp5 => ?_
    exact ⟨⟨_, _, found ++ [x], rfl, L5, by rw [← hf, List.append_assoc]; rfl⟩, dl_trans sd sd5⟩
  · rintro H2 s2 σ' H' sd ⟨y2, y3, found, rfl, L0, hf⟩
    have hH : Same H H' := (same_dl (s1.trans s2) hl).trans sd
    have ea : found = a.val := by rw [← hf, List.append_nil]
    refine ⟨_, rfl, kk l H' hH hl ?_⟩
    have h5 := L0.is
    rw [ea] at h5
    exact h5
theorem il_rising {σ : L2.St} {H : Hp} {te : TE} {l : Addr} {ys : List V} {as : Ls Sn} (hl : H l = some (.lst ys)) (h : EvR te σ H as) (hz : as.val.length ≤ 1000 ∧ Asc as.val) : IwL (iList K (tCall RisingSp [] E0 (tCons te tNil))) σ H l as.val := fun R k => h H (Same.refl _) _ fun v H1 s1 hv => ⟨v, as, rfl, hv, hz, fun q H2 s2 hq hu => by
  obtain ⟨q', xs, e, h1, h2⟩ := hu
  obtain rfl : q = q' := V.ref.inj e
  have ne : q ≠ l := fun c => by rw [c, s1 _ _ hl] at hq; cases hq
  refine ⟨q, rfl, ⟨xs, SqL.of h1⟩, k _ H2 (fun H3 => SqL K H3 q xs) (YAt xs) (s1.trans s2) (fun H3 s3 => SqL.of (s3 _ _ (by rw [dl_ne ne]; exact h1))) (by rw [← h2.length]; exact walk_list) fun i H3 x H4 s3 y => ?_⟩
  obtain ⟨e3, hx⟩ := y
  obtain ⟨a, ha, ra⟩ := h2.getV hx
  rw [e3]
  exact ⟨Same.refl _, a, ha, RpK.monoK (kp_dl ((s1.trans s2) _ _ hl) s3) ra⟩⟩
/-- a list of spans != [] -/
theorem ev_neNilL {σ : L2.St} {H : Hp} {ta : TE} {as : List Sn} (ha : EvR ta σ H (⟨as⟩ : Ls Sn)) : EvR (tOp (rNeD K) ta (tLst tNil)) σ H (!as.isEmpty) := fun H1 s Q q => ha H1 s _ fun v H2 s2 hv => ⟨Nat.zero_le _, fun p hp => by
  have s3 : Same H2 (upd H2 p (.lst [])) := same_new hp
  obtain ⟨a, xs, e, h1, h2⟩ := Rp.mono s3 hv
  have hsh : ∀ as : List Sn, SeqAt.shaped (.list (as.map snD)) = true := fun as => by
    have h1 := dep_sns as
    have h2 : PyData.depth (.list (as.map snD)) ≤ 64 := by
      simp only [PyData.depth]
      omega
    show (PyData.canLay0 (.list (as.map snD)) && decide (PyData.depth (.list (as.map snD)) ≤ 64)) = true
    rw [Bool.and_eq_true]
    exact ⟨by simp only [PyData.canLay0]; exact lay_sns as, decide_eq_true h2⟩
  refine ⟨.list (as.map snD), .list [], by rw [e]; exact .lst (SqL.of h1) (dp_sns h2), .lst (SqL.of upd_same) .nil, hsh as, hsh [], q _ _ (s2.trans s3) ?_⟩
  show V.bl _ = V.bl _
  cases as with
  | nil => simp only [List.map_nil, PyData.eqv, PyData.eqvAll, List.isEmpty_nil]
  | cons x r => simp only [List.map_cons, PyData.eqv, PyData.eqvAll, List.isEmpty_cons]⟩
theorem sc_Lone : FnScope ["_law_pairs_so", "_law_found", "_law_low", "_law_high"] ["_law_pairs_so"] (defScope s_Lone) := ⟨rfl, rfl, rfl, by decide +kernel, rfl, by decide +kernel, by decide +kernel⟩
theorem F_Lone (T : Tx w K mg) : Fn P w K mg base 2 d_Lone ["_law_pairs_so"] (Pure1 (fun u : Ls Sn => u.val.length ≤ 1000 ∧ Asc u.val) fun u => CM.fill 0 u.val) := by
  have F_Lrising : Fn P w K mg base 1 d_Lrising ["_law_pairs_so"] _ := F_Lrising T
  refine mk_pure1 T.f_Lone sc_Lone (fun _ _ _ _ _ _ _ => rfl) (fun cdv A outer s H Q E hr v a hv ha kk => ⟨_, (pss_cons (ps_set (i := 1) sc_Lone.nd rfl (Or.inl rfl) (pe_lst pa_nil))
  (pss_cons (ps_for PassesOwn.never rfl (pi_list (pe_fn F_Lrising (hr.mono (by decide)) T.g_Lrising (pa_cons (pv 0) pa_nil))) (pg_tup rfl (pgs_cons (pg_name (i := 2) sc_Lone.nd rfl (Or.inl rfl)) (pgs_cons (pg_name (i := 3) sc_Lone.nd rfl (Or.inl rfl)) pgs_nil)))
  (pss_one (ps_if (PW.pt (pw_and (pt_cmpR (op_neD hr.units) (pv 1) (pe_lst pa_nil) (nomark _)) (pw_and1 (pt_cmpR op_le (pv 2) (pe_ix ix_tup (pe_ix ix_list (pv 1) (pe_un un_neg pe_int) (fun _ _ => rfl)) pe_int (fun _ _ => rfl)) (nomark _)))))
  (pss_one (ps_asg (pe_tup (pa_cons (pe_ix ix_tup (pe_ix ix_list (pv 1) (pe_un un_neg pe_int) (fun _ _ => rfl)) pe_int (fun _ _ => rfl)) (pa_cons (pe_callB (call_max2 rfl) (by rfl) T.b_max (by decide +kernel) (pa_cons (pe_ix ix_tup (pe_ix ix_list (pv 1) (pe_un un_neg pe_int) (fun _ _ => rfl)) pe_int (fun _ _ => rfl)) (pa_cons (pv 3) pa_nil))) pa_nil))) (pg_sub (pv 1) (pe_un un_neg pe_int) set_list)))
  (pss_one (ps_expr (pe_bm PySem.F.plainAttrs_list PySem.F.slot_list_append PySem.F.type_list_append mt_append (pv 1) (pa_cons (pe_tup (pa_cons (pv 2) (pa_cons (pv 3) pa_nil))) pa_nil)))))))
  (pss_one (ps_ret (pe_callTy call_tuple_of (by rfl) T.b_tuple (by decide +kernel) (pa_cons (pv 1) pa_nil)))))), ?_⟩)
  refine s_newL fun l H1 hl e1 s1 => ?_
  have L1 : Lat H1 l ([] : List Sn) := by rw [e1]; exact Lat.new
  obtain ⟨ys0, hy0⟩ := L1.at
  refine s_forL (il_rising hy0 (ev_var rfl (Rp.mono s1 hv)) ha) (fun r σ' H' => ∃ (y2 y3 : Option V) (found : List Sn), σ' = [some v, some (.ref l), y2, y3] ∧ Lat H' l found ∧ found.length + r.length ≤ 1000 ∧ Asc r ∧ FillInv 0 a.val r found)
    (fun H2 s2 => ⟨none, none, [], rfl, L1.up s2, by simpa using ha.1, ha.2, .inl ⟨rfl, rfl⟩⟩) ?_ ?_
  · rintro H2 s2 x r u σ' H' H0 hx s0 sd ⟨y2, y3, found, rfl, L0, hz, hA, hf⟩ hu
    have L' := L0.up s0
    refine g_pair hu fun p q hp hq => ?_
    have hz' : found.length + 1 + r.length ≤ 1000 := by rw [List.length_cons] at hz; omega
    have hA2 := (asc_cons hA).2
    cases hlast : found.getLast? with
    | none =>
      have ef : found = [] := List.getLast?_eq_none_iff.mp hlast
      refine s_ifP (p := False) ((et_and (a := false) (b := false) (et_B ((ev_neNilL (as := found) (ev_var rfl L'.is)).eq (by rw [ef]; rfl))) fun z => by cases z).eq (by simp)) (fun z => z.elim) fun _ H3 s3 => ?_
      refine s_appL rfl (L'.up s3) (a := x) (by walk_at "ev") (small_line (by omega)) fun H5 L5 sd5 kp5 => ⟨⟨_, _, found ++ [x], rfl, L5, by rw [List.length_append, List.length_singleton]; exact hz', hA2, ?_⟩, dl_trans (sd.trans s3) sd5⟩
      rw [ef] at hf ⊢
      exact fillInv_first hf hA
    | some last =>
      have hpos : found ≠ [] := fun e => by rw [e] at hlast; cases hlast
      have es := last_split hlast
      have hlv := ev_last (K := K) (σ := [some v, some (.ref l), some p, some q]) (i := 1) rfl L' hlast
      refine s_ifP (p := x.1 ≤ last.2) ((et_and (a := true) (b := decide (x.1 ≤ last.2)) (et_B ((ev_neNilL (as := found) (ev_var rfl L'.is)).eq (by cases found with | nil => exact absurd rfl hpos | cons _ _ => rfl))) fun _ => et_B (ev_opB (by walk_at "ev") (ev_snd hlv))).eq (by simp)) (fun c H3 s3 => ?_) fun c H3 s3 => ?_
      · have L3 := L'.up s3
        refine s_setL rfl L3 (a := (last.1, max last.2 x.2)) (ev_tup2 (ev_fst (ev_last rfl L3 hlast)) (ev_max2 rfl (ev_snd (ev_last rfl L3 hlast)) (by walk_at "ev"))) hpos fun H5 L5 sd5 kp5 => ⟨⟨_, _, found.dropLast ++ [(last.1, max last.2 x.2)], rfl, L5, by rw [List.length_append, List.length_singleton, List.length_dropLast]; omega, hA2, ?_⟩, dl_trans (sd.trans s3) sd5⟩
        rw [es] at hf
        obtain ⟨f1, f2⟩ := fillInv_join hf hA (by omega)
        rw [show max last.2 x.2 = x.2 by omega]
        exact f1
      · have L3 := L'.up s3
        refine s_appL rfl L3 (a := x) (by walk_at "ev") (small_line (by omega)) fun H5 L5 sd5 kp5 => ⟨⟨_, _, found ++ [x], rfl, L5, by rw [List.length_append, List.length_singleton]; exact hz', hA2, ?_⟩, dl_trans (sd.trans s3) sd5⟩
        rw [es] at hf ⊢
        exact fillInv_new hf hA (by omega)
  · rintro H2 s2 σ' H' sd ⟨y2, y3, found, rfl, L0, hz, hA, hf⟩
    have hl' := L0.is
    have hH : Same H H' := (same_dl (s1.trans s2) hl).trans sd
    exact s_ret (a := CM.fill 0 a.val) ((ev_tuple rfl (ev_var rfl hl')).eq (fillInv_end hf)) fun u H3 s3 hu => kk _ _ (hH.trans s3) hu
end Cf
set_option Elab.async false
set_option linter.all false
set_option maxRecDepth 100000
set_option maxHeartbeats 4000000
namespace Cf
open PySem PySem.Spec PyProof.Rows L2 Cs
local macro_rules | `(tactic| walk_at "lf") => `(tactic| first
  | assumption
  | exact rfl
  | exact Rp.mono (by assumption) (by assumption)
  | exact Rp.mono (Same.trans (by assumption) (by assumption)) (by assumption)
  | exact RpK.monoK (by assumption) (by assumption))
local macro_rules | `(tactic| walk_at "ev") => `(tactic| first
  | with_reducible exact ev_int
  | with_reducible exact ev_bl
  | with_reducible exact ev_fill
  | with_reducible exact ev_drop
  | with_reducible exact ev_str
  | ((with_reducible refine' ev_var ?hs ?hv); (case hs => exact rfl); (case hv => walk_at "lf"))
  | ((with_reducible refine' ev_opI ?ha ?hb); (case ha => walk_at "ev"); (case hb => walk_at "ev"))
  | ((with_reducible refine' ev_opB ?ha ?hb); (case ha => walk_at "ev"); (case hb => walk_at "ev"))
  | ((with_reducible refine' ev_opC ?ha ?hb ?hc); (case ha => walk_at "ev"); (case hb => walk_at "ev"); (case hc => first | assumption | skip))
  | ((with_reducible refine' ev_un ?ha); (case ha => walk_at "ev"))
  | ((with_reducible refine' ev_eqK ?ha ?hb); (case ha => walk_at "ev"); (case hb => walk_at "ev"))
  | ((with_reducible refine' ev_eqI ?ha ?hb); (case ha => walk_at "ev"); (case hb => walk_at "ev"))
  | ((with_reducible refine' ev_eqS ?ha ?hb); (case ha => walk_at "ev"); (case hb => walk_at "ev"))
  | ((with_reducible refine' ev_neK ?ha ?hb); (case ha => walk_at "ev"); (case hb => walk_at "ev"))
  | ((with_reducible refine' ev_neI ?ha ?hb); (case ha => walk_at "ev"); (case hb => walk_at "ev"))
  | ((with_reducible refine' ev_neS ?ha ?hb); (case ha => walk_at "ev"); (case hb => walk_at "ev"))
  | ((with_reducible refine' ev_tup2 ?ha ?hb); (case ha => walk_at "ev"); (case hb => walk_at "ev"))
  | ((with_reducible refine' ev_tup1 ?ha); (case ha => walk_at "ev"))
  | with_reducible exact ev_tup0
  | ((with_reducible refine' ev_fst ?ha); (case ha => walk_at "ev"))
  | ((with_reducible refine' ev_snd ?ha); (case ha => walk_at "ev"))
  | ((with_reducible refine' ev_max2 rfl ?ha ?hb); (case ha => walk_at "ev"); (case hb => walk_at "ev"))
  | ((with_reducible refine' ev_min2 rfl ?ha ?hb); (case ha => walk_at "ev"); (case hb => walk_at "ev"))
  | ((with_reducible refine' ev_abs rfl ?ha); (case ha => walk_at "ev"))
  | ((with_reducible refine' ev_intI rfl ?ha); (case ha => walk_at "ev"))
  | ((with_reducible refine' ev_intB rfl ?ha); (case ha => walk_at "ev"))
  | ((with_reducible refine' ev_len rfl ?ha); (case ha => walk_at "ev"))
  | ((with_reducible refine' ev_lenL rfl ?ha); (case ha => walk_at "ev"))
  | ((with_reducible refine' ev_tuple rfl ?ha); (case ha => walk_at "ev"))
  | ((with_reducible refine' ev_sum ?ha); (case ha => walk_at "ev"))
  | ((with_reducible refine' ev_chain ?ha ?hb ?hc); (case ha => walk_at "ev"); (case hb => walk_at "ev"); (case hc => walk_at "ev"))
  | ((with_reducible refine' et_test ?ha); (case ha => walk_at "ev"))
  | ((with_reducible refine' et_B ?ha); (case ha => walk_at "ev"))
  | ((with_reducible refine' et_not ?ha); (case ha => walk_at "ev"))
  | ((with_reducible refine' ev_not ?ha); (case ha => walk_at "ev"))
  | ((with_reducible refine' et_and ?ha ?hb); (case ha => walk_at "ev"); (case hb => intro _; walk_at "ev"))
  | ((with_reducible refine' et_or ?ha ?hb); (case ha => walk_at "ev"); (case hb => intro _; walk_at "ev"))
  | ((with_reducible refine' ev_and ?ha ?hb); (case ha => walk_at "ev"); (case hb => intro _; walk_at "ev"))
  | ((with_reducible refine' ev_or ?ha ?hb); (case ha => walk_at "ev"); (case hb => intro _; walk_at "ev"))
  | ((with_reducible refine' ev_call1 ?ha ?hp); (case ha => walk_at "ev"); (case hp => first | assumption | trivial))
  | ((with_reducible refine' ev_call2 ?ha ?hb ?hp); (case ha => walk_at "ev"); (case hb => walk_at "ev"); (case hp => first | assumption | trivial))
  | ((with_reducible refine' ev_call3 ?ha ?hb ?hc ?hp); (case ha => walk_at "ev"); (case hb => walk_at "ev"); (case hc => walk_at "ev"); (case hp => first | assumption | trivial)))
variable {P : Program} {w : World} {K : PySem.W.Frag} {mg : Str → Option Value} {base : Heap}
theorem asc_mov {X : List Sn} (h : Asc X) {a b : Int} (hab : ∀ x ∈ X, x.1 + a < x.2 + b) : Asc (CM.mov a b X) := by
  refine ⟨fun x hx => ?_, List.pairwise_map.mpr (h.2.imp fun q => ?_)⟩
  · obtain ⟨y, hy, rfl⟩ := List.mem_map.mp hx
    exact hab y hy
  · show _ + a < _ + a ∧ _ + b ≤ _ + b
    omega
theorem sc_Lmade : FnScope ["_law_line_here", "_law_track", "_law_sort_so", "_law_nums_so", "_law_wide_so", "_law_low", "_law_high"] ["_law_line_here", "_law_track"] (defScope s_Lmade) := ⟨rfl, rfl, rfl, by decide +kernel, rfl, by decide +kernel, by decide +kernel⟩
abbrev MadePre (p : List Stp) (X : List Sn) : Prop := (∀ s ∈ p, s.ok) ∧ X.length ≤ 1000 ∧ CM.Good 0 0 X
theorem F_Lmade (T : Tx w K mg) : Fn P w K mg base 3 d_Lmade ["_law_line_here", "_law_track"] (Pure2 MadePre CM.pipe) := by
  have F_Lone : Fn P w K mg base 2 d_Lone ["_law_pairs_so"] _ := F_Lone T
  refine mk_pure2 T.f_Lmade sc_Lmade (fun _ _ _ _ _ _ _ _ => rfl) (fun cdv A outer s H Q E hr v v1 p X0 hv h1 ha kk => ⟨_, (pss_cons (ps_for PassesOwn.never rfl (pi_tup (pv 0)) (pg_tup rfl (pgs_cons (pg_name (i := 2) sc_Lmade.nd rfl (Or.inl rfl)) (pgs_cons (pg_name (i := 3) sc_Lmade.nd rfl (Or.inr rfl)) pgs_nil)))
  (pss_one (ps_if (pt_cmpR op_eq (pv 2) pe_str (nomark _))
  (pss_cons (ps_set (i := 4) sc_Lmade.nd rfl (Or.inl rfl) (pe_fn F_Lone (hr.mono (by decide)) T.g_Lone (pa_cons (pe_lc (own := [("_law_low", 5), ("_law_high", 6)]) (g := (gTup K 2 (gCons (gName 5) (gCons (gName 6) gNil)))) rfl sc_Lmade.nd (pi_tup (pv 1)) (blkOk_by (own := [("_law_low", 5), ("_law_high", 6)]) (N := ["_law_line_here", "_law_track", "_law_sort_so", "_law_nums_so", "_law_wide_so", "_law_low", "_law_high"]) (sc := defScope s_Lmade) (by decide +kernel)) (fun _ _ _ _ _ => (pg_tup rfl (pgs_cons (pg_name (i := 5) sc_Lmade.nd rfl (Or.inl rfl)) (pgs_cons (pg_name (i := 6) sc_Lmade.nd rfl (Or.inl rfl)) pgs_nil)))) (fun _ _ _ _ _ => pts_nil) (fun _ _ _ _ _ => (pe_tup (pa_cons (pv 5) (pa_cons (pe_op op_add (pv 6) (pe_ix (ix_tupK (K := K) rfl) (pv 3) pe_int (fun _ _ => rfl))) pa_nil))))) pa_nil)))
  (pss_one (ps_set (i := 1) sc_Lmade.nd rfl (Or.inl rfl) (pe_callTy call_tuple_of (by rfl) T.b_tuple (by decide +kernel) (pa_cons (pe_lc (own := [("_law_low", 5), ("_law_high", 6)]) (g := (gTup K 2 (gCons (gName 5) (gCons (gName 6) gNil)))) rfl sc_Lmade.nd (pi_tup (pv 4)) (blkOk_by (own := [("_law_low", 5), ("_law_high", 6)]) (N := ["_law_line_here", "_law_track", "_law_sort_so", "_law_nums_so", "_law_wide_so", "_law_low", "_law_high"]) (sc := defScope s_Lmade) (by decide +kernel)) (fun _ _ _ _ _ => (pg_tup rfl (pgs_cons (pg_name (i := 5) sc_Lmade.nd rfl (Or.inl rfl)) (pgs_cons (pg_name (i := 6) sc_Lmade.nd rfl (Or.inl rfl)) pgs_nil)))) (fun _ _ _ _ _ => pts_nil) (fun _ _ _ _ _ => (pe_tup (pa_cons (pv 5) (pa_cons (pe_op op_sub (pv 6) (pe_ix (ix_tupK (K := K) rfl) (pv 3) pe_int (fun _ _ => rfl))) pa_nil))))) pa_nil)))))
  (pss_one (ps_if (pt_cmpR op_eq (pv 2) pe_str (nomark _))
  (pss_one (ps_set (i := 1) sc_Lmade.nd rfl (Or.inl rfl) (pe_callTy call_tuple_of (by rfl) T.b_tuple (by decide +kernel) (pa_cons (pe_lc (own := [("_law_low", 5), ("_law_high", 6)]) (g := (gTup K 2 (gCons (gName 5) (gCons (gName 6) gNil)))) rfl sc_Lmade.nd (pi_tup (pv 1)) (blkOk_by (own := [("_law_low", 5), ("_law_high", 6)]) (N := ["_law_line_here", "_law_track", "_law_sort_so", "_law_nums_so", "_law_wide_so", "_law_low", "_law_high"]) (sc := defScope s_Lmade) (by decide +kernel)) (fun _ _ _ _ _ => (pg_tup rfl (pgs_cons (pg_name (i := 5) sc_Lmade.nd rfl (Or.inl rfl)) (pgs_cons (pg_name (i := 6) sc_Lmade.nd rfl (Or.inl rfl)) pgs_nil)))) (fun _ _ _ _ _ => (pts_one (pt_cmpR op_gt (pe_op op_sub (pv 6) (pv 5)) (pe_ix (ix_tupK (K := K) rfl) (pv 3) pe_int (fun _ _ => rfl)) (nomark _)))) (fun _ _ _ _ _ => (pe_tup (pa_cons (pv 5) (pa_cons (pv 6) pa_nil))))) pa_nil))))
  (pss_one (ps_if (pt_cmpR op_eq (pv 2) pe_str (nomark _))
  (pss_one (ps_set (i := 1) sc_Lmade.nd rfl (Or.inl rfl) (pe_callTy call_tuple_of (by rfl) T.b_tuple (by decide +kernel) (pa_cons (pe_lc (own := [("_law_low", 5), ("_law_high", 6)]) (g := (gTup K 2 (gCons (gName 5) (gCons (gName 6) gNil)))) rfl sc_Lmade.nd (pi_tup (pv 1)) (blkOk_by (own := [("_law_low", 5), ("_law_high", 6)]) (N := ["_law_line_here", "_law_track", "_law_sort_so", "_law_nums_so", "_law_wide_so", "_law_low", "_law_high"]) (sc := defScope s_Lmade) (by decide +kernel)) (fun _ _ _ _ _ => (pg_tup rfl (pgs_cons (pg_name (i := 5) sc_Lmade.nd rfl (Or.inl rfl)) (pgs_cons (pg_name (i := 6) sc_Lmade.nd rfl (Or.inl rfl)) pgs_nil)))) (fun _ _ _ _ _ => pts_nil) (fun _ _ _ _ _ => (pe_tup (pa_cons (pe_op op_add (pv 5) (pe_ix (ix_tupK (K := K) rfl) (pv 3) pe_int (fun _ _ => rfl))) (pa_cons (pe_op op_add (pv 6) (pe_ix (ix_tupK (K := K) rfl) (pv 3) pe_int (fun _ _ => rfl))) pa_nil))))) pa_nil))))
  (pss_one (ps_if (pt_cmpR op_eq (pv 2) pe_str (nomark _))
  (pss_one (ps_set (i := 1) sc_Lmade.nd rfl (Or.inl rfl) (pe_fn F_Lone (hr.mono (by decide)) T.g_Lone (pa_cons (pe_lc (own := [("_law_low", 5), ("_law_high", 6)]) (g := (gTup K 2 (gCons (gName 5) (gCons (gName 6) gNil)))) rfl sc_Lmade.nd (pi_tup (pv 1)) (blkOk_by (own := [("_law_low", 5), ("_law_high", 6)]) (N := ["_law_line_here", "_law_track", "_law_sort_so", "_law_nums_so", "_law_wide_so", "_law_low", "_law_high"]) (sc := defScope s_Lmade) (by decide +kernel)) (fun _ _ _ _ _ => (pg_tup rfl (pgs_cons (pg_name (i := 5) sc_Lmade.nd rfl (Or.inl rfl)) (pgs_cons (pg_name (i := 6) sc_Lmade.nd rfl (Or.inl rfl)) pgs_nil)))) (fun _ _ _ _ _ => pts_nil) (fun _ _ _ _ _ => (pe_tup (pa_cons (pe_op op_sub (pv 5) (pe_ix (ix_tupK (K := K) rfl) (pv 3) pe_int (fun _ _ => rfl))) (pa_cons (pe_op op_add (pv 6) (pe_ix (ix_tupK (K := K) rfl) (pv 3) pe_int (fun _ _ => rfl))) pa_nil))))) pa_nil))))
  (pss_one (ps_set (i := 1) sc_Lmade.nd rfl (Or.inl rfl) (pe_callTy call_tuple_of (by rfl) T.b_tuple (by decide +kernel) (pa_cons (pe_lc (own := [("_law_low", 5), ("_law_high", 6)]) (g := (gTup K 2 (gCons (gName 5) (gCons (gName 6) gNil)))) rfl sc_Lmade.nd (pi_tup (pv 1)) (blkOk_by (own := [("_law_low", 5), ("_law_high", 6)]) (N := ["_law_line_here", "_law_track", "_law_sort_so", "_law_nums_so", "_law_wide_so", "_law_low", "_law_high"]) (sc := defScope s_Lmade) (by decide +kernel)) (fun _ _ _ _ _ => (pg_tup rfl (pgs_cons (pg_name (i := 5) sc_Lmade.nd rfl (Or.inl rfl)) (pgs_cons (pg_name (i := 6) sc_Lmade.nd rfl (Or.inl rfl)) pgs_nil)))) (fun _ _ _ _ _ => (pts_one (pt_cmpR op_gt (pe_op op_sub (pv 6) (pv 5)) (pe_callB (cr_sumTK (K := K) rfl rfl) (by rfl) T.b_sum (by decide +kernel) (pa_cons (pv 3) pa_nil)) (nomark _)))) (fun _ _ _ _ _ => (pe_tup (pa_cons (pe_op op_add (pv 5) (pe_ix (ix_tupK (K := K) rfl) (pv 3) pe_int (fun _ _ => rfl))) (pa_cons (pe_op op_sub (pv 6) (pe_ix (ix_tupK (K := K) rfl) (pv 3) pe_int (fun _ _ => rfl))) pa_nil))))) pa_nil)))))))))))))
  (pss_one (ps_ret (pv 1)))), ?_⟩)
  obtain ⟨ok, hl, g⟩ := ha
  refine s_forS (iw_tup (ev_var rfl hv)) (fun r σ' H' => ∃ (y2 y3 y4 y5 y6 : Option V) (vt : V) (X : List Sn), σ' = [some v, some vt, y2, y3, y4, y5, y6] ∧ Rp.is H' vt X ∧ X.length ≤ 1000 ∧ CM.Good 0 0 X ∧ (∀ s ∈ r, s.ok) ∧ CM.pipe r X = CM.pipe p X0)
    (fun H2 s2 => ⟨none, none, none, none, none, v1, X0, rfl, Rp.mono s2 h1, hl, g, ok, rfl⟩) ?_ ?_
  · rintro H2 s2 x r u σ' H' H0 hx s0 sd ⟨y2, y3, y4, y5, y6, vt, X, rfl, ht, hlX, gX, okr, hf⟩ hu
    have ht' := Rp.mono s0 ht
    have okx := okr x (.head _)
    have okr' : ∀ s ∈ r, s.ok := fun s hs => okr s (.tail _ hs)
    have gS := CM.stepF_good okx gX
    have lS := Nat.le_trans (step_len x X) hlX
    refine g_stp hu fun y hy => ?_
    have kd : ∀ {H'' : Hp} {z : Str}, EtR (tB (tOp rEq (tVar 2) (tC (.str z)))) [some v, some vt, some (.str (kindS x)), some y, y4, y5, y6] H'' (decide (kindS x = z)) := et_B (ev_eqS (ev_var rfl rfl) ev_str)
    cases x with
    | fill n =>
      refine s_if (b := true) (kd.eq (kd_fill _)) (fun _ H3 s3 => ?_) (fun c => by cases c)
      have hy3 := Rp.mono s3 hy
      have ht3 := Rp.mono s3 ht'
      have okn : 0 ≤ n := okx
      have am : Asc (CM.mov 0 n X) := asc_mov (asc_good gX) fun x hx => by have := gX.1 x hx; omega
      refine q_asg (a := CM.fill 0 (CM.mov 0 n X)) (ev_call1 (f := fun u : Ls Sn => CM.fill 0 u.val) (a := ⟨CM.mov 0 n X⟩) ((ev_lcM (fun x : Sn => (x.1, x.2 + n)) (iw_tup (ev_var rfl ht3)) (small_line (by omega)) (fun x u H4 s4 hx hu => g_pair hu fun a b ha hb => ⟨rfl, Same.refl _, ev_tup2 (ev_var rfl ha) (ev_opI (ev_var rfl hb) (ev_num (n := 0) (ev_var rfl (Rp.mono s4 hy3)) rfl rfl))⟩) gm_pair).eq (congrArg Ls.mk (List.map_congr_left fun x _ => by rw [Int.add_zero]))) ⟨by show (CM.mov 0 n X).length ≤ _; rw [mov_len]; exact hlX, am⟩) fun v4 H4 s4 hv4 => ?_
      have hy4 := Rp.mono s4 hy3
      have lw : (CM.fill 0 (CM.mov 0 n X)).length ≤ 1000 := by
        have := fill_len 0 (CM.mov 0 n X)
        rw [mov_len] at this
        omega
      have ew : CM.mov 0 (-n) (CM.fill 0 (CM.mov 0 n X)) = CM.fill n X := by
        rw [CM.fill_mov, CM.mov_mov, show (0 : Int) + n - 0 = n by omega, show (0 : Int) + 0 = 0 by rfl, show n + -n = 0 by omega, CM.mov_zero]
      refine s_asg (a := CM.fill n X) (ev_tuple (as := ⟨CM.fill n X⟩) rfl ((ev_lcM (fun x : Sn => (x.1, x.2 - n)) (iw_tup (ev_var rfl hv4)) (small_line (by omega)) (fun x u H5 s5 hx hu => g_pair hu fun a b ha hb => ⟨rfl, Same.refl _, ev_tup2 (ev_var rfl ha) (ev_opI (ev_var rfl hb) (ev_num (n := 0) (ev_var rfl (Rp.mono s5 hy4)) rfl rfl))⟩) gm_pair).eq (congrArg Ls.mk (by rw [← ew]; exact List.map_congr_left fun x _ => by rw [Int.add_zero]; rfl)))) fun v5 H5 s5 hv5 => ?_
      exact ⟨⟨_, _, _, _, _, v5, CM.fill n X, rfl, hv5, lS, gS, okr', hf⟩, ((sd.trans s3).trans s4).trans s5⟩
    | drop n =>
      refine s_if (b := false) (kd.eq (kd_fill _)) (fun c => by cases c) (fun _ H2 s2 => ?_)
      refine s_if (b := true) (kd.eq (kd_drop _)) (fun _ H3 s3' => ?_) (fun c => by cases c)
      have s3 := s2.trans s3'
      have hy3 := Rp.mono s3 hy
      have ht3 := Rp.mono s3 ht'
      refine s_asg (a := CM.drp n X) (ev_tuple (as := ⟨CM.drp n X⟩) rfl ((ev_lc (fun x : Sn => decide (n < x.2 - x.1)) (fun x : Sn => (x.1, x.2)) (iw_tup (ev_var rfl ht3)) (small_line (by omega)) (fun x u H5 s5 hx hu => g_pair hu fun a b ha hb => ⟨rfl, Same.refl _, et_B (ev_opB (f := fun i j => decide (j < i)) (ev_opI (ev_var rfl hb) (ev_var rfl ha)) (ev_num (n := 0) (ev_var rfl (Rp.mono s5 hy3)) rfl rfl)), fun _ => ev_tup2 (ev_var rfl ha) (ev_var rfl hb)⟩) gm_pair).eq (congrArg Ls.mk (List.map_id _)))) fun v5 H5 s5 hv5 => ?_
      exact ⟨⟨_, _, _, _, _, v5, CM.drp n X, rfl, hv5, lS, gS, okr', hf⟩, (sd.trans s3).trans s5⟩
    | shift n =>
      refine s_if (b := false) (kd.eq (kd_fill _)) (fun c => by cases c) (fun _ H2 s2 => ?_)
      refine s_if (b := false) (kd.eq (kd_drop _)) (fun c => by cases c) (fun _ H2' s2' => ?_)
      refine s_if (b := true) (kd.eq (kd_shift _)) (fun _ H3 s3' => ?_) (fun c => by cases c)
      have s3 := (s2.trans s2').trans s3'
      have hy3 := Rp.mono s3 hy
      have ht3 := Rp.mono s3 ht'
      refine s_asg (a := CM.mov n n X) (ev_tuple (as := ⟨CM.mov n n X⟩) rfl (ev_lcM (fun x : Sn => (x.1 + n, x.2 + n)) (iw_tup (ev_var rfl ht3)) (small_line (by omega)) (fun x u H5 s5 hx hu => g_pair hu fun a b ha hb => ⟨rfl, Same.refl _, ev_tup2 (ev_opI (ev_var rfl ha) (ev_num (n := 0) (ev_var rfl (Rp.mono s5 hy3)) rfl rfl)) (ev_opI (ev_var rfl hb) (ev_num (n := 0) (ev_var rfl (Rp.mono s5 hy3)) rfl rfl))⟩) gm_pair)) fun v5 H5 s5 hv5 => ?_
      exact ⟨⟨_, _, _, _, _, v5, CM.mov n n X, rfl, hv5, lS, gS, okr', hf⟩, (sd.trans s3).trans s5⟩
    | widen m n =>
      refine s_if (b := false) (kd.eq (kd_fill _)) (fun c => by cases c) (fun _ H2 s2 => ?_)
      refine s_if (b := false) (kd.eq (kd_drop _)) (fun c => by cases c) (fun _ H2' s2' => ?_)
      refine s_if (b := false) (kd.eq (kd_shift _)) (fun c => by cases c) (fun _ H2'' s2'' => ?_)
      refine s_if (b := true) (kd.eq (kd_widen _)) (fun _ H3 s3' => ?_) (fun c => by cases c)
      have s3 := ((s2.trans s2').trans s2'').trans s3'
      have hy3 := Rp.mono s3 hy
      have ht3 := Rp.mono s3 ht'
      have am : Asc (CM.mov (-m) n X) := asc_mov (asc_good gX) fun x hx => by have := gX.1 x hx; have := okx.1; have := okx.2; omega
      refine s_asg (a := CM.fill 0 (CM.mov (-m) n X)) (ev_call1 (f := fun u : Ls Sn => CM.fill 0 u.val) (a := ⟨CM.mov (-m) n X⟩) ((ev_lcM (fun x : Sn => (x.1 - m, x.2 + n)) (iw_tup (ev_var rfl ht3)) (small_line (by omega)) (fun x u H5 s5 hx hu => g_pair hu fun a b ha hb => ⟨rfl, Same.refl _, ev_tup2 (ev_opI (ev_var rfl ha) (ev_num (n := 0) (ev_var rfl (Rp.mono s5 hy3)) rfl rfl)) (ev_opI (ev_var rfl hb) (ev_num (n := 1) (ev_var rfl (Rp.mono s5 hy3)) rfl rfl))⟩) gm_pair).eq rfl) ⟨by show (CM.mov (-m) n X).length ≤ _; rw [mov_len]; exact hlX, am⟩) fun v5 H5 s5 hv5 => ?_
      exact ⟨⟨_, _, _, _, _, v5, CM.fill 0 (CM.mov (-m) n X), rfl, hv5, lS, gS, okr', hf⟩, (sd.trans s3).trans s5⟩
    | trim m n =>
      refine s_if (b := false) (kd.eq (kd_fill _)) (fun c => by cases c) (fun _ H2 s2 => ?_)
      refine s_if (b := false) (kd.eq (kd_drop _)) (fun c => by cases c) (fun _ H2' s2' => ?_)
      refine s_if (b := false) (kd.eq (kd_shift _)) (fun c => by cases c) (fun _ H2'' s2'' => ?_)
      refine s_if (b := false) (kd.eq (kd_widen _)) (fun c => by cases c) (fun _ H3 s3' => ?_)
      have s3 := ((s2.trans s2').trans s2'').trans s3'
      have hy3 := Rp.mono s3 hy
      have ht3 := Rp.mono s3 ht'
      refine s_asg (a := CM.mov m (-n) (CM.drp (m + n) X)) (ev_tuple (as := ⟨CM.mov m (-n) (CM.drp (m + n) X)⟩) rfl ((ev_lc (fun x : Sn => decide (m + (n + 0) < x.2 - x.1)) (fun x : Sn => (x.1 + m, x.2 - n)) (iw_tup (ev_var rfl ht3)) (small_line (by omega)) (fun x u H5 s5 hx hu => g_pair hu fun a b ha hb => ⟨rfl, Same.refl _, et_B (ev_opB (f := fun i j => decide (j < i)) (ev_opI (ev_var rfl hb) (ev_var rfl ha)) (ev_sumT (as := [m, n]) (ev_var rfl (Rp.mono s5 hy3)))), fun _ => ev_tup2 (ev_opI (ev_var rfl ha) (ev_num (n := 0) (ev_var rfl (Rp.mono s5 hy3)) rfl rfl)) (ev_opI (ev_var rfl hb) (ev_num (n := 1) (ev_var rfl (Rp.mono s5 hy3)) rfl rfl))⟩) gm_pair).eq (congrArg Ls.mk (by rw [Int.add_zero]; rfl)))) fun v5 H5 s5 hv5 => ?_
      exact ⟨⟨_, _, _, _, _, v5, _, rfl, hv5, lS, gS, okr', hf⟩, (sd.trans s3).trans s5⟩
  · rintro H2 s2 σ' H' sd ⟨y2, y3, y4, y5, y6, vt, X, rfl, ht, hlX, gX, okr, hf⟩
    have e : X = CM.pipe p X0 := hf
    subst e
    exact s_ret (a := CM.pipe p X0) (ev_var rfl ht) fun u H3 s3 hu => kk _ _ ((s2.trans sd).trans s3) hu
theorem sc_Lis_in : FnScope ["_law_track", "_law_far", "_law_low", "_law_high", "_law_one_so", "_law_two_so"] ["_law_track", "_law_far"] (defScope s_Lis_in) := ⟨rfl, rfl, rfl, by decide +kernel, rfl, by decide +kernel, by decide +kernel⟩
def inM (X Y : List Sn) : Bool := (X.map fun x => (Y.map fun y => decide (y.1 ≤ x.1) && decide (x.2 ≤ y.2)).any id).all id
theorem inM_iff (X Y : List Sn) : inM X Y = true ↔ CM.Sub X Y := by
  unfold inM CM.Sub
  rw [List.all_eq_true]
  constructor
  · intro h x hx
    have := h _ (List.mem_map.mpr ⟨x, hx, rfl⟩)
    obtain ⟨b, hb, hb2⟩ := List.any_eq_true.mp this
    obtain ⟨y, hy, rfl⟩ := List.mem_map.mp hb
    have h3 : (decide (y.1 ≤ x.1) && decide (x.2 ≤ y.2)) = true := hb2
    rw [Bool.and_eq_true, decide_eq_true_eq, decide_eq_true_eq] at h3
    exact ⟨y, hy, h3⟩
  · intro h b hb
    obtain ⟨x, hx, rfl⟩ := List.mem_map.mp hb
    obtain ⟨y, hy, h1, h2⟩ := h x hx
    refine List.any_eq_true.mpr ⟨_, List.mem_map.mpr ⟨y, hy, rfl⟩, ?_⟩
    show (decide (y.1 ≤ x.1) && decide (x.2 ≤ y.2)) = true
    rw [Bool.and_eq_true, decide_eq_true_eq, decide_eq_true_eq]
    exact ⟨h1, h2⟩
def SCIN : Scope := { kind := .function, names := [((".0" : Str), .local), (("_law_one_so" : Str), .cell), (("_law_two_so" : Str), .cell), (("any" : Str), .globalImplicit), (("_law_far" : Str), .cell)], isGenerator := false, isCoroutine := false, more := [] }
theorem F_Lis_in (T : Tx w K mg) : Fn P w K mg base 1 d_Lis_in ["_law_track", "_law_far"] (Pure2 (fun X Y : List Sn => X.length ≤ 1000 ∧ Y.length ≤ 1000) inM) := by
  refine mk_pure2 T.f_Lis_in sc_Lis_in (fun _ _ _ _ _ _ _ _ => rfl) (fun cdv A outer s H Q E hr v v1 X Y hv h1 ha kk => ⟨_, (pss_one (ps_ret (pe_callB (cr_all rfl) (by rfl) T.b_all (by decide +kernel) (pa_cons (pe_lc (own := [("_law_one_so", 4), ("_law_two_so", 5)]) (g := (gTup K 2 (gCons (gName 4) (gCons (gName 5) gNil)))) rfl sc_Lis_in.nd (pi_tup (pv 0)) (blkOk_by (own := [("_law_one_so", 4), ("_law_two_so", 5)]) (N := ["_law_track", "_law_far", "_law_low", "_law_high", "_law_one_so", "_law_two_so"]) (sc := defScope s_Lis_in) (by decide +kernel)) (fun _ _ _ _ _ => (pg_tup rfl (pgs_cons (pg_name (i := 4) sc_Lis_in.nd rfl (Or.inr rfl)) (pgs_cons (pg_name (i := 5) sc_Lis_in.nd rfl (Or.inr rfl)) pgs_nil)))) (fun _ _ _ _ _ => pts_nil) (fun _ _ _ _ _ => (pe_callB (cr_anyK (K := K) rfl rfl) (by rfl) T.b_any (by decide +kernel) (pa_cons (pe_lc (own := [("_law_low", 2), ("_law_high", 3)]) (g := (gTup K 2 (gCons (gName 2) (gCons (gName 3) gNil)))) rfl sc_Lis_in.nd (pi_tupK (K := K) rfl (pv 1)) (blkOk_by (own := [("_law_low", 2), ("_law_high", 3)]) (N := ["_law_track", "_law_far", "_law_low", "_law_high", "_law_one_so", "_law_two_so"]) (sc := SCIN) (by decide +kernel)) (fun _ _ _ _ _ => (pg_tup rfl (pgs_cons (pg_name (i := 2) sc_Lis_in.nd rfl (Or.inl rfl)) (pgs_cons (pg_name (i := 3) sc_Lis_in.nd rfl (Or.inl rfl)) pgs_nil)))) (fun _ _ _ _ _ => pts_nil) (fun _ _ _ _ _ => (pe_and (pe_cmpR op_le (pv 2) (pv 4) (nomark _)) (pe_one (pe_cmpR op_le (pv 5) (pv 3) (nomark _)))))) pa_nil)))) pa_nil)))), ?_⟩)
  exact s_ret (a := inM X Y) (ev_all (ev_lcM (fun x : Sn => (Y.map fun y => decide (y.1 ≤ x.1) && decide (x.2 ≤ y.2)).any id) (iw_tup (ev_var rfl hv)) (small_line (by omega)) (fun x u H2 s2 hx hu => g_pair hu fun a b hxa hxb => ⟨rfl, Same.refl _, ev_any (ev_lcM (fun y : Sn => decide (y.1 ≤ x.1) && decide (x.2 ≤ y.2)) (iw_tup (ev_var rfl (Rp.mono s2 h1))) (small_line (by omega)) (fun y u H3 s3 hy hu => g_pair hu fun c d hyc hyd => ⟨rfl, Same.refl _, ev_and (ev_opB (ev_var rfl hyc) (ev_var rfl (Rp.mono s3 hxa))) fun _ => ev_opB (ev_var rfl (Rp.mono s3 hxb)) (ev_var rfl hyd)⟩) gm_pair)⟩) gm_pair)) fun u H2 s2 hu => kk _ _ s2 hu
end Cf
set_option Elab.async false
set_option linter.all false
set_option maxRecDepth 100000
set_option maxHeartbeats 4000000
namespace Cf
open PySem PySem.Spec PyProof.Rows L2 Cs
local macro_rules | `(tactic| walk_at "lf") => `(tactic| first
  | assumption
  | exact rfl
  | exact Rp.mono (by assumption) (by assumption)
  | exact Rp.mono (Same.trans (by assumption) (by assumption)) (by assumption)
  | exact RpK.monoK (by assumption) (by assumption))
local macro_rules | `(tactic| walk_at "ev") => `(tactic| first
  | with_reducible exact ev_int
  | with_reducible exact ev_bl
  | with_reducible exact ev_fill
  | with_reducible exact ev_drop
  | with_reducible exact ev_str
  | ((with_reducible refine' ev_var ?hs ?hv); (case hs => exact rfl); (case hv => walk_at "lf"))
  | ((with_reducible refine' ev_opI ?ha ?hb); (case ha => walk_at "ev"); (case hb => walk_at "ev"))
  | ((with_reducible refine' ev_opB ?ha ?hb); (case ha => walk_at "ev"); (case hb => walk_at "ev"))
  | ((with_reducible refine' ev_opC ?ha ?hb ?hc); (case ha => walk_at "ev"); (case hb => walk_at "ev"); (case hc => first | assumption | skip))
  | ((with_reducible refine' ev_un ?ha); (case ha => walk_at "ev"))
  | ((with_reducible refine' ev_eqK ?ha ?hb); (case ha => walk_at "ev"); (case hb => walk_at "ev"))
  | ((with_reducible refine' ev_eqI ?ha ?hb); (case ha => walk_at "ev"); (case hb => walk_at "ev"))
  | ((with_reducible refine' ev_eqS ?ha ?hb); (case ha => walk_at "ev"); (case hb => walk_at "ev"))
  | ((with_reducible refine' ev_neK ?ha ?hb); (case ha => walk_at "ev"); (case hb => walk_at "ev"))
  | ((with_reducible refine' ev_neI ?ha ?hb); (case ha => walk_at "ev"); (case hb => walk_at "ev"))
  | ((with_reducible refine' ev_neS ?ha ?hb); (case ha => walk_at "ev"); (case hb => walk_at "ev"))
  | ((with_reducible refine' ev_tup2 ?ha ?hb); (case ha => walk_at "ev"); (case hb => walk_at "ev"))
  | ((with_reducible refine' ev_tup1 ?ha); (case ha => walk_at "ev"))
  | with_reducible exact ev_tup0
  | ((with_reducible refine' ev_fst ?ha); (case ha => walk_at "ev"))
  | ((with_reducible refine' ev_snd ?ha); (case ha => walk_at "ev"))
  | ((with_reducible refine' ev_max2 rfl ?ha ?hb); (case ha => walk_at "ev"); (case hb => walk_at "ev"))
  | ((with_reducible refine' ev_min2 rfl ?ha ?hb); (case ha => walk_at "ev"); (case hb => walk_at "ev"))
  | ((with_reducible refine' ev_abs rfl ?ha); (case ha => walk_at "ev"))
  | ((with_reducible refine' ev_intI rfl ?ha); (case ha => walk_at "ev"))
  | ((with_reducible refine' ev_intB rfl ?ha); (case ha => walk_at "ev"))
  | ((with_reducible refine' ev_len rfl ?ha); (case ha => walk_at "ev"))
  | ((with_reducible refine' ev_lenL rfl ?ha); (case ha => walk_at "ev"))
  | ((with_reducible refine' ev_tuple rfl ?ha); (case ha => walk_at "ev"))
  | ((with_reducible refine' ev_sum ?ha); (case ha => walk_at "ev"))
  | ((with_reducible refine' ev_chain ?ha ?hb ?hc); (case ha => walk_at "ev"); (case hb => walk_at "ev"); (case hc => walk_at "ev"))
  | ((with_reducible refine' et_test ?ha); (case ha => walk_at "ev"))
  | ((with_reducible refine' et_B ?ha); (case ha => walk_at "ev"))
  | ((with_reducible refine' et_not ?ha); (case ha => walk_at "ev"))
  | ((with_reducible refine' ev_not ?ha); (case ha => walk_at "ev"))
  | ((with_reducible refine' et_and ?ha ?hb); (case ha => walk_at "ev"); (case hb => intro _; walk_at "ev"))
  | ((with_reducible refine' et_or ?ha ?hb); (case ha => walk_at "ev"); (case hb => intro _; walk_at "ev"))
  | ((with_reducible refine' ev_and ?ha ?hb); (case ha => walk_at "ev"); (case hb => intro _; walk_at "ev"))
  | ((with_reducible refine' ev_or ?ha ?hb); (case ha => walk_at "ev"); (case hb => intro _; walk_at "ev"))
  | ((with_reducible refine' ev_call1 ?ha ?hp); (case ha => walk_at "ev"); (case hp => first | assumption | trivial))
  | ((with_reducible refine' ev_call2 ?ha ?hb ?hp); (case ha => walk_at "ev"); (case hb => walk_at "ev"); (case hp => first | assumption | trivial))
  | ((with_reducible refine' ev_call3 ?ha ?hb ?hc ?hp); (case ha => walk_at "ev"); (case hb => walk_at "ev"); (case hc => walk_at "ev"); (case hp => first | assumption | trivial)))
variable {P : Program} {w : World} {K : PySem.W.Frag} {mg : Str → Option Value} {base : Heap}
theorem sc_Lcomes : FnScope ["_law_track", "_law_low_so", "_law_hole_so", "_law_holes_so", "_law_k", "_law_low", "_law_high", "_law_own"] ["_law_track", "_law_low_so", "_law_hole_so"] (defScope s_Lcomes) := ⟨rfl, rfl, rfl, by decide +kernel, rfl, by decide +kernel, by decide +kernel⟩
abbrev ComesPre (X : List Sn) (s g : Int) : Prop := X.length ≤ 1000 ∧ CM.Good (s - 1) (g - 1) X
def gapAt (X : List Sn) (k : Int) : Int := (X.getD (k + 1).toNat (0, 0)).1 - (X.getD k.toNat (0, 0)).2
theorem getD_sn {l : List Sn} {n : Nat} (h : n < l.length) : l[n]? = some (l.getD n (0, 0)) := by
  rw [List.getElem?_eq_getElem h, List.getD_eq_getElem?_getD, List.getElem?_eq_getElem h]
  rfl
theorem gap_ge {X : List Sn} {s g : Int} (h : CM.Good (s - 1) (g - 1) X) {k : Nat} (hk : k + 1 < X.length) : g ≤ gapAt X (k : Int) := by
  have h1 := List.pairwise_iff_getElem.mp h.2 k (k + 1) (by omega) hk (by omega)
  unfold gapAt
  rw [show ((k : Int) + 1).toNat = k + 1 by omega, Int.toNat_natCast, List.getD_eq_getElem?_getD, List.getD_eq_getElem?_getD, List.getElem?_eq_getElem hk, List.getElem?_eq_getElem (show k < X.length by omega)]
  show g ≤ (X[k + 1]).1 - (X[k]).2
  omega
theorem F_Lcomes (T : Tx w K mg) : Fn P w K mg base 1 d_Lcomes ["_law_track", "_law_low_so", "_law_hole_so"] (Pure3 ComesPre fun _ _ _ => true) := by
  refine mk_pure3 T.f_Lcomes sc_Lcomes (fun _ _ _ _ _ _ _ _ _ => rfl) (fun cdv A outer s H Q E hr v v1 v2 X ls lg hv h1 h2 ha kk => ⟨_, (pss_cons (ps_setLc (i := 3) (own := [("_law_k", 4)]) (g := (gName 4)) rfl sc_Lcomes.nd rfl rfl (by rfl) (pi_range1 (by rfl) T.b_range (pa_cons (pe_op op_sub (pe_callB call_len_seq (by rfl) T.b_len PySem.boot_len (pa_cons (pv 0) pa_nil)) pe_int) pa_nil)) (blkOk_by (own := [("_law_k", 4)]) (N := ["_law_track", "_law_low_so", "_law_hole_so", "_law_holes_so", "_law_k", "_law_low", "_law_high", "_law_own"]) (sc := defScope s_Lcomes) (by decide +kernel)) (fun _ _ _ _ _ => (pg_name (i := 4) sc_Lcomes.nd rfl (Or.inl rfl))) (fun _ _ _ _ _ => pts_nil) (fun _ _ _ _ _ => (pe_op op_sub (pe_ix (ix_tupK (K := K) rfl) (pe_ix (ix_tupK (K := K) rfl) (pv 0) (pe_op op_add (pv 4) pe_int) (fun _ _ => rfl)) pe_int (fun _ _ => rfl)) (pe_ix (ix_tupK (K := K) rfl) (pe_ix (ix_tupK (K := K) rfl) (pv 0) (pv 4) (fun _ _ => rfl)) pe_int (fun _ _ => rfl)))))
  (pss_one (ps_ret (pe_and (pe_callB (cr_all rfl) (by rfl) T.b_all (by decide +kernel) (pa_cons (pe_lc (own := [("_law_low", 5), ("_law_high", 6)]) (g := (gTup K 2 (gCons (gName 5) (gCons (gName 6) gNil)))) rfl sc_Lcomes.nd (pi_tup (pv 0)) (blkOk_by (own := [("_law_low", 5), ("_law_high", 6)]) (N := ["_law_track", "_law_low_so", "_law_hole_so", "_law_holes_so", "_law_k", "_law_low", "_law_high", "_law_own"]) (sc := defScope s_Lcomes) (by decide +kernel)) (fun _ _ _ _ _ => (pg_tup rfl (pgs_cons (pg_name (i := 5) sc_Lcomes.nd rfl (Or.inl rfl)) (pgs_cons (pg_name (i := 6) sc_Lcomes.nd rfl (Or.inl rfl)) pgs_nil)))) (fun _ _ _ _ _ => pts_nil) (fun _ _ _ _ _ => (pe_cmpR op_ge (pe_op op_sub (pv 6) (pv 5)) (pv 1) (nomark _)))) pa_nil)) (pe_one (pe_callB (cr_all rfl) (by rfl) T.b_all (by decide +kernel) (pa_cons (pe_lc (own := [("_law_own", 7)]) (g := (gName 7)) rfl sc_Lcomes.nd (pi_list (pv 3)) (blkOk_by (own := [("_law_own", 7)]) (N := ["_law_track", "_law_low_so", "_law_hole_so", "_law_holes_so", "_law_k", "_law_low", "_law_high", "_law_own"]) (sc := defScope s_Lcomes) (by decide +kernel)) (fun _ _ _ _ _ => (pg_name (i := 7) sc_Lcomes.nd rfl (Or.inl rfl))) (fun _ _ _ _ _ => pts_nil) (fun _ _ _ _ _ => (pe_cmpR op_ge (pv 7) (pv 2) (nomark _)))) pa_nil))))))), ?_⟩)
  obtain ⟨hl, g⟩ := ha
  refine q_asg (a := (⟨(upto 0 ((X.length : Int) - 1).toNat).map (gapAt X)⟩ : Ls Int)) (ev_lcM (gapAt X) (iw_range1 (n := (X.length : Int) - 1) (ev_opI (ev_len rfl (ev_var rfl hv)) ev_int) ⟨by omega, by omega⟩) (by rw [upto_len]; exact small_line (by omega)) (fun k u H2 s2 hk hu => ⟨rfl, Same.refl _, ?_⟩) gm_name) fun v3 H1 s1 hv3 => ?_
  · obtain ⟨m, hm, em⟩ := List.mem_map.mp hk
    have hm' := List.mem_range.mp hm
    obtain rfl : u = .int k := hu
    have hv2 := Rp.mono s2 hv
    exact ev_opI (ev_fst (ev_ixT (n := (k + 1).toNat) (ev_var rfl hv2) (ev_opI (ev_var (a := k) rfl rfl) ev_int) (by show k + 1 = _; omega) (getD_sn (by omega)))) (ev_snd (ev_ixT (n := k.toNat) (ev_var rfl hv2) (ev_var (a := k) rfl rfl) (by omega) (getD_sn (by omega))))
  · have hv' := Rp.mono s1 hv
    have h1' := Rp.mono s1 h1
    have h2' := Rp.mono s1 h2
    refine s_ret (a := true) ((ev_and (a := (⟨X.map fun x => decide (ls ≤ x.2 - x.1)⟩ : Ls Bool).val.all id) (b := (⟨((upto 0 ((X.length : Int) - 1).toNat).map (gapAt X)).map fun x => decide (lg ≤ x)⟩ : Ls Bool).val.all id)
      (ev_all (ev_lcM (fun x : Sn => decide (ls ≤ x.2 - x.1)) (iw_tup (ev_var rfl hv')) (small_line (by omega)) (fun x u H2 s2 hx hu => g_pair hu fun a b ha hb => ⟨rfl, Same.refl _, ev_opB (f := fun i j => decide (j ≤ i)) (ev_opI (ev_var rfl hb) (ev_var rfl ha)) (ev_var rfl (Rp.mono s2 h1'))⟩) gm_pair))
      (fun _ => ev_all (ev_lcM (fun x : Int => decide (lg ≤ x)) (iw_list (ev_var rfl hv3)) (by show (List.map _ _).length < _; rw [List.length_map, upto_len]; exact small_line (by omega)) (fun x u H2 s2 hx hu => ⟨rfl, Same.refl _, ev_opB (f := fun i j => decide (j ≤ i)) (ev_var rfl hu) (ev_var rfl (Rp.mono s2 h2'))⟩) gm_name))).eq ?_) fun u H3 s3 hu => kk _ _ (s1.trans s3) hu
    rw [Bool.and_eq_true]
    refine ⟨List.all_eq_true.mpr fun b hb => ?_, List.all_eq_true.mpr fun b hb => ?_⟩
    · obtain ⟨x, hx, rfl⟩ := List.mem_map.mp hb
      exact decide_eq_true (by have := g.1 x hx; omega)
    · obtain ⟨x, hx, rfl⟩ := List.mem_map.mp hb
      obtain ⟨k, hk, rfl⟩ := List.mem_map.mp hx
      obtain ⟨m, hm, rfl⟩ := List.mem_map.mp hk
      have hm' := List.mem_range.mp hm
      refine decide_eq_true ?_
      rw [show (0 : Int) + (m : Int) = (m : Int) by omega]
      exact gap_ge g (by omega)
theorem sc_Lhost : FnScope ["_law_line_here", "_law_sort_so", "_law_nums_so"] ["_law_line_here"] (defScope s_Lhost) := ⟨rfl, rfl, rfl, by decide +kernel, rfl, by decide +kernel, by decide +kernel⟩
abbrev HostPre (p : List Stp) : Prop := LPre p ∧ ∀ s ∈ p, s.ok
theorem F_Lhost (T : Tx w K mg) : Fn P w K mg base 6 d_Lhost ["_law_line_here"] (Pure1 HostPre PipeO.mk) := by
  have F_Step_init : Fn P w K mg base 4 d_Step_init ["self", "kind", "amounts"] _ := F_Step_init T
  have F_Pipeline_init : Fn P w K mg base 1 d_Pipeline_init ["self", "steps"] _ := F_Pipeline_init T
  refine mk_pure1 T.f_Lhost sc_Lhost (fun _ _ _ _ _ _ _ => rfl) (fun cdv A outer s H Q E hr v p hv ha kk => ⟨_, (pss_one (ps_ret (pe_mk F_Pipeline_init T.mk_Pipeline (hr.mono (by decide)) T.g_Pipeline (pa_cons (pe_lc (own := [("_law_sort_so", 1), ("_law_nums_so", 2)]) (g := (gTup K 2 (gCons (gName 1) (gCons (gName 2) gNil)))) rfl sc_Lhost.nd (pi_tup (pv 0)) (blkOk_by (own := [("_law_sort_so", 1), ("_law_nums_so", 2)]) (N := ["_law_line_here", "_law_sort_so", "_law_nums_so"]) (sc := defScope s_Lhost) (by decide +kernel)) (fun _ _ _ _ _ => (pg_tup rfl (pgs_cons (pg_name (i := 1) sc_Lhost.nd rfl (Or.inl rfl)) (pgs_cons (pg_name (i := 2) sc_Lhost.nd rfl (Or.inl rfl)) pgs_nil)))) (fun _ _ _ _ _ => pts_nil) (fun _ _ _ _ _ => (pe_mk F_Step_init T.mk_Step (hr.mono (by decide)) T.g_Step (pa_cons (pv 1) (pa_cons (pv 2) pa_nil))))) pa_nil)))), ?_⟩)
  exact s_ret (a := PipeO.mk p) (ev_pipe (ev_lcM (fun s : Stp => StepO.mk s) (iw_tup (ev_var rfl hv)) (small_line (by have := ha.1; omega)) (fun x u H2 s2 hx hu => g_stp hu fun y hy => ⟨rfl, Same.refl _, ev_stepMk (ev_var rfl rfl) (ev_var rfl hy) (ha.2 x hx)⟩) gm_pair)) fun u H2 s2 hu => kk _ _ s2 hu
end Cf
set_option Elab.async false
set_option linter.all false
set_option maxRecDepth 100000
set_option maxHeartbeats 4000000
namespace Cf
open PySem PySem.Spec PyProof.Rows L2 Cs
local macro_rules | `(tactic| walk_at "lf") => `(tactic| first
  | assumption
  | exact rfl
  | exact Rp.mono (by assumption) (by assumption)
  | exact Rp.mono (Same.trans (by assumption) (by assumption)) (by assumption)
  | exact RpK.monoK (by assumption) (by assumption))
local macro_rules | `(tactic| walk_at "ev") => `(tactic| first
  | with_reducible exact ev_int
  | with_reducible exact ev_bl
  | with_reducible exact ev_fill
  | with_reducible exact ev_drop
  | with_reducible exact ev_str
  | ((with_reducible refine' ev_var ?hs ?hv); (case hs => exact rfl); (case hv => walk_at "lf"))
  | ((with_reducible refine' ev_opI ?ha ?hb); (case ha => walk_at "ev"); (case hb => walk_at "ev"))
  | ((with_reducible refine' ev_opB ?ha ?hb); (case ha => walk_at "ev"); (case hb => walk_at "ev"))
  | ((with_reducible refine' ev_opC ?ha ?hb ?hc); (case ha => walk_at "ev"); (case hb => walk_at "ev"); (case hc => first | assumption | skip))
  | ((with_reducible refine' ev_un ?ha); (case ha => walk_at "ev"))
  | ((with_reducible refine' ev_eqK ?ha ?hb); (case ha => walk_at "ev"); (case hb => walk_at "ev"))
  | ((with_reducible refine' ev_eqI ?ha ?hb); (case ha => walk_at "ev"); (case hb => walk_at "ev"))
  | ((with_reducible refine' ev_eqS ?ha ?hb); (case ha => walk_at "ev"); (case hb => walk_at "ev"))
  | ((with_reducible refine' ev_neK ?ha ?hb); (case ha => walk_at "ev"); (case hb => walk_at "ev"))
  | ((with_reducible refine' ev_neI ?ha ?hb); (case ha => walk_at "ev"); (case hb => walk_at "ev"))
  | ((with_reducible refine' ev_neS ?ha ?hb); (case ha => walk_at "ev"); (case hb => walk_at "ev"))
  | ((with_reducible refine' ev_tup2 ?ha ?hb); (case ha => walk_at "ev"); (case hb => walk_at "ev"))
  | ((with_reducible refine' ev_tup1 ?ha); (case ha => walk_at "ev"))
  | with_reducible exact ev_tup0
  | ((with_reducible refine' ev_fst ?ha); (case ha => walk_at "ev"))
  | ((with_reducible refine' ev_snd ?ha); (case ha => walk_at "ev"))
  | ((with_reducible refine' ev_max2 rfl ?ha ?hb); (case ha => walk_at "ev"); (case hb => walk_at "ev"))
  | ((with_reducible refine' ev_min2 rfl ?ha ?hb); (case ha => walk_at "ev"); (case hb => walk_at "ev"))
  | ((with_reducible refine' ev_abs rfl ?ha); (case ha => walk_at "ev"))
  | ((with_reducible refine' ev_intI rfl ?ha); (case ha => walk_at "ev"))
  | ((with_reducible refine' ev_intB rfl ?ha); (case ha => walk_at "ev"))
  | ((with_reducible refine' ev_len rfl ?ha); (case ha => walk_at "ev"))
  | ((with_reducible refine' ev_lenL rfl ?ha); (case ha => walk_at "ev"))
  | ((with_reducible refine' ev_tuple rfl ?ha); (case ha => walk_at "ev"))
  | ((with_reducible refine' ev_sum ?ha); (case ha => walk_at "ev"))
  | ((with_reducible refine' ev_chain ?ha ?hb ?hc); (case ha => walk_at "ev"); (case hb => walk_at "ev"); (case hc => walk_at "ev"))
  | ((with_reducible refine' et_test ?ha); (case ha => walk_at "ev"))
  | ((with_reducible refine' et_B ?ha); (case ha => walk_at "ev"))
  | ((with_reducible refine' et_not ?ha); (case ha => walk_at "ev"))
  | ((with_reducible refine' ev_not ?ha); (case ha => walk_at "ev"))
  | ((with_reducible refine' et_and ?ha ?hb); (case ha => walk_at "ev"); (case hb => intro _; walk_at "ev"))
  | ((with_reducible refine' et_or ?ha ?hb); (case ha => walk_at "ev"); (case hb => intro _; walk_at "ev"))
  | ((with_reducible refine' ev_and ?ha ?hb); (case ha => walk_at "ev"); (case hb => intro _; walk_at "ev"))
  | ((with_reducible refine' ev_or ?ha ?hb); (case ha => walk_at "ev"); (case hb => intro _; walk_at "ev"))
  | ((with_reducible refine' ev_call1 ?ha ?hp); (case ha => walk_at "ev"); (case hp => first | assumption | trivial))
  | ((with_reducible refine' ev_call2 ?ha ?hb ?hp); (case ha => walk_at "ev"); (case hb => walk_at "ev"); (case hp => first | assumption | trivial))
  | ((with_reducible refine' ev_call3 ?ha ?hb ?hc ?hp); (case ha => walk_at "ev"); (case hb => walk_at "ev"); (case hc => walk_at "ev"); (case hp => first | assumption | trivial)))
variable {P : Program} {w : World} {K : PySem.W.Frag} {mg : Str → Option Value} {base : Heap}
section
variable {α β : Type} {σ : L2.St} {H : Hp} {ta tb te : TE}
/-- zip of two lists -/
theorem iw_zipL {K : PySem.W.Frag} [RpK α] [RpK β] {as : List α} {bs : List β} (ha : EvR ta σ H (⟨as⟩ : Ls α)) (hb : EvR tb σ H (⟨bs⟩ : Ls β)) (hl : as.length = bs.length) : IwR (RZ.iZipA K (tCons ta (tCons tb tNil))) σ H (List.zip as bs) := fun H1 s R k =>
  ha H1 s _ fun v H2 s2 hv => hb H2 (s.trans s2) _ fun u H3 s3 hu => by
    obtain ⟨a, xs, rfl, h1, h2⟩ := Rp.mono s3 hv
    obtain ⟨b, ys, rfl, h3, h4⟩ := hu
    have l1 : xs.length = as.length := h2.length
    have l2 : ys.length = bs.length := h4.length
    refine ⟨a, b, xs, ys, rfl, .inl ⟨SqL.of h1, SqL.of h3, k _ H3 (fun H' => SqL K H' a xs ∧ SqL K H' b ys) _ (s2.trans s3) (fun H4 s4 => ⟨SqL.of (s4 _ _ h1), SqL.of (s4 _ _ h3)⟩) (walk_zip (by rw [List.length_zip, l1, l2])) fun i H4 x H5 s4 y => ?_⟩⟩
    obtain ⟨T, p, q, rfl, hT, rfl, e4, e5⟩ := y
    obtain ⟨p', hp', rp⟩ := h2.getV e4
    obtain ⟨q', hq', rq⟩ := h4.getV e5
    refine ⟨same_new hT, (p', q'), ?_, T, p, q, rfl, upd_same, Rp.mono (s4.trans (same_new hT)) rp, Rp.mono (s4.trans (same_new hT)) rq⟩
    rw [List.getElem?_zip_eq_some]
    exact ⟨hp', hq'⟩
theorem ev_isi1 [Rp α] {a : α} {t : Value} {n : String} {b : Bool} {K : PySem.W.Frag} (h : EvR ta σ H a) (ty : ∀ H v, Rp.is H v a → TyOf K H v t) (e : PySem.W.kitOne K t (.type n) = some b) : EvR (tCB (rIsi K) (tCons ta (tCons (tC (.ty n)) tNil))) σ H b := fun H1 s Q q =>
  h H1 s _ fun v H2 s2 hv => ⟨v, .ty n, t, .type n, b, rfl, .ty n, .base (ty _ _ hv), e, q _ H2 s2 rfl⟩
theorem ev_isi2 [Rp α] {a : α} {t : Value} {n m : String} {b : Bool} {K : PySem.W.Frag} (h : EvR ta σ H a) (ty : ∀ H v, Rp.is H v a → TyOf K H v t) (e : PySem.W.kitAny K t [.type n, .type m] = some b) : EvR (tCB (rIsiT K) (tCons ta (tCons (tTup (tCons (tC (.ty n)) (tCons (tC (.ty m)) tNil))) tNil))) σ H b := fun H1 s Q q =>
  h H1 s _ fun v H2 s2 hv => ⟨by show 2 ≤ sizeLine; decide, fun p hp => ⟨v, p, _, t, _, b, rfl, upd_same, .cons (.ty _) (.cons (.ty _) .nil), .base (ty _ _ (Rp.mono (same_new hp) hv)), e, q _ _ (s2.trans (same_new hp)) rfl⟩⟩
/-- of what is no None -/
theorem ev_isNo [Rp α] {a : α} {r : R2} (hr : r = fun x y H Q => y = .non ∧ Q (.bl (decide (x = .non))) H) (ha : EvR ta σ H a) (hn : ∀ H v, Rp.is H v a → v ≠ .non) : EvR (tOp r ta (tC .non)) σ H false := fun H1 s Q q => ha H1 s _ fun v H2 s2 hv => by
  rw [hr]
  exact ⟨rfl, q _ H2 s2 (by show V.bl _ = V.bl false; rw [decide_eq_false (hn _ _ hv)])⟩
end
theorem bl_ty {K : PySem.W.Frag} {b : Bool} : ∀ H v, Rp.is H v b → TyOf K H v (.type "bool") := fun H v h => by
  obtain rfl : v = .bl b := h
  exact .bl b
theorem bl_no {b : Bool} : ∀ H v, Rp.is H v b → v ≠ .non := fun H v h => by
  obtain rfl : v = .bl b := h
  exact fun z => by cases z
theorem ls_ty {K : PySem.W.Frag} {α : Type} [Rp α] {a : Ls α} : ∀ H v, Rp.is H v a → TyOf K H v (.type "list") := fun H v h => by
  obtain ⟨q, xs, rfl, h1, _⟩ := h
  exact .lst h1
theorem sc_Lsame : FnScope ["_law_got", "_law_goal", "_law_mine_so", "_law_own"] ["_law_got", "_law_goal"] (defScope s_Lsame) := ⟨rfl, rfl, rfl, by decide +kernel, rfl, by decide +kernel, by decide +kernel⟩
theorem F_Lno (T : Tx w K mg) : Fn P w K mg base 1 d_Lsame ["_law_got", "_law_goal"] (fun _ _ _ _ => False) := by
  refine mk_fn T.f_Lsame sc_Lsame (fun kV doc pm an cdv ct us hl => match us, hl with | [_, _], _ => rfl) (fun vs H Q E h => h.elim) (fun cdv A outer s H vs Q E hr h => h.elim)
theorem F_Lsame0 (T : Tx w K mg) : Fn P w K mg base 2 d_Lsame ["_law_got", "_law_goal"] (Pure2 (fun _ _ : Bool => True) fun a b => decide (a = b)) := by
  have F_Lsame : Fn P w K mg base 1 d_Lsame ["_law_got", "_law_goal"] _ := F_Lno T
  refine mk_pure2 T.f_Lsame sc_Lsame (fun _ _ _ _ _ _ _ _ => rfl) (fun cdv A outer s H Q E hr v v1 a b hv h1 _ kk => ⟨_, (pss_cons (ps_if (pt_val (pe_callB call_isiT (by rfl) T.b_isinstance (by decide +kernel) (pa_cons (pv 1) (pa_cons (pe_tup (pa_cons (pe_bltn (v := .ty "list") (by rfl) T.b_list (by decide +kernel) rfl) (pa_cons (pe_bltn (v := .ty "tuple") (by rfl) T.b_tuple (by decide +kernel) rfl) pa_nil))) pa_nil))))
  (pss_cons (ps_if (PW.pt (pw_or (pt_cmpR op_ne (pe_callB call_isi (by rfl) T.b_isinstance (by decide +kernel) (pa_cons (pv 0) (pa_cons (pe_bltn (v := .ty "list") (by rfl) T.b_list (by decide +kernel) rfl) pa_nil))) (pe_callB call_isi (by rfl) T.b_isinstance (by decide +kernel) (pa_cons (pv 1) (pa_cons (pe_bltn (v := .ty "list") (by rfl) T.b_list (by decide +kernel) rfl) pa_nil))) (nomark _)) (pw_or1 (pt_cmpR op_ne (pe_callB call_isi (by rfl) T.b_isinstance (by decide +kernel) (pa_cons (pv 0) (pa_cons (pe_bltn (v := .ty "tuple") (by rfl) T.b_tuple (by decide +kernel) rfl) pa_nil))) (pe_callB call_isi (by rfl) T.b_isinstance (by decide +kernel) (pa_cons (pv 1) (pa_cons (pe_bltn (v := .ty "tuple") (by rfl) T.b_tuple (by decide +kernel) rfl) pa_nil))) (nomark _)))))
  (pss_one (ps_ret pe_bl))
  pss_nil)
  (pss_one (ps_ret (pe_and (pe_cmpR op_eq (pe_callB call_len_seq (by rfl) T.b_len PySem.boot_len (pa_cons (pv 0) pa_nil)) (pe_callB call_len_seq (by rfl) T.b_len PySem.boot_len (pa_cons (pv 1) pa_nil)) (nomark _)) (pe_one (pe_callB (cr_all rfl) (by rfl) T.b_all (by decide +kernel) (pa_cons (pe_lc (own := [("_law_mine_so", 2), ("_law_own", 3)]) (g := (gTup K 2 (gCons (gName 2) (gCons (gName 3) gNil)))) rfl sc_Lsame.nd (RZ.pi_zipA (by rfl) T.b_zip (pa_cons (pv 0) (pa_cons (pv 1) pa_nil))) (blkOk_by (own := [("_law_mine_so", 2), ("_law_own", 3)]) (N := ["_law_got", "_law_goal", "_law_mine_so", "_law_own"]) (sc := defScope s_Lsame) (by decide +kernel)) (fun _ _ _ _ _ => (pg_tup rfl (pgs_cons (pg_name (i := 2) sc_Lsame.nd rfl (Or.inl rfl)) (pgs_cons (pg_name (i := 3) sc_Lsame.nd rfl (Or.inl rfl)) pgs_nil)))) (fun _ _ _ _ _ => pts_nil) (fun _ _ _ _ _ => (pe_fn F_Lsame (hr.mono (by decide)) T.g_Lsame (pa_cons (pv 2) (pa_cons (pv 3) pa_nil))))) pa_nil)))))))
  pss_nil)
  (pss_cons (ps_if (PW.pt (pw_or (pt_cmpR op_isN (pv 1) pe_non (nomark _)) (pw_or1 (pt_val (pe_callB call_isiT (by rfl) T.b_isinstance (by decide +kernel) (pa_cons (pv 1) (pa_cons (pe_tup (pa_cons (pe_bltn (v := .ty "bool") (by rfl) T.b_bool (by decide +kernel) rfl) (pa_cons (pe_bltn (v := .ty "str") (by rfl) T.b_str (by decide +kernel) rfl) pa_nil))) pa_nil)))))))
  (pss_one (ps_ret (pe_and (pe_cmpR op_eq (pv 0) (pv 1) (nomark _)) (pe_and (pe_cmpR op_eq (pe_callB call_isi (by rfl) T.b_isinstance (by decide +kernel) (pa_cons (pv 0) (pa_cons (pe_bltn (v := .ty "bool") (by rfl) T.b_bool (by decide +kernel) rfl) pa_nil))) (pe_callB call_isi (by rfl) T.b_isinstance (by decide +kernel) (pa_cons (pv 1) (pa_cons (pe_bltn (v := .ty "bool") (by rfl) T.b_bool (by decide +kernel) rfl) pa_nil))) (nomark _)) (pe_one (pe_cmpR op_eq (pe_cmpR op_isN (pv 0) pe_non (nomark _)) (pe_cmpR op_isN (pv 1) pe_non (nomark _)) (nomark _)))))))
  pss_nil)
  (pss_one (ps_ret (pe_and (pe_callB call_isi (by rfl) T.b_isinstance (by decide +kernel) (pa_cons (pv 0) (pa_cons (pe_bltn (v := .ty "int") (by rfl) T.b_int (by decide +kernel) rfl) pa_nil))) (pe_and (pe_not (pe_callB call_isi (by rfl) T.b_isinstance (by decide +kernel) (pa_cons (pv 0) (pa_cons (pe_bltn (v := .ty "bool") (by rfl) T.b_bool (by decide +kernel) rfl) pa_nil)))) (pe_one (pe_cmpR op_eq (pv 0) (pv 1) (nomark _))))))))), ?_⟩)
  refine q_if (b := false) (et_test (ev_isi2 (ev_var (a := b) rfl h1) bl_ty (by kernel_rfl))) (fun c => by cases c) (fun _ H2 s2 => ?_)
  have hv2 := Rp.mono s2 hv
  have h12 := Rp.mono s2 h1
  refine q_if (b := true) ((et_or (a := false) (b := true) (et_B (ev_isNo rfl (ev_var (a := b) rfl h12) bl_no)) fun _ => et_test (ev_isi2 (ev_var (a := b) rfl h12) bl_ty (by kernel_rfl))).eq rfl) (fun _ H3 s3 => ?_) (fun c => by cases c)
  have hv3 := Rp.mono s3 hv2
  have h13 := Rp.mono s3 h12
  exact s_ret (a := decide (a = b)) ((ev_and (a := decide (a = b)) (b := (decide (true = true) && decide (false = false))) (ev_eqB (ev_var rfl hv3) (ev_var rfl h13)) fun _ => ev_and (ev_eqB (ev_isi1 (ev_var (a := a) rfl hv3) bl_ty (by kernel_rfl)) (ev_isi1 (ev_var (a := b) rfl h13) bl_ty (by kernel_rfl))) fun _ => ev_eqB (ev_isNo rfl (ev_var (a := a) rfl hv3) bl_no) (ev_isNo rfl (ev_var (a := b) rfl h13) bl_no)).eq (by simp)) fun u H4 s4 hu => kk _ _ ((s2.trans s3).trans s4) hu
abbrev SamePre (a b : Ls Bool) : Prop := a.val.length = b.val.length ∧ a.val.length ≤ 10
def sameM (a b : Ls Bool) : Bool := ((List.zip a.val b.val).map fun p => decide (p.1 = p.2)).all id
theorem F_Lsame1 (T : Tx w K mg) : Fn P w K mg base 3 d_Lsame ["_law_got", "_law_goal"] (Pure2 SamePre sameM) := by
  have F_Lsame : Fn P w K mg base 2 d_Lsame ["_law_got", "_law_goal"] _ := F_Lsame0 T
  refine mk_pure2 T.f_Lsame sc_Lsame (fun _ _ _ _ _ _ _ _ => rfl) (fun cdv A outer s H Q E hr v v1 a b hv h1 ha kk => ⟨_, (pss_cons (ps_if (pt_val (pe_callB call_isiT (by rfl) T.b_isinstance (by decide +kernel) (pa_cons (pv 1) (pa_cons (pe_tup (pa_cons (pe_bltn (v := .ty "list") (by rfl) T.b_list (by decide +kernel) rfl) (pa_cons (pe_bltn (v := .ty "tuple") (by rfl) T.b_tuple (by decide +kernel) rfl) pa_nil))) pa_nil))))
  (pss_cons (ps_if (PW.pt (pw_or (pt_cmpR op_ne (pe_callB call_isi (by rfl) T.b_isinstance (by decide +kernel) (pa_cons (pv 0) (pa_cons (pe_bltn (v := .ty "list") (by rfl) T.b_list (by decide +kernel) rfl) pa_nil))) (pe_callB call_isi (by rfl) T.b_isinstance (by decide +kernel) (pa_cons (pv 1) (pa_cons (pe_bltn (v := .ty "list") (by rfl) T.b_list (by decide +kernel) rfl) pa_nil))) (nomark _)) (pw_or1 (pt_cmpR op_ne (pe_callB call_isi (by rfl) T.b_isinstance (by decide +kernel) (pa_cons (pv 0) (pa_cons (pe_bltn (v := .ty "tuple") (by rfl) T.b_tuple (by decide +kernel) rfl) pa_nil))) (pe_callB call_isi (by rfl) T.b_isinstance (by decide +kernel) (pa_cons (pv 1) (pa_cons (pe_bltn (v := .ty "tuple") (by rfl) T.b_tuple (by decide +kernel) rfl) pa_nil))) (nomark _)))))
  (pss_one (ps_ret pe_bl))
  pss_nil)
  (pss_one (ps_ret (pe_and (pe_cmpR op_eq (pe_callB call_len_seq (by rfl) T.b_len PySem.boot_len (pa_cons (pv 0) pa_nil)) (pe_callB call_len_seq (by rfl) T.b_len PySem.boot_len (pa_cons (pv 1) pa_nil)) (nomark _)) (pe_one (pe_callB (cr_all rfl) (by rfl) T.b_all (by decide +kernel) (pa_cons (pe_lc (own := [("_law_mine_so", 2), ("_law_own", 3)]) (g := (gTup K 2 (gCons (gName 2) (gCons (gName 3) gNil)))) rfl sc_Lsame.nd (RZ.pi_zipA (by rfl) T.b_zip (pa_cons (pv 0) (pa_cons (pv 1) pa_nil))) (blkOk_by (own := [("_law_mine_so", 2), ("_law_own", 3)]) (N := ["_law_got", "_law_goal", "_law_mine_so", "_law_own"]) (sc := defScope s_Lsame) (by decide +kernel)) (fun _ _ _ _ _ => (pg_tup rfl (pgs_cons (pg_name (i := 2) sc_Lsame.nd rfl (Or.inl rfl)) (pgs_cons (pg_name (i := 3) sc_Lsame.nd rfl (Or.inl rfl)) pgs_nil)))) (fun _ _ _ _ _ => pts_nil) (fun _ _ _ _ _ => (pe_fn F_Lsame (hr.mono (by decide)) T.g_Lsame (pa_cons (pv 2) (pa_cons (pv 3) pa_nil))))) pa_nil)))))))
  pss_nil)
  (pss_cons (ps_if (PW.pt (pw_or (pt_cmpR op_isN (pv 1) pe_non (nomark _)) (pw_or1 (pt_val (pe_callB call_isiT (by rfl) T.b_isinstance (by decide +kernel) (pa_cons (pv 1) (pa_cons (pe_tup (pa_cons (pe_bltn (v := .ty "bool") (by rfl) T.b_bool (by decide +kernel) rfl) (pa_cons (pe_bltn (v := .ty "str") (by rfl) T.b_str (by decide +kernel) rfl) pa_nil))) pa_nil)))))))
  (pss_one (ps_ret (pe_and (pe_cmpR op_eq (pv 0) (pv 1) (nomark _)) (pe_and (pe_cmpR op_eq (pe_callB call_isi (by rfl) T.b_isinstance (by decide +kernel) (pa_cons (pv 0) (pa_cons (pe_bltn (v := .ty "bool") (by rfl) T.b_bool (by decide +kernel) rfl) pa_nil))) (pe_callB call_isi (by rfl) T.b_isinstance (by decide +kernel) (pa_cons (pv 1) (pa_cons (pe_bltn (v := .ty "bool") (by rfl) T.b_bool (by decide +kernel) rfl) pa_nil))) (nomark _)) (pe_one (pe_cmpR op_eq (pe_cmpR op_isN (pv 0) pe_non (nomark _)) (pe_cmpR op_isN (pv 1) pe_non (nomark _)) (nomark _)))))))
  pss_nil)
  (pss_one (ps_ret (pe_and (pe_callB call_isi (by rfl) T.b_isinstance (by decide +kernel) (pa_cons (pv 0) (pa_cons (pe_bltn (v := .ty "int") (by rfl) T.b_int (by decide +kernel) rfl) pa_nil))) (pe_and (pe_not (pe_callB call_isi (by rfl) T.b_isinstance (by decide +kernel) (pa_cons (pv 0) (pa_cons (pe_bltn (v := .ty "bool") (by rfl) T.b_bool (by decide +kernel) rfl) pa_nil)))) (pe_one (pe_cmpR op_eq (pv 0) (pv 1) (nomark _))))))))), ?_⟩)
  obtain ⟨hl, hz⟩ := ha
  refine q_if (b := true) (et_test (ev_isi2 (ev_var (a := b) rfl h1) ls_ty (by kernel_rfl))) (fun _ H2 s2 => ?_) (fun c => by cases c)
  have hv2 := Rp.mono s2 hv
  have h12 := Rp.mono s2 h1
  refine q_if (b := false) ((et_or (a := false) (b := false) (et_B (ev_neB (a := true) (b := true) (ev_isi1 (ev_var (a := a) rfl hv2) ls_ty (by kernel_rfl)) (ev_isi1 (ev_var (a := b) rfl h12) ls_ty (by kernel_rfl)))) fun _ => et_B (ev_neB (a := false) (b := false) (ev_isi1 (ev_var (a := a) rfl hv2) ls_ty (by kernel_rfl)) (ev_isi1 (ev_var (a := b) rfl h12) ls_ty (by kernel_rfl)))).eq rfl) (fun c => by cases c) (fun _ H3 s3 => ?_)
  have hv3 := Rp.mono s3 hv2
  have h13 := Rp.mono s3 h12
  refine s_ret (a := sameM a b) ((ev_and (a := decide ((a.val.length : Int) = (b.val.length : Int))) (ev_eqI (ev_lenL rfl (ev_var rfl hv3)) (ev_lenL rfl (ev_var rfl h13))) fun _ => ev_all (ev_lcM (fun p : Bool × Bool => decide (p.1 = p.2)) (iw_zipL (ev_var (a := (⟨a.val⟩ : Ls Bool)) rfl hv3) (ev_var (a := (⟨b.val⟩ : Ls Bool)) rfl h13) hl) (by rw [List.length_zip]; exact small_line (by omega)) (fun x u H4 s4 hx hu => g_pair hu fun p q hp hq => ⟨rfl, Same.refl _, ev_call2 (f := fun a b : Bool => decide (a = b)) (ev_var rfl hp) (ev_var rfl hq) trivial⟩) gm_pair)).eq ?_) fun u H4 s4 hu => kk _ _ ((s2.trans s3).trans s4) hu
  rw [decide_eq_true (by rw [hl]), Bool.true_and]
  rfl
end Cf
set_option Elab.async false
set_option linter.all false
set_option maxRecDepth 100000
set_option maxHeartbeats 4000000
namespace Cf
open PySem PySem.Spec PyProof.Rows L2 Cs
local macro_rules | `(tactic| walk_at "lf") => `(tactic| first
  | assumption
  | exact rfl
  | exact Rp.mono (by assumption) (by assumption)
  | exact Rp.mono (Same.trans (by assumption) (by assumption)) (by assumption)
  | exact RpK.monoK (by assumption) (by assumption))
local macro_rules | `(tactic| walk_at "ev") => `(tactic| first
  | with_reducible exact ev_int
  | with_reducible exact ev_bl
  | with_reducible exact ev_fill
  | with_reducible exact ev_drop
  | with_reducible exact ev_str
  | ((with_reducible refine' ev_var ?hs ?hv); (case hs => exact rfl); (case hv => walk_at "lf"))
  | ((with_reducible refine' ev_opI ?ha ?hb); (case ha => walk_at "ev"); (case hb => walk_at "ev"))
  | ((with_reducible refine' ev_opB ?ha ?hb); (case ha => walk_at "ev"); (case hb => walk_at "ev"))
  | ((with_reducible refine' ev_opC ?ha ?hb ?hc); (case ha => walk_at "ev"); (case hb => walk_at "ev"); (case hc => first | assumption | skip))
  | ((with_reducible refine' ev_un ?ha); (case ha => walk_at "ev"))
  | ((with_reducible refine' ev_eqK ?ha ?hb); (case ha => walk_at "ev"); (case hb => walk_at "ev"))
  | ((with_reducible refine' ev_eqI ?ha ?hb); (case ha => walk_at "ev"); (case hb => walk_at "ev"))
  | ((with_reducible refine' ev_eqS ?ha ?hb); (case ha => walk_at "ev"); (case hb => walk_at "ev"))
  | ((with_reducible refine' ev_neK ?ha ?hb); (case ha => walk_at "ev"); (case hb => walk_at "ev"))
  | ((with_reducible refine' ev_neI ?ha ?hb); (case ha => walk_at "ev"); (case hb => walk_at "ev"))
  | ((with_reducible refine' ev_neS ?ha ?hb); (case ha => walk_at "ev"); (case hb => walk_at "ev"))
  | ((with_reducible refine' ev_tup2 ?ha ?hb); (case ha => walk_at "ev"); (case hb => walk_at "ev"))
  | ((with_reducible refine' ev_tup1 ?ha); (case ha => walk_at "ev"))
  | with_reducible exact ev_tup0
  | ((with_reducible refine' ev_fst ?ha); (case ha => walk_at "ev"))
  | ((with_reducible refine' ev_snd ?ha); (case ha => walk_at "ev"))
  | ((with_reducible refine' ev_max2 rfl ?ha ?hb); (case ha => walk_at "ev"); (case hb => walk_at "ev"))
  | ((with_reducible refine' ev_min2 rfl ?ha ?hb); (case ha => walk_at "ev"); (case hb => walk_at "ev"))
  | ((with_reducible refine' ev_abs rfl ?ha); (case ha => walk_at "ev"))
  | ((with_reducible refine' ev_intI rfl ?ha); (case ha => walk_at "ev"))
  | ((with_reducible refine' ev_intB rfl ?ha); (case ha => walk_at "ev"))
  | ((with_reducible refine' ev_len rfl ?ha); (case ha => walk_at "ev"))
  | ((with_reducible refine' ev_lenL rfl ?ha); (case ha => walk_at "ev"))
  | ((with_reducible refine' ev_tuple rfl ?ha); (case ha => walk_at "ev"))
  | ((with_reducible refine' ev_sum ?ha); (case ha => walk_at "ev"))
  | ((with_reducible refine' ev_chain ?ha ?hb ?hc); (case ha => walk_at "ev"); (case hb => walk_at "ev"); (case hc => walk_at "ev"))
  | ((with_reducible refine' et_test ?ha); (case ha => walk_at "ev"))
  | ((with_reducible refine' et_B ?ha); (case ha => walk_at "ev"))
  | ((with_reducible refine' et_not ?ha); (case ha => walk_at "ev"))
  | ((with_reducible refine' ev_not ?ha); (case ha => walk_at "ev"))
  | ((with_reducible refine' et_and ?ha ?hb); (case ha => walk_at "ev"); (case hb => intro _; walk_at "ev"))
  | ((with_reducible refine' et_or ?ha ?hb); (case ha => walk_at "ev"); (case hb => intro _; walk_at "ev"))
  | ((with_reducible refine' ev_and ?ha ?hb); (case ha => walk_at "ev"); (case hb => intro _; walk_at "ev"))
  | ((with_reducible refine' ev_or ?ha ?hb); (case ha => walk_at "ev"); (case hb => intro _; walk_at "ev"))
  | ((with_reducible refine' ev_call1 ?ha ?hp); (case ha => walk_at "ev"); (case hp => first | assumption | trivial))
  | ((with_reducible refine' ev_call2 ?ha ?hb ?hp); (case ha => walk_at "ev"); (case hb => walk_at "ev"); (case hp => first | assumption | trivial))
  | ((with_reducible refine' ev_call3 ?ha ?hb ?hc ?hp); (case ha => walk_at "ev"); (case hb => walk_at "ev"); (case hc => walk_at "ev"); (case hp => first | assumption | trivial)))
variable {P : Program} {w : World} {K : PySem.W.Frag} {mg : Str → Option Value} {base : Heap}
/-! ### f(k = v, ..), keywords alone -/
/-- the keywords ks, written the other way round, fill all parameters -/
def KwRev (K : PySem.W.Frag) (d : DefL) (ps ks : List Str) : Prop := ∀ fd, FnAt K d.a fd → ∀ ws : List Value, ws.length = ks.length → bindArgs fd ⟨[], ks.zip ws⟩ = pure (ps.zip ws.reverse)
theorem kwrev_of {d : DefL} {ps ks : List Str} (F : ∃ fd, FunD K d.name d.qual (defArgs d.st) (defBody d.st) (defScope d.st) [] [] d.a fd)
    (hb : ∀ (kV doc pm : Value) (an : Option Addr) (cdv ct : Value) (ws : List Value), ws.length = ks.length → bindArgs (PySem.W.fnOf d.name d.qual (defArgs d.st) (defBody d.st) (defScope d.st) .none kV doc pm an cdv ct) ⟨[], ks.zip ws⟩ = pure (ps.zip ws.reverse)) : KwRev K d ps ks := fun fd ⟨oc, od, osl, lk⟩ => by
  obtain ⟨fd', F⟩ := F
  obtain ⟨oc', od', dV, kV, doc, pm, an, cdv, ct, osl', e, lk', _, hD, _⟩ := F.ex
  have lk2 : K.lookup d.a = _ := lk
  rw [lk2] at lk'
  have e2 := Option.some.inj lk'
  injection e2 with _ _ e3 _
  injection e3 with e3
  subst e3
  subst e
  rcases hD with ⟨_, rfl⟩ | ⟨e, _⟩
  · exact hb kV doc pm an cdv ct
  · exact absurd rfl e
def tKw (sp : Sp) (t : TA) : TE := fun σ H Q => t σ H fun vs H1 => sp vs.reverse H1 Q E0
section
variable {X : Cx} {d : DefL} {ps ks : List Str} {sp : Sp} {k : Nat} {x : Str} {kws : List Keyword} {t : TA} {p pos : Pos}
theorem pe_kw (F : Fn X.prog X.w X.K X.mg X.base k d ps sp) (B : KwRev X.K d ps ks) (hr : Room k X.A) (hm : X.mg x = some (.ref d.a)) (hkw : PK X kws t) (hg : Gl X x := by rfl) (hdb : (x == ("__debug__" : Str)) = false := by decide)
    (hall : (backToKw pos (keywordEach kws X.env)).all (·.1.isSome) = true := by rfl) (hks : (backToKw pos (keywordEach kws X.env)).filterMap (·.1) = ks := by rfl) (hl : ps.length = ks.length := by rfl)
    (hpl : ((backTo pos (starEach [] X.env)).any (·.1) || (backToKw pos (keywordEach kws X.env)).any (·.1.isNone)) = false := by rfl) :
    PE X (.Call (.Name x p) [] kws pos) (tKw sp t) := by
  obtain ⟨fd, F, b, kp, at_⟩ := F
  refine ⟨fun pins s σ H Q I h => ?_⟩
  refine wpAny_Call_Name_kw (ld_glob I hg hm ?_ hdb)
  refine PySem.W.callWith_KW0 (h₀ := X.base) I.ok.mod.kin kp hall ?_ hpl
  refine thn (hkw.run pos pins s σ H _ I h) fun ws s2 ⟨zs, H2, I2, rz, q2⟩ => ⟨I2.kIn, ?_⟩
  rw [hks]
  have hrev : Vals zs.reverse ws.reverse := rz.reverse
  have hlen : ws.length = ks.length := by
    have h1 := F.len _ _ _ _ q2
    rw [List.length_reverse, rz.length] at h1
    rw [h1, hl]
  refine wpAny_call (codeAny_mono (F.run X.A X.stack s2 H2 ⟨[], ks.zip ws⟩ ws.reverse zs.reverse Q E0 hr I2.env0 (BindsTo.of_eq (B fd at_ ws hlen)) hrev q2) fun r s' hq => ?_)
  cases r with
  | error er => exact (pass0 (X := X)) pins σ H2 s2 er s' I2 hq
  | ok fl =>
    cases fl with
    | ret u => exact I2.after hq
    | next => exact hq.elim
    | brk => exact hq.elim
    | cont => exact hq.elim
end
section
variable {α β γ δ ε : Type} {σ : L2.St} {H : Hp} {ta tb tc td : TE}
theorem ev_kw4 [Rp α] [Rp β] [Rp γ] [Rp δ] [Rp ε] {pre : α → β → γ → δ → Prop} {f : α → β → γ → δ → ε} {a : α} {b : β} {c : γ} {e : δ} (ha : EvR ta σ H a) (hb : EvR tb σ H b) (hc : EvR tc σ H c) (hd : EvR td σ H e) (hp : pre a b c e) :
    EvR (tKw (Pure4 pre f) (tCons td (tCons tc (tCons tb (tCons ta tNil))))) σ H (f a b c e) := fun H1 s Q q =>
  hd H1 s _ fun v H2 s2 hv => hc H2 (s.trans s2) _ fun w H3 s3 hw => hb H3 ((s.trans s2).trans s3) _ fun z H4 s4 hz => ha H4 (((s.trans s2).trans s3).trans s4) _ fun y H5 s5 hy =>
    ⟨y, z, w, v, a, b, c, e, rfl, hy, Rp.mono s5 hz, Rp.mono (s4.trans s5) hw, Rp.mono ((s3.trans s4).trans s5) hv, hp, fun u H6 s6 hu => q u H6 (s2.trans (s3.trans (s4.trans (s5.trans s6)))) hu⟩
end
theorem B_within_from (T : Tx w K mg) : KwRev K d_within_from ["p", "q", "least_span", "least_gap"] ["least_gap", "least_span", "q", "p"] :=
  kwrev_of T.f_within_from fun kV doc pm an cdv ct ws hl => match ws, hl with | [_, _, _, _], _ => rfl
theorem B_outside_from (T : Tx w K mg) : KwRev K d_outside_from ["p", "q", "least_span", "least_gap"] ["least_gap", "least_span", "q", "p"] :=
  kwrev_of T.f_outside_from fun kV doc pm an cdv ct ws hl => match ws, hl with | [_, _, _, _], _ => rfl
/-! ### what they answer -/
theorem within_is (p q : List Stp) (ls lg : Int) : withinF ⟨p⟩ ⟨q⟩ ls lg = CM.withinM p q ls lg := rfl
theorem outside_is (p q : List Stp) (ls lg : Int) : (outsideF ⟨p⟩ ⟨q⟩ ls lg).map RowO.sp = CM.outsideM p q ls lg := by
  unfold outsideF CM.outsideM
  by_cases c : CM.starts p < CM.starts q ∨ CM.ends q < CM.ends p
  · have c' : startsP ⟨p⟩ < startsP ⟨q⟩ ∨ endsP ⟨q⟩ < endsP ⟨p⟩ := c
    rw [if_pos c, if_pos c']
    rfl
  · have c' : ¬ (startsP ⟨p⟩ < startsP ⟨q⟩ ∨ endsP ⟨q⟩ < endsP ⟨p⟩) := c
    rw [if_neg c, if_neg c']
    have e : CM.rowOver p q ls lg = match cellA ⟨p⟩ ⟨q⟩ ls lg with
      | none => none
      | some c => some (CM.combL 0 (c.1 + ls - 1) (c.2 + lg - 1) (CM.manyFor (c.1 + ls - 1) (c.2 + lg - 1) (dropsP ⟨p⟩ + dropsP ⟨q⟩)).toNat) := rfl
    rw [e]
    unfold rowOver
    cases cellA ⟨p⟩ ⟨q⟩ ls lg <;> rfl
end Cf
set_option Elab.async false
set_option linter.all false
set_option maxRecDepth 100000
set_option maxHeartbeats 4000000
namespace Cf
open PySem PySem.Spec PyProof.Rows L2 Cs
local macro_rules | `(tactic| walk_at "lf") => `(tactic| first
  | assumption
  | exact rfl
  | exact Rp.mono (by assumption) (by assumption)
  | exact Rp.mono (Same.trans (by assumption) (by assumption)) (by assumption)
  | exact RpK.monoK (by assumption) (by assumption))
local macro_rules | `(tactic| walk_at "ev") => `(tactic| first
  | with_reducible exact ev_int
  | with_reducible exact ev_bl
  | with_reducible exact ev_fill
  | with_reducible exact ev_drop
  | with_reducible exact ev_str
  | ((with_reducible refine' ev_var ?hs ?hv); (case hs => exact rfl); (case hv => walk_at "lf"))
  | ((with_reducible refine' ev_opI ?ha ?hb); (case ha => walk_at "ev"); (case hb => walk_at "ev"))
  | ((with_reducible refine' ev_opB ?ha ?hb); (case ha => walk_at "ev"); (case hb => walk_at "ev"))
  | ((with_reducible refine' ev_opC ?ha ?hb ?hc); (case ha => walk_at "ev"); (case hb => walk_at "ev"); (case hc => first | assumption | skip))
  | ((with_reducible refine' ev_un ?ha); (case ha => walk_at "ev"))
  | ((with_reducible refine' ev_eqK ?ha ?hb); (case ha => walk_at "ev"); (case hb => walk_at "ev"))
  | ((with_reducible refine' ev_eqI ?ha ?hb); (case ha => walk_at "ev"); (case hb => walk_at "ev"))
  | ((with_reducible refine' ev_eqS ?ha ?hb); (case ha => walk_at "ev"); (case hb => walk_at "ev"))
  | ((with_reducible refine' ev_neK ?ha ?hb); (case ha => walk_at "ev"); (case hb => walk_at "ev"))
  | ((with_reducible refine' ev_neI ?ha ?hb); (case ha => walk_at "ev"); (case hb => walk_at "ev"))
  | ((with_reducible refine' ev_neS ?ha ?hb); (case ha => walk_at "ev"); (case hb => walk_at "ev"))
  | ((with_reducible refine' ev_tup2 ?ha ?hb); (case ha => walk_at "ev"); (case hb => walk_at "ev"))
  | ((with_reducible refine' ev_tup1 ?ha); (case ha => walk_at "ev"))
  | with_reducible exact ev_tup0
  | ((with_reducible refine' ev_fst ?ha); (case ha => walk_at "ev"))
  | ((with_reducible refine' ev_snd ?ha); (case ha => walk_at "ev"))
  | ((with_reducible refine' ev_max2 rfl ?ha ?hb); (case ha => walk_at "ev"); (case hb => walk_at "ev"))
  | ((with_reducible refine' ev_min2 rfl ?ha ?hb); (case ha => walk_at "ev"); (case hb => walk_at "ev"))
  | ((with_reducible refine' ev_abs rfl ?ha); (case ha => walk_at "ev"))
  | ((with_reducible refine' ev_intI rfl ?ha); (case ha => walk_at "ev"))
  | ((with_reducible refine' ev_intB rfl ?ha); (case ha => walk_at "ev"))
  | ((with_reducible refine' ev_len rfl ?ha); (case ha => walk_at "ev"))
  | ((with_reducible refine' ev_lenL rfl ?ha); (case ha => walk_at "ev"))
  | ((with_reducible refine' ev_tuple rfl ?ha); (case ha => walk_at "ev"))
  | ((with_reducible refine' ev_sum ?ha); (case ha => walk_at "ev"))
  | ((with_reducible refine' ev_chain ?ha ?hb ?hc); (case ha => walk_at "ev"); (case hb => walk_at "ev"); (case hc => walk_at "ev"))
  | ((with_reducible refine' et_test ?ha); (case ha => walk_at "ev"))
  | ((with_reducible refine' et_B ?ha); (case ha => walk_at "ev"))
  | ((with_reducible refine' et_not ?ha); (case ha => walk_at "ev"))
  | ((with_reducible refine' ev_not ?ha); (case ha => walk_at "ev"))
  | ((with_reducible refine' et_and ?ha ?hb); (case ha => walk_at "ev"); (case hb => intro _; walk_at "ev"))
  | ((with_reducible refine' et_or ?ha ?hb); (case ha => walk_at "ev"); (case hb => intro _; walk_at "ev"))
  | ((with_reducible refine' ev_and ?ha ?hb); (case ha => walk_at "ev"); (case hb => intro _; walk_at "ev"))
  | ((with_reducible refine' ev_or ?ha ?hb); (case ha => walk_at "ev"); (case hb => intro _; walk_at "ev"))
  | ((with_reducible refine' ev_call1 ?ha ?hp); (case ha => walk_at "ev"); (case hp => first | assumption | trivial))
  | ((with_reducible refine' ev_call2 ?ha ?hb ?hp); (case ha => walk_at "ev"); (case hb => walk_at "ev"); (case hp => first | assumption | trivial))
  | ((with_reducible refine' ev_call3 ?ha ?hb ?hc ?hp); (case ha => walk_at "ev"); (case hb => walk_at "ev"); (case hc => walk_at "ev"); (case hp => first | assumption | trivial)))
variable {P : Program} {w : World} {K : PySem.W.Frag} {mg : Str → Option Value} {base : Heap}
section
variable {α : Type} {σ : L2.St} {H : Hp} {ta tb tc : TE}
theorem ev_lst3 [RpK α] {a b c : α} (ha : EvR ta σ H a) (hb : EvR tb σ H b) (hc : EvR tc σ H c) : EvR (tLst (tCons ta (tCons tb (tCons tc tNil)))) σ H (⟨[a, b, c]⟩ : Ls α) := fun H1 s Q q =>
  ha H1 s _ fun v H2 s2 hv => hb H2 (s.trans s2) _ fun u H3 s3 hu => hc H3 ((s.trans s2).trans s3) _ fun x H4 s4 hx => ⟨by show 3 ≤ sizeLine; decide, fun p hp => q _ _ (s2.trans (s3.trans (s4.trans (same_new hp)))) ⟨p, [v, u, x], rfl, upd_same, Rp.mono ((s3.trans s4).trans (same_new hp)) hv, Rp.mono (s4.trans (same_new hp)) hu, Rp.mono (same_new hp) hx, trivial⟩⟩
theorem ev_isiRow (T : Tx w K mg) {r : RowO} (h : EvR ta σ H r) : EvR (tCB (rIsi K) (tCons ta (tCons (tC (.ref 422)) tNil))) σ H true := fun H1 s Q q => h H1 s _ fun v H2 s2 hv => by
  obtain ⟨a, dx, x, e, h1, _⟩ := hv
  obtain ⟨i1, i2⟩ := He.ba T.insRow
  obtain ⟨i2, i3⟩ := He.ba i2
  obtain ⟨i3, i4⟩ := He.ba i3
  refine ⟨v, .ref 422, .ref 422, .ref 422, true, rfl, .own _, .base ?_, ?_, q _ H2 s2 rfl⟩
  · rw [e]
    exact .ins h1 T.cl_Row (He.eqO_ok i1) (He.eqO_ok i2) (of_decide_eq_true i3) (of_decide_eq_true i4)
  · unfold PySem.W.kitOne
    rw [if_pos (beq_self_eq_true _)]
end
theorem sc_Lrows_right : FnScope ["_law_mine", "_law_its", "_law_low_so", "_law_hole_so", "_law_goal", "_law_one_here", "_law_other", "_law_shown", "_law_got", "_law_track"] ["_law_mine", "_law_its", "_law_low_so", "_law_hole_so", "_law_goal"] (defScope s_Lrows_right) := ⟨rfl, rfl, rfl, by decide +kernel, rfl, by decide +kernel, by decide +kernel⟩
abbrev RightPre (p q : List Stp) (ls lg : Int) (goal : Bool) : Prop := HostPre p ∧ HostPre q ∧ OutPre ⟨p⟩ ⟨q⟩ ls lg ∧ 1 ≤ ls ∧ 1 ≤ lg ∧ (goal = true ↔ CM.Due p q ls lg)
def RightSp : Sp := fun vs H Q _ => ∃ (v1 v2 : V) (p q : List Stp) (ls lg : Int) (goal : Bool), vs = [v1, v2, .int ls, .int lg, .bl goal] ∧ Rp.is H v1 p ∧ Rp.is H v2 q ∧ RightPre p q ls lg goal ∧ ∀ H', Same H H' → Q (.bl true) H'
theorem comb_row_len {p q : List Stp} {ls lg : Int} (ho : OutPre ⟨p⟩ ⟨q⟩ ls lg) {r : RowO} (h : outsideF ⟨p⟩ ⟨q⟩ ls lg = some r) : r.sp.length ≤ 1000 := by
  unfold outsideF at h
  split at h
  · obtain rfl := Option.some.inj h
    show 1 ≤ 1000
    decide
  · unfold rowOver at h
    cases e : cellA ⟨p⟩ ⟨q⟩ ls lg with
    | none => rw [e] at h; cases h
    | some c =>
      rw [e] at h
      obtain rfl := Option.some.inj h
      have := (ho.2.2.1 c e).2
      show (CM.combL _ _ _ _).length ≤ 1000
      rw [comb_len]
      omega
theorem F_Lrows_right (T : Tx w K mg) (pm : PMain P) : Fn P w K mg base 13 d_Lrows_right ["_law_mine", "_law_its", "_law_low_so", "_law_hole_so", "_law_goal"] RightSp := by
  have F_Lhost : Fn P w K mg base 6 d_Lhost ["_law_line_here"] _ := F_Lhost T
  have F_outside_from : Fn P w K mg base 12 d_outside_from ["p", "q", "least_span", "least_gap"] _ := F_outside_from T pm
  have F_within_from : Fn P w K mg base 12 d_within_from ["p", "q", "least_span", "least_gap"] _ := F_within_from T pm
  have B_within_from := B_within_from T
  have B_outside_from := B_outside_from T
  have F_Lsame : Fn P w K mg base 3 d_Lsame ["_law_got", "_law_goal"] _ := F_Lsame1 T
  have F_Lcomes : Fn P w K mg base 1 d_Lcomes ["_law_track", "_law_low_so", "_law_hole_so"] _ := F_Lcomes T
  have F_Lis_in : Fn P w K mg base 1 d_Lis_in ["_law_track", "_law_far"] _ := F_Lis_in T
  have F_Lmade : Fn P w K mg base 3 d_Lmade ["_law_line_here", "_law_track"] _ := F_Lmade T
  have F_Row_spans : Fn P w K mg base 1 d_Row_spans ["self"] _ := F_Row_spans T
  have F_Row_tup : Fn P w K mg base 2 d_Row_init ["self", "pairs"] _ := F_Row_tup T
  have F_Row_within : Fn P w K mg base 3 d_Row_within ["self", "b"] _ := F_Row_within T
  have F_Pipeline_call : Fn P w K mg base 5 d_Pipeline_call ["self", "row"] _ := F_Pipeline_call T
  refine mk_fn T.f_Lrows_right sc_Lrows_right (fun kV doc pm an cdv ct us hl => match us, hl with | [_, _, _, _, _], _ => rfl) (fun vs H Q E h => by obtain ⟨_, _, _, _, _, _, _, e, _⟩ := h; rw [e]; rfl) (fun cdv A outer s H vs Q E hr h => ?_)
  obtain ⟨v1, v2, p, q, ls, lg, goal, rfl, h1, h2, ⟨hp, hq, ho, hls, hlg, hg⟩, kk⟩ := h
  refine ⟨_, (pss_cons (ps_par (i := 5) (j := 6) (by rfl) sc_Lrows_right.nd rfl rfl (by decide) rfl rfl (pa_cons (pe_fn F_Lhost (hr.mono (by decide)) T.g_Lhost (pa_cons (pv 0) pa_nil)) (pa_cons (pe_fn F_Lhost (hr.mono (by decide)) T.g_Lhost (pa_cons (pv 1) pa_nil)) pa_nil)) (by rfl))
  (pss_cons (ps_set (i := 7) sc_Lrows_right.nd rfl (Or.inl rfl) (pe_fn F_outside_from (hr.mono (by decide)) T.g_outside_from (pa_cons (pv 5) (pa_cons (pv 6) (pa_cons (pv 2) (pa_cons (pv 3) pa_nil))))))
  (pss_cons (ps_set (i := 8) sc_Lrows_right.nd rfl (Or.inl rfl) (pe_lst (pa_cons (pe_fn F_within_from (hr.mono (by decide)) T.g_within_from (pa_cons (pv 5) (pa_cons (pv 6) (pa_cons (pv 2) (pa_cons (pv 3) pa_nil))))) pa_nil)))
  (pss_cons (ps_set (i := 8) sc_Lrows_right.nd rfl (Or.inl rfl) (pe_op op_cat (pv 8) (pe_lst (pa_cons (pe_kw F_within_from B_within_from (hr.mono (by decide)) T.g_within_from (pk_cons (pv 3) (pk_cons (pv 2) (pk_cons (pv 6) (pk_cons (pv 5) pk_nil))))) pa_nil))))
  (pss_cons (ps_if (pt_not (pt_val (pe_fn F_Lsame (hr.mono (by decide)) T.g_Lsame (pa_cons (pe_op op_cat (pv 8) (pe_lst (pa_cons (pe_cmpR op_isN (pv 7) pe_non (nomark _)) pa_nil))) (pa_cons (pe_lst (pa_cons (pv 4) (pa_cons (pv 4) (pa_cons (pv 4) pa_nil)))) pa_nil)))))
  (pss_one (ps_ret pe_bl))
  pss_nil)
  (pss_cons (ps_if (pt_val (pv 4))
  (pss_one (ps_ret (pe_cmpR op_isN (pe_kw F_outside_from B_outside_from (hr.mono (by decide)) T.g_outside_from (pk_cons (pv 3) (pk_cons (pv 2) (pk_cons (pv 6) (pk_cons (pv 5) pk_nil))))) pe_non (nomark _))))
  pss_nil)
  (pss_cons (ps_if (PW.pt (pw_or (pt_not (pt_val (pe_callB call_isi (by rfl) T.b_isinstance (by decide +kernel) (pa_cons (pv 7) (pa_cons (pe_glob (v := .ref 422) rfl T.g_Row rfl) pa_nil))))) (pw_or1 (pt_not (pt_val (pe_fn F_Lcomes (hr.mono (by decide)) T.g_Lcomes (pa_cons (pe_pr F_Row_spans (hr.mono (by decide)) T.cl_Row T.pr_Row_spans (pv 7)) (pa_cons (pv 2) (pa_cons (pv 3) pa_nil)))))))))
  (pss_one (ps_ret pe_bl))
  pss_nil)
  (pss_cons (ps_if (pt_val (pe_fn F_Lis_in (hr.mono (by decide)) T.g_Lis_in (pa_cons (pe_fn F_Lmade (hr.mono (by decide)) T.g_Lmade (pa_cons (pv 0) (pa_cons (pe_pr F_Row_spans (hr.mono (by decide)) T.cl_Row T.pr_Row_spans (pv 7)) pa_nil))) (pa_cons (pe_fn F_Lmade (hr.mono (by decide)) T.g_Lmade (pa_cons (pv 1) (pa_cons (pe_pr F_Row_spans (hr.mono (by decide)) T.cl_Row T.pr_Row_spans (pv 7)) pa_nil))) pa_nil))))
  (pss_one (ps_ret pe_bl))
  pss_nil)
  (pss_cons (ps_set (i := 9) sc_Lrows_right.nd rfl (Or.inl rfl) (pe_pr F_Row_spans (hr.mono (by decide)) T.cl_Row T.pr_Row_spans (pv 7)))
  (pss_one (ps_ret (pe_not (pe_me F_Row_within (hr.mono (by decide)) T.cl_Row T.me_Row_within (pe_co F_Pipeline_call (hr.mono (by decide)) T.co_Pipeline (pv 5) (pa_cons (pe_mk F_Row_tup T.mk_Row (hr.mono (by decide)) T.g_Row (pa_cons (pv 9) pa_nil)) pa_nil)) (pa_cons (pe_co F_Pipeline_call (hr.mono (by decide)) T.co_Pipeline (pv 6) (pa_cons (pe_mk F_Row_tup T.mk_Row (hr.mono (by decide)) T.g_Row (pa_cons (pv 9) pa_nil)) pa_nil)) pa_nil)))))))))))))), ?_⟩
  have wd : withinF ⟨p⟩ ⟨q⟩ ls lg = goal := by
    rw [within_is, Bool.eq_iff_iff, CM.withinM_due hls hlg]
    exact hg.symm
  have od : (outsideF ⟨p⟩ ⟨q⟩ ls lg).isNone = goal := by
    rw [Bool.eq_iff_iff, Option.isNone_iff_eq_none, ← Option.map_eq_none_iff (f := RowO.sp), outside_is, CM.outsideM_none hls hlg]
    exact hg.symm
  have ip : InPre ⟨p⟩ ⟨q⟩ ls lg := ⟨ho.1, ho.2.1⟩
  refine q_par (a := PipeO.mk p) (b := PipeO.mk q) (ev_call1 (f := PipeO.mk) (ev_var rfl h1) hp) (ev_call1 (f := PipeO.mk) (ev_var rfl h2) hq) fun v5 v6 H1 s1 hv5 hv6 => ?_
  refine q_asg (a := outsideF ⟨p⟩ ⟨q⟩ ls lg) (ev_call4 (f := outsideF) (ev_var rfl hv5) (ev_var rfl hv6) (ev_var (a := ls) rfl rfl) (ev_var (a := lg) rfl rfl) ho) fun v7 H2 s2 hv7 => ?_
  have a5 := Rp.mono s2 hv5
  have a6 := Rp.mono s2 hv6
  refine q_asg (a := (⟨[goal]⟩ : Ls Bool)) ((ev_lst1 (ev_call4 (f := withinF) (ev_var rfl a5) (ev_var rfl a6) (ev_var (a := ls) rfl rfl) (ev_var (a := lg) rfl rfl) ip)).eq (by rw [wd])) fun v8 H3 s3 hv8 => ?_
  have b5 := Rp.mono s3 a5
  have b6 := Rp.mono s3 a6
  have b7 := Rp.mono s3 hv7
  refine q_asg (a := (⟨[goal] ++ [goal]⟩ : Ls Bool)) (ev_cat (ev_var rfl hv8) ((ev_lst1 (ev_kw4 (f := withinF) (ev_var rfl b5) (ev_var rfl b6) (ev_var (a := ls) rfl rfl) (ev_var (a := lg) rfl rfl) ip)).eq (by rw [wd])) (by show 2 ≤ sizeLine; decide)) fun v9 H4 s4 hv9 => ?_
  have c5 := Rp.mono s4 b5
  have c6 := Rp.mono s4 b6
  have c7 := Rp.mono s4 b7
  refine q_ifP (p := False) ((et_not (et_test (ev_call2 (f := sameM) (a := ⟨([goal] ++ [goal]) ++ [goal]⟩) (b := ⟨[goal, goal, goal]⟩) (ev_cat (ev_var rfl hv9) ((ev_lst1 (ev_isN (a := outsideF ⟨p⟩ ⟨q⟩ ls lg) rfl (ev_var rfl c7))).eq (by rw [od])) (by show 3 ≤ sizeLine; decide)) (ev_lst3 (ev_var (a := goal) rfl rfl) (ev_var (a := goal) rfl rfl) (ev_var (a := goal) rfl rfl)) ⟨rfl, by show 3 ≤ 10; decide⟩))).eq (by
    have : sameM ⟨([goal] ++ [goal]) ++ [goal]⟩ ⟨[goal, goal, goal]⟩ = true := by cases goal <;> rfl
    rw [this]
    rfl)) (fun c => c.elim) (fun _ H5 s5 => ?_)
  have d5 := Rp.mono s5 c5
  have d6 := Rp.mono s5 c6
  have d7 := Rp.mono s5 c7
  have S5 : Same H H5 := (((s1.trans s2).trans s3).trans s4).trans s5
  refine q_if (b := goal) (et_test (ev_var (a := goal) rfl rfl)) (fun eg H6 s6 => ?_) (fun eg H6 s6 => ?_)
  · exact s_ret (a := true) ((ev_isN (a := outsideF ⟨p⟩ ⟨q⟩ ls lg) rfl (ev_kw4 (f := outsideF) (ev_var rfl (Rp.mono s6 d5)) (ev_var rfl (Rp.mono s6 d6)) (ev_var (a := ls) rfl rfl) (ev_var (a := lg) rfl rfl) ho)).eq (by rw [od, eg])) fun u H7 s7 hu => by
      obtain rfl : u = .bl true := hu
      exact kk _ ((S5.trans s6).trans s7)
  · cases er : outsideF ⟨p⟩ ⟨q⟩ ls lg with
    | none =>
      rw [er, eg] at od
      cases od
    | some r =>
      obtain ⟨X⟩ := r
      have hX : CM.outsideM p q ls lg = some X := by rw [← outside_is, er]; rfl
      obtain ⟨gX, nX⟩ := CM.outsideM_shows hp.2 hq.2 hls hlg hX
      have lX : X.length ≤ 1000 := comb_row_len ho er
      have g0 : CM.Good 0 0 X := gX.mono (by omega) (by omega)
      rw [er] at d7
      have e5 := Rp.mono s6 d5
      have e6 := Rp.mono s6 d6
      have e7 : Rp.is H6 v7 (RowO.mk X) := (Rp.mono s6 d7).2
      have f1 := Rp.mono (S5.trans s6) h1
      have f2 := Rp.mono (S5.trans s6) h2
      have spX : ∀ {σ : L2.St} {H' : Hp}, σ[7]? = some (some v7) → Same H6 H' → EvR (tProp 422 (Pure1 (fun _ : RowO => True) RowO.sp) [] E0 (tVar 7)) σ H' X := fun e s => ev_prR (r := RowO.mk X) (ev_var e (Rp.mono s e7)) trivial
      have gp := CM.pipe_good hp.2 g0
      have gq := CM.pipe_good hq.2 g0
      have lp := Nat.le_trans (pipe_len p X) lX
      have lq := Nat.le_trans (pipe_len q X) lX
      refine q_ifP (p := False) ((et_or (a := false) (b := false) ((et_not (et_test (ev_isiRow T (ev_var rfl e7)))).eq rfl) fun _ => (et_not (et_test (ev_call3 (f := fun _ _ _ => true) (spX rfl (Same.refl _)) (ev_var (a := ls) rfl rfl) (ev_var (a := lg) rfl rfl) ⟨lX, gX⟩))).eq rfl).eq (by simp)) (fun c => c.elim) (fun _ H7 s7 => ?_)
      refine q_ifP (p := False) ((et_test (ev_call2 (f := inM) (ev_call2 (f := CM.pipe) (ev_var rfl (Rp.mono s7 f1)) (spX rfl s7) ⟨hp.2, lX, g0⟩) (ev_call2 (f := CM.pipe) (ev_var rfl (Rp.mono s7 f2)) (spX rfl s7) ⟨hq.2, lX, g0⟩) ⟨lp, lq⟩)).eq (by
        cases z : inM (CM.pipe p X) (CM.pipe q X) with
        | false => simp
        | true => exact absurd ((inM_iff _ _).mp z) nX)) (fun c => c.elim) (fun _ H8 s8 => ?_)
      refine q_asg (a := X) (spX rfl (s7.trans s8)) fun v10 H9 s9 hv10 => ?_
      have S9 := (s7.trans s8).trans s9
      have hrow : ∀ {σ : L2.St}, σ[9]? = some (some v10) → EvR (tMake 422 (InitOf 422 RowPre "own_spans" rowT) [] E0 (tCons (tVar 9) tNil)) σ H9 (RowO.mk X) := fun e => (ev_rowT (X := X) (ev_var e hv10) ⟨lX, asc_good g0⟩).eq (by rw [row_good g0 (Int.le_refl 0)])
      refine s_ret (a := true) ((ev_not (ev_meR (g := withinR) (r := ⟨CM.pipe p X⟩) (x := RowO.mk (CM.pipe q X)) (by decide +kernel) (ev_coP (g := callP) (r := ⟨p⟩) (x := RowO.mk X) (ev_var rfl (Rp.mono S9 e5)) (hrow rfl) ⟨hp.2, lX, g0⟩) (ev_coP (g := callP) (r := ⟨q⟩) (x := RowO.mk X) (ev_var rfl (Rp.mono S9 e6)) (hrow rfl) ⟨hq.2, lX, g0⟩) ⟨lp, lq⟩)).eq ?_) fun u H10 s10 hu => by
        obtain rfl : u = .bl true := hu
        exact kk _ (((S5.trans s6).trans S9).trans s10)
      have hne : CM.leftM (CM.pipe p X) (CM.pipe q X) ≠ [] := fun z => nX ((CM.left_sub gp gq).mp z)
      show (!(CM.leftM (CM.pipe p X) (CM.pipe q X)).isEmpty) = true
      cases z : CM.leftM (CM.pipe p X) (CM.pipe q X) with
      | nil => exact absurd z hne
      | cons a b => rfl
end Cf
/-! How long words of small steps get. -/
namespace CM
def amt : Stp → Int
  | .fill g => g
  | .drop d => d
  | .widen a b => a + b
  | .trim a b => a + b
  | .shift _ => 0
theorem spell_len : ∀ (hs : List Int) (high low B : Int), high ≤ B → -B ≤ low → (∀ h ∈ hs, -B ≤ h ∧ h ≤ B) → ((spell high low hs).length : Int) ≤ (B - high) + (low + B)
  | [], high, low, B, h1, h2, _ => by
    show ((0 : Nat) : Int) ≤ _
    omega
  | h :: r, high, low, B, h1, h2, hb => by
    have hh := hb h (.head _)
    have ih := spell_len r (max high h) (min low h) B (by omega) (by omega) fun x hx => hb x (.tail _ hx)
    have e : (spell high low (h :: r)).length = (h - high).toNat + ((low - h).toNat + (spell (max high h) (min low h) r).length) := by
      show (List.replicate (h - high).toNat true ++ (List.replicate (low - h).toNat false ++ spell (max high h) (min low h) r)).length = _
      rw [List.length_append, List.length_append, List.length_replicate, List.length_replicate]
    omega
theorem hts_bound : ∀ (p : List Stp) (h A : Int), (∀ s ∈ p, s.ok) → (∀ s ∈ p, amt s ≤ A) → 0 ≤ A → ∀ x ∈ hts h p, h - A * p.length ≤ x ∧ x ≤ h + A * p.length
  | [], _, _, _, _, _, x, hx => by cases hx
  | s :: r, h, A, ok, ha, hA, x, hx => by
    have ok1 := ok s (.head _)
    have a1 := ha s (.head _)
    have ih := fun h => hts_bound r h A (fun s hs => ok s (.tail _ hs)) (fun s hs => ha s (.tail _ hs)) hA
    have el : A * ((s :: r).length : Int) = A + A * (r.length : Int) := by
      rw [List.length_cons]
      push_cast
      rw [Int.mul_add, Int.mul_one, Int.add_comm]
    have er : 0 ≤ A * (r.length : Int) := Int.mul_nonneg hA (by omega)
    rw [el]
    cases s with
    | fill g =>
      have a1 : g ≤ A := a1
      have ok1 : 0 ≤ g := ok1
      rcases List.mem_cons.mp (show x ∈ (h + g) :: h :: hts h r from hx) with e | hx
      · omega
      · rcases List.mem_cons.mp hx with e | hx
        · omega
        · have := ih h x hx
          omega
    | drop g =>
      have a1 : g ≤ A := a1
      have ok1 : 0 ≤ g := ok1
      rcases List.mem_cons.mp (show x ∈ (h - g) :: h :: hts h r from hx) with e | hx
      · omega
      · rcases List.mem_cons.mp hx with e | hx
        · omega
        · have := ih h x hx
          omega
    | widen a b =>
      have a1 : a + b ≤ A := a1
      have ok1 : 0 ≤ a ∧ 0 ≤ b := ok1
      rcases List.mem_cons.mp (show x ∈ (h + (a + b)) :: hts (h + (a + b)) r from hx) with e | hx
      · omega
      · have := ih (h + (a + b)) x hx
        omega
    | trim a b =>
      have a1 : a + b ≤ A := a1
      have ok1 : 0 ≤ a ∧ 0 ≤ b := ok1
      rcases List.mem_cons.mp (show x ∈ (h - (a + b)) :: hts (h - (a + b)) r from hx) with e | hx
      · omega
      · have := ih (h - (a + b)) x hx
        omega
    | shift n =>
      have := ih h x hx
      omega
def Small (p : List Stp) : Prop := p.length ≤ 10 ∧ ∀ s ∈ p, s.ok ∧ amt s ≤ 20
theorem small_word {p : List Stp} (h : Small p) : (word p).length ≤ 400 := by
  have hb := hts_bound p 0 20 (fun s hs => (h.2 s hs).1) (fun s hs => (h.2 s hs).2) (by decide)
  have hl := h.1
  have := spell_len (trip p) 0 0 200 (by decide) (by decide) fun x hx => by
    rcases List.mem_cons.mp (show x ∈ 0 :: hts 0 p from hx) with e | hx
    · omega
    · have := hb x hx
      omega
  show (spell 0 0 (trip p)).length ≤ 400
  omega
theorem small_drops {p : List Stp} (h : Small p) : 0 ≤ dropsR (wordR p) ∧ dropsR (wordR p) ≤ 400 := by
  have h1 := (letters_eq (wordR_pos p)).2
  rw [expand_wordR] at h1
  have h2 : (word p).count false ≤ (word p).length := List.count_le_length
  have := small_word h
  omega
theorem count_left_le (a b : Int) (p : List Stp) : (left a b 0 0 (word p)).count true ≤ (word p).length ∧ (left a b 0 0 (word p)).count false ≤ (word p).length := by
  have h := count_left a b (word p) 0 0
  have h1 : (word p).count false ≤ (word p).length := List.count_le_length
  have h2 : (word p).count true ≤ (word p).length := List.count_le_length
  omega
end CM
set_option Elab.async false
set_option linter.all false
set_option maxRecDepth 100000
set_option maxHeartbeats 4000000
namespace Cf
open PySem PySem.Spec PyProof.Rows L2 Cs
local macro_rules | `(tactic| walk_at "lf") => `(tactic| first
  | assumption
  | exact rfl
  | exact Rp.mono (by assumption) (by assumption)
  | exact Rp.mono (Same.trans (by assumption) (by assumption)) (by assumption)
  | exact RpK.monoK (by assumption) (by assumption))
local macro_rules | `(tactic| walk_at "ev") => `(tactic| first
  | with_reducible exact ev_int
  | with_reducible exact ev_bl
  | with_reducible exact ev_fill
  | with_reducible exact ev_drop
  | with_reducible exact ev_str
  | ((with_reducible refine' ev_var ?hs ?hv); (case hs => exact rfl); (case hv => walk_at "lf"))
  | ((with_reducible refine' ev_opI ?ha ?hb); (case ha => walk_at "ev"); (case hb => walk_at "ev"))
  | ((with_reducible refine' ev_opB ?ha ?hb); (case ha => walk_at "ev"); (case hb => walk_at "ev"))
  | ((with_reducible refine' ev_opC ?ha ?hb ?hc); (case ha => walk_at "ev"); (case hb => walk_at "ev"); (case hc => first | assumption | skip))
  | ((with_reducible refine' ev_un ?ha); (case ha => walk_at "ev"))
  | ((with_reducible refine' ev_eqK ?ha ?hb); (case ha => walk_at "ev"); (case hb => walk_at "ev"))
  | ((with_reducible refine' ev_eqI ?ha ?hb); (case ha => walk_at "ev"); (case hb => walk_at "ev"))
  | ((with_reducible refine' ev_eqS ?ha ?hb); (case ha => walk_at "ev"); (case hb => walk_at "ev"))
  | ((with_reducible refine' ev_neK ?ha ?hb); (case ha => walk_at "ev"); (case hb => walk_at "ev"))
  | ((with_reducible refine' ev_neI ?ha ?hb); (case ha => walk_at "ev"); (case hb => walk_at "ev"))
  | ((with_reducible refine' ev_neS ?ha ?hb); (case ha => walk_at "ev"); (case hb => walk_at "ev"))
  | ((with_reducible refine' ev_tup2 ?ha ?hb); (case ha => walk_at "ev"); (case hb => walk_at "ev"))
  | ((with_reducible refine' ev_tup1 ?ha); (case ha => walk_at "ev"))
  | with_reducible exact ev_tup0
  | ((with_reducible refine' ev_fst ?ha); (case ha => walk_at "ev"))
  | ((with_reducible refine' ev_snd ?ha); (case ha => walk_at "ev"))
  | ((with_reducible refine' ev_max2 rfl ?ha ?hb); (case ha => walk_at "ev"); (case hb => walk_at "ev"))
  | ((with_reducible refine' ev_min2 rfl ?ha ?hb); (case ha => walk_at "ev"); (case hb => walk_at "ev"))
  | ((with_reducible refine' ev_abs rfl ?ha); (case ha => walk_at "ev"))
  | ((with_reducible refine' ev_intI rfl ?ha); (case ha => walk_at "ev"))
  | ((with_reducible refine' ev_intB rfl ?ha); (case ha => walk_at "ev"))
  | ((with_reducible refine' ev_len rfl ?ha); (case ha => walk_at "ev"))
  | ((with_reducible refine' ev_lenL rfl ?ha); (case ha => walk_at "ev"))
  | ((with_reducible refine' ev_tuple rfl ?ha); (case ha => walk_at "ev"))
  | ((with_reducible refine' ev_sum ?ha); (case ha => walk_at "ev"))
  | ((with_reducible refine' ev_chain ?ha ?hb ?hc); (case ha => walk_at "ev"); (case hb => walk_at "ev"); (case hc => walk_at "ev"))
  | ((with_reducible refine' et_test ?ha); (case ha => walk_at "ev"))
  | ((with_reducible refine' et_B ?ha); (case ha => walk_at "ev"))
  | ((with_reducible refine' et_not ?ha); (case ha => walk_at "ev"))
  | ((with_reducible refine' ev_not ?ha); (case ha => walk_at "ev"))
  | ((with_reducible refine' et_and ?ha ?hb); (case ha => walk_at "ev"); (case hb => intro _; walk_at "ev"))
  | ((with_reducible refine' et_or ?ha ?hb); (case ha => walk_at "ev"); (case hb => intro _; walk_at "ev"))
  | ((with_reducible refine' ev_and ?ha ?hb); (case ha => walk_at "ev"); (case hb => intro _; walk_at "ev"))
  | ((with_reducible refine' ev_or ?ha ?hb); (case ha => walk_at "ev"); (case hb => intro _; walk_at "ev"))
  | ((with_reducible refine' ev_call1 ?ha ?hp); (case ha => walk_at "ev"); (case hp => first | assumption | trivial))
  | ((with_reducible refine' ev_call2 ?ha ?hb ?hp); (case ha => walk_at "ev"); (case hb => walk_at "ev"); (case hp => first | assumption | trivial))
  | ((with_reducible refine' ev_call3 ?ha ?hb ?hc ?hp); (case ha => walk_at "ev"); (case hb => walk_at "ev"); (case hc => walk_at "ev"); (case hp => first | assumption | trivial)))
variable {P : Program} {w : World} {K : PySem.W.Frag} {mg : Str → Option Value} {base : Heap}
theorem small_host {p : List Stp} (h : CM.Small p) : HostPre p := ⟨by have h1 := h.1; show p.length ≤ 100; omega, fun s hs => (h.2 s hs).1⟩
theorem small_sp {p : List Stp} (h : CM.Small p) : SpPre p := ⟨(small_host h).1, Nat.le_trans (CM.small_word h) (by decide)⟩
theorem comb_ok {p q : List Stp} (hp : CM.Small p) (hq : CM.Small q) {ls lg : Int} (h1 : 1 ≤ ls) (h2 : ls ≤ 100) (h3 : 1 ≤ lg) (h4 : lg ≤ 100) : CombOk ⟨p⟩ ⟨q⟩ ls lg := fun c hc => by
  obtain ⟨L, G⟩ := c
  have hc2 : CM.cellOver (CM.cutW (lg - 1) (ls - 1) (CM.wordR p)) (CM.cutW (lg - 1) (ls - 1) (CM.wordR q)) = some (L, G) := hc
  have cell := CM.cell_some (CM.cutW_pos _ _ _) (CM.cutW_pos _ _ _) hc2
  rw [CM.expand_cutW (by omega) (by omega) (CM.wordR_pos p), CM.expand_cutW (by omega) (by omega) (CM.wordR_pos q), CM.expand_wordR, CM.expand_wordR] at cell
  have cp := CM.count_left_le (lg - 1) (ls - 1) p
  have cq := CM.count_left_le (lg - 1) (ls - 1) q
  have wp := CM.small_word hp
  have wq := CM.small_word hq
  have dp := CM.small_drops hp
  have dq := CM.small_drops hq
  have hLG : 1 ≤ L ∧ L ≤ 401 ∧ 1 ≤ G ∧ G ≤ 401 := by
    rcases cell with ⟨n, x, e1, e2, ha, _⟩ | ⟨e1, e2, _⟩
    · have := CM.ahd_lt _ _ _ ha
      omega
    · omega
  have hd : 0 ≤ dropsP ⟨p⟩ + dropsP ⟨q⟩ ∧ dropsP ⟨p⟩ + dropsP ⟨q⟩ ≤ 800 := by
    show 0 ≤ CM.dropsR (CM.wordR p) + CM.dropsR (CM.wordR q) ∧ CM.dropsR (CM.wordR p) + CM.dropsR (CM.wordR q) ≤ 800
    omega
  generalize dropsP ⟨p⟩ + dropsP ⟨q⟩ = d at hd
  show ManyPre (L + ls - 1) (G + lg - 1) d ∧ CombPre 0 (L + ls - 1) (G + lg - 1) (CM.manyFor (L + ls - 1) (G + lg - 1) d)
  refine ⟨⟨by omega, by omega, by omega⟩, rfl, by omega, by omega, ?_, ?_⟩
  · show 0 ≤ 2 + (d + (G + lg - 1)) / (L + ls - 1 + (G + lg - 1))
    have := Int.ediv_nonneg (a := d + (G + lg - 1)) (b := L + ls - 1 + (G + lg - 1)) (by omega) (by omega)
    omega
  · show 2 + (d + (G + lg - 1)) / (L + ls - 1 + (G + lg - 1)) ≤ 1000
    have : (d + (G + lg - 1)) / (L + ls - 1 + (G + lg - 1)) ≤ d + 1 := by
      refine Int.le_of_lt_add_one (Int.ediv_lt_of_lt_mul (by omega) ?_)
      have e : (d + 1 + 1) * (L + ls - 1 + (G + lg - 1)) = d * (L + ls - 1 + (G + lg - 1)) + 2 * (L + ls - 1 + (G + lg - 1)) := by
        rw [Int.add_assoc, Int.add_mul]
        rfl
      have e2 : d * 1 ≤ d * (L + ls - 1 + (G + lg - 1)) := Int.mul_le_mul_of_nonneg_left (by omega) hd.1
      omega
    omega
theorem out_pre {p q : List Stp} (hp : CM.Small p) (hq : CM.Small q) {ls lg : Int} (h1 : 1 ≤ ls) (h2 : ls ≤ 100) (h3 : 1 ≤ lg) (h4 : lg ≤ 100) : OutPre ⟨p⟩ ⟨q⟩ ls lg := by
  refine ⟨(small_host hp).1, (small_host hq).1, comb_ok hp hq h1 h2 h3 h4, ?_⟩
  have dp := CM.small_drops hp
  have dq := CM.small_drops hq
  show 0 < ls + CM.dropsR (CM.wordR p) + CM.dropsR (CM.wordR q)
  omega
theorem right_pre {p q : List Stp} (hp : CM.Small p) (hq : CM.Small q) {ls lg : Int} (h1 : 1 ≤ ls) (h2 : ls ≤ 100) (h3 : 1 ≤ lg) (h4 : lg ≤ 100) {goal : Bool} (hg : goal = true ↔ CM.Due p q ls lg) : RightPre p q ls lg goal :=
  ⟨small_host hp, small_host hq, out_pre hp hq h1 h2 h3 h4, h1, h3, hg⟩
theorem ev_right {T : Tx w K mg} {σ : L2.St} {H : Hp} {t1 t2 t3 t4 t5 : TE} {p q : List Stp} {ls lg : Int} {goal : Bool} (h1 : EvR t1 σ H p) (h2 : EvR t2 σ H q) (h3 : EvR t3 σ H ls) (h4 : EvR t4 σ H lg) (h5 : EvR t5 σ H goal) (hp : RightPre p q ls lg goal) : EvR (tCall RightSp [] E0 (tCons t1 (tCons t2 (tCons t3 (tCons t4 (tCons t5 tNil)))))) σ H true := fun H1 s Q q' =>
  h1 H1 s _ fun v1 H2 s2 e1 => h2 H2 (s.trans s2) _ fun v2 H3 s3 e2 => h3 H3 ((s.trans s2).trans s3) _ fun v3 H4 s4 e3 => h4 H4 (((s.trans s2).trans s3).trans s4) _ fun v4 H5 s5 e4 => h5 H5 ((((s.trans s2).trans s3).trans s4).trans s5) _ fun v5 H6 s6 e5 => by
    obtain rfl : v3 = .int ls := e3
    obtain rfl : v4 = .int lg := e4
    obtain rfl : v5 = .bl goal := e5
    exact ⟨v1, v2, p, q, ls, lg, goal, rfl, Rp.mono (((s3.trans s4).trans s5).trans s6) e1, Rp.mono ((s4.trans s5).trans s6) e2, hp, fun H' s' => q' _ H' ((((s2.trans s3).trans s4).trans s5).trans (s6.trans s')) rfl⟩
end Cf
set_option Elab.async false
set_option linter.all false
set_option maxRecDepth 100000
set_option maxHeartbeats 4000000
/-! The urn. -/
namespace Cf
open PySem PySem.Spec PyProof.Rows L2 Cs
local macro_rules | `(tactic| walk_at "lf") => `(tactic| first
  | assumption
  | exact rfl
  | exact Rp.mono (by assumption) (by assumption)
  | exact Rp.mono (Same.trans (by assumption) (by assumption)) (by assumption)
  | exact RpK.monoK (by assumption) (by assumption))
local macro_rules | `(tactic| walk_at "ev") => `(tactic| first
  | with_reducible exact ev_int
  | with_reducible exact ev_bl
  | with_reducible exact ev_fill
  | with_reducible exact ev_drop
  | with_reducible exact ev_str
  | ((with_reducible refine' ev_var ?hs ?hv); (case hs => exact rfl); (case hv => walk_at "lf"))
  | ((with_reducible refine' ev_opI ?ha ?hb); (case ha => walk_at "ev"); (case hb => walk_at "ev"))
  | ((with_reducible refine' ev_opB ?ha ?hb); (case ha => walk_at "ev"); (case hb => walk_at "ev"))
  | ((with_reducible refine' ev_opC ?ha ?hb ?hc); (case ha => walk_at "ev"); (case hb => walk_at "ev"); (case hc => first | assumption | skip))
  | ((with_reducible refine' ev_un ?ha); (case ha => walk_at "ev"))
  | ((with_reducible refine' ev_eqK ?ha ?hb); (case ha => walk_at "ev"); (case hb => walk_at "ev"))
  | ((with_reducible refine' ev_eqI ?ha ?hb); (case ha => walk_at "ev"); (case hb => walk_at "ev"))
  | ((with_reducible refine' ev_eqS ?ha ?hb); (case ha => walk_at "ev"); (case hb => walk_at "ev"))
  | ((with_reducible refine' ev_neK ?ha ?hb); (case ha => walk_at "ev"); (case hb => walk_at "ev"))
  | ((with_reducible refine' ev_neI ?ha ?hb); (case ha => walk_at "ev"); (case hb => walk_at "ev"))
  | ((with_reducible refine' ev_neS ?ha ?hb); (case ha => walk_at "ev"); (case hb => walk_at "ev"))
  | ((with_reducible refine' ev_tup2 ?ha ?hb); (case ha => walk_at "ev"); (case hb => walk_at "ev"))
  | ((with_reducible refine' ev_tup1 ?ha); (case ha => walk_at "ev"))
  | with_reducible exact ev_tup0
  | ((with_reducible refine' ev_fst ?ha); (case ha => walk_at "ev"))
  | ((with_reducible refine' ev_snd ?ha); (case ha => walk_at "ev"))
  | ((with_reducible refine' ev_max2 rfl ?ha ?hb); (case ha => walk_at "ev"); (case hb => walk_at "ev"))
  | ((with_reducible refine' ev_min2 rfl ?ha ?hb); (case ha => walk_at "ev"); (case hb => walk_at "ev"))
  | ((with_reducible refine' ev_abs rfl ?ha); (case ha => walk_at "ev"))
  | ((with_reducible refine' ev_intI rfl ?ha); (case ha => walk_at "ev"))
  | ((with_reducible refine' ev_intB rfl ?ha); (case ha => walk_at "ev"))
  | ((with_reducible refine' ev_len rfl ?ha); (case ha => walk_at "ev"))
  | ((with_reducible refine' ev_lenL rfl ?ha); (case ha => walk_at "ev"))
  | ((with_reducible refine' ev_tuple rfl ?ha); (case ha => walk_at "ev"))
  | ((with_reducible refine' ev_sum ?ha); (case ha => walk_at "ev"))
  | ((with_reducible refine' ev_chain ?ha ?hb ?hc); (case ha => walk_at "ev"); (case hb => walk_at "ev"); (case hc => walk_at "ev"))
  | ((with_reducible refine' et_test ?ha); (case ha => walk_at "ev"))
  | ((with_reducible refine' et_B ?ha); (case ha => walk_at "ev"))
  | ((with_reducible refine' et_not ?ha); (case ha => walk_at "ev"))
  | ((with_reducible refine' ev_not ?ha); (case ha => walk_at "ev"))
  | ((with_reducible refine' et_and ?ha ?hb); (case ha => walk_at "ev"); (case hb => intro _; walk_at "ev"))
  | ((with_reducible refine' et_or ?ha ?hb); (case ha => walk_at "ev"); (case hb => intro _; walk_at "ev"))
  | ((with_reducible refine' ev_and ?ha ?hb); (case ha => walk_at "ev"); (case hb => intro _; walk_at "ev"))
  | ((with_reducible refine' ev_or ?ha ?hb); (case ha => walk_at "ev"); (case hb => intro _; walk_at "ev"))
  | ((with_reducible refine' ev_call1 ?ha ?hp); (case ha => walk_at "ev"); (case hp => first | assumption | trivial))
  | ((with_reducible refine' ev_call2 ?ha ?hb ?hp); (case ha => walk_at "ev"); (case hb => walk_at "ev"); (case hp => first | assumption | trivial))
  | ((with_reducible refine' ev_call3 ?ha ?hb ?hc ?hp); (case ha => walk_at "ev"); (case hb => walk_at "ev"); (case hc => walk_at "ev"); (case hp => first | assumption | trivial)))
variable {P : Program} {w : World} {K : PySem.W.Frag} {mg : Str → Option Value} {base : Heap}
/-- an urn at l, of which f draws are still taken -/
def Ur (H : Hp) (l : Addr) (f : Nat) : Prop := ∃ a b c : Int, H l = some (.lst [.int a, .int b, .int c]) ∧ 0 ≤ a ∧ 0 ≤ b ∧ b < 4611686018427387904 ∧ 0 ≤ c ∧ c + (f : Int) ≤ 1099511627776
theorem Ur.up {H H' : Hp} {l : Addr} {f : Nat} (u : Ur H l f) (s : Same H H') : Ur H' l f := by
  obtain ⟨a, b, c, h, r⟩ := u
  exact ⟨a, b, c, s _ _ h, r⟩
theorem Ur.less {H : Hp} {l : Addr} {f g : Nat} (u : Ur H l f) (h : g ≤ f) : Ur H l g := by
  obtain ⟨a, b, c, h1, h2, h3, h4, h5, h6⟩ := u
  exact ⟨a, b, c, h1, h2, h3, h4, h5, by omega⟩
theorem Ur.at {H : Hp} {l : Addr} {f : Nat} (u : Ur H l f) : ∃ ys, H l = some (.lst ys) := by
  obtain ⟨a, b, c, h, _⟩ := u
  exact ⟨_, h⟩
section
variable {σ : L2.St} {H : Hp} {te tb : TE} {D : Ends} {tz : TS} {i : Nat} {l : Addr} {xs : List V}
theorem q_setI {a : Int} {j : Int} {n : Nat} (hσ : σ[i]? = some (some (.ref l))) (hl : H l = some (.lst xs)) (h : EvR te σ H a) (hn : n < xs.length) (ej : j = (n : Int)) (k : ∀ H1, Same H H1 → tz D σ (upd H1 l (.lst (xs.set n (.int a))))) : tSeq (tAsg te (gSub (tVar i) (tC (.int j)) rSetL)) tz D σ H :=
  h H (Same.refl _) _ fun v H1 s1 hv => ⟨_, hσ, l, xs, j, n, rfl, rfl, s1 _ _ hl, by
    subst ej
    show ixN xs.length (n : Int) = some n
    unfold ixN
    have h1 : (0 : Int) ≤ (n : Int) ∧ (n : Int) < (xs.length : Int) := ⟨by omega, by omega⟩
    first | (rw [if_pos h1, Int.toNat_natCast]) | (rw [if_pos h1.1, if_pos h1.2, Int.toNat_natCast]) | (simp [h1.1, h1.2]) , by
    obtain rfl : v = .int a := hv
    exact k H1 s1⟩
theorem ev_at {as : List Int} {a : Int} {j : Int} {n : Nat} (hσ : σ[i]? = some (some (.ref l))) (hl : H l = some (.lst (as.map V.int))) (ej : j = (n : Int)) (ha : as[n]? = some a) : EvR (tOp (rIxL K) (tVar i) (tC (.int j))) σ H a :=
  ev_ixL (as := ⟨as⟩) (ev_var hσ ⟨l, _, rfl, hl, int_all2 as⟩) ev_int ej ha
end
theorem sc_Ltake : FnScope ["_law_urn", "_law_low_so", "_law_drawn", "_law_once", "_law_far", "_law_twice"] ["_law_urn", "_law_low_so"] (defScope s_Ltake) := ⟨rfl, rfl, rfl, by decide +kernel, rfl, by decide +kernel, by decide +kernel⟩
def TakeSp : Sp := fun vs H Q _ => ∃ (l : Addr) (n : Int) (f : Nat), vs = [.ref l, .int n] ∧ Ur H l (f + 1) ∧ 1 ≤ n ∧ n ≤ 1000 ∧ ∀ x H', 0 ≤ x → x < n → Same (dl H l) H' → Ur H' l f → Q (.int x) H'
theorem F_Ltake (T : Tx w K mg) : Fn P w K mg base 1 d_Ltake ["_law_urn", "_law_low_so"] TakeSp := by
  refine mk_fn T.f_Ltake sc_Ltake (fun kV doc pm an cdv ct us hl => match us, hl with | [_, _], _ => rfl) (fun vs H Q E h => by obtain ⟨_, _, _, e, _⟩ := h; rw [e]; rfl) (fun cdv A outer s H vs Q E hr h => ?_)
  obtain ⟨l, n, f, rfl, ⟨a, b, c, hl, ha, hb, hb2, hc, hcf⟩, hn1, hn2, kk⟩ := h
  refine ⟨_, (pss_cons (ps_if (pt_cmpR op_gt (pe_ix ix_list (pv 0) pe_int (fun _ _ => rfl)) pe_int (nomark _))
  (pss_cons (ps_set (i := 2) sc_Ltake.nd rfl (Or.inl rfl) (pe_op op_mod (pe_callTy call_int1 (by rfl) T.b_int (by decide +kernel) (pa_cons (pe_ix ix_list (pv 0) pe_int (fun _ _ => rfl)) pa_nil)) (pv 1)))
  (pss_cons (ps_asg (pe_op op_fdiv (pe_ix ix_list (pv 0) pe_int (fun _ _ => rfl)) (pv 1)) (pg_sub (pv 0) pe_int set_list))
  (pss_one (ps_ret (pv 2)))))
  pss_nil)
  (pss_cons (ps_asg (pe_op op_add (pe_ix ix_list (pv 0) pe_int (fun _ _ => rfl)) pe_int) (pg_sub (pv 0) pe_int set_list))
  (pss_cons (ps_set (i := 3) sc_Ltake.nd rfl (Or.inl rfl) (pe_op op_mod (pe_callTy call_int1 (by rfl) T.b_int (by decide +kernel) (pa_cons (pe_op op_mul (pe_op op_add (pe_ix ix_list (pv 0) pe_int (fun _ _ => rfl)) (pe_op op_mul pe_int (pe_ix ix_list (pv 0) pe_int (fun _ _ => rfl)))) (pe_op op_add pe_int (pe_ix ix_list (pv 0) pe_int (fun _ _ => rfl)))) pa_nil)) pe_int))
  (pss_cons (ps_set (i := 4) sc_Ltake.nd rfl (Or.inl rfl) (pe_op op_add (pe_op op_mod (pe_callTy call_int1 (by rfl) T.b_int (by decide +kernel) (pa_cons (pv 3) pa_nil)) pe_int) pe_int))
  (pss_cons (ps_set (i := 5) sc_Ltake.nd rfl (Or.inl rfl) (pe_op op_mod (pe_callTy call_int1 (by rfl) T.b_int (by decide +kernel) (pa_cons (pe_op op_mul (pe_op op_add (pe_op op_add (pv 3) (pe_ix ix_list (pv 0) pe_int (fun _ _ => rfl))) (pe_op op_fdiv (pe_ix ix_list (pv 0) pe_int (fun _ _ => rfl)) pe_int)) (pv 4)) pa_nil)) pe_int))
  (pss_one (ps_ret (pe_op op_mod (pe_callTy call_int1 (by rfl) T.b_int (by decide +kernel) (pa_cons (pe_op op_fdiv (pe_op op_mod (pe_callTy call_int1 (by rfl) T.b_int (by decide +kernel) (pa_cons (pe_op op_add (pe_op op_mul (pv 5) pe_int) (pv 3)) pa_nil)) pe_int) pe_int) pa_nil)) (pv 1))))))))), ?_⟩
  refine q_ifP (p := 0 < a) (et_B (ev_opB (f := fun i j => decide (j < i)) (ev_at (as := [a, b, c]) (n := 0) rfl hl rfl rfl) ev_int)) (fun ca H1 s1 => ?_) (fun ca H1 s1 => ?_)
  · have hl1 := s1 _ _ hl
    refine q_asg (a := a % n) (ev_opC (ev_intI rfl (ev_at (as := [a, b, c]) (n := 0) rfl hl1 rfl rfl)) (ev_var (a := n) rfl rfl) (by show 0 < n; omega)) fun v2 H2 s2 hv2 => ?_
    obtain rfl : v2 = .int (a % n) := hv2
    have hl2 := s2 _ _ hl1
    refine q_setI (a := a / n) (n := 0) rfl hl2 (ev_opC (ev_at (as := [a, b, c]) (n := 0) rfl hl2 rfl rfl) (ev_var (a := n) rfl rfl) ⟨by omega, by omega⟩) (by show 0 < 3; decide) rfl fun H3 s3 => ?_
    have sd : Same (dl H l) (upd H3 l (.lst [.int (a / n), .int b, .int c])) := dl_up ((dl_sub H l).trans ((s1.trans s2).trans s3))
    refine s_ret (a := a % n) (ev_var rfl rfl) fun u H4 s4 hu => ?_
    obtain rfl : u = .int (a % n) := hu
    exact kk _ _ (Int.emod_nonneg _ (by omega)) (Int.emod_lt_of_pos _ (by omega)) (sd.trans s4) ⟨a / n, b, c, s4 _ _ upd_same, Int.ediv_nonneg ha (by omega), hb, hb2, hc, by omega⟩
  · have hl1 := s1 _ _ hl
    refine q_setI (a := c + 1) (n := 2) rfl hl1 (ev_opI (ev_at (as := [a, b, c]) (n := 2) rfl hl1 rfl rfl) ev_int) (by show 2 < 3; decide) rfl fun H2 s2 => ?_
    have sd : Same (dl H l) (upd H2 l (.lst [.int a, .int b, .int (c + 1)])) := dl_up ((dl_sub H l).trans (s1.trans s2))
    have hl3 : (upd H2 l (.lst [.int a, .int b, .int (c + 1)])) l = some (.lst ([a, b, c + 1].map V.int)) := upd_same
    show (tSeq _ _) _ _ (upd H2 l (.lst [.int a, .int b, .int (c + 1)]))
    generalize upd H2 l (.lst [.int a, .int b, .int (c + 1)]) = H3 at sd hl3
    have ix : ∀ {σ : L2.St} {H' : Hp} {j : Int} {m : Nat} {x : Int}, Same H3 H' → σ[0]? = some (some (.ref l)) → j = (m : Int) → [a, b, c + 1][m]? = some x → EvR (tOp (rIxL K) (tVar 0) (tC (.int j))) σ H' x := fun s e ej ex => ev_at e (s _ _ hl3) ej ex
    refine q_asg (a := ((b + 48271 * (c + 1)) * (39373 + (c + 1))) % 2147483647) (ev_opC (C := fun _ j => 0 < j) (ev_intI rfl (ev_opC (C := CMul) (ev_opI (ix (m := 1) (Same.refl _) rfl rfl rfl) (ev_opC (C := CMul) ev_int (ix (m := 2) (Same.refl _) rfl rfl rfl) (.inl ⟨by omega, by omega⟩))) (ev_opI ev_int (ix (m := 2) (Same.refl _) rfl rfl rfl)) (.inr ⟨by omega, by omega⟩))) ev_int (by decide)) fun v3 H4 s4 hv3 => ?_
    generalize hx : ((b + 48271 * (c + 1)) * (39373 + (c + 1))) % 2147483647 = x at hv3
    obtain rfl : v3 = .int x := hv3
    refine q_asg (a := x % 40009 + 7) (ev_opI (ev_opC (C := fun _ j => 0 < j) (ev_intI rfl (ev_var (a := x) rfl rfl)) ev_int (by decide)) ev_int) fun v4 H5 s5 hv4 => ?_
    have hy0 : 0 ≤ x % 40009 + 7 := by have := Int.emod_nonneg x (show (40009 : Int) ≠ 0 by decide); omega
    have hy1 : x % 40009 + 7 < 40016 := by have := Int.emod_lt_of_pos x (show (0 : Int) < 40009 by decide); omega
    generalize x % 40009 + 7 = y at hv4 hy0 hy1
    obtain rfl : v4 = .int y := hv4
    have hx0 : 0 ≤ x := by rw [← hx]; exact Int.emod_nonneg _ (by decide)
    have hx1 : x < 2147483647 := by rw [← hx]; exact Int.emod_lt_of_pos _ (by decide)
    have s45 := s4.trans s5
    refine q_asg (a := ((x + (c + 1) + b / 1000003) * y) % 2147483629) (ev_opC (C := fun _ j => 0 < j) (ev_intI rfl (ev_opC (C := CMul) (ev_opI (ev_opI (ev_var (a := x) rfl rfl) (ix (m := 2) s45 rfl rfl rfl)) (ev_opC (C := CDiv) (ix (m := 1) s45 rfl rfl rfl) ev_int ⟨by decide, by decide⟩)) (ev_var (a := y) rfl rfl) (.inr ⟨by omega, by omega⟩))) ev_int (by decide)) fun v5 H6 s6 hv5 => ?_
    generalize ((x + (c + 1) + b / 1000003) * y) % 2147483629 = z at hv5
    obtain rfl : v5 = .int z := hv5
    refine s_ret (a := (((z * 48271 + x) % 2147483587) / 64) % n) (ev_opC (C := fun _ j => 0 < j) (ev_intI rfl (ev_opC (C := CDiv) (ev_opC (C := fun _ j => 0 < j) (ev_intI rfl (ev_opI (ev_opC (C := CMul) (ev_var (a := z) rfl rfl) ev_int (.inr ⟨by decide, by decide⟩)) (ev_var (a := x) rfl rfl))) ev_int (by decide)) ev_int ⟨by decide, by decide⟩)) (ev_var (a := n) rfl rfl) (by omega)) fun u H7 s7 hu => ?_
    obtain rfl : u = .int _ := hu
    have s47 := (s45.trans s6).trans s7
    exact kk _ _ (Int.emod_nonneg _ (by omega)) (Int.emod_lt_of_pos _ (by omega)) (sd.trans s47) ⟨a, b, c + 1, s47 _ _ hl3, ha, hb, hb2, by omega, by omega⟩
end Cf
set_option Elab.async false
set_option linter.all false
set_option maxRecDepth 100000
set_option maxHeartbeats 4000000
namespace Cf
open PySem PySem.Spec PyProof.Rows L2 Cs
local macro_rules | `(tactic| walk_at "lf") => `(tactic| first
  | assumption
  | exact rfl
  | exact Rp.mono (by assumption) (by assumption)
  | exact Rp.mono (Same.trans (by assumption) (by assumption)) (by assumption)
  | exact RpK.monoK (by assumption) (by assumption))
local macro_rules | `(tactic| walk_at "ev") => `(tactic| first
  | with_reducible exact ev_int
  | with_reducible exact ev_bl
  | with_reducible exact ev_fill
  | with_reducible exact ev_drop
  | with_reducible exact ev_str
  | ((with_reducible refine' ev_var ?hs ?hv); (case hs => exact rfl); (case hv => walk_at "lf"))
  | ((with_reducible refine' ev_opI ?ha ?hb); (case ha => walk_at "ev"); (case hb => walk_at "ev"))
  | ((with_reducible refine' ev_opB ?ha ?hb); (case ha => walk_at "ev"); (case hb => walk_at "ev"))
  | ((with_reducible refine' ev_opC ?ha ?hb ?hc); (case ha => walk_at "ev"); (case hb => walk_at "ev"); (case hc => first | assumption | skip))
  | ((with_reducible refine' ev_un ?ha); (case ha => walk_at "ev"))
  | ((with_reducible refine' ev_eqK ?ha ?hb); (case ha => walk_at "ev"); (case hb => walk_at "ev"))
  | ((with_reducible refine' ev_eqI ?ha ?hb); (case ha => walk_at "ev"); (case hb => walk_at "ev"))
  | ((with_reducible refine' ev_eqS ?ha ?hb); (case ha => walk_at "ev"); (case hb => walk_at "ev"))
  | ((with_reducible refine' ev_neK ?ha ?hb); (case ha => walk_at "ev"); (case hb => walk_at "ev"))
  | ((with_reducible refine' ev_neI ?ha ?hb); (case ha => walk_at "ev"); (case hb => walk_at "ev"))
  | ((with_reducible refine' ev_neS ?ha ?hb); (case ha => walk_at "ev"); (case hb => walk_at "ev"))
  | ((with_reducible refine' ev_tup2 ?ha ?hb); (case ha => walk_at "ev"); (case hb => walk_at "ev"))
  | ((with_reducible refine' ev_tup1 ?ha); (case ha => walk_at "ev"))
  | with_reducible exact ev_tup0
  | ((with_reducible refine' ev_fst ?ha); (case ha => walk_at "ev"))
  | ((with_reducible refine' ev_snd ?ha); (case ha => walk_at "ev"))
  | ((with_reducible refine' ev_max2 rfl ?ha ?hb); (case ha => walk_at "ev"); (case hb => walk_at "ev"))
  | ((with_reducible refine' ev_min2 rfl ?ha ?hb); (case ha => walk_at "ev"); (case hb => walk_at "ev"))
  | ((with_reducible refine' ev_abs rfl ?ha); (case ha => walk_at "ev"))
  | ((with_reducible refine' ev_intI rfl ?ha); (case ha => walk_at "ev"))
  | ((with_reducible refine' ev_intB rfl ?ha); (case ha => walk_at "ev"))
  | ((with_reducible refine' ev_len rfl ?ha); (case ha => walk_at "ev"))
  | ((with_reducible refine' ev_lenL rfl ?ha); (case ha => walk_at "ev"))
  | ((with_reducible refine' ev_tuple rfl ?ha); (case ha => walk_at "ev"))
  | ((with_reducible refine' ev_sum ?ha); (case ha => walk_at "ev"))
  | ((with_reducible refine' ev_chain ?ha ?hb ?hc); (case ha => walk_at "ev"); (case hb => walk_at "ev"); (case hc => walk_at "ev"))
  | ((with_reducible refine' et_test ?ha); (case ha => walk_at "ev"))
  | ((with_reducible refine' et_B ?ha); (case ha => walk_at "ev"))
  | ((with_reducible refine' et_not ?ha); (case ha => walk_at "ev"))
  | ((with_reducible refine' ev_not ?ha); (case ha => walk_at "ev"))
  | ((with_reducible refine' et_and ?ha ?hb); (case ha => walk_at "ev"); (case hb => intro _; walk_at "ev"))
  | ((with_reducible refine' et_or ?ha ?hb); (case ha => walk_at "ev"); (case hb => intro _; walk_at "ev"))
  | ((with_reducible refine' ev_and ?ha ?hb); (case ha => walk_at "ev"); (case hb => intro _; walk_at "ev"))
  | ((with_reducible refine' ev_or ?ha ?hb); (case ha => walk_at "ev"); (case hb => intro _; walk_at "ev"))
  | ((with_reducible refine' ev_call1 ?ha ?hp); (case ha => walk_at "ev"); (case hp => first | assumption | trivial))
  | ((with_reducible refine' ev_call2 ?ha ?hb ?hp); (case ha => walk_at "ev"); (case hb => walk_at "ev"); (case hp => first | assumption | trivial))
  | ((with_reducible refine' ev_call3 ?ha ?hb ?hc ?hp); (case ha => walk_at "ev"); (case hb => walk_at "ev"); (case hc => walk_at "ev"); (case hp => first | assumption | trivial)))
variable {P : Program} {w : World} {K : PySem.W.Frag} {mg : Str → Option Value} {base : Heap}
theorem sc_Lof : FnScope ["_law_urn", "_law_some_so"] ["_law_urn", "_law_some_so"] (defScope s_Lof) := ⟨rfl, rfl, rfl, by decide +kernel, rfl, by decide +kernel, by decide +kernel⟩
def OfSp : Sp := fun vs H Q _ => ∃ (l m : Addr) (xs : List V) (f : Nat), vs = [.ref l, .ref m] ∧ H m = some (.lst xs) ∧ m ≠ l ∧ 1 ≤ xs.length ∧ xs.length ≤ 1000 ∧ Ur H l (f + 1) ∧ ∀ (i : Nat) v H', xs[i]? = some v → Same (dl H l) H' → Ur H' l f → Q v H'
theorem F_Lof (T : Tx w K mg) : Fn P w K mg base 2 d_Lof ["_law_urn", "_law_some_so"] OfSp := by
  have F_Ltake : Fn P w K mg base 1 d_Ltake ["_law_urn", "_law_low_so"] _ := F_Ltake T
  refine mk_fn T.f_Lof sc_Lof (fun kV doc pm an cdv ct us hl => match us, hl with | [_, _], _ => rfl) (fun vs H Q E h => by obtain ⟨_, _, _, _, e, _⟩ := h; rw [e]; rfl) (fun cdv A outer s H vs Q E hr h => ?_)
  obtain ⟨l, m, xs, f, rfl, hm, hne, h1, h2, hu, kk⟩ := h
  refine ⟨_, (pss_one (ps_ret (pe_ix ix_list (pv 1) (pe_fn F_Ltake (hr.mono (by decide)) T.g_Ltake (pa_cons (pv 0) (pa_cons (pe_callB call_len_seq (by rfl) T.b_len PySem.boot_len (pa_cons (pv 1) pa_nil)) pa_nil))) (fun _ _ => rfl)))), ?_⟩
  refine ⟨_, rfl, _, rfl, _, rfl, m, xs, rfl, .inl (SqL.of hm), l, (xs.length : Int), f, rfl, hu, by omega, by omega, fun x H' hx0 hxn sd hu' => ?_⟩
  have hm' : H' m = some (.lst xs) := sd _ _ (by rw [dl_ne hne]; exact hm)
  have hlt : x.toNat < xs.length := by omega
  have hx : xs[x.toNat]? = some xs[x.toNat] := List.getElem?_eq_getElem hlt
  exact ⟨m, xs, x, xs[x.toNat], rfl, rfl, SqL.of hm', by
    have := atI_nat hx
    rw [show ((x.toNat : Nat) : Int) = x by omega] at this
    exact this, kk x.toNat _ H' hx sd hu'⟩
end Cf
set_option Elab.async false
set_option linter.all false
set_option maxRecDepth 100000
set_option maxHeartbeats 4000000
namespace Cf
open PySem PySem.Spec PyProof.Rows L2 Cs
local macro_rules | `(tactic| walk_at "lf") => `(tactic| first
  | assumption
  | exact rfl
  | exact Rp.mono (by assumption) (by assumption)
  | exact Rp.mono (Same.trans (by assumption) (by assumption)) (by assumption)
  | exact RpK.monoK (by assumption) (by assumption))
local macro_rules | `(tactic| walk_at "ev") => `(tactic| first
  | with_reducible exact ev_int
  | with_reducible exact ev_bl
  | with_reducible exact ev_fill
  | with_reducible exact ev_drop
  | with_reducible exact ev_str
  | ((with_reducible refine' ev_var ?hs ?hv); (case hs => exact rfl); (case hv => walk_at "lf"))
  | ((with_reducible refine' ev_opI ?ha ?hb); (case ha => walk_at "ev"); (case hb => walk_at "ev"))
  | ((with_reducible refine' ev_opB ?ha ?hb); (case ha => walk_at "ev"); (case hb => walk_at "ev"))
  | ((with_reducible refine' ev_opC ?ha ?hb ?hc); (case ha => walk_at "ev"); (case hb => walk_at "ev"); (case hc => first | assumption | skip))
  | ((with_reducible refine' ev_un ?ha); (case ha => walk_at "ev"))
  | ((with_reducible refine' ev_eqK ?ha ?hb); (case ha => walk_at "ev"); (case hb => walk_at "ev"))
  | ((with_reducible refine' ev_eqI ?ha ?hb); (case ha => walk_at "ev"); (case hb => walk_at "ev"))
  | ((with_reducible refine' ev_eqS ?ha ?hb); (case ha => walk_at "ev"); (case hb => walk_at "ev"))
  | ((with_reducible refine' ev_neK ?ha ?hb); (case ha => walk_at "ev"); (case hb => walk_at "ev"))
  | ((with_reducible refine' ev_neI ?ha ?hb); (case ha => walk_at "ev"); (case hb => walk_at "ev"))
  | ((with_reducible refine' ev_neS ?ha ?hb); (case ha => walk_at "ev"); (case hb => walk_at "ev"))
  | ((with_reducible refine' ev_tup2 ?ha ?hb); (case ha => walk_at "ev"); (case hb => walk_at "ev"))
  | ((with_reducible refine' ev_tup1 ?ha); (case ha => walk_at "ev"))
  | with_reducible exact ev_tup0
  | ((with_reducible refine' ev_fst ?ha); (case ha => walk_at "ev"))
  | ((with_reducible refine' ev_snd ?ha); (case ha => walk_at "ev"))
  | ((with_reducible refine' ev_max2 rfl ?ha ?hb); (case ha => walk_at "ev"); (case hb => walk_at "ev"))
  | ((with_reducible refine' ev_min2 rfl ?ha ?hb); (case ha => walk_at "ev"); (case hb => walk_at "ev"))
  | ((with_reducible refine' ev_abs rfl ?ha); (case ha => walk_at "ev"))
  | ((with_reducible refine' ev_intI rfl ?ha); (case ha => walk_at "ev"))
  | ((with_reducible refine' ev_intB rfl ?ha); (case ha => walk_at "ev"))
  | ((with_reducible refine' ev_len rfl ?ha); (case ha => walk_at "ev"))
  | ((with_reducible refine' ev_lenL rfl ?ha); (case ha => walk_at "ev"))
  | ((with_reducible refine' ev_tuple rfl ?ha); (case ha => walk_at "ev"))
  | ((with_reducible refine' ev_sum ?ha); (case ha => walk_at "ev"))
  | ((with_reducible refine' ev_chain ?ha ?hb ?hc); (case ha => walk_at "ev"); (case hb => walk_at "ev"); (case hc => walk_at "ev"))
  | ((with_reducible refine' et_test ?ha); (case ha => walk_at "ev"))
  | ((with_reducible refine' et_B ?ha); (case ha => walk_at "ev"))
  | ((with_reducible refine' et_not ?ha); (case ha => walk_at "ev"))
  | ((with_reducible refine' ev_not ?ha); (case ha => walk_at "ev"))
  | ((with_reducible refine' et_and ?ha ?hb); (case ha => walk_at "ev"); (case hb => intro _; walk_at "ev"))
  | ((with_reducible refine' et_or ?ha ?hb); (case ha => walk_at "ev"); (case hb => intro _; walk_at "ev"))
  | ((with_reducible refine' ev_and ?ha ?hb); (case ha => walk_at "ev"); (case hb => intro _; walk_at "ev"))
  | ((with_reducible refine' ev_or ?ha ?hb); (case ha => walk_at "ev"); (case hb => intro _; walk_at "ev"))
  | ((with_reducible refine' ev_call1 ?ha ?hp); (case ha => walk_at "ev"); (case hp => first | assumption | trivial))
  | ((with_reducible refine' ev_call2 ?ha ?hb ?hp); (case ha => walk_at "ev"); (case hb => walk_at "ev"); (case hp => first | assumption | trivial))
  | ((with_reducible refine' ev_call3 ?ha ?hb ?hc ?hp); (case ha => walk_at "ev"); (case hb => walk_at "ev"); (case hc => walk_at "ev"); (case hp => first | assumption | trivial)))
variable {P : Program} {w : World} {K : PySem.W.Frag} {mg : Str → Option Value} {base : Heap}
theorem sc_Lstride : FnScope ["_law_urn", "_law_top", "_law_sort_so", "_law_one_so", "_law_two_so"] ["_law_urn", "_law_top"] (defScope s_Lstride) := ⟨rfl, rfl, rfl, by decide +kernel, rfl, by decide +kernel, by decide +kernel⟩
def StrideSp : Sp := fun vs H Q _ => ∃ (l : Addr) (top : Int) (f : Nat), vs = [.ref l, .int top] ∧ 0 ≤ top ∧ top ≤ 100 ∧ Ur H l (f + 3) ∧ ∀ u H' s, CM.Stp.ok s → CM.amt s ≤ 2 * top → Same (dl H l) H' → Ur H' l f → Rp.is H' u (s : Stp) → Q u H'
theorem ev_in2 {σ : L2.St} {H : Hp} {i : Nat} {z a b : Str} {k : Bool} (e : σ[i]? = some (some (.str z))) (hk : inV (.str z) [.str a, .str b] = k) : EvR (tOp (rIn K false) (tVar i) (tTup (tCons (tC (.str a)) (tCons (tC (.str b)) tNil)))) σ H k := fun H1 s Q q =>
  ⟨_, e, by show 2 ≤ sizeLine; decide, fun p hp => ⟨p, _, rfl, .inr (SqT.of upd_same), rfl, rfl, q _ _ (same_new hp) (by show V.bl _ = V.bl _; rw [← hk]; rfl)⟩⟩
theorem F_Lstride (T : Tx w K mg) : Fn P w K mg base 3 d_Lstride ["_law_urn", "_law_top"] StrideSp := by
  have F_Ltake : Fn P w K mg base 1 d_Ltake ["_law_urn", "_law_low_so"] _ := F_Ltake T
  have F_Lof : Fn P w K mg base 2 d_Lof ["_law_urn", "_law_some_so"] _ := F_Lof T
  refine mk_fn T.f_Lstride sc_Lstride (fun kV doc pm an cdv ct us hl => match us, hl with | [_, _], _ => rfl) (fun vs H Q E h => by obtain ⟨_, _, _, e, _⟩ := h; rw [e]; rfl) (fun cdv A outer s H vs Q E hr h => ?_)
  obtain ⟨l, top, f, rfl, h0, h100, hu, kk⟩ := h
  refine ⟨_, (pss_cons (ps_set (i := 2) sc_Lstride.nd rfl (Or.inl rfl) (pe_fn F_Lof (hr.mono (by decide)) T.g_Lof (pa_cons (pv 0) (pa_cons (pe_lst (pa_cons pe_str (pa_cons pe_str (pa_cons pe_str (pa_cons pe_str (pa_cons pe_str (pa_cons pe_str (pa_cons pe_str pa_nil)))))))) pa_nil))))
  (pss_cons (ps_par (i := 3) (j := 4) (by rfl) sc_Lstride.nd rfl rfl (by decide) rfl rfl (pa_cons (pe_fn F_Ltake (hr.mono (by decide)) T.g_Ltake (pa_cons (pv 0) (pa_cons (pe_op op_add (pv 1) pe_int) pa_nil))) (pa_cons (pe_fn F_Ltake (hr.mono (by decide)) T.g_Ltake (pa_cons (pv 0) (pa_cons (pe_op op_add (pv 1) pe_int) pa_nil))) pa_nil)) (by rfl))
  (pss_cons (ps_if (pt_cmpR op_eq (pv 2) pe_str (nomark _))
  (pss_one (ps_ret (pe_tup (pa_cons (pv 2) (pa_cons (pe_tup (pa_cons (pe_op op_sub (pv 3) (pv 4)) pa_nil)) pa_nil)))))
  pss_nil)
  (pss_one (ps_ret (pe_ifExp (pt_cmpR op_in_seq (pv 2) (pe_tup (pa_cons pe_str (pa_cons pe_str pa_nil))) (by rfl)) (pe_tup (pa_cons (pv 2) (pa_cons (pe_tup (pa_cons (pv 3) pa_nil)) pa_nil))) (pe_tup (pa_cons (pv 2) (pa_cons (pe_tup (pa_cons (pv 3) (pa_cons (pv 4) pa_nil))) pa_nil))))))))), ?_⟩
  refine ⟨_, rfl, by show 7 ≤ sizeLine; decide, fun m hm => ?_⟩
  obtain ⟨ys, hy⟩ := hu.at
  have hne : m ≠ l := fun c => by rw [c, hy] at hm; cases hm
  have sm : Same H (upd H m (.lst [.str "fill", .str "fill", .str "drop", .str "drop", .str "widen", .str "trim", .str "shift"])) := same_new hm
  refine ⟨l, m, _, f + 2, rfl, upd_same, hne, by show 1 ≤ 7; decide, by show 7 ≤ 1000; decide, hu.up sm, fun i v H1 hi sd1 hu1 => ?_⟩
  have S1 : Same (dl H l) H1 := (dl_mono sm).trans sd1
  have hv := List.mem_of_getElem? hi
  refine ⟨_, rfl, _, rfl, top, 1, rfl, rfl, l, top + 1, f + 1, rfl, hu1, by omega, by omega, fun x1 H2 hx1 hx1' sd2 hu2 => ?_⟩
  refine ⟨_, rfl, _, rfl, top, 1, rfl, rfl, l, top + 1, f, rfl, hu2, by omega, by omega, fun x2 H3 hx2 hx2' sd3 hu3 => ⟨_, _, rfl, ?_⟩⟩
  have S3 : Same (dl H l) H3 := dl_trans (dl_trans S1 sd2) sd3
  have fin : ∀ (st : Stp), CM.Stp.ok st → CM.amt st ≤ 2 * top → ∀ u H4, Same H3 H4 → Rp.is H4 u (st : Stp) → Q u H4 := fun st ok am u H4 s4 hst => kk u H4 st ok am (S3.trans s4) (hu3.up s4) hst
  have kd : ∀ {z a : Str} {k : Bool} {σ : L2.St} {H' : Hp}, σ[2]? = some (some (.str z)) → decide (z = a) = k → EtR (tTest (tOp rEq (tVar 2) (tC (.str a)))) σ H' k := fun e hk => (et_test (ev_eqS (ev_var e rfl) ev_str)).eq hk
  have w1 : ∀ {σ : L2.St} {H' : Hp}, σ[3]? = some (some (.int x1)) → EvR (tVar 3) σ H' x1 := fun e => ev_var e rfl
  have w2 : ∀ {σ : L2.St} {H' : Hp}, σ[4]? = some (some (.int x2)) → EvR (tVar 4) σ H' x2 := fun e => ev_var e rfl
  have ks : ∀ {z : Str} {σ : L2.St} {H' : Hp}, σ[2]? = some (some (.str z)) → EvR (tVar 2) σ H' z := fun e => ev_var e rfl
  simp only [List.mem_cons, List.not_mem_nil, or_false] at hv
  dsimp only
  rcases hv with rfl | rfl | rfl | rfl | rfl | rfl | rfl
  · refine q_if (b := false) (kd rfl (by decide +kernel)) (fun c => by cases c) (fun _ H4 s4 => ?_)
    exact s_ret (a := (("fill", [x1]) : Str × List Int)) (ev_if (b := true) (et_test (ev_in2 rfl (by decide +kernel))) (fun _ => ev_tup2 (ks rfl) (ev_tup1 (w1 rfl))) (fun c => by cases c)) fun u H5 s5 hu => fin (.fill x1) hx1 (by show x1 ≤ 2 * top; omega) u H5 (s4.trans s5) hu
  · refine q_if (b := false) (kd rfl (by decide +kernel)) (fun c => by cases c) (fun _ H4 s4 => ?_)
    exact s_ret (a := (("fill", [x1]) : Str × List Int)) (ev_if (b := true) (et_test (ev_in2 rfl (by decide +kernel))) (fun _ => ev_tup2 (ks rfl) (ev_tup1 (w1 rfl))) (fun c => by cases c)) fun u H5 s5 hu => fin (.fill x1) hx1 (by show x1 ≤ 2 * top; omega) u H5 (s4.trans s5) hu
  · refine q_if (b := false) (kd rfl (by decide +kernel)) (fun c => by cases c) (fun _ H4 s4 => ?_)
    exact s_ret (a := (("drop", [x1]) : Str × List Int)) (ev_if (b := true) (et_test (ev_in2 rfl (by decide +kernel))) (fun _ => ev_tup2 (ks rfl) (ev_tup1 (w1 rfl))) (fun c => by cases c)) fun u H5 s5 hu => fin (.drop x1) hx1 (by show x1 ≤ 2 * top; omega) u H5 (s4.trans s5) hu
  · refine q_if (b := false) (kd rfl (by decide +kernel)) (fun c => by cases c) (fun _ H4 s4 => ?_)
    exact s_ret (a := (("drop", [x1]) : Str × List Int)) (ev_if (b := true) (et_test (ev_in2 rfl (by decide +kernel))) (fun _ => ev_tup2 (ks rfl) (ev_tup1 (w1 rfl))) (fun c => by cases c)) fun u H5 s5 hu => fin (.drop x1) hx1 (by show x1 ≤ 2 * top; omega) u H5 (s4.trans s5) hu
  · refine q_if (b := false) (kd rfl (by decide +kernel)) (fun c => by cases c) (fun _ H4 s4 => ?_)
    exact s_ret (a := (("widen", [x1, x2]) : Str × List Int)) (ev_if (b := false) (et_test (ev_in2 rfl (by decide +kernel))) (fun c => by cases c) (fun _ => ev_tup2 (ks rfl) (ev_tupL2 (w1 rfl) (w2 rfl)))) fun u H5 s5 hu => fin (.widen x1 x2) ⟨hx1, hx2⟩ (by show x1 + x2 ≤ 2 * top; omega) u H5 (s4.trans s5) hu
  · refine q_if (b := false) (kd rfl (by decide +kernel)) (fun c => by cases c) (fun _ H4 s4 => ?_)
    exact s_ret (a := (("trim", [x1, x2]) : Str × List Int)) (ev_if (b := false) (et_test (ev_in2 rfl (by decide +kernel))) (fun c => by cases c) (fun _ => ev_tup2 (ks rfl) (ev_tupL2 (w1 rfl) (w2 rfl)))) fun u H5 s5 hu => fin (.trim x1 x2) ⟨hx1, hx2⟩ (by show x1 + x2 ≤ 2 * top; omega) u H5 (s4.trans s5) hu
  · refine q_if (b := true) (kd rfl (by decide +kernel)) (fun _ H4 s4 => ?_) (fun c => by cases c)
    exact s_ret (a := (("shift", [x1 - x2]) : Str × List Int)) (ev_tup2 (ks rfl) (ev_tup1 (ev_opI (w1 rfl) (w2 rfl)))) fun u H5 s5 hu => fin (.shift (x1 - x2)) trivial (by show (0 : Int) ≤ 2 * top; omega) u H5 (s4.trans s5) hu
end Cf
set_option Elab.async false
set_option linter.all false
set_option maxRecDepth 100000
set_option maxHeartbeats 4000000
namespace Cf
open PySem PySem.Spec PyProof.Rows L2 Cs
local macro_rules | `(tactic| walk_at "lf") => `(tactic| first
  | assumption
  | exact rfl
  | exact Rp.mono (by assumption) (by assumption)
  | exact Rp.mono (Same.trans (by assumption) (by assumption)) (by assumption)
  | exact RpK.monoK (by assumption) (by assumption))
local macro_rules | `(tactic| walk_at "ev") => `(tactic| first
  | with_reducible exact ev_int
  | with_reducible exact ev_bl
  | with_reducible exact ev_fill
  | with_reducible exact ev_drop
  | with_reducible exact ev_str
  | ((with_reducible refine' ev_var ?hs ?hv); (case hs => exact rfl); (case hv => walk_at "lf"))
  | ((with_reducible refine' ev_opI ?ha ?hb); (case ha => walk_at "ev"); (case hb => walk_at "ev"))
  | ((with_reducible refine' ev_opB ?ha ?hb); (case ha => walk_at "ev"); (case hb => walk_at "ev"))
  | ((with_reducible refine' ev_opC ?ha ?hb ?hc); (case ha => walk_at "ev"); (case hb => walk_at "ev"); (case hc => first | assumption | skip))
  | ((with_reducible refine' ev_un ?ha); (case ha => walk_at "ev"))
  | ((with_reducible refine' ev_eqK ?ha ?hb); (case ha => walk_at "ev"); (case hb => walk_at "ev"))
  | ((with_reducible refine' ev_eqI ?ha ?hb); (case ha => walk_at "ev"); (case hb => walk_at "ev"))
  | ((with_reducible refine' ev_eqS ?ha ?hb); (case ha => walk_at "ev"); (case hb => walk_at "ev"))
  | ((with_reducible refine' ev_neK ?ha ?hb); (case ha => walk_at "ev"); (case hb => walk_at "ev"))
  | ((with_reducible refine' ev_neI ?ha ?hb); (case ha => walk_at "ev"); (case hb => walk_at "ev"))
  | ((with_reducible refine' ev_neS ?ha ?hb); (case ha => walk_at "ev"); (case hb => walk_at "ev"))
  | ((with_reducible refine' ev_tup2 ?ha ?hb); (case ha => walk_at "ev"); (case hb => walk_at "ev"))
  | ((with_reducible refine' ev_tup1 ?ha); (case ha => walk_at "ev"))
  | with_reducible exact ev_tup0
  | ((with_reducible refine' ev_fst ?ha); (case ha => walk_at "ev"))
  | ((with_reducible refine' ev_snd ?ha); (case ha => walk_at "ev"))
  | ((with_reducible refine' ev_max2 rfl ?ha ?hb); (case ha => walk_at "ev"); (case hb => walk_at "ev"))
  | ((with_reducible refine' ev_min2 rfl ?ha ?hb); (case ha => walk_at "ev"); (case hb => walk_at "ev"))
  | ((with_reducible refine' ev_abs rfl ?ha); (case ha => walk_at "ev"))
  | ((with_reducible refine' ev_intI rfl ?ha); (case ha => walk_at "ev"))
  | ((with_reducible refine' ev_intB rfl ?ha); (case ha => walk_at "ev"))
  | ((with_reducible refine' ev_len rfl ?ha); (case ha => walk_at "ev"))
  | ((with_reducible refine' ev_lenL rfl ?ha); (case ha => walk_at "ev"))
  | ((with_reducible refine' ev_tuple rfl ?ha); (case ha => walk_at "ev"))
  | ((with_reducible refine' ev_sum ?ha); (case ha => walk_at "ev"))
  | ((with_reducible refine' ev_chain ?ha ?hb ?hc); (case ha => walk_at "ev"); (case hb => walk_at "ev"); (case hc => walk_at "ev"))
  | ((with_reducible refine' et_test ?ha); (case ha => walk_at "ev"))
  | ((with_reducible refine' et_B ?ha); (case ha => walk_at "ev"))
  | ((with_reducible refine' et_not ?ha); (case ha => walk_at "ev"))
  | ((with_reducible refine' ev_not ?ha); (case ha => walk_at "ev"))
  | ((with_reducible refine' et_and ?ha ?hb); (case ha => walk_at "ev"); (case hb => intro _; walk_at "ev"))
  | ((with_reducible refine' et_or ?ha ?hb); (case ha => walk_at "ev"); (case hb => intro _; walk_at "ev"))
  | ((with_reducible refine' ev_and ?ha ?hb); (case ha => walk_at "ev"); (case hb => intro _; walk_at "ev"))
  | ((with_reducible refine' ev_or ?ha ?hb); (case ha => walk_at "ev"); (case hb => intro _; walk_at "ev"))
  | ((with_reducible refine' ev_call1 ?ha ?hp); (case ha => walk_at "ev"); (case hp => first | assumption | trivial))
  | ((with_reducible refine' ev_call2 ?ha ?hb ?hp); (case ha => walk_at "ev"); (case hb => walk_at "ev"); (case hp => first | assumption | trivial))
  | ((with_reducible refine' ev_call3 ?ha ?hb ?hc ?hp); (case ha => walk_at "ev"); (case hb => walk_at "ev"); (case hc => walk_at "ev"); (case hp => first | assumption | trivial)))
variable {P : Program} {w : World} {K : PySem.W.Frag} {mg : Str → Option Value} {base : Heap}
theorem sc_Lline : FnScope ["_law_urn", "_law_most_so", "_law_top", "_law_turn"] ["_law_urn", "_law_most_so", "_law_top"] (defScope s_Lline) := ⟨rfl, rfl, rfl, by decide +kernel, rfl, by decide +kernel, by decide +kernel⟩
def LineSp : Sp := fun vs H Q _ => ∃ (l : Addr) (most top : Int) (f : Nat), vs = [.ref l, .int most, .int top] ∧ 0 ≤ most ∧ most ≤ 5 ∧ 0 ≤ top ∧ top ≤ 10 ∧ Ur H l (f + 16) ∧
  ∀ u H' (p : List Stp), (p.length : Int) ≤ most → (∀ s ∈ p, CM.Stp.ok s ∧ CM.amt s ≤ 2 * top) → Same (dl H l) H' → Ur H' l f → Rp.is H' u p → Q u H'
theorem F_Lline (T : Tx w K mg) : Fn P w K mg base 4 d_Lline ["_law_urn", "_law_most_so", "_law_top"] LineSp := by
  have F_Ltake : Fn P w K mg base 1 d_Ltake ["_law_urn", "_law_low_so"] _ := F_Ltake T
  have F_Lstride : Fn P w K mg base 3 d_Lstride ["_law_urn", "_law_top"] _ := F_Lstride T
  refine mk_fn T.f_Lline sc_Lline (fun kV doc pm an cdv ct us hl => match us, hl with | [_, _, _], _ => rfl) (fun vs H Q E h => by obtain ⟨_, _, _, _, e, _⟩ := h; rw [e]; rfl) (fun cdv A outer s H vs Q E hr h => ?_)
  obtain ⟨l, most, top, f, rfl, hm0, hm5, ht0, ht10, hu, kk⟩ := h
  refine ⟨_, (pss_one (ps_ret (pe_callTy call_tuple_of (by rfl) T.b_tuple (by decide +kernel) (pa_cons (pe_lc (own := [("_law_turn", 3)]) (g := (gName 3)) rfl sc_Lline.nd (pi_range1 (by rfl) T.b_range (pa_cons (pe_fn F_Ltake (hr.mono (by decide)) T.g_Ltake (pa_cons (pv 0) (pa_cons (pe_op op_add (pv 1) pe_int) pa_nil))) pa_nil)) (blkOk_by (own := [("_law_turn", 3)]) (N := ["_law_urn", "_law_most_so", "_law_top", "_law_turn"]) (sc := defScope s_Lline) (by decide +kernel)) (fun _ _ _ _ _ => (pg_name (i := 3) sc_Lline.nd rfl (Or.inl rfl))) (fun _ _ _ _ _ => pts_nil) (fun _ _ _ _ _ => (pe_fn F_Lstride (hr.mono (by decide)) T.g_Lstride (pa_cons (pv 0) (pa_cons (pv 2) pa_nil))))) pa_nil)))), ?_⟩
  refine ⟨_, rfl, _, rfl, most, 1, rfl, rfl, l, most + 1, f + 15, rfl, hu, by omega, by omega, fun n H1 hn0 hn1 sd1 hu1 => ⟨n, rfl, by omega, by omega, fun D hD => ?_⟩⟩
  obtain ⟨zs, hz⟩ := hu1.at
  have hDl : D ≠ l := fun c => by rw [c, hz] at hD; cases hD
  have hDd : dl H1 l D = none := by rw [dl_ne hDl]; exact hD
  refine lc_it (walk_upto (lo := 0) (n := n.toNat)) (fun i H' => Same (dl H1 l) H' ∧ Ur H' l (f + 3 * (n.toNat - i)) ∧ ∃ (ys : List V) (p : List Stp), H' D = some (.lst ys) ∧ All2 (Rp.is H') ys p ∧ p.length ≤ i ∧ ∀ s ∈ p, CM.Stp.ok s ∧ CM.amt s ≤ 2 * top)
    ⟨same_mut (dl_sub H1 l) hDd, ?_, [], [], upd_same, trivial, Nat.le_refl _, fun s hs => (by cases hs)⟩ (fun _ _ _ _ => trivial) (fun i x H2 H3 hi r y => ?_) (fun H' r => ?_)
  · obtain ⟨a, b, c, e1, e2⟩ := hu1.less (show f + 3 * (n.toNat - 0) ≤ f + 15 by omega)
    exact ⟨a, b, c, by rw [upd_ne (Ne.symm hDl)]; exact e1, e2⟩
  · rw [upto_len] at hi
    obtain ⟨r1, r2, ys, p, r3, r4, r5, r6⟩ := r
    obtain ⟨_, rfl, rfl⟩ := y
    obtain ⟨zs2, hz2⟩ := r2.at
    refine ⟨rfl, ?_⟩
    simp only [tYes, if_true]
    refine ⟨_, rfl, _, rfl, l, top, f + 3 * (n.toNat - (i + 1)), rfl, ht0, by omega, r2.less (by omega), fun u H4 s ok am sd4 hu4 hst => ⟨ys, ?_, ?_, ?_⟩⟩
    · exact sd4 _ _ (by rw [dl_ne hDl]; exact r3)
    · rw [r4.length]
      exact small_line (by omega)
    · have hD4 : H4 D = some (.lst ys) := sd4 _ _ (by rw [dl_ne hDl]; exact r3)
      have kD := kp_lst (ys := ys ++ [u]) hD4
      have k4 := kp_dl hz2 sd4
      refine ⟨same_mut (dl_trans r1 sd4) hDd, ?_, ys ++ [u], p ++ [s], upd_same, (r4.imp fun _ _ z => RpK.monoK kD (RpK.monoK k4 z)).append ⟨RpK.monoK kD hst, trivial⟩, by rw [List.length_append, List.length_singleton]; omega, fun s' hs' => ?_⟩
      · obtain ⟨a, b, c, e1, e2⟩ := hu4
        exact ⟨a, b, c, by rw [upd_ne (Ne.symm hDl)]; exact e1, e2⟩
      · rcases List.mem_append.mp hs' with h | h
        · exact r6 s' h
        · rw [List.mem_singleton] at h
          rw [h]
          exact ⟨ok, am⟩
  · obtain ⟨r1, r2, ys, p, r3, r4, r5, r6⟩ := r
    rw [upto_len] at r2 r5
    refine ⟨D, ys, rfl, .inl ⟨SqL.of r3, fun q hq => ?_⟩⟩
    have sn : Same H' (upd H' q (.tup ys)) := same_new hq
    exact kk _ _ p (by omega) r6 ((dl_trans sd1 r1).trans sn) ((r2.less (by omega)).up sn) ⟨q, ys, rfl, upd_same, r4.imp fun _ _ z => Rp.mono sn z⟩
end Cf
set_option Elab.async false
set_option linter.all false
set_option maxRecDepth 100000
set_option maxHeartbeats 4000000
namespace Cf
open PySem PySem.Spec PyProof.Rows L2 Cs
local macro_rules | `(tactic| walk_at "lf") => `(tactic| first
  | assumption
  | exact rfl
  | exact Rp.mono (by assumption) (by assumption)
  | exact Rp.mono (Same.trans (by assumption) (by assumption)) (by assumption)
  | exact RpK.monoK (by assumption) (by assumption))
local macro_rules | `(tactic| walk_at "ev") => `(tactic| first
  | with_reducible exact ev_int
  | with_reducible exact ev_bl
  | with_reducible exact ev_fill
  | with_reducible exact ev_drop
  | with_reducible exact ev_str
  | ((with_reducible refine' ev_var ?hs ?hv); (case hs => exact rfl); (case hv => walk_at "lf"))
  | ((with_reducible refine' ev_opI ?ha ?hb); (case ha => walk_at "ev"); (case hb => walk_at "ev"))
  | ((with_reducible refine' ev_opB ?ha ?hb); (case ha => walk_at "ev"); (case hb => walk_at "ev"))
  | ((with_reducible refine' ev_opC ?ha ?hb ?hc); (case ha => walk_at "ev"); (case hb => walk_at "ev"); (case hc => first | assumption | skip))
  | ((with_reducible refine' ev_un ?ha); (case ha => walk_at "ev"))
  | ((with_reducible refine' ev_eqK ?ha ?hb); (case ha => walk_at "ev"); (case hb => walk_at "ev"))
  | ((with_reducible refine' ev_eqI ?ha ?hb); (case ha => walk_at "ev"); (case hb => walk_at "ev"))
  | ((with_reducible refine' ev_eqS ?ha ?hb); (case ha => walk_at "ev"); (case hb => walk_at "ev"))
  | ((with_reducible refine' ev_neK ?ha ?hb); (case ha => walk_at "ev"); (case hb => walk_at "ev"))
  | ((with_reducible refine' ev_neI ?ha ?hb); (case ha => walk_at "ev"); (case hb => walk_at "ev"))
  | ((with_reducible refine' ev_neS ?ha ?hb); (case ha => walk_at "ev"); (case hb => walk_at "ev"))
  | ((with_reducible refine' ev_tup2 ?ha ?hb); (case ha => walk_at "ev"); (case hb => walk_at "ev"))
  | ((with_reducible refine' ev_tup1 ?ha); (case ha => walk_at "ev"))
  | with_reducible exact ev_tup0
  | ((with_reducible refine' ev_fst ?ha); (case ha => walk_at "ev"))
  | ((with_reducible refine' ev_snd ?ha); (case ha => walk_at "ev"))
  | ((with_reducible refine' ev_max2 rfl ?ha ?hb); (case ha => walk_at "ev"); (case hb => walk_at "ev"))
  | ((with_reducible refine' ev_min2 rfl ?ha ?hb); (case ha => walk_at "ev"); (case hb => walk_at "ev"))
  | ((with_reducible refine' ev_abs rfl ?ha); (case ha => walk_at "ev"))
  | ((with_reducible refine' ev_intI rfl ?ha); (case ha => walk_at "ev"))
  | ((with_reducible refine' ev_intB rfl ?ha); (case ha => walk_at "ev"))
  | ((with_reducible refine' ev_len rfl ?ha); (case ha => walk_at "ev"))
  | ((with_reducible refine' ev_lenL rfl ?ha); (case ha => walk_at "ev"))
  | ((with_reducible refine' ev_tuple rfl ?ha); (case ha => walk_at "ev"))
  | ((with_reducible refine' ev_sum ?ha); (case ha => walk_at "ev"))
  | ((with_reducible refine' ev_chain ?ha ?hb ?hc); (case ha => walk_at "ev"); (case hb => walk_at "ev"); (case hc => walk_at "ev"))
  | ((with_reducible refine' et_test ?ha); (case ha => walk_at "ev"))
  | ((with_reducible refine' et_B ?ha); (case ha => walk_at "ev"))
  | ((with_reducible refine' et_not ?ha); (case ha => walk_at "ev"))
  | ((with_reducible refine' ev_not ?ha); (case ha => walk_at "ev"))
  | ((with_reducible refine' et_and ?ha ?hb); (case ha => walk_at "ev"); (case hb => intro _; walk_at "ev"))
  | ((with_reducible refine' et_or ?ha ?hb); (case ha => walk_at "ev"); (case hb => intro _; walk_at "ev"))
  | ((with_reducible refine' ev_and ?ha ?hb); (case ha => walk_at "ev"); (case hb => intro _; walk_at "ev"))
  | ((with_reducible refine' ev_or ?ha ?hb); (case ha => walk_at "ev"); (case hb => intro _; walk_at "ev"))
  | ((with_reducible refine' ev_call1 ?ha ?hp); (case ha => walk_at "ev"); (case hp => first | assumption | trivial))
  | ((with_reducible refine' ev_call2 ?ha ?hb ?hp); (case ha => walk_at "ev"); (case hb => walk_at "ev"); (case hp => first | assumption | trivial))
  | ((with_reducible refine' ev_call3 ?ha ?hb ?hc ?hp); (case ha => walk_at "ev"); (case hb => walk_at "ev"); (case hc => walk_at "ev"); (case hp => first | assumption | trivial)))
variable {P : Program} {w : World} {K : PySem.W.Frag} {mg : Str → Option Value} {base : Heap}
section
variable {α : Type} {σ : L2.St} {H : Hp} {ta tb : TE}
/-- the + of two tuples -/
theorem r_catT [RpK α] {a b : List α} {v u : V} {H3 : Hp} {Q : V → Hp → Prop} (hv : Rp.is H3 v a) (hu : Rp.is H3 u b) (hz : a.length + b.length ≤ 100000) (q : ∀ x H4, Same H3 H4 → Rp.is H4 x (a ++ b) → Q x H4) : (rCatA K) v u H3 Q := by
  obtain ⟨p, xs, rfl, h1, h2⟩ := hv
  obtain ⟨r, ys, rfl, h3, h4⟩ := hu
  refine ⟨p, r, xs, ys, rfl, rfl, SqT.of h1, SqT.of h3, by rw [h2.length, h4.length]; exact Nat.le_of_lt (small_line hz), fun e => ?_, fun _ e => ?_, fun _ _ l hl => ?_⟩
  · subst e
    have ea : a = [] := List.length_eq_zero_iff.mp h2.length.symm
    subst ea
    exact q _ H3 (Same.refl _) ⟨r, ys, rfl, h3, h4⟩
  · subst e
    have eb : b = [] := List.length_eq_zero_iff.mp h4.length.symm
    subst eb
    refine q _ H3 (Same.refl _) ⟨p, xs, rfl, h1, ?_⟩
    rw [List.append_nil]
    exact h2
  · have sn : Same H3 (upd H3 l (.tup (xs ++ ys))) := same_new hl
    exact q _ _ sn ⟨l, _, rfl, upd_same, (h2.imp fun _ _ z => Rp.mono sn z).append (h4.imp fun _ _ z => Rp.mono sn z)⟩
theorem ev_catT [RpK α] {a b : List α} (ha : EvR ta σ H a) (hb : EvR tb σ H b) (hz : a.length + b.length ≤ 100000) : EvR (tOp (rCatA K) ta tb) σ H (a ++ b) := fun H1 s Q q =>
  ha H1 s _ fun v H2 s2 hv => hb H2 (s.trans s2) _ fun u H3 s3 hu =>
    r_catT (Rp.mono s3 hv) hu hz fun x H4 s4 hx => q x H4 ((s2.trans s3).trans s4) hx
/-- t[:k] -/
theorem ev_slTo [RpK α] {a : List α} {i : Int} {k : Nat} (ha : EvR ta σ H a) (hi : EvR tb σ H i) (e : i = (k : Int)) : EvR (tSl (rSlA K) ta tNoPart (tPart tb)) σ H (a.take k) := fun H1 s Q q =>
  ha H1 s _ fun v H2 s2 hv => hi H2 (s.trans s2) _ fun u H3 s3 hu => by
    obtain ⟨p, xs, rfl, h1, h2⟩ := Rp.mono s3 hv
    refine ⟨i, hu, p, xs, rfl, SqT.of h1, fun h => ?_, fun _ l hl => ?_⟩
    · obtain ⟨_, h⟩ := h
      rw [e, HT.sIx_nat] at h
      refine q _ H3 (s2.trans s3) ⟨p, xs, rfl, h1, ?_⟩
      rw [List.take_of_length_le (by rw [← h2.length]; omega)]
      exact h2
    · have sn : Same H3 (upd H3 l (.tup (cutV xs none (some i)))) := same_new hl
      refine q _ _ ((s2.trans s3).trans sn) ⟨l, _, rfl, upd_same, ?_⟩
      have ec : cutV xs none (some i) = xs.take k := by
        unfold cutV
        rw [e, HT.sIx_nat, HT.sIx_none, List.drop_zero, Nat.sub_zero, List.take_eq_take_iff]
        omega
      rw [ec] at sn ⊢
      exact (h2.take k).imp fun _ _ z => Rp.mono sn z
/-- t[k:] -/
theorem ev_slFrom [RpK α] {a : List α} {i : Int} {k : Nat} (ha : EvR ta σ H a) (hi : EvR tb σ H i) (e : i = (k : Int)) : EvR (tSl (rSlA K) ta (tPart tb) tNoPart) σ H (a.drop k) := fun H1 s Q q =>
  ha H1 s _ fun v H2 s2 hv => hi H2 (s.trans s2) _ fun u H3 s3 hu => by
    obtain ⟨p, xs, rfl, h1, h2⟩ := Rp.mono s3 hv
    refine ⟨i, hu, p, xs, rfl, SqT.of h1, fun h => ?_, fun _ l hl => ?_⟩
    · obtain ⟨h, _⟩ := h
      rw [e, HT.sIx_nat] at h
      refine q _ H3 (s2.trans s3) ⟨p, xs, rfl, h1, ?_⟩
      by_cases k0 : k = 0
      · rw [k0, List.drop_zero]
        exact h2
      · have hx : xs.length = 0 := by omega
        have hx2 : xs = [] := List.length_eq_zero_iff.mp hx
        subst hx2
        have ha2 : a = [] := List.length_eq_zero_iff.mp h2.length.symm
        subst ha2
        rw [List.drop_nil]
        exact trivial
    · have sn : Same H3 (upd H3 l (.tup (cutV xs (some i) none))) := same_new hl
      refine q _ _ ((s2.trans s3).trans sn) ⟨l, _, rfl, upd_same, ?_⟩
      have ec : cutV xs (some i) none = xs.drop k := by
        unfold cutV
        rw [e, HT.sIx_nat, HT.sIx_none]
        by_cases hk : k ≤ xs.length
        · rw [Nat.min_eq_left hk, List.take_of_length_le (by rw [List.length_drop]; omega)]
        · rw [Nat.min_eq_right (by omega), List.drop_length, List.drop_eq_nil_of_le (by omega), List.take_nil]
      rw [ec] at sn ⊢
      exact (h2.drop k).imp fun _ _ z => Rp.mono sn z
end
end Cf
set_option Elab.async false
set_option linter.all false
set_option maxRecDepth 100000
set_option maxHeartbeats 4000000
namespace Cf
open PySem PySem.Spec PyProof.Rows L2 Cs
local macro_rules | `(tactic| walk_at "lf") => `(tactic| first
  | assumption
  | exact rfl
  | exact Rp.mono (by assumption) (by assumption)
  | exact Rp.mono (Same.trans (by assumption) (by assumption)) (by assumption)
  | exact RpK.monoK (by assumption) (by assumption))
local macro_rules | `(tactic| walk_at "ev") => `(tactic| first
  | with_reducible exact ev_int
  | with_reducible exact ev_bl
  | with_reducible exact ev_fill
  | with_reducible exact ev_drop
  | with_reducible exact ev_str
  | ((with_reducible refine' ev_var ?hs ?hv); (case hs => exact rfl); (case hv => walk_at "lf"))
  | ((with_reducible refine' ev_opI ?ha ?hb); (case ha => walk_at "ev"); (case hb => walk_at "ev"))
  | ((with_reducible refine' ev_opB ?ha ?hb); (case ha => walk_at "ev"); (case hb => walk_at "ev"))
  | ((with_reducible refine' ev_opC ?ha ?hb ?hc); (case ha => walk_at "ev"); (case hb => walk_at "ev"); (case hc => first | assumption | skip))
  | ((with_reducible refine' ev_un ?ha); (case ha => walk_at "ev"))
  | ((with_reducible refine' ev_eqK ?ha ?hb); (case ha => walk_at "ev"); (case hb => walk_at "ev"))
  | ((with_reducible refine' ev_eqI ?ha ?hb); (case ha => walk_at "ev"); (case hb => walk_at "ev"))
  | ((with_reducible refine' ev_eqS ?ha ?hb); (case ha => walk_at "ev"); (case hb => walk_at "ev"))
  | ((with_reducible refine' ev_neK ?ha ?hb); (case ha => walk_at "ev"); (case hb => walk_at "ev"))
  | ((with_reducible refine' ev_neI ?ha ?hb); (case ha => walk_at "ev"); (case hb => walk_at "ev"))
  | ((with_reducible refine' ev_neS ?ha ?hb); (case ha => walk_at "ev"); (case hb => walk_at "ev"))
  | ((with_reducible refine' ev_tup2 ?ha ?hb); (case ha => walk_at "ev"); (case hb => walk_at "ev"))
  | ((with_reducible refine' ev_tup1 ?ha); (case ha => walk_at "ev"))
  | with_reducible exact ev_tup0
  | ((with_reducible refine' ev_fst ?ha); (case ha => walk_at "ev"))
  | ((with_reducible refine' ev_snd ?ha); (case ha => walk_at "ev"))
  | ((with_reducible refine' ev_max2 rfl ?ha ?hb); (case ha => walk_at "ev"); (case hb => walk_at "ev"))
  | ((with_reducible refine' ev_min2 rfl ?ha ?hb); (case ha => walk_at "ev"); (case hb => walk_at "ev"))
  | ((with_reducible refine' ev_abs rfl ?ha); (case ha => walk_at "ev"))
  | ((with_reducible refine' ev_intI rfl ?ha); (case ha => walk_at "ev"))
  | ((with_reducible refine' ev_intB rfl ?ha); (case ha => walk_at "ev"))
  | ((with_reducible refine' ev_len rfl ?ha); (case ha => walk_at "ev"))
  | ((with_reducible refine' ev_lenL rfl ?ha); (case ha => walk_at "ev"))
  | ((with_reducible refine' ev_tuple rfl ?ha); (case ha => walk_at "ev"))
  | ((with_reducible refine' ev_sum ?ha); (case ha => walk_at "ev"))
  | ((with_reducible refine' ev_chain ?ha ?hb ?hc); (case ha => walk_at "ev"); (case hb => walk_at "ev"); (case hc => walk_at "ev"))
  | ((with_reducible refine' et_test ?ha); (case ha => walk_at "ev"))
  | ((with_reducible refine' et_B ?ha); (case ha => walk_at "ev"))
  | ((with_reducible refine' et_not ?ha); (case ha => walk_at "ev"))
  | ((with_reducible refine' ev_not ?ha); (case ha => walk_at "ev"))
  | ((with_reducible refine' et_and ?ha ?hb); (case ha => walk_at "ev"); (case hb => intro _; walk_at "ev"))
  | ((with_reducible refine' et_or ?ha ?hb); (case ha => walk_at "ev"); (case hb => intro _; walk_at "ev"))
  | ((with_reducible refine' ev_and ?ha ?hb); (case ha => walk_at "ev"); (case hb => intro _; walk_at "ev"))
  | ((with_reducible refine' ev_or ?ha ?hb); (case ha => walk_at "ev"); (case hb => intro _; walk_at "ev"))
  | ((with_reducible refine' ev_call1 ?ha ?hp); (case ha => walk_at "ev"); (case hp => first | assumption | trivial))
  | ((with_reducible refine' ev_call2 ?ha ?hb ?hp); (case ha => walk_at "ev"); (case hb => walk_at "ev"); (case hp => first | assumption | trivial))
  | ((with_reducible refine' ev_call3 ?ha ?hb ?hc ?hp); (case ha => walk_at "ev"); (case hb => walk_at "ev"); (case hc => walk_at "ev"); (case hp => first | assumption | trivial)))
variable {P : Program} {w : World} {K : PySem.W.Frag} {mg : Str → Option Value} {base : Heap}
/-! ### == of steps -/
def stD (s : Stp) : PyData := .tuple [.str (kindS s), .tuple ((numsS s).map PyData.int)]
theorem dp_ints {H : Hp} : ∀ {vs : List V} {as : List Int}, All2 (Rp.is H) vs as → DpAll K H vs (as.map PyData.int)
  | [], [], _ => .nil
  | _ :: _, _ :: _, q => .cons (by obtain ⟨e, _⟩ := q; have e2 : _ = V.int _ := e; rw [e2]; exact .int _) (dp_ints q.2)
  | [], _ :: _, q => q.elim
  | _ :: _, [], q => q.elim
theorem dp_st {H : Hp} {v : V} {s : Stp} (h : Rp.is H v s) : Dp K H v (stD s) := by
  obtain ⟨q, x, y, e, h1, h2, h3⟩ := h
  rw [e]
  have e2 : x = .str (kindS s) := h2
  obtain ⟨r, zs, e3, h4, h5⟩ := h3
  rw [e2, e3] at h1
  exact .tup (SqT.of h1) (.cons (.str _) (.cons (.tup (SqT.of h4) (dp_ints h5)) .nil))
theorem dp_sts {H : Hp} : ∀ {vs : List V} {as : List Stp}, All2 (Rp.is H) vs as → DpAll K H vs (as.map stD)
  | [], [], _ => .nil
  | _ :: _, _ :: _, q => .cons (dp_st q.1) (dp_sts q.2)
  | [], _ :: _, q => q.elim
  | _ :: _, [], q => q.elim
theorem lay_st (s : Stp) : PyData.canLay0 (stD s) = true := by
  cases s <;> simp [stD, kindS, numsS, PyData.canLay0, PyData.canLayAll0] <;> decide +kernel
theorem lay_sts : ∀ as : List Stp, PyData.canLayAll0 (as.map stD) = true
  | [] => by simp [PyData.canLayAll0]
  | a :: as => by
    simp only [List.map_cons, PyData.canLayAll0, lay_st, lay_sts as, Bool.and_self]
theorem dep_st (s : Stp) : PyData.depth (stD s) ≤ 3 := by
  cases s <;> simp [stD, numsS, PyData.depth, PyData.depthAll]
theorem dep_sts : ∀ as : List Stp, PyData.depthAll (as.map stD) ≤ 3
  | [] => by simp [PyData.depthAll]
  | a :: as => by
    have h1 := dep_sts as
    have h2 := dep_st a
    simp only [List.map_cons, PyData.depthAll]
    omega
theorem sts_shaped (as : List Stp) : SeqAt.shaped (.tuple (as.map stD)) = true := by
  have h1 := dep_sts as
  have h2 : PyData.depth (.tuple (as.map stD)) ≤ 64 := by
    simp only [PyData.depth]
    omega
  show (PyData.canLay0 (.tuple (as.map stD)) && decide (PyData.depth (.tuple (as.map stD)) ≤ 64)) = true
  rw [Bool.and_eq_true]
  exact ⟨by simp only [PyData.canLay0]; exact lay_sts as, decide_eq_true h2⟩
section
variable {σ : L2.St} {H : Hp} {ta tb te : TE}
theorem ev_eqNilS {as : List Stp} (ha : EvR ta σ H as) : EvR (tOp (rEqD K) ta (tTup tNil)) σ H (as.isEmpty) := fun H1 s Q q => ha H1 s _ fun v H2 s2 hv => ⟨Nat.zero_le _, fun p hp => by
  have s3 : Same H2 (upd H2 p (.tup [])) := same_new hp
  obtain ⟨a, xs, e, h1, h2⟩ := Rp.mono s3 hv
  refine ⟨.tuple (as.map stD), .tuple [], by rw [e]; exact .tup (SqT.of h1) (dp_sts h2), .tup (SqT.of upd_same) .nil, sts_shaped as, sts_shaped [], q _ _ (s2.trans s3) ?_⟩
  show V.bl _ = V.bl _
  cases as with
  | nil => simp only [List.map_nil, PyData.eqv, PyData.eqvAll, List.isEmpty_nil]
  | cons x r => simp only [List.map_cons, PyData.eqv, PyData.eqvAll, List.isEmpty_cons]⟩
end
end Cf
set_option Elab.async false
set_option linter.all false
set_option maxRecDepth 100000
set_option maxHeartbeats 4000000
namespace Cf
open PySem PySem.Spec PyProof.Rows L2 Cs
local macro_rules | `(tactic| walk_at "lf") => `(tactic| first
  | assumption
  | exact rfl
  | exact Rp.mono (by assumption) (by assumption)
  | exact Rp.mono (Same.trans (by assumption) (by assumption)) (by assumption)
  | exact RpK.monoK (by assumption) (by assumption))
local macro_rules | `(tactic| walk_at "ev") => `(tactic| first
  | with_reducible exact ev_int
  | with_reducible exact ev_bl
  | with_reducible exact ev_fill
  | with_reducible exact ev_drop
  | with_reducible exact ev_str
  | ((with_reducible refine' ev_var ?hs ?hv); (case hs => exact rfl); (case hv => walk_at "lf"))
  | ((with_reducible refine' ev_opI ?ha ?hb); (case ha => walk_at "ev"); (case hb => walk_at "ev"))
  | ((with_reducible refine' ev_opB ?ha ?hb); (case ha => walk_at "ev"); (case hb => walk_at "ev"))
  | ((with_reducible refine' ev_opC ?ha ?hb ?hc); (case ha => walk_at "ev"); (case hb => walk_at "ev"); (case hc => first | assumption | skip))
  | ((with_reducible refine' ev_un ?ha); (case ha => walk_at "ev"))
  | ((with_reducible refine' ev_eqK ?ha ?hb); (case ha => walk_at "ev"); (case hb => walk_at "ev"))
  | ((with_reducible refine' ev_eqI ?ha ?hb); (case ha => walk_at "ev"); (case hb => walk_at "ev"))
  | ((with_reducible refine' ev_eqS ?ha ?hb); (case ha => walk_at "ev"); (case hb => walk_at "ev"))
  | ((with_reducible refine' ev_neK ?ha ?hb); (case ha => walk_at "ev"); (case hb => walk_at "ev"))
  | ((with_reducible refine' ev_neI ?ha ?hb); (case ha => walk_at "ev"); (case hb => walk_at "ev"))
  | ((with_reducible refine' ev_neS ?ha ?hb); (case ha => walk_at "ev"); (case hb => walk_at "ev"))
  | ((with_reducible refine' ev_tup2 ?ha ?hb); (case ha => walk_at "ev"); (case hb => walk_at "ev"))
  | ((with_reducible refine' ev_tup1 ?ha); (case ha => walk_at "ev"))
  | with_reducible exact ev_tup0
  | ((with_reducible refine' ev_fst ?ha); (case ha => walk_at "ev"))
  | ((with_reducible refine' ev_snd ?ha); (case ha => walk_at "ev"))
  | ((with_reducible refine' ev_max2 rfl ?ha ?hb); (case ha => walk_at "ev"); (case hb => walk_at "ev"))
  | ((with_reducible refine' ev_min2 rfl ?ha ?hb); (case ha => walk_at "ev"); (case hb => walk_at "ev"))
  | ((with_reducible refine' ev_abs rfl ?ha); (case ha => walk_at "ev"))
  | ((with_reducible refine' ev_intI rfl ?ha); (case ha => walk_at "ev"))
  | ((with_reducible refine' ev_intB rfl ?ha); (case ha => walk_at "ev"))
  | ((with_reducible refine' ev_len rfl ?ha); (case ha => walk_at "ev"))
  | ((with_reducible refine' ev_lenL rfl ?ha); (case ha => walk_at "ev"))
  | ((with_reducible refine' ev_tuple rfl ?ha); (case ha => walk_at "ev"))
  | ((with_reducible refine' ev_sum ?ha); (case ha => walk_at "ev"))
  | ((with_reducible refine' ev_chain ?ha ?hb ?hc); (case ha => walk_at "ev"); (case hb => walk_at "ev"); (case hc => walk_at "ev"))
  | ((with_reducible refine' et_test ?ha); (case ha => walk_at "ev"))
  | ((with_reducible refine' et_B ?ha); (case ha => walk_at "ev"))
  | ((with_reducible refine' et_not ?ha); (case ha => walk_at "ev"))
  | ((with_reducible refine' ev_not ?ha); (case ha => walk_at "ev"))
  | ((with_reducible refine' et_and ?ha ?hb); (case ha => walk_at "ev"); (case hb => intro _; walk_at "ev"))
  | ((with_reducible refine' et_or ?ha ?hb); (case ha => walk_at "ev"); (case hb => intro _; walk_at "ev"))
  | ((with_reducible refine' ev_and ?ha ?hb); (case ha => walk_at "ev"); (case hb => intro _; walk_at "ev"))
  | ((with_reducible refine' ev_or ?ha ?hb); (case ha => walk_at "ev"); (case hb => intro _; walk_at "ev"))
  | ((with_reducible refine' ev_call1 ?ha ?hp); (case ha => walk_at "ev"); (case hp => first | assumption | trivial))
  | ((with_reducible refine' ev_call2 ?ha ?hb ?hp); (case ha => walk_at "ev"); (case hb => walk_at "ev"); (case hp => first | assumption | trivial))
  | ((with_reducible refine' ev_call3 ?ha ?hb ?hc ?hp); (case ha => walk_at "ev"); (case hb => walk_at "ev"); (case hc => walk_at "ev"); (case hp => first | assumption | trivial)))
variable {P : Program} {w : World} {K : PySem.W.Frag} {mg : Str → Option Value} {base : Heap}
theorem sc_Lbent : FnScope ["_law_urn", "_law_line_here", "_law_at_so", "_law_sort_so"] ["_law_urn", "_law_line_here"] (defScope s_Lbent) := ⟨rfl, rfl, rfl, by decide +kernel, rfl, by decide +kernel, by decide +kernel⟩
/-- a line of so few steps, of such amounts -/
def Lin (n : Nat) (t : Int) (p : List Stp) : Prop := p.length ≤ n ∧ ∀ s ∈ p, CM.Stp.ok s ∧ CM.amt s ≤ t
theorem Lin.take {n : Nat} {t : Int} {p : List Stp} (h : Lin n t p) (k : Nat) : Lin n t (p.take k) := ⟨Nat.le_trans (by rw [List.length_take]; omega) h.1, fun s hs => h.2 s (List.mem_of_mem_take hs)⟩
theorem go_lst2 {ta tb : TE} {σ : L2.St} {H : Hp} {Q : List V → Hp → Prop} (h : ta σ H fun v1 H7 => tb σ H7 fun v2 H8 => 2 ≤ sizeLine ∧ ∀ p, H8 p = none → Q [.ref p] (upd H8 p (.lst [v1, v2]))) : tCons (tLst (tCons ta (tCons tb tNil))) tNil σ H Q := h
def BentSp : Sp := fun vs H Q _ => ∃ (l : Addr) (v : V) (p : List Stp) (f : Nat), vs = [.ref l, v] ∧ Rp.is H v p ∧ Lin 5 8 p ∧ Ur H l (f + 16) ∧
  ∀ u H' (p' : List Stp), Lin 6 8 p' → Same (dl H l) H' → Ur H' l f → Rp.is H' u p' → Q u H'
theorem F_Lbent (T : Tx w K mg) : Fn P w K mg base 5 d_Lbent ["_law_urn", "_law_line_here"] BentSp := by
  have F_Ltake : Fn P w K mg base 1 d_Ltake ["_law_urn", "_law_low_so"] _ := F_Ltake T
  have F_Lof : Fn P w K mg base 2 d_Lof ["_law_urn", "_law_some_so"] _ := F_Lof T
  have F_Lstride : Fn P w K mg base 3 d_Lstride ["_law_urn", "_law_top"] _ := F_Lstride T
  have F_Lline : Fn P w K mg base 4 d_Lline ["_law_urn", "_law_most_so", "_law_top"] _ := F_Lline T
  refine mk_fn T.f_Lbent sc_Lbent (fun kV doc pm an cdv ct us hl => match us, hl with | [_, _], _ => rfl) (fun vs H Q E h => by obtain ⟨_, _, _, _, e, _⟩ := h; rw [e]; rfl) (fun cdv A outer s H vs Q E hr h => ?_)
  obtain ⟨l, v, p, f, rfl, hv, hp, hu, kk⟩ := h
  refine ⟨_, (pss_cons (ps_if (pt_cmpR (op_eqD hr.units) (pv 1) (pe_tup pa_nil) (nomark _))
  (pss_one (ps_ret (pe_fn F_Lline (hr.mono (by decide)) T.g_Lline (pa_cons (pv 0) (pa_cons pe_int (pa_cons pe_int pa_nil))))))
  pss_nil)
  (pss_cons (ps_par (i := 2) (j := 3) (by rfl) sc_Lbent.nd rfl rfl (by decide) rfl rfl (pa_cons (pe_fn F_Ltake (hr.mono (by decide)) T.g_Ltake (pa_cons (pv 0) (pa_cons (pe_callB call_len_seq (by rfl) T.b_len PySem.boot_len (pa_cons (pv 1) pa_nil)) pa_nil))) (pa_cons (pe_fn F_Ltake (hr.mono (by decide)) T.g_Ltake (pa_cons (pv 0) (pa_cons pe_int pa_nil))) pa_nil)) (by rfl))
  (pss_cons (ps_if (pt_cmpR op_eq (pv 3) pe_int (nomark _))
  (pss_one (ps_ret (pe_op op_catA (pe_slice sl_tupA (pv 1) po_none (po_some (pv 2))) (pe_slice sl_tupA (pv 1) (po_some (pe_op op_add (pv 2) pe_int)) po_none))))
  pss_nil)
  (pss_cons (ps_if (pt_cmpR op_eq (pv 3) pe_int (nomark _))
  (pss_one (ps_ret (pe_op op_catA (pe_op op_catA (pe_slice sl_tupA (pv 1) po_none (po_some (pv 2))) (pe_tup (pa_cons (pe_fn F_Lstride (hr.mono (by decide)) T.g_Lstride (pa_cons (pv 0) (pa_cons pe_int pa_nil))) pa_nil))) (pe_slice sl_tupA (pv 1) (po_some (pe_op op_add (pv 2) pe_int)) po_none))))
  pss_nil)
  (pss_one (ps_ret (pe_op op_catA (pe_op op_catA (pe_slice sl_tupA (pv 1) po_none (po_some (pv 2))) (pe_tup (pa_cons (pe_fn F_Lof (hr.mono (by decide)) T.g_Lof (pa_cons (pv 0) (pa_cons (pe_lst (pa_cons (pe_tup (pa_cons pe_str (pa_cons (pe_tup (pa_cons pe_int pa_nil)) pa_nil))) (pa_cons (pe_tup (pa_cons pe_str (pa_cons (pe_tup (pa_cons pe_int pa_nil)) pa_nil))) pa_nil))) pa_nil))) pa_nil))) (pe_slice sl_tupA (pv 1) (po_some (pv 2)) po_none)))))))), ?_⟩
  refine q_if (b := p.isEmpty) (et_test (ev_eqNilS (ev_var rfl hv))) (fun c H1 s1 => ?_) (fun c H1 s1 => ?_)
  · refine ⟨_, rfl, l, 2, 3, f, rfl, by omega, by omega, by omega, by omega, hu.up s1, fun u H2 p' h1 h2 sd hu' hst => ?_⟩
    exact kk u H2 p' ⟨by omega, fun s hs => ⟨(h2 s hs).1, by have := (h2 s hs).2; omega⟩⟩ ((dl_mono s1).trans sd) hu' hst
  · have hv1 := Rp.mono s1 hv
    have hu1 := hu.up s1
    obtain ⟨q, xs, rfl, hq, hx⟩ := id hv1
    have hl0 : 1 ≤ xs.length := by
      rw [hx.length]
      cases p with
      | nil => cases c
      | cons _ _ => simp only [List.length_cons]; omega
    have hl5 : xs.length ≤ 5 := by rw [hx.length]; exact hp.1
    refine ⟨_, rfl, _, rfl, q, xs, rfl, .inr (SqT.of hq), l, xs.length, f + 15, rfl, hu1, by omega, by omega, fun i H2 hi0 hi1 sd2 hu2 => ⟨_, rfl, l, 3, f + 14, rfl, hu2, by omega, by omega, fun j H3 hj0 hj1 sd3 hu3 => ⟨_, _, rfl, ?_⟩⟩⟩
    have S3 : Same (dl H l) H3 := dl_trans ((dl_mono s1).trans sd2) sd3
    obtain ⟨z1, hz1⟩ := hu1.at
    obtain ⟨z2, hz2⟩ := hu2.at
    obtain ⟨z3, hz3⟩ := hu3.at
    have hv3 : Rp.is H3 (.ref q) p := RpK.monoK (kp_dl hz2 sd3) (RpK.monoK (kp_dl hz1 sd2) hv1)
    have ei : i = ((i.toNat : Nat) : Int) := by omega
    have wi : ∀ {σ : L2.St} {H' : Hp}, σ[2]? = some (some (.int i)) → EvR (tVar 2) σ H' i := fun e => ev_var e rfl
    have wj : ∀ {σ : L2.St} {H' : Hp}, σ[3]? = some (some (.int j)) → EvR (tVar 3) σ H' j := fun e => ev_var e rfl
    have hpl := hp.1
    dsimp only
    refine q_ifP (p := j = 0) (et_B (ev_eqI (wj rfl) ev_int)) (fun cj H4 s4 => ?_) (fun cj H4 s4 => ?_)
    · refine s_ret (a := p.take i.toNat ++ p.drop (i.toNat + 1)) (ev_catT (ev_slTo (ev_var rfl (Rp.mono s4 hv3)) (wi rfl) ei) (ev_slFrom (k := i.toNat + 1) (ev_var rfl (Rp.mono s4 hv3)) (ev_opI (wi rfl) ev_int) (by omega)) (by rw [List.length_take, List.length_drop]; omega)) fun u H5 s5 hu5 => ?_
      exact kk u H5 _ ⟨by rw [List.length_append, List.length_take, List.length_drop]; omega, fun s hs => (List.mem_append.mp hs).elim (fun h => hp.2 s (List.mem_of_mem_take h)) fun h => hp.2 s (List.mem_of_mem_drop h)⟩ ((S3.trans s4).trans s5) (((hu3.less (by omega)).up s4).up s5) hu5
    · -- one more step in the middle
      have last : ∀ (st : Stp) (u : V) (k2 : Nat) (H5 H6 : Hp) (x : V), i.toNat ≤ k2 → CM.Stp.ok st → CM.amt st ≤ 8 → Same H4 H5 → Rp.is H5 x (p.take i.toNat) → Same (dl H5 l) H6 → Ur H6 l f → Rp.is H6 u st → ∀ m, H6 m = none → ∀ {tb : TE} {σ : L2.St}, (∀ H', Rp.is H' (.ref q) p → EvR tb σ H' (p.drop k2)) →
          (rCatA K) x (.ref m) (upd H6 m (.tup [u])) fun z H7 => tb σ H7 fun w H8 => (rCatA K) z w H8 Q := fun st u k2 H5 H6 x hk ok am s5 hx sd6 hu6 hst m hm tb σ htb => by
        obtain ⟨z5, hz5⟩ := ((hu3.up s4).up s5).at
        have kp6 := kp_dl hz5 sd6
        have s7 : Same H6 (upd H6 m (.tup [u])) := same_new hm
        have hx7 := Rp.mono s7 (RpK.monoK kp6 hx)
        have hb7 : Rp.is (upd H6 m (.tup [u])) (.ref m) [st] := ⟨m, [u], rfl, upd_same, Rp.mono s7 hst, trivial⟩
        refine r_catT hx7 hb7 (by rw [List.length_take, List.length_singleton]; omega) fun z H8 s8 hz => ?_
        have hv8 : Rp.is H8 (.ref q) p := Rp.mono s8 (Rp.mono s7 (RpK.monoK kp6 (Rp.mono s5 (Rp.mono s4 hv3))))
        refine htb H8 hv8 H8 (Same.refl _) _ fun w H9 s9 hw => ?_
        refine r_catT (Rp.mono s9 hz) hw (by rw [List.length_append, List.length_take, List.length_drop, List.length_singleton]; omega) fun y H10 s10 hy => ?_
        refine kk y H10 _ ⟨?_, fun s hs => ?_⟩ ((dl_trans (S3.trans (s4.trans s5)) sd6).trans (s7.trans (s8.trans (s9.trans s10)))) (hu6.up (s7.trans (s8.trans (s9.trans s10)))) hy
        · rw [List.length_append, List.length_append, List.length_take, List.length_drop, List.length_singleton]; omega
        · rcases List.mem_append.mp hs with h | h
          · rcases List.mem_append.mp h with h | h
            · exact hp.2 s (List.mem_of_mem_take h)
            · rw [List.mem_singleton] at h
              rw [h]
              exact ⟨ok, am⟩
          · exact hp.2 s (List.mem_of_mem_drop h)
      refine q_ifP (p := j = 1) (et_B (ev_eqI (wj rfl) ev_int)) (fun cj2 H5 s5 => ?_) (fun cj2 H5 s5 => ?_)
      · refine ev_slTo (ev_var rfl (Rp.mono s5 (Rp.mono s4 hv3))) (wi rfl) ei H5 (Same.refl _) _ fun x H6 s6 hx => ?_
        exact ⟨_, rfl, l, 3, f, rfl, by omega, by omega, (((hu3.less (by omega)).up s4).up s5).up s6, fun u H7 st ok am sd hu' hst => ⟨by show 1 ≤ sizeLine; decide, fun m hm => last st u (i.toNat + 1) H6 H7 x (by omega) ok (by omega) (s5.trans s6) hx sd hu' hst m hm (fun H' hv' => ev_slFrom (k := i.toNat + 1) (ev_var rfl hv') (ev_opI (wi rfl) ev_int) (by omega))⟩⟩
      · refine ev_slTo (ev_var rfl (Rp.mono s5 (Rp.mono s4 hv3))) (wi rfl) ei H5 (Same.refl _) _ fun x H6 s6 hx => ?_
        refine ⟨_, rfl, ?_⟩
        refine go_lst2 ?_
        refine (ev_tup2 (a := (("fill" : Str))) (b := ([2] : List Int)) ev_str (ev_tup1 ev_int)) H6 (Same.refl _) _ fun v1 H7 s7 h1 => (ev_tup2 (a := (("drop" : Str))) (b := ([2] : List Int)) ev_str (ev_tup1 ev_int)) H7 (Same.refl _) _ fun v2 H8 s8 h2 => ⟨by show 2 ≤ sizeLine; decide, fun m2 hm2 => ?_⟩
        have hu8 := ((((hu3.up s4).up s5).up s6).up s7).up s8
        obtain ⟨z8, hz8⟩ := hu8.at
        have hne : m2 ≠ l := fun c => by rw [c, hz8] at hm2; cases hm2
        have s9 : Same H8 (upd H8 m2 (.lst [v1, v2])) := same_new hm2
        have hu9 := hu8.up s9
        obtain ⟨z9, hz9⟩ := hu9.at
        refine ⟨l, m2, [v1, v2], f, rfl, upd_same, hne, by show 1 ≤ 2; decide, by show 2 ≤ 1000; decide, hu9.less (by omega), fun n u H9 hn sd9 hu' => ⟨by show 1 ≤ sizeLine; decide, fun m hm => ?_⟩⟩
        have kp9 := kp_dl hz9 sd9
        have hmem := List.mem_of_getElem? hn
        simp only [List.mem_cons, List.not_mem_nil, or_false] at hmem
        rcases hmem with rfl | rfl
        · exact last (.fill 2) _ i.toNat _ H9 x (Nat.le_refl _) (show (0 : Int) ≤ 2 by decide) (show (2 : Int) ≤ 8 by decide) (((s5.trans s6).trans (s7.trans s8)).trans s9) (Rp.mono s9 (Rp.mono s8 (Rp.mono s7 hx))) sd9 hu' (RpK.monoK (α := Str × List Int) kp9 (Rp.mono s9 (Rp.mono s8 h1))) m hm (fun H' hv' => ev_slFrom (k := i.toNat) (ev_var rfl hv') (wi rfl) ei)
        · exact last (.drop 2) _ i.toNat _ H9 x (Nat.le_refl _) (show (0 : Int) ≤ 2 by decide) (show (2 : Int) ≤ 8 by decide) (((s5.trans s6).trans (s7.trans s8)).trans s9) (Rp.mono s9 (Rp.mono s8 (Rp.mono s7 hx))) sd9 hu' (RpK.monoK (α := Str × List Int) kp9 (Rp.mono s9 h2)) m hm (fun H' hv' => ev_slFrom (k := i.toNat) (ev_var rfl hv') (wi rfl) ei)
end Cf
set_option Elab.async false
set_option linter.all false
set_option maxRecDepth 100000
set_option maxHeartbeats 4000000
namespace Cf
open PySem PySem.Spec PyProof.Rows L2 Cs
local macro_rules | `(tactic| walk_at "lf") => `(tactic| first
  | assumption
  | exact rfl
  | exact Rp.mono (by assumption) (by assumption)
  | exact Rp.mono (Same.trans (by assumption) (by assumption)) (by assumption)
  | exact RpK.monoK (by assumption) (by assumption))
local macro_rules | `(tactic| walk_at "ev") => `(tactic| first
  | with_reducible exact ev_int
  | with_reducible exact ev_bl
  | with_reducible exact ev_fill
  | with_reducible exact ev_drop
  | with_reducible exact ev_str
  | ((with_reducible refine' ev_var ?hs ?hv); (case hs => exact rfl); (case hv => walk_at "lf"))
  | ((with_reducible refine' ev_opI ?ha ?hb); (case ha => walk_at "ev"); (case hb => walk_at "ev"))
  | ((with_reducible refine' ev_opB ?ha ?hb); (case ha => walk_at "ev"); (case hb => walk_at "ev"))
  | ((with_reducible refine' ev_opC ?ha ?hb ?hc); (case ha => walk_at "ev"); (case hb => walk_at "ev"); (case hc => first | assumption | skip))
  | ((with_reducible refine' ev_un ?ha); (case ha => walk_at "ev"))
  | ((with_reducible refine' ev_eqK ?ha ?hb); (case ha => walk_at "ev"); (case hb => walk_at "ev"))
  | ((with_reducible refine' ev_eqI ?ha ?hb); (case ha => walk_at "ev"); (case hb => walk_at "ev"))
  | ((with_reducible refine' ev_eqS ?ha ?hb); (case ha => walk_at "ev"); (case hb => walk_at "ev"))
  | ((with_reducible refine' ev_neK ?ha ?hb); (case ha => walk_at "ev"); (case hb => walk_at "ev"))
  | ((with_reducible refine' ev_neI ?ha ?hb); (case ha => walk_at "ev"); (case hb => walk_at "ev"))
  | ((with_reducible refine' ev_neS ?ha ?hb); (case ha => walk_at "ev"); (case hb => walk_at "ev"))
  | ((with_reducible refine' ev_tup2 ?ha ?hb); (case ha => walk_at "ev"); (case hb => walk_at "ev"))
  | ((with_reducible refine' ev_tup1 ?ha); (case ha => walk_at "ev"))
  | with_reducible exact ev_tup0
  | ((with_reducible refine' ev_fst ?ha); (case ha => walk_at "ev"))
  | ((with_reducible refine' ev_snd ?ha); (case ha => walk_at "ev"))
  | ((with_reducible refine' ev_max2 rfl ?ha ?hb); (case ha => walk_at "ev"); (case hb => walk_at "ev"))
  | ((with_reducible refine' ev_min2 rfl ?ha ?hb); (case ha => walk_at "ev"); (case hb => walk_at "ev"))
  | ((with_reducible refine' ev_abs rfl ?ha); (case ha => walk_at "ev"))
  | ((with_reducible refine' ev_intI rfl ?ha); (case ha => walk_at "ev"))
  | ((with_reducible refine' ev_intB rfl ?ha); (case ha => walk_at "ev"))
  | ((with_reducible refine' ev_len rfl ?ha); (case ha => walk_at "ev"))
  | ((with_reducible refine' ev_lenL rfl ?ha); (case ha => walk_at "ev"))
  | ((with_reducible refine' ev_tuple rfl ?ha); (case ha => walk_at "ev"))
  | ((with_reducible refine' ev_sum ?ha); (case ha => walk_at "ev"))
  | ((with_reducible refine' ev_chain ?ha ?hb ?hc); (case ha => walk_at "ev"); (case hb => walk_at "ev"); (case hc => walk_at "ev"))
  | ((with_reducible refine' et_test ?ha); (case ha => walk_at "ev"))
  | ((with_reducible refine' et_B ?ha); (case ha => walk_at "ev"))
  | ((with_reducible refine' et_not ?ha); (case ha => walk_at "ev"))
  | ((with_reducible refine' ev_not ?ha); (case ha => walk_at "ev"))
  | ((with_reducible refine' et_and ?ha ?hb); (case ha => walk_at "ev"); (case hb => intro _; walk_at "ev"))
  | ((with_reducible refine' et_or ?ha ?hb); (case ha => walk_at "ev"); (case hb => intro _; walk_at "ev"))
  | ((with_reducible refine' ev_and ?ha ?hb); (case ha => walk_at "ev"); (case hb => intro _; walk_at "ev"))
  | ((with_reducible refine' ev_or ?ha ?hb); (case ha => walk_at "ev"); (case hb => intro _; walk_at "ev"))
  | ((with_reducible refine' ev_call1 ?ha ?hp); (case ha => walk_at "ev"); (case hp => first | assumption | trivial))
  | ((with_reducible refine' ev_call2 ?ha ?hb ?hp); (case ha => walk_at "ev"); (case hb => walk_at "ev"); (case hp => first | assumption | trivial))
  | ((with_reducible refine' ev_call3 ?ha ?hb ?hc ?hp); (case ha => walk_at "ev"); (case hb => walk_at "ev"); (case hc => walk_at "ev"); (case hp => first | assumption | trivial)))
variable {P : Program} {w : World} {K : PySem.W.Frag} {mg : Str → Option Value} {base : Heap}
theorem sc_Lbox : FnScope ["_law_script", "_law_k", "_law_cell"] ["_law_script", "_law_k"] (defScope s_Lbox) := ⟨rfl, rfl, rfl, by decide +kernel, rfl, by decide +kernel, by decide +kernel⟩
def BoxSp : Sp := fun vs H Q _ => ∃ (p : Addr) (cs : List Int) (k : Nat) (c : Int), vs = [.ref p, .int k] ∧ H p = some (.lst (cs.map V.int)) ∧ k ≤ 100 ∧ cs[k]? = some c ∧
  ∀ q H', H q = none → Same H H' → Ur H' q 4000 → Q (.ref q) H'
theorem F_Lbox (T : Tx w K mg) : Fn P w K mg base 1 d_Lbox ["_law_script", "_law_k"] BoxSp := by
  refine mk_fn T.f_Lbox sc_Lbox (fun kV doc pm an cdv ct us hl => match us, hl with | [_, _], _ => rfl) (fun vs H Q E h => by obtain ⟨_, _, _, _, e, _⟩ := h; rw [e]; rfl) (fun cdv A outer s H vs Q E hr h => ?_)
  obtain ⟨p, cs, k, c, rfl, hp, hk, hc, kk⟩ := h
  refine ⟨_, (pss_cons (ps_set (i := 2) sc_Lbox.nd rfl (Or.inl rfl) (pe_ifExp (pt_cmpR op_lt (pv 1) (pe_callB call_len_seq (by rfl) T.b_len PySem.boot_len (pa_cons (pv 0) pa_nil)) (nomark _)) (pe_ix ix_list (pv 0) (pv 1) (fun _ _ => rfl)) pe_int))
  (pss_one (ps_ret (pe_lst (pa_cons (pe_op op_mul (pe_callB call_abs (by rfl) T.b_abs (by decide +kernel) (pa_cons (pv 2) pa_nil)) (pe_callTy call_int1 (by rfl) T.b_int (by decide +kernel) (pa_cons (pe_cmpR op_ge (pe_callB call_abs (by rfl) T.b_abs (by decide +kernel) (pa_cons (pv 2) pa_nil)) (pe_op op_pow pe_int pe_int) (nomark _)) pa_nil))) (pa_cons (pe_op op_add (pe_op op_add (pe_op op_mod (pe_callTy call_int1 (by rfl) T.b_int (by decide +kernel) (pa_cons (pv 2) pa_nil)) pe_int) (pe_op op_mul pe_int (pv 1))) pe_int) (pa_cons pe_int pa_nil))))))), ?_⟩
  have hs : Rp.is H (.ref p) (⟨cs⟩ : Ls Int) := ⟨p, _, rfl, hp, int_all2 cs⟩
  have hlt : (k : Int) < (cs.length : Int) := by
    have := (List.getElem?_eq_some_iff.mp hc).1
    omega
  refine q_asg (a := c) (ev_if (b := true) (et_B ((ev_opB (f := fun i j => decide (i < j)) (ev_var (a := (k : Int)) rfl rfl) (ev_lenL (as := ⟨cs⟩) rfl (ev_var rfl hs))).eq (decide_eq_true hlt))) (fun _ => ev_ixL (as := ⟨cs⟩) (ev_var rfl hs) (ev_var (a := (k : Int)) rfl rfl) rfl hc) (fun z => by cases z)) fun v H1 s1 hv => ?_
  obtain rfl : v = .int c := hv
  have vc : ∀ {σ : L2.St} {H' : Hp}, σ[2]? = some (some (.int c)) → EvR (tVar 2) σ H' c := fun e => ev_var e rfl
  refine (ev_opC (C := CMul) (f := fun i j => i * j) (ev_abs rfl (vc rfl)) (ev_intB rfl (ev_opB (f := fun i j => decide (j ≤ i)) (ev_abs rfl (vc rfl)) (ev_opC (C := CPow) (f := fun i j => i ^ j.toNat) ev_int ev_int ⟨by decide, by decide, by decide⟩))) (.inr (by split <;> decide))) H1 (Same.refl _) _ fun v1 H2 s2 h1 => ?_
  have hv1 : v1 = .int ((c.natAbs : Int) * (if (decide ((10 : Int) ^ (18 : Int).toNat ≤ (c.natAbs : Int))) = true then (1 : Int) else 0)) := h1
  refine (ev_opI (f := fun i j => i + j) (ev_opI (f := fun i j => i + j) (ev_opC (C := fun _ j => 0 < j) (f := fun i j => i % j) (ev_intI rfl (vc rfl)) ev_int (by decide)) (ev_opC (C := CMul) (f := fun i j => i * j) ev_int (ev_var (a := (k : Int)) rfl rfl) (.inl ⟨by decide, by decide⟩))) ev_int) H2 (Same.refl _) _ fun v2 H3 s3 h2 => ?_
  have hv2 : v2 = .int (c % 2305843009213693951 + 39373 * (k : Int) + 5942097) := h2
  refine ⟨by show 3 ≤ sizeLine; decide, fun q hq => ?_⟩
  have hq0 : H q = none := by
    cases z : H q with
    | none => rfl
    | some o =>
      have := s3 _ _ (s2 _ _ (s1 _ _ z))
      rw [this] at hq
      cases hq
  have sn : Same H3 (upd H3 q (.lst [v1, v2, .int 0])) := same_new hq
  have hm := Int.emod_nonneg c (show (2305843009213693951 : Int) ≠ 0 by decide)
  have hm2 := Int.emod_lt_of_pos c (show (0 : Int) < 2305843009213693951 by decide)
  have hp0 : (0 : Int) ≤ (c.natAbs : Int) * (if (decide ((10 : Int) ^ (18 : Int).toNat ≤ (c.natAbs : Int))) = true then (1 : Int) else 0) := by
    split <;> omega
  rw [hv1, hv2] at sn ⊢
  exact kk q _ hq0 (((s1.trans s2).trans s3).trans sn) ⟨_, _, 0, upd_same, hp0, by omega, by omega, Int.le_refl _, by decide⟩
end Cf
set_option Elab.async false
set_option linter.all false
set_option maxRecDepth 100000
set_option maxHeartbeats 4000000
namespace Cf.Gr
open PySem PySem.Spec PyProof.Rows L2 Cs
local macro_rules | `(tactic| walk_at "lf") => `(tactic| first
  | assumption
  | exact rfl
  | exact Rp.mono (by assumption) (by assumption)
  | exact Rp.mono (Same.trans (by assumption) (by assumption)) (by assumption)
  | exact RpK.monoK (by assumption) (by assumption))
local macro_rules | `(tactic| walk_at "ev") => `(tactic| first
  | with_reducible exact ev_int
  | with_reducible exact ev_bl
  | with_reducible exact ev_fill
  | with_reducible exact ev_drop
  | with_reducible exact ev_str
  | ((with_reducible refine' ev_var ?hs ?hv); (case hs => exact rfl); (case hv => walk_at "lf"))
  | ((with_reducible refine' ev_opI ?ha ?hb); (case ha => walk_at "ev"); (case hb => walk_at "ev"))
  | ((with_reducible refine' ev_opB ?ha ?hb); (case ha => walk_at "ev"); (case hb => walk_at "ev"))
  | ((with_reducible refine' ev_opC ?ha ?hb ?hc); (case ha => walk_at "ev"); (case hb => walk_at "ev"); (case hc => first | assumption | skip))
  | ((with_reducible refine' ev_un ?ha); (case ha => walk_at "ev"))
  | ((with_reducible refine' ev_eqK ?ha ?hb); (case ha => walk_at "ev"); (case hb => walk_at "ev"))
  | ((with_reducible refine' ev_eqI ?ha ?hb); (case ha => walk_at "ev"); (case hb => walk_at "ev"))
  | ((with_reducible refine' ev_eqS ?ha ?hb); (case ha => walk_at "ev"); (case hb => walk_at "ev"))
  | ((with_reducible refine' ev_neK ?ha ?hb); (case ha => walk_at "ev"); (case hb => walk_at "ev"))
  | ((with_reducible refine' ev_neI ?ha ?hb); (case ha => walk_at "ev"); (case hb => walk_at "ev"))
  | ((with_reducible refine' ev_neS ?ha ?hb); (case ha => walk_at "ev"); (case hb => walk_at "ev"))
  | ((with_reducible refine' ev_tup2 ?ha ?hb); (case ha => walk_at "ev"); (case hb => walk_at "ev"))
  | ((with_reducible refine' ev_tup1 ?ha); (case ha => walk_at "ev"))
  | with_reducible exact ev_tup0
  | ((with_reducible refine' ev_fst ?ha); (case ha => walk_at "ev"))
  | ((with_reducible refine' ev_snd ?ha); (case ha => walk_at "ev"))
  | ((with_reducible refine' ev_max2 rfl ?ha ?hb); (case ha => walk_at "ev"); (case hb => walk_at "ev"))
  | ((with_reducible refine' ev_min2 rfl ?ha ?hb); (case ha => walk_at "ev"); (case hb => walk_at "ev"))
  | ((with_reducible refine' ev_abs rfl ?ha); (case ha => walk_at "ev"))
  | ((with_reducible refine' ev_intI rfl ?ha); (case ha => walk_at "ev"))
  | ((with_reducible refine' ev_intB rfl ?ha); (case ha => walk_at "ev"))
  | ((with_reducible refine' ev_len rfl ?ha); (case ha => walk_at "ev"))
  | ((with_reducible refine' ev_lenL rfl ?ha); (case ha => walk_at "ev"))
  | ((with_reducible refine' ev_tuple rfl ?ha); (case ha => walk_at "ev"))
  | ((with_reducible refine' ev_sum ?ha); (case ha => walk_at "ev"))
  | ((with_reducible refine' ev_chain ?ha ?hb ?hc); (case ha => walk_at "ev"); (case hb => walk_at "ev"); (case hc => walk_at "ev"))
  | ((with_reducible refine' et_test ?ha); (case ha => walk_at "ev"))
  | ((with_reducible refine' et_B ?ha); (case ha => walk_at "ev"))
  | ((with_reducible refine' et_not ?ha); (case ha => walk_at "ev"))
  | ((with_reducible refine' ev_not ?ha); (case ha => walk_at "ev"))
  | ((with_reducible refine' et_and ?ha ?hb); (case ha => walk_at "ev"); (case hb => intro _; walk_at "ev"))
  | ((with_reducible refine' et_or ?ha ?hb); (case ha => walk_at "ev"); (case hb => intro _; walk_at "ev"))
  | ((with_reducible refine' ev_and ?ha ?hb); (case ha => walk_at "ev"); (case hb => intro _; walk_at "ev"))
  | ((with_reducible refine' ev_or ?ha ?hb); (case ha => walk_at "ev"); (case hb => intro _; walk_at "ev"))
  | ((with_reducible refine' ev_call1 ?ha ?hp); (case ha => walk_at "ev"); (case hp => first | assumption | trivial))
  | ((with_reducible refine' ev_call2 ?ha ?hb ?hp); (case ha => walk_at "ev"); (case hb => walk_at "ev"); (case hp => first | assumption | trivial))
  | ((with_reducible refine' ev_call3 ?ha ?hb ?hc ?hp); (case ha => walk_at "ev"); (case hb => walk_at "ev"); (case hc => walk_at "ev"); (case hp => first | assumption | trivial)))
variable {P : Program} {w : World} {K : PySem.W.Frag} {mg : Str → Option Value} {base : Heap}
theorem sc_Lgreat : FnScope ["_law_line_here", "_law_own", "_law_sort_so", "_law_nums_so"] ["_law_line_here"] (defScope s_Lgreat) := ⟨rfl, rfl, rfl, by decide +kernel, rfl, by decide +kernel, by decide +kernel⟩
def SCIN : Scope := { kind := .function, names := [((".0" : Str), .local), (("_law_sort_so" : Str), .local), (("_law_nums_so" : Str), .local), (("tuple" : Str), .globalImplicit)], isGenerator := false, isCoroutine := false, more := [] }
def greatS : Stp → Stp
  | .fill g => .fill (g * 10 ^ 38)
  | .drop d => .drop (d * 10 ^ 38)
  | .widen a b => .widen (a * 10 ^ 38) (b * 10 ^ 38)
  | .trim a b => .trim (a * 10 ^ 38) (b * 10 ^ 38)
  | .shift n => .shift (n * 10 ^ 38)
abbrev GreatPre (p : List Stp) : Prop := p.length ≤ 10 ∧ ∀ s ∈ p, ∀ n ∈ numsS s, -(2 ^ 64) < n ∧ n < 2 ^ 64
theorem great_kind (s : Stp) : kindS (greatS s) = kindS s := by cases s <;> rfl
theorem great_nums (s : Stp) : numsS (greatS s) = (numsS s).map fun n => n * 10 ^ 38 := by cases s <;> rfl
theorem nums_len (s : Stp) : (numsS s).length ≤ 2 := by cases s <;> simp [numsS]
theorem F_Lgreat (T : Tx w K mg) : Fn P w K mg base 1 d_Lgreat ["_law_line_here"] (Pure1 GreatPre fun p => p.map greatS) := by
  refine mk_pure1 T.f_Lgreat sc_Lgreat (fun _ _ _ _ _ _ _ => rfl) (fun cdv A outer s H Q E hr v p hv ha kk => ⟨_, (pss_one (ps_ret (pe_callTy call_tuple_of (by rfl) T.b_tuple (by decide +kernel) (pa_cons (pe_lc (own := [("_law_sort_so", 2), ("_law_nums_so", 3)]) (g := (gTup K 2 (gCons (gName 2) (gCons (gName 3) gNil)))) rfl sc_Lgreat.nd (pi_tup (pv 0)) (blkOk_by (own := [("_law_sort_so", 2), ("_law_nums_so", 3)]) (N := ["_law_line_here", "_law_own", "_law_sort_so", "_law_nums_so"]) (sc := defScope s_Lgreat) (by decide +kernel)) (fun _ _ _ _ _ => (pg_tup rfl (pgs_cons (pg_name (i := 2) sc_Lgreat.nd rfl (Or.inl rfl)) (pgs_cons (pg_name (i := 3) sc_Lgreat.nd rfl (Or.inl rfl)) pgs_nil)))) (fun _ _ _ _ _ => pts_nil) (fun _ _ _ _ _ => (pe_tup (pa_cons (pv 2) (pa_cons (pe_callTy (call_tuple_ofK (K := K) rfl) (by rfl) T.b_tuple (by decide +kernel) (pa_cons (pe_lc (own := [("_law_own", 1)]) (g := (gName 1)) rfl sc_Lgreat.nd (pi_tupK (K := K) rfl (pv 3)) (blkOk_by (own := [("_law_own", 1)]) (N := ["_law_line_here", "_law_own", "_law_sort_so", "_law_nums_so"]) (sc := SCIN) (by decide +kernel)) (fun _ _ _ _ _ => (pg_name (i := 1) sc_Lgreat.nd rfl (Or.inl rfl))) (fun _ _ _ _ _ => pts_nil) (fun _ _ _ _ _ => (pe_op op_mul (pv 1) (pe_op op_pow pe_int pe_int)))) pa_nil)) pa_nil))))) pa_nil)))), ?_⟩)
  refine s_ret (a := p.map greatS) (ev_tuple (as := ⟨p.map greatS⟩) rfl (ev_lcM greatS (iw_tup (ev_var rfl hv)) (small_line (by have := ha.1; omega)) (fun x u H2 s2 hx hu => g_stp hu fun y hy => ⟨rfl, Same.refl _, ?_⟩) gm_pair)) fun u H2 s2 hu => kk _ _ s2 hu
  show EvR (α := Str × List Int) _ _ H2 (kindS (greatS x), numsS (greatS x))
  rw [great_kind, great_nums]
  exact ev_tup2 (a := kindS x) (b := (numsS x).map fun n => n * 10 ^ 38) (ev_var rfl rfl) (ev_tuple (as := ⟨(numsS x).map fun n => n * 10 ^ 38⟩) rfl (ev_lcM (fun n : Int => n * 10 ^ 38) (iw_tup (ev_var rfl hy)) (small_line (by have := nums_len x; omega)) (fun n u2 H3 s3 hn hu2 => ⟨rfl, Same.refl _, ev_opC (C := CMul) (f := fun i j => i * j) (ev_var rfl hu2) (ev_opC (C := CPow) (f := fun i j => i ^ j.toNat) (a := 10) (b := 38) ev_int ev_int ⟨by decide, by decide, by decide⟩) (.inl (ha.2 x hx n hn))⟩) gm_name))
end Cf.Gr
set_option Elab.async false
set_option linter.all false
set_option maxRecDepth 100000
set_option maxHeartbeats 4000000
namespace Cf
open PySem PySem.Spec PyProof.Rows L2 Cs
local macro_rules | `(tactic| walk_at "lf") => `(tactic| first
  | assumption
  | exact rfl
  | exact Rp.mono (by assumption) (by assumption)
  | exact Rp.mono (Same.trans (by assumption) (by assumption)) (by assumption)
  | exact RpK.monoK (by assumption) (by assumption))
local macro_rules | `(tactic| walk_at "ev") => `(tactic| first
  | with_reducible exact ev_int
  | with_reducible exact ev_bl
  | with_reducible exact ev_fill
  | with_reducible exact ev_drop
  | with_reducible exact ev_str
  | ((with_reducible refine' ev_var ?hs ?hv); (case hs => exact rfl); (case hv => walk_at "lf"))
  | ((with_reducible refine' ev_opI ?ha ?hb); (case ha => walk_at "ev"); (case hb => walk_at "ev"))
  | ((with_reducible refine' ev_opB ?ha ?hb); (case ha => walk_at "ev"); (case hb => walk_at "ev"))
  | ((with_reducible refine' ev_opC ?ha ?hb ?hc); (case ha => walk_at "ev"); (case hb => walk_at "ev"); (case hc => first | assumption | skip))
  | ((with_reducible refine' ev_un ?ha); (case ha => walk_at "ev"))
  | ((with_reducible refine' ev_eqK ?ha ?hb); (case ha => walk_at "ev"); (case hb => walk_at "ev"))
  | ((with_reducible refine' ev_eqI ?ha ?hb); (case ha => walk_at "ev"); (case hb => walk_at "ev"))
  | ((with_reducible refine' ev_eqS ?ha ?hb); (case ha => walk_at "ev"); (case hb => walk_at "ev"))
  | ((with_reducible refine' ev_neK ?ha ?hb); (case ha => walk_at "ev"); (case hb => walk_at "ev"))
  | ((with_reducible refine' ev_neI ?ha ?hb); (case ha => walk_at "ev"); (case hb => walk_at "ev"))
  | ((with_reducible refine' ev_neS ?ha ?hb); (case ha => walk_at "ev"); (case hb => walk_at "ev"))
  | ((with_reducible refine' ev_tup2 ?ha ?hb); (case ha => walk_at "ev"); (case hb => walk_at "ev"))
  | ((with_reducible refine' ev_tup1 ?ha); (case ha => walk_at "ev"))
  | with_reducible exact ev_tup0
  | ((with_reducible refine' ev_fst ?ha); (case ha => walk_at "ev"))
  | ((with_reducible refine' ev_snd ?ha); (case ha => walk_at "ev"))
  | ((with_reducible refine' ev_max2 rfl ?ha ?hb); (case ha => walk_at "ev"); (case hb => walk_at "ev"))
  | ((with_reducible refine' ev_min2 rfl ?ha ?hb); (case ha => walk_at "ev"); (case hb => walk_at "ev"))
  | ((with_reducible refine' ev_abs rfl ?ha); (case ha => walk_at "ev"))
  | ((with_reducible refine' ev_intI rfl ?ha); (case ha => walk_at "ev"))
  | ((with_reducible refine' ev_intB rfl ?ha); (case ha => walk_at "ev"))
  | ((with_reducible refine' ev_len rfl ?ha); (case ha => walk_at "ev"))
  | ((with_reducible refine' ev_lenL rfl ?ha); (case ha => walk_at "ev"))
  | ((with_reducible refine' ev_tuple rfl ?ha); (case ha => walk_at "ev"))
  | ((with_reducible refine' ev_sum ?ha); (case ha => walk_at "ev"))
  | ((with_reducible refine' ev_chain ?ha ?hb ?hc); (case ha => walk_at "ev"); (case hb => walk_at "ev"); (case hc => walk_at "ev"))
  | ((with_reducible refine' et_test ?ha); (case ha => walk_at "ev"))
  | ((with_reducible refine' et_B ?ha); (case ha => walk_at "ev"))
  | ((with_reducible refine' et_not ?ha); (case ha => walk_at "ev"))
  | ((with_reducible refine' ev_not ?ha); (case ha => walk_at "ev"))
  | ((with_reducible refine' et_and ?ha ?hb); (case ha => walk_at "ev"); (case hb => intro _; walk_at "ev"))
  | ((with_reducible refine' et_or ?ha ?hb); (case ha => walk_at "ev"); (case hb => intro _; walk_at "ev"))
  | ((with_reducible refine' ev_and ?ha ?hb); (case ha => walk_at "ev"); (case hb => intro _; walk_at "ev"))
  | ((with_reducible refine' ev_or ?ha ?hb); (case ha => walk_at "ev"); (case hb => intro _; walk_at "ev"))
  | ((with_reducible refine' ev_call1 ?ha ?hp); (case ha => walk_at "ev"); (case hp => first | assumption | trivial))
  | ((with_reducible refine' ev_call2 ?ha ?hb ?hp); (case ha => walk_at "ev"); (case hb => walk_at "ev"); (case hp => first | assumption | trivial))
  | ((with_reducible refine' ev_call3 ?ha ?hb ?hc ?hp); (case ha => walk_at "ev"); (case hb => walk_at "ev"); (case hc => walk_at "ev"); (case hp => first | assumption | trivial)))
variable {P : Program} {w : World} {K : PySem.W.Frag} {mg : Str → Option Value} {base : Heap}
theorem sc_Lcells : FnScope ["_law_script", "_law_top", "_law_cells_here", "_law_k", "_law_cell", "_law_at_so"] ["_law_script", "_law_top"] (defScope s_Lcells) := ⟨rfl, rfl, rfl, by decide +kernel, rfl, by decide +kernel, by decide +kernel⟩
/-- the first two numbers of a script; the later ones only need that the list is of ints -/
theorem sqL_up {H H' : Hp} {a : Addr} {xs : List V} (h : SqL K H a xs) (e : Same H H') : SqL K H' a xs := h.elim (fun h => .inl (h.elim (fun h => .inl (e _ _ h)) fun ⟨o, h⟩ => .inr ⟨o, e _ _ h⟩)) fun h => .inr h
def CellsSp (K : PySem.W.Frag) : Sp := fun vs H Q _ => ∃ (p : Addr) (cs : List Int), vs = [.ref p, .int 2] ∧ SqL K H p (cs.map V.int) ∧
  ∀ q H' (ds : List Int), 1 ≤ ds.length → ds.length ≤ 2 → H q = none → Same H H' → H' q = some (.lst (ds.map V.int)) → Q (.ref q) H'
theorem go_or {Q : VK} {k : Bool} {x : V} {H2 : Hp} {σ : L2.St} (R : V → Hp → Prop) (h1 : k = true → R x H2) (h2 : k = false → ∀ p, H2 p = none → R (.ref p) (upd H2 p (.lst [.int 0]))) (h : ∀ x H, R x H → Q x H) : if k = true then Q x H2 else tLst (tCons (tC (.int 0)) tNil) σ H2 Q := by
  cases k with
  | true => rw [if_pos rfl]; exact h _ _ (h1 rfl)
  | false =>
    rw [if_neg (by decide)]
    exact ⟨by show 1 ≤ sizeLine; decide, fun p hp => h _ _ (h2 rfl p hp)⟩
theorem F_Lcells (T : Tx w K mg) : Fn P w K mg base 1 d_Lcells ["_law_script", "_law_top"] (CellsSp K) := by
  refine mk_fn T.f_Lcells sc_Lcells (fun kV doc pm an cdv ct us hl => match us, hl with | [_, _], _ => rfl) (fun vs H Q E h => by obtain ⟨_, _, e, _⟩ := h; rw [e]; rfl) (fun cdv A outer s H vs Q E hr h => ?_)
  obtain ⟨p, cs, rfl, hp, kk⟩ := h
  refine ⟨_, (pss_cons (ps_set (i := 2) sc_Lcells.nd rfl (Or.inl rfl) (pe_orT (pe_callTy call_list_of (by rfl) T.b_list (by decide +kernel) (pa_cons (pe_slice sl_list (pv 0) po_none (po_some (pv 1))) pa_nil)) (pe_one (pe_lst (pa_cons pe_int pa_nil)))))
  (pss_cons (ps_for PassesOwn.never rfl (pi_enum (by rfl) T.b_enumerate (pa_cons (pe_slice sl_list (pv 0) (po_some (pv 1)) (po_some pe_int)) pa_nil)) (pg_tup rfl (pgs_cons (pg_name (i := 3) sc_Lcells.nd rfl (Or.inl rfl)) (pgs_cons (pg_name (i := 4) sc_Lcells.nd rfl (Or.inl rfl)) pgs_nil)))
  (pss_cons (ps_set (i := 5) sc_Lcells.nd rfl (Or.inl rfl) (pe_op op_mod (pe_callTy call_int1 (by rfl) T.b_int (by decide +kernel) (pa_cons (pv 3) pa_nil)) (pv 1)))
  (pss_one (ps_asg (pe_op op_add (pe_ix ix_list (pv 2) (pv 5) (fun _ _ => rfl)) (pe_op op_mul (pv 4) (pe_op op_add (pv 3) pe_int))) (pg_sub (pv 2) (pv 5) set_list)))))
  (pss_one (ps_ret (pv 2))))), ?_⟩
  refine ⟨_, rfl, ?_⟩
  refine ⟨_, rfl, 2, rfl, p, _, rfl, hp, fun a ha => ⟨a, _, rfl, .inl (SqL.of upd_same), fun b hb => ?_⟩⟩
  have ey : cutV (cs.map V.int) none (some 2) = (cs.take 2).map V.int := by
    unfold cutV
    rw [show (2 : Int) = ((2 : Nat) : Int) from rfl, HT.sIx_nat, HT.sIx_none, List.drop_zero, Nat.sub_zero, List.map_take, List.take_eq_take_iff]
    omega
  rw [ey] at hb ⊢
  have hb0 : H b = none := by
    have sa : Same H (upd H a (.lst ((cs.take 2).map V.int))) := same_new ha
    cases z : H b with
    | none => rfl
    | some o => rw [sa _ _ z] at hb; cases hb
  refine ⟨!((cs.take 2).map V.int).isEmpty, .inl ⟨_, SqL.of upd_same, rfl⟩, ?_⟩
  refine go_or (fun x H1 => ∃ (q : Addr) (ds : List Int), x = .ref q ∧ H q = none ∧ Same H H1 ∧ H1 q = some (.lst (ds.map V.int)) ∧ 1 ≤ ds.length ∧ ds.length ≤ 2 ∧ (2 < cs.length → ds.length = 2)) (fun c => ?_) (fun c q hq => ?_) fun x H1 ⟨q, ds, ex, hq, s1, e1, l1, l2, l3⟩ => ?_
  · refine ⟨b, cs.take 2, rfl, hb0, (same_new ha).trans (same_new hb), upd_same, ?_, by rw [List.length_take]; omega, fun z => by rw [List.length_take]; omega⟩
    cases z : cs.take 2 with
    | nil => rw [z] at c; cases c
    | cons _ _ => simp only [List.length_cons]; omega
  · have sab : Same H (upd (upd H a (.lst ((cs.take 2).map V.int))) b (.lst ((cs.take 2).map V.int))) := (same_new ha).trans (same_new hb)
    refine ⟨q, [0], rfl, ?_, sab.trans (same_new hq), upd_same, Nat.le_refl _, by decide, fun z => ?_⟩
    · cases z : H q with
      | none => rfl
      | some o => rw [sab _ _ z] at hq; cases hq
    · cases y : cs.take 2 with
      | nil =>
        have := congrArg List.length y
        rw [List.length_take] at this
        simp only [List.length_nil] at this
        omega
      | cons _ _ => rw [y] at c; cases c
  · subst ex
    have hp1 := sqL_up hp s1
    refine ⟨_, rfl, _, rfl, 2, rfl, 63, rfl, p, _, rfl, hp1, fun e he => ⟨e, _, rfl, SqL.of upd_same, ?_⟩⟩
    have ec : ∃ es : List Int, cutV (cs.map V.int) (some 2) (some 63) = es.map V.int ∧ es.length ≤ 61 ∧ (es ≠ [] → 2 < cs.length) := by
      refine ⟨(cs.drop 2).take 61, ?_, by rw [List.length_take]; omega, fun z => ?_⟩
      · unfold cutV
        rw [show (2 : Int) = ((2 : Nat) : Int) from rfl, show (63 : Int) = ((63 : Nat) : Int) from rfl, HT.sIx_nat, HT.sIx_nat, List.map_take, List.map_drop, List.length_map]
        by_cases hc : 2 < cs.length
        · rw [Nat.min_eq_left (by omega : 2 ≤ cs.length), List.take_eq_take_iff, List.length_drop, List.length_map]
          omega
        · rw [List.drop_of_length_le (by rw [List.length_map]; omega), List.drop_of_length_le (by rw [List.length_map]; omega), List.take_nil, List.take_nil]
      · apply Decidable.byContradiction
        intro hc
        exact z (by rw [List.drop_of_length_le (by omega), List.take_nil])
    obtain ⟨es, ees, hle, hes⟩ := ec
    rw [ees]
    have sn : Same H1 (upd H1 e (.lst (es.map V.int))) := same_new he
    have hqe : q ≠ e := fun c => by rw [← c, e1] at he; cases he
    refine for_it (walk_enum (xs := es.map V.int)) (fun i σ' H' => (∃ u3 u4 u5, σ' = [some (.ref p), some (.int 2), some (.ref q), u3, u4, u5]) ∧ Same (dl H1 q) H' ∧ H' e = some (.lst (es.map V.int)) ∧ ∃ ds' : List Int, H' q = some (.lst (ds'.map V.int)) ∧ ds'.length = ds.length)
      ⟨⟨_, _, _, rfl⟩, (dl_sub H1 q).trans sn, upd_same, ds, sn _ _ e1, rfl⟩ (fun _ _ _ _ r => SqL.of r.2.2.1) (fun i x σ' H2 H3 hi r y => ?_) (fun σ' H' r => ?_)
    · obtain ⟨⟨u3, u4, u5, rfl⟩, r1, r2, ds', r3, r4⟩ := r
      obtain ⟨tp, x1, x2, rfl, hT, rfl, ex1, ex2⟩ := y
      have ex1' : x1 = .int (i : Nat) := (Option.some.inj ex1).symm
      subst ex1'
      have ex2 : (es.map V.int)[i]? = some x2 := ex2
      rw [List.getElem?_map] at ex2
      obtain ⟨ei, hei, rfl⟩ := Option.map_eq_some_iff.mp ex2
      have hi' : i < es.length := (List.getElem?_eq_some_iff.mp hei).1
      have hl : ds'.length = 2 := by rw [r4]; exact l3 (hes (fun c => by rw [c] at hi'; exact absurd hi' (by simp)))
      have sT : Same H2 (upd H2 tp (.tup [.int (i : Nat), .int ei])) := same_new hT
      generalize hH3 : upd H2 tp (.tup [.int (i : Nat), .int ei]) = H3 at sT ⊢
      have eT : H3 tp = some (.tup [.int (i : Nat), .int ei]) := by rw [← hH3]; exact upd_same
      refine g_pair (p := ((i : Int), ei)) ⟨tp, _, _, rfl, eT, rfl, rfl⟩ fun x3 x4 h3 h4 => ?_
      have h3' : x3 = .int (i : Int) := h3
      have h4' : x4 = .int ei := h4
      subst h3' h4'
      refine q_asg (a := (i : Int) % 2) (ev_opC (C := fun _ j => 0 < j) (f := fun i j => i % j) (ev_intI rfl (ev_var (a := (i : Int)) rfl rfl)) (ev_var (a := (2 : Int)) rfl rfl) (by decide)) fun v5 H4 s4 hv5 => ?_
      have h5' : v5 = .int ((i : Int) % 2) := hv5
      subst h5'
      have S4 : Same H2 H4 := sT.trans s4
      have hq4 := S4 _ _ r3
      have hj : (i % 2 : Nat) < ds'.length := by omega
      have ej : ((i : Int) % 2) = ((i % 2 : Nat) : Int) := by omega
      obtain ⟨d0, hd0⟩ : ∃ d0, ds'[i % 2]? = some d0 := ⟨_, List.getElem?_eq_getElem hj⟩
      refine (ev_opI (f := fun i j => i + j) (ev_ixL (as := (⟨ds'⟩ : Ls Int)) (n := i % 2) (ev_var rfl ⟨q, _, rfl, hq4, int_all2 ds'⟩) (ev_var (a := (i : Int) % 2) rfl rfl) ej hd0) (ev_opC (C := CMul) (f := fun i j => i * j) (ev_var (a := ei) rfl rfl) (ev_opI (f := fun i j => i + j) (ev_var (a := (i : Int)) rfl rfl) ev_int) (.inr ⟨by omega, by omega⟩))) H4 (Same.refl _) _ fun v6 H5 s5 hv6 => ?_
      obtain rfl : v6 = .int (d0 + ei * ((i : Int) + 2)) := hv6
      have hq5 := s5 _ _ hq4
      refine ⟨_, rfl, _, rfl, q, _, _, i % 2, rfl, rfl, hq5, ?_, ?_⟩
      · rw [List.length_map, ej]
        unfold ixN
        have h1 : (0 : Int) ≤ ((i % 2 : Nat) : Int) ∧ ((i % 2 : Nat) : Int) < (ds'.length : Int) := ⟨by omega, by omega⟩
        first | (rw [if_pos h1, Int.toNat_natCast]) | (rw [if_pos h1.1, if_pos h1.2, Int.toNat_natCast]) | (simp [h1.1, h1.2])
      · refine ⟨⟨_, _, _, rfl⟩, dl_up (r1.trans (S4.trans s5)), ?_, ds'.set (i % 2) (d0 + ei * ((i : Int) + 2)), ?_, ?_⟩
        · rw [upd_ne (Ne.symm hqe)]
          exact s5 _ _ (S4 _ _ r2)
        · rw [upd_same, List.map_set]
        · rw [List.length_set]
          exact r4
    · obtain ⟨⟨u3, u4, u5, rfl⟩, r1, r2, ds', r3, r4⟩ := r
      refine ⟨_, rfl, kk q H' ds' (by omega) (by omega) hq (fun a o z => ?_) r3⟩
      have hne : a ≠ q := fun c => by rw [c, hq] at z; cases z
      exact r1 _ _ (by rw [dl_ne hne]; exact s1 _ _ z)
end Cf
set_option Elab.async false
set_option linter.all false
set_option maxRecDepth 100000
set_option maxHeartbeats 4000000
namespace Cf
open PySem PySem.Spec PyProof.Rows L2 Cs
local macro_rules | `(tactic| walk_at "lf") => `(tactic| first
  | assumption
  | exact rfl
  | exact Rp.mono (by assumption) (by assumption)
  | exact Rp.mono (Same.trans (by assumption) (by assumption)) (by assumption)
  | exact RpK.monoK (by assumption) (by assumption))
local macro_rules | `(tactic| walk_at "ev") => `(tactic| first
  | with_reducible exact ev_int
  | with_reducible exact ev_bl
  | with_reducible exact ev_fill
  | with_reducible exact ev_drop
  | with_reducible exact ev_str
  | ((with_reducible refine' ev_var ?hs ?hv); (case hs => exact rfl); (case hv => walk_at "lf"))
  | ((with_reducible refine' ev_opI ?ha ?hb); (case ha => walk_at "ev"); (case hb => walk_at "ev"))
  | ((with_reducible refine' ev_opB ?ha ?hb); (case ha => walk_at "ev"); (case hb => walk_at "ev"))
  | ((with_reducible refine' ev_opC ?ha ?hb ?hc); (case ha => walk_at "ev"); (case hb => walk_at "ev"); (case hc => first | assumption | skip))
  | ((with_reducible refine' ev_un ?ha); (case ha => walk_at "ev"))
  | ((with_reducible refine' ev_eqK ?ha ?hb); (case ha => walk_at "ev"); (case hb => walk_at "ev"))
  | ((with_reducible refine' ev_eqI ?ha ?hb); (case ha => walk_at "ev"); (case hb => walk_at "ev"))
  | ((with_reducible refine' ev_eqS ?ha ?hb); (case ha => walk_at "ev"); (case hb => walk_at "ev"))
  | ((with_reducible refine' ev_neK ?ha ?hb); (case ha => walk_at "ev"); (case hb => walk_at "ev"))
  | ((with_reducible refine' ev_neI ?ha ?hb); (case ha => walk_at "ev"); (case hb => walk_at "ev"))
  | ((with_reducible refine' ev_neS ?ha ?hb); (case ha => walk_at "ev"); (case hb => walk_at "ev"))
  | ((with_reducible refine' ev_tup2 ?ha ?hb); (case ha => walk_at "ev"); (case hb => walk_at "ev"))
  | ((with_reducible refine' ev_tup1 ?ha); (case ha => walk_at "ev"))
  | with_reducible exact ev_tup0
  | ((with_reducible refine' ev_fst ?ha); (case ha => walk_at "ev"))
  | ((with_reducible refine' ev_snd ?ha); (case ha => walk_at "ev"))
  | ((with_reducible refine' ev_max2 rfl ?ha ?hb); (case ha => walk_at "ev"); (case hb => walk_at "ev"))
  | ((with_reducible refine' ev_min2 rfl ?ha ?hb); (case ha => walk_at "ev"); (case hb => walk_at "ev"))
  | ((with_reducible refine' ev_abs rfl ?ha); (case ha => walk_at "ev"))
  | ((with_reducible refine' ev_intI rfl ?ha); (case ha => walk_at "ev"))
  | ((with_reducible refine' ev_intB rfl ?ha); (case ha => walk_at "ev"))
  | ((with_reducible refine' ev_len rfl ?ha); (case ha => walk_at "ev"))
  | ((with_reducible refine' ev_lenL rfl ?ha); (case ha => walk_at "ev"))
  | ((with_reducible refine' ev_tuple rfl ?ha); (case ha => walk_at "ev"))
  | ((with_reducible refine' ev_sum ?ha); (case ha => walk_at "ev"))
  | ((with_reducible refine' ev_chain ?ha ?hb ?hc); (case ha => walk_at "ev"); (case hb => walk_at "ev"); (case hc => walk_at "ev"))
  | ((with_reducible refine' et_test ?ha); (case ha => walk_at "ev"))
  | ((with_reducible refine' et_B ?ha); (case ha => walk_at "ev"))
  | ((with_reducible refine' et_not ?ha); (case ha => walk_at "ev"))
  | ((with_reducible refine' ev_not ?ha); (case ha => walk_at "ev"))
  | ((with_reducible refine' et_and ?ha ?hb); (case ha => walk_at "ev"); (case hb => intro _; walk_at "ev"))
  | ((with_reducible refine' et_or ?ha ?hb); (case ha => walk_at "ev"); (case hb => intro _; walk_at "ev"))
  | ((with_reducible refine' ev_and ?ha ?hb); (case ha => walk_at "ev"); (case hb => intro _; walk_at "ev"))
  | ((with_reducible refine' ev_or ?ha ?hb); (case ha => walk_at "ev"); (case hb => intro _; walk_at "ev"))
  | ((with_reducible refine' ev_call1 ?ha ?hp); (case ha => walk_at "ev"); (case hp => first | assumption | trivial))
  | ((with_reducible refine' ev_call2 ?ha ?hb ?hp); (case ha => walk_at "ev"); (case hb => walk_at "ev"); (case hp => first | assumption | trivial))
  | ((with_reducible refine' ev_call3 ?ha ?hb ?hc ?hp); (case ha => walk_at "ev"); (case hb => walk_at "ev"); (case hc => walk_at "ev"); (case hp => first | assumption | trivial)))
variable {P : Program} {w : World} {K : PySem.W.Frag} {mg : Str → Option Value} {base : Heap}
theorem sc_Lread : FnScope ["_law_text", "_law_found", "_law_bit", "_law_sign_so", "_law_own"] ["_law_text"] (defScope s_Lread) := ⟨rfl, rfl, rfl, by decide +kernel, rfl, by decide +kernel, by decide +kernel⟩
section
variable {α : Type} {σ : L2.St} {H : Hp} {ta tb : TE}
theorem strs_all2 (H : Hp) : ∀ as : List Str, All2 (Rp.is H) (as.map V.str) as
  | [] => trivial
  | _ :: as => ⟨rfl, strs_all2 H as⟩
/-- a text cut at another -/
theorem ev_split {a b : Str} {r : V → List V → Hp → VK → Prop} (hr : r = fun x xs H Q => ∃ a b, x = .str a ∧ xs = [.str b] ∧ (b.length == 0) = false ∧ a.length + 2 ≤ sizeLine ∧ rNewStrs (Txt.split a b) H Q) (ha : EvR ta σ H a) (hb : EvR tb σ H b) (h0 : (b.length == 0) = false) (hz : a.length ≤ 1000) : EvR (tM1 r ta tb) σ H (⟨Txt.split a b⟩ : Ls Str) := fun H1 s Q q =>
  ha H1 s _ fun v H2 s2 hv => ⟨⟨a, hv⟩, hb H2 (s.trans s2) _ fun u H3 s3 hu => by
    subst hr
    obtain rfl : u = .str b := hu
    exact ⟨a, b, hv, rfl, h0, small_line (n := a.length + 1) (by omega), fun p hp => q _ _ ((s2.trans s3).trans (same_new hp)) ⟨p, _, rfl, upd_same, strs_all2 _ _⟩⟩⟩
/-- the int of a text -/
theorem ev_intS {a : Str} {n : Int} {r : List V → Hp → VK → Prop} (hr : r = fun xs H Q => ∃ a n, xs = [.str a] ∧ PySem.intText? a = some n ∧ a.length ≤ 640 ∧ Q (.int n) H) (ha : EvR ta σ H a) (hn : PySem.intText? a = some n) (hl : a.length ≤ 640) : EvR (tCB r (tCons ta tNil)) σ H n := fun H1 s Q q =>
  ha H1 s _ fun v H2 s2 hv => by
    subst hr
    obtain rfl : v = .str a := hv
    exact ⟨a, n, rfl, hn, hl, q _ H2 s2 rfl⟩
/-- l[k:] -/
theorem ev_slFromL [RpK α] {a : Ls α} {i : Int} {k : Nat} (ha : EvR ta σ H a) (hi : EvR tb σ H i) (e : i = (k : Int)) : EvR (tSl (rSlL K) ta (tPart tb) tNoPart) σ H (⟨a.val.drop k⟩ : Ls α) := fun H1 s Q q =>
  ha H1 s _ fun v H2 s2 hv => hi H2 (s.trans s2) _ fun u H3 s3 hu => by
    obtain ⟨p, xs, rfl, h1, h2⟩ := Rp.mono s3 hv
    refine ⟨i, hu, p, xs, rfl, SqL.of h1, fun l hl => ?_⟩
    have sn : Same H3 (upd H3 l (.lst (cutV xs (some i) none))) := same_new hl
    refine q _ _ ((s2.trans s3).trans sn) ⟨l, _, rfl, upd_same, ?_⟩
    have ec : cutV xs (some i) none = xs.drop k := by
      unfold cutV
      rw [e, HT.sIx_nat, HT.sIx_none]
      by_cases hk : k ≤ xs.length
      · rw [Nat.min_eq_left hk, List.take_of_length_le (by rw [List.length_drop]; omega)]
      · rw [Nat.min_eq_right (by omega), List.drop_length, List.drop_eq_nil_of_le (by omega), List.take_nil]
    rw [ec] at sn ⊢
    exact (h2.drop k).imp fun _ _ z => Rp.mono sn z
/-- the list that is walked is a new one, while the list at l is written -/
theorem il_listN [RpK α] {as : List α} {l : Addr} {ys : List V} (hl : H l = some (.lst ys)) (h : ∀ Q : VK, (∀ q H2 xs, H q = none → Same H H2 → H2 q = some (.lst xs) → All2 (Rp.is H2) xs as → Q (.ref q) H2) → ta σ H Q) : IwL (iList K ta) σ H l as := fun R k => h _ fun q H2 xs hq s2 h1 h2 => by
  have ne : q ≠ l := fun c => by rw [c, hl] at hq; cases hq
  refine ⟨q, rfl, ⟨xs, SqL.of h1⟩, k _ H2 (fun H3 => SqL K H3 q xs) (YAt xs) s2 (fun H3 s3 => SqL.of (s3 _ _ (by rw [dl_ne ne]; exact h1))) (by rw [← h2.length]; exact walk_list) fun i H3 x H4 s3 y => ?_⟩
  obtain ⟨e3, hx⟩ := y
  obtain ⟨a, ha, ra⟩ := h2.getV hx
  rw [e3]
  exact ⟨Same.refl _, a, ha, RpK.monoK (kp_dl (s2 _ _ hl) s3) ra⟩
/-- a text cut at another, as a new list, and else nothing -/
theorem bits_new {a b c : Str} {r : V → List V → Hp → VK → Prop} (hr : r = fun x xs H Q => ∃ a b, x = .str a ∧ xs = [.str b] ∧ (b.length == 0) = false ∧ a.length + 2 ≤ sizeLine ∧ rNewStrs (Txt.split a b) H Q) {i : Nat} (hσ : σ[i]? = some (some (.str a))) (h0 : (b.length == 0) = false) (hz : a.length ≤ 1000) (Q : VK)
    (k : ∀ q H2 xs, H q = none → Same H H2 → H2 q = some (.lst xs) → All2 (Rp.is H2) xs (if a = c then [] else Txt.split a b) → Q (.ref q) H2) : tIf (tB (tOp rNe (tVar i) (tC (.str c)))) (tM1 r (tVar i) (tC (.str b))) (tLst tNil) σ H Q := by
  refine (et_B (ev_neS (a := a) (b := c) (ev_var hσ rfl) ev_str)) H (Same.refl _) _ fun H1 s1 => ?_
  by_cases e : a = c
  · rw [decide_eq_true e, if_neg (by decide)]
    rw [if_pos e] at k
    exact ⟨Nat.zero_le _, fun p hp => k p _ [] (by
      cases z : H p with
      | none => rfl
      | some o => rw [s1 _ _ z] at hp; cases hp) (s1.trans (same_new hp)) upd_same trivial⟩
  · rw [decide_eq_false e, if_pos (by decide)]
    rw [if_neg e] at k
    subst hr
    refine ⟨_, hσ, ⟨a, rfl⟩, a, b, rfl, rfl, h0, small_line (n := a.length + 1) (by omega), fun p hp => k p _ _ (by
      cases z : H p with
      | none => rfl
      | some o => rw [s1 _ _ z] at hp; cases hp) (s1.trans (same_new hp)) upd_same (strs_all2 _ _)⟩
end
/-! ### a line told by a text -/
def toI (x : Str) : Int := (PySem.intText? x).getD 0
def bitsOf (a : Str) : List Str := if a = "-" then [] else Txt.split a "; "
def words1 (b : Str) : List Str := (Txt.split b " ").drop 1
def rd1 (b : Str) (s : Stp) : Bool := decide (b.length ≤ 100) && decide ((Txt.split b " ")[0]? = some (kindS s)) && decide ((words1 b).map toI = numsS s) && decide ((words1 b).length ≤ 100) && (words1 b).all fun x => (PySem.intText? x).isSome && decide (x.length ≤ 640)
def rdL : List Str → List Stp → Bool
  | [], [] => true
  | b :: bs, s :: ss => rd1 b s && rdL bs ss
  | _, _ => false
def Rd (a : Str) (p : List Stp) : Prop := a.length ≤ 100 ∧ p.length ≤ 100 ∧ rdL (bitsOf a) p = true
instance (a : Str) (p : List Stp) : Decidable (Rd a p) := inferInstanceAs (Decidable (_ ∧ _ ∧ _))
theorem rdL_cons {b : Str} {bs : List Str} {p : List Stp} (h : rdL (b :: bs) p = true) : ∃ s ss, p = s :: ss ∧ rd1 b s = true ∧ rdL bs ss = true := by
  cases p with
  | nil => cases h
  | cons s ss =>
    have h2 := (Bool.and_eq_true _ _).mp h
    exact ⟨s, ss, rfl, h2.1, h2.2⟩
theorem rdL_nil {p : List Stp} (h : rdL [] p = true) : p = [] := by
  cases p with
  | nil => rfl
  | cons _ _ => cases h
def ReadSp : Sp := fun vs H Q _ => ∃ (a : Str) (p : List Stp), vs = [.str a] ∧ Rd a p ∧ ∀ u H', Same H H' → Rp.is H' u p → Q u H'
theorem F_Lread (T : Tx w K mg) : Fn P w K mg base 1 d_Lread ["_law_text"] ReadSp := by
  refine mk_fn T.f_Lread sc_Lread (fun kV doc pm an cdv ct us hl => match us, hl with | [_], _ => rfl) (fun vs H Q E h => by obtain ⟨_, _, e, _⟩ := h; rw [e]; rfl) (fun cdv A outer s H vs Q E hr h => ?_)
  obtain ⟨a, p, rfl, ⟨ha, hpl, hrd⟩, kk⟩ := h
  refine ⟨_, (pss_cons (ps_set (i := 1) sc_Lread.nd rfl (Or.inl rfl) (pe_lst pa_nil))
  (pss_cons (ps_for PassesOwn.never rfl (pi_list (pe_ifExp (pt_cmpR op_ne (pv 0) pe_str (nomark _)) (pe_split (pv 0) pe_str) (pe_lst pa_nil))) (pg_name (i := 2) sc_Lread.nd rfl (Or.inl rfl))
  (pss_cons (ps_set (i := 3) sc_Lread.nd rfl (Or.inl rfl) (pe_split (pv 2) pe_str))
  (pss_one (ps_expr (pe_bm PySem.F.plainAttrs_list PySem.F.slot_list_append PySem.F.type_list_append mt_append (pv 1) (pa_cons (pe_tup (pa_cons (pe_ix ix_list (pv 3) pe_int (fun _ _ => rfl)) (pa_cons (pe_callTy call_tuple_of (by rfl) T.b_tuple (by decide +kernel) (pa_cons (pe_lc (own := [("_law_own", 4)]) (g := (gName 4)) rfl sc_Lread.nd (pi_list (pe_slice sl_list (pv 3) (po_some pe_int) po_none)) (blkOk_by (own := [("_law_own", 4)]) (N := ["_law_text", "_law_found", "_law_bit", "_law_sign_so", "_law_own"]) (sc := defScope s_Lread) (by decide +kernel)) (fun _ _ _ _ _ => (pg_name (i := 4) sc_Lread.nd rfl (Or.inl rfl))) (fun _ _ _ _ _ => pts_nil) (fun _ _ _ _ _ => (pe_callTy call_int_str (by rfl) T.b_int (by decide +kernel) (pa_cons (pv 4) pa_nil)))) pa_nil)) pa_nil))) pa_nil))))))
  (pss_one (ps_ret (pe_callTy call_tuple_of (by rfl) T.b_tuple (by decide +kernel) (pa_cons (pv 1) pa_nil)))))), ?_⟩
  refine s_newL fun l H1 hl eH s1 => ?_
  have hl1 : Lat H1 l ([] : List Stp) := by rw [eH]; exact Lat.new
  refine s_forL (α := Str) (as := bitsOf a) (il_listN (by rw [eH]; exact upd_same) fun Q k => bits_new rfl rfl (by decide) (by omega) Q k) (fun rest σ' H' => ∃ x2 x3 x4, σ' = [some (.str a), some (.ref l), x2, x3, x4] ∧ ∃ done rs : List Stp, Lat H' l done ∧ done ++ rs = p ∧ rdL rest rs = true)
    (fun H2 s2 => ⟨_, _, _, rfl, [], p, hl1.up s2, rfl, hrd⟩) (fun H2 s2 x r v σ' H' H0 hx s0 sd ⟨x2, x3, x4, eσ, done, rs, hl0, er, hr2⟩ hv => ?_) (fun H2 s2 σ' H' sd ⟨x2, x3, x4, eσ, done, rs, hl0, er, hr2⟩ => ?_)
  · subst eσ
    obtain rfl : v = .str x := hv
    obtain ⟨st, ss, rfl, h1, h2⟩ := rdL_cons hr2
    unfold rd1 at h1
    simp only [Bool.and_eq_true, decide_eq_true_eq, List.all_eq_true] at h1
    obtain ⟨⟨⟨⟨g1, g2⟩, g3⟩, g4⟩, g5⟩ := h1
    have hl' := hl0.up s0
    refine q_asg (a := (⟨Txt.split x " "⟩ : Ls Str)) (ev_split rfl (ev_var rfl rfl) ev_str (by decide) (by omega)) fun u3 H3 s3 hu3 => ?_
    have lp : (done ++ [st]).length ≤ 100 := by
      have := congrArg List.length er
      simp only [List.length_append, List.length_cons, List.length_nil] at this ⊢
      omega
    refine s_appL (a := st) rfl (hl'.up s3) ?_ (small_line (by rw [List.length_append] at lp; omega)) fun H4 hl4 sd4 kp4 => ?_
    · show EvR (α := Str × List Int) _ _ H3 (kindS st, numsS st)
      rw [← g3]
      refine ev_tup2 (ev_ixL (n := 0) (ev_var rfl hu3) ev_int rfl g2) (ev_tuple (as := ⟨(words1 x).map toI⟩) rfl (ev_lcM toI (iw_list (ev_slFromL (k := 1) (ev_var rfl hu3) ev_int rfl)) (small_line (by show (words1 x).length ≤ _; omega)) (fun y u2 H5 s5 hy hu2 => ⟨rfl, Same.refl _, ?_⟩) gm_name))
      have hy2 := g5 y hy
      rw [Option.isSome_iff_exists] at hy2
      obtain ⟨⟨n, hn⟩, hl640⟩ := hy2
      refine (ev_intS rfl (ev_var rfl hu2) hn hl640).eq ?_
      unfold toI
      rw [hn]
      rfl
    · exact ⟨⟨_, _, _, rfl, done ++ [st], ss, hl4, by rw [List.append_assoc]; exact er, h2⟩, dl_trans (sd.trans s3) sd4⟩
  · subst eσ
    have e0 := rdL_nil hr2
    subst e0
    rw [List.append_nil] at er
    subst er
    have hld : Same H H' := (same_dl (s1.trans s2) hl).trans sd
    refine s_ret (a := done) (ev_tuple (as := ⟨done⟩) rfl (ev_var rfl hl0.is)) fun u H6 s6 hu6 => ?_
    exact kk u H6 (hld.trans s6) hu6
end Cf
set_option Elab.async false
set_option linter.all false
set_option maxRecDepth 100000
set_option maxHeartbeats 4000000
/-! The pairs told by hand, as the law tells them. -/
namespace Cf
open PySem PySem.Spec PyProof.Rows L2 Cs
local macro_rules | `(tactic| walk_at "lf") => `(tactic| first
  | assumption
  | exact rfl
  | exact Rp.mono (by assumption) (by assumption)
  | exact Rp.mono (Same.trans (by assumption) (by assumption)) (by assumption)
  | exact RpK.monoK (by assumption) (by assumption))
local macro_rules | `(tactic| walk_at "ev") => `(tactic| first
  | with_reducible exact ev_int
  | with_reducible exact ev_bl
  | with_reducible exact ev_fill
  | with_reducible exact ev_drop
  | with_reducible exact ev_str
  | ((with_reducible refine' ev_var ?hs ?hv); (case hs => exact rfl); (case hv => walk_at "lf"))
  | ((with_reducible refine' ev_opI ?ha ?hb); (case ha => walk_at "ev"); (case hb => walk_at "ev"))
  | ((with_reducible refine' ev_opB ?ha ?hb); (case ha => walk_at "ev"); (case hb => walk_at "ev"))
  | ((with_reducible refine' ev_opC ?ha ?hb ?hc); (case ha => walk_at "ev"); (case hb => walk_at "ev"); (case hc => first | assumption | skip))
  | ((with_reducible refine' ev_un ?ha); (case ha => walk_at "ev"))
  | ((with_reducible refine' ev_eqK ?ha ?hb); (case ha => walk_at "ev"); (case hb => walk_at "ev"))
  | ((with_reducible refine' ev_eqI ?ha ?hb); (case ha => walk_at "ev"); (case hb => walk_at "ev"))
  | ((with_reducible refine' ev_eqS ?ha ?hb); (case ha => walk_at "ev"); (case hb => walk_at "ev"))
  | ((with_reducible refine' ev_neK ?ha ?hb); (case ha => walk_at "ev"); (case hb => walk_at "ev"))
  | ((with_reducible refine' ev_neI ?ha ?hb); (case ha => walk_at "ev"); (case hb => walk_at "ev"))
  | ((with_reducible refine' ev_neS ?ha ?hb); (case ha => walk_at "ev"); (case hb => walk_at "ev"))
  | ((with_reducible refine' ev_tup2 ?ha ?hb); (case ha => walk_at "ev"); (case hb => walk_at "ev"))
  | ((with_reducible refine' ev_tup1 ?ha); (case ha => walk_at "ev"))
  | with_reducible exact ev_tup0
  | ((with_reducible refine' ev_fst ?ha); (case ha => walk_at "ev"))
  | ((with_reducible refine' ev_snd ?ha); (case ha => walk_at "ev"))
  | ((with_reducible refine' ev_max2 rfl ?ha ?hb); (case ha => walk_at "ev"); (case hb => walk_at "ev"))
  | ((with_reducible refine' ev_min2 rfl ?ha ?hb); (case ha => walk_at "ev"); (case hb => walk_at "ev"))
  | ((with_reducible refine' ev_abs rfl ?ha); (case ha => walk_at "ev"))
  | ((with_reducible refine' ev_intI rfl ?ha); (case ha => walk_at "ev"))
  | ((with_reducible refine' ev_intB rfl ?ha); (case ha => walk_at "ev"))
  | ((with_reducible refine' ev_len rfl ?ha); (case ha => walk_at "ev"))
  | ((with_reducible refine' ev_lenL rfl ?ha); (case ha => walk_at "ev"))
  | ((with_reducible refine' ev_tuple rfl ?ha); (case ha => walk_at "ev"))
  | ((with_reducible refine' ev_sum ?ha); (case ha => walk_at "ev"))
  | ((with_reducible refine' ev_chain ?ha ?hb ?hc); (case ha => walk_at "ev"); (case hb => walk_at "ev"); (case hc => walk_at "ev"))
  | ((with_reducible refine' et_test ?ha); (case ha => walk_at "ev"))
  | ((with_reducible refine' et_B ?ha); (case ha => walk_at "ev"))
  | ((with_reducible refine' et_not ?ha); (case ha => walk_at "ev"))
  | ((with_reducible refine' ev_not ?ha); (case ha => walk_at "ev"))
  | ((with_reducible refine' et_and ?ha ?hb); (case ha => walk_at "ev"); (case hb => intro _; walk_at "ev"))
  | ((with_reducible refine' et_or ?ha ?hb); (case ha => walk_at "ev"); (case hb => intro _; walk_at "ev"))
  | ((with_reducible refine' ev_and ?ha ?hb); (case ha => walk_at "ev"); (case hb => intro _; walk_at "ev"))
  | ((with_reducible refine' ev_or ?ha ?hb); (case ha => walk_at "ev"); (case hb => intro _; walk_at "ev"))
  | ((with_reducible refine' ev_call1 ?ha ?hp); (case ha => walk_at "ev"); (case hp => first | assumption | trivial))
  | ((with_reducible refine' ev_call2 ?ha ?hb ?hp); (case ha => walk_at "ev"); (case hb => walk_at "ev"); (case hp => first | assumption | trivial))
  | ((with_reducible refine' ev_call3 ?ha ?hb ?hc ?hp); (case ha => walk_at "ev"); (case hb => walk_at "ev"); (case hc => walk_at "ev"); (case hp => first | assumption | trivial)))
variable {P : Program} {w : World} {K : PySem.W.Frag} {mg : Str → Option Value} {base : Heap}
theorem sc_Lby_hand_right : FnScope ["_law_pairs_so", "_law_one_so", "_law_two_so", "_law_low_so", "_law_hole_so", "_law_goal", "_law_mine", "_law_its", "_law_far", "_law_near"] [] (defScope s_Lby_hand_right) := ⟨rfl, rfl, rfl, by decide +kernel, rfl, by decide +kernel, by decide +kernel⟩
/-- two texts, the least span, the least gap, what is told -/
structure Hnd where
  a : Str
  b : Str
  l : Int
  h : Int
  g : Bool
instance : RpK Hnd where
  is := fun H v x => ∃ q, v = .ref q ∧ H q = some (.tup [.str x.a, .str x.b, .int x.l, .int x.h, .bl x.g])
  mono := fun s ⟨q, e, h⟩ => ⟨q, e, s _ _ h⟩
  monoK := fun s ⟨q, e, h⟩ => ⟨q, e, s _ _ trivial h⟩
section
variable {σ : L2.St} {H : Hp}
theorem ev_hnd {a b : Str} {l h : Int} {g : Bool} : EvR (tTup (tCons (tC (.str a)) (tCons (tC (.str b)) (tCons (tC (.int l)) (tCons (tC (.int h)) (tCons (tC (.bl g)) tNil)))))) σ H (⟨a, b, l, h, g⟩ : Hnd) := fun H1 s Q q =>
  ⟨by show 5 ≤ sizeLine; decide, fun p hp => q _ _ (same_new hp) ⟨p, rfl, upd_same⟩⟩
theorem g_hnd {i j k m n : Nat} {v : V} {x : Hnd} {Q : L2.St → Hp → Prop} (h : Rp.is H v x) (kk : Q (((((σ.set i (some (.str x.a))).set j (some (.str x.b))).set k (some (.int x.l))).set m (some (.int x.h))).set n (some (.bl x.g))) H) :
    gTup K 5 (gCons (gName i) (gCons (gName j) (gCons (gName k) (gCons (gName m) (gCons (gName n) gNil))))) v σ H Q := by
  obtain ⟨q, e, h1⟩ := h
  exact ⟨q, _, e, SqT.of h1, rfl, _, _, rfl, _, _, rfl, _, _, rfl, _, _, rfl, _, [], rfl, rfl, kk⟩
theorem ev_read {a : Str} {p : List Stp} {ta : TE} (ha : EvR ta σ H a) (hrd : Rd a p) : EvR (tCall ReadSp [] E0 (tCons ta tNil)) σ H p := fun H1 s Q q => ha H1 s _ fun v H2 s2 hv => by
  obtain rfl : v = .str a := hv
  exact ⟨a, p, rfl, hrd, fun u H' s3 hu => q u H' (s2.trans s3) hu⟩
end
section
variable {X : Cx} {d : DefL} {sp : Sp} {k : Nat} {x : Str} {p pos : Pos}
theorem pe_fn0 (F : Fn X.prog X.w X.K X.mg X.base k d [] sp) (hr : Room k X.A) (hm : X.mg x = some (.ref d.a)) (hg : Gl X x := by rfl) (hdb : (x == ("__debug__" : Str)) = false := by decide) : PE X (.Call (.Name x p) [] [] pos) (tCall sp [] E0 tNil) := by
  obtain ⟨fd, F, b, kp, _⟩ := F
  exact pe_call0 F hr hg hm kp b .nil pass0 hdb
end
def hands : List (Hnd × List Stp × List Stp) := [
  (⟨"drop 3; fill 5", "fill 2; drop 3; fill 5", 1, 1, true⟩, [.drop 3, .fill 5], [.fill 2, .drop 3, .fill 5]),
  (⟨"fill 2; drop 3; fill 5", "drop 3; fill 5", 1, 1, false⟩, [.fill 2, .drop 3, .fill 5], [.drop 3, .fill 5]),
  (⟨"fill 2; drop 3; fill 5", "drop 3; fill 5", 1, 3, true⟩, [.fill 2, .drop 3, .fill 5], [.drop 3, .fill 5]),
  (⟨"fill 2", "-", 1, 2, false⟩, [.fill 2], []),
  (⟨"fill 2", "-", 1, 3, true⟩, [.fill 2], []),
  (⟨"-", "fill 2", 1, 1, true⟩, [], [.fill 2]),
  (⟨"-", "drop 4", 5, 1, true⟩, [], [.drop 4]),
  (⟨"-", "drop 4", 4, 9, false⟩, [], [.drop 4]),
  (⟨"shift 1", "-", 9, 9, false⟩, [.shift 1], []),
  (⟨"trim 1 0", "-", 1, 1, true⟩, [.trim 1 0], []),
  (⟨"-", "trim 1 0", 9, 9, false⟩, [], [.trim 1 0]),
  (⟨"drop 2; fill 9", "fill 3; drop 2", 2, 4, false⟩, [.drop 2, .fill 9], [.fill 3, .drop 2]),
  (⟨"drop 5", "drop 3", 1, 1, true⟩, [.drop 5], [.drop 3]),
  (⟨"widen 1 1; drop 2", "widen 2 1", 1, 1, true⟩, [.widen 1 1, .drop 2], [.widen 2 1])]
def hnds : List Hnd := hands.map Prod.fst
def okB : Stp → Bool
  | .fill g => decide (0 ≤ g)
  | .drop d => decide (0 ≤ d)
  | .widen a b => decide (0 ≤ a) && decide (0 ≤ b)
  | .trim a b => decide (0 ≤ a) && decide (0 ≤ b)
  | .shift _ => true
theorem okB_ok {s : Stp} (h : okB s = true) : CM.Stp.ok s := by
  cases s with
  | fill g => exact (of_decide_eq_true h : 0 ≤ g)
  | drop d => exact (of_decide_eq_true h : 0 ≤ d)
  | widen a b =>
    have h2 := (Bool.and_eq_true _ _).mp h
    exact ⟨of_decide_eq_true h2.1, of_decide_eq_true h2.2⟩
  | trim a b =>
    have h2 := (Bool.and_eq_true _ _).mp h
    exact ⟨of_decide_eq_true h2.1, of_decide_eq_true h2.2⟩
  | shift n => trivial
theorem great_ok {s : Stp} (h : CM.Stp.ok s) : CM.Stp.ok (Gr.greatS s) := by
  cases s with
  | fill g => exact Int.mul_nonneg h (by decide)
  | drop d => exact Int.mul_nonneg h (by decide)
  | widen a b => exact ⟨Int.mul_nonneg h.1 (by decide), Int.mul_nonneg h.2 (by decide)⟩
  | trim a b => exact ⟨Int.mul_nonneg h.1 (by decide), Int.mul_nonneg h.2 (by decide)⟩
  | shift n => trivial
def lineB (p : List Stp) : Bool := decide (p.length ≤ 10) && p.all fun s => okB s && decide (CM.amt s ≤ 20) && (numsS s).all fun n => decide (-(2 ^ 64) < n) && decide (n < 2 ^ 64)
theorem lineB_ok {p : List Stp} (h : lineB p = true) : CM.Small p ∧ Gr.GreatPre p ∧ HostPre (p.map Gr.greatS) := by
  unfold lineB at h
  simp only [Bool.and_eq_true, decide_eq_true_eq, List.all_eq_true] at h
  obtain ⟨h1, h2⟩ := h
  refine ⟨⟨h1, fun s hs => ⟨okB_ok (h2 s hs).1.1, (h2 s hs).1.2⟩⟩, ⟨h1, fun s hs n hn => (h2 s hs).2 n hn⟩, ?_, fun s hs => ?_⟩
  · show (p.map Gr.greatS).length ≤ 100
    rw [List.length_map]
    omega
  · obtain ⟨s', hs', rfl⟩ := List.mem_map.mp hs
    exact great_ok (okB_ok (h2 s' hs').1.1)
def check (x : Hnd × List Stp × List Stp) : Bool :=
  decide (Rd x.1.a x.2.1) && decide (Rd x.1.b x.2.2) && lineB x.2.1 && lineB x.2.2 && decide (1 ≤ x.1.l ∧ x.1.l ≤ 100 ∧ 1 ≤ x.1.h ∧ x.1.h ≤ 100) && decide (CM.withinM x.2.1 x.2.2 x.1.l x.1.h = x.1.g) &&
    decide (CM.withinM (x.2.1.map Gr.greatS) (x.2.2.map Gr.greatS) (10 ^ 38 * (x.1.l - 1) + 1) (10 ^ 38 * (x.1.h - 1) + 1) = x.1.g)
theorem checked : hands.all check = true := by decide +kernel
theorem hand_facts {x : Hnd} (hx : x ∈ hnds) : ∃ p q : List Stp, Rd x.a p ∧ Rd x.b q ∧ (CM.Small p ∧ Gr.GreatPre p ∧ HostPre (p.map Gr.greatS)) ∧ (CM.Small q ∧ Gr.GreatPre q ∧ HostPre (q.map Gr.greatS)) ∧ (1 ≤ x.l ∧ x.l ≤ 100 ∧ 1 ≤ x.h ∧ x.h ≤ 100) ∧
    CM.withinM p q x.l x.h = x.g ∧ CM.withinM (p.map Gr.greatS) (q.map Gr.greatS) (10 ^ 38 * (x.l - 1) + 1) (10 ^ 38 * (x.h - 1) + 1) = x.g := by
  obtain ⟨y, hy, rfl⟩ := List.mem_map.mp hx
  have h := List.all_eq_true.mp checked y hy
  unfold check at h
  simp only [Bool.and_eq_true, decide_eq_true_eq] at h
  obtain ⟨⟨⟨⟨⟨⟨h1, h2⟩, h3⟩, h4⟩, h5⟩, h6⟩, h7⟩ := h
  exact ⟨y.2.1, y.2.2, h1, h2, lineB_ok h3, lineB_ok h4, h5, h6, h7⟩
def HandSp : Sp := fun vs H Q _ => vs = [] ∧ ∀ H', Same H H' → Q (.bl true) H'
theorem F_Lby_hand_right (T : Tx w K mg) (pm : PMain P) : Fn P w K mg base 14 d_Lby_hand_right [] HandSp := by
  have F_Lread : Fn P w K mg base 1 d_Lread ["_law_text"] _ := F_Lread T
  have F_Lrows_right : Fn P w K mg base 13 d_Lrows_right ["_law_mine", "_law_its", "_law_low_so", "_law_hole_so", "_law_goal"] _ := F_Lrows_right T pm
  have F_Lhost : Fn P w K mg base 6 d_Lhost ["_law_line_here"] _ := F_Lhost T
  have F_Lgreat : Fn P w K mg base 1 d_Lgreat ["_law_line_here"] _ := Gr.F_Lgreat T
  have F_within_from : Fn P w K mg base 12 d_within_from ["p", "q", "least_span", "least_gap"] _ := F_within_from T pm
  refine mk_fn T.f_Lby_hand_right sc_Lby_hand_right (fun kV doc pm an cdv ct us hl => match us, hl with | [], _ => rfl) (fun vs H Q E h => by obtain ⟨e, _⟩ := h; rw [e]; rfl) (fun cdv A outer s H vs Q E hr h => ?_)
  obtain ⟨rfl, kk⟩ := h
  refine ⟨_, (pss_cons (ps_set (i := 0) sc_Lby_hand_right.nd rfl (Or.inl rfl) (pe_lst (pa_cons (pe_tup (pa_cons pe_str (pa_cons pe_str (pa_cons pe_int (pa_cons pe_int (pa_cons pe_bl pa_nil)))))) pa_nil)))
  (pss_cons (ps_set (i := 0) sc_Lby_hand_right.nd rfl (Or.inl rfl) (pe_op op_cat (pv 0) (pe_lst (pa_cons (pe_tup (pa_cons pe_str (pa_cons pe_str (pa_cons pe_int (pa_cons pe_int (pa_cons pe_bl pa_nil)))))) pa_nil))))
  (pss_cons (ps_set (i := 0) sc_Lby_hand_right.nd rfl (Or.inl rfl) (pe_op op_cat (pv 0) (pe_lst (pa_cons (pe_tup (pa_cons pe_str (pa_cons pe_str (pa_cons pe_int (pa_cons pe_int (pa_cons pe_bl pa_nil)))))) pa_nil))))
  (pss_cons (ps_set (i := 0) sc_Lby_hand_right.nd rfl (Or.inl rfl) (pe_op op_cat (pv 0) (pe_lst (pa_cons (pe_tup (pa_cons pe_str (pa_cons pe_str (pa_cons pe_int (pa_cons pe_int (pa_cons pe_bl pa_nil)))))) pa_nil))))
  (pss_cons (ps_set (i := 0) sc_Lby_hand_right.nd rfl (Or.inl rfl) (pe_op op_cat (pv 0) (pe_lst (pa_cons (pe_tup (pa_cons pe_str (pa_cons pe_str (pa_cons pe_int (pa_cons pe_int (pa_cons pe_bl pa_nil)))))) (pa_cons (pe_tup (pa_cons pe_str (pa_cons pe_str (pa_cons pe_int (pa_cons pe_int (pa_cons pe_bl pa_nil)))))) pa_nil)))))
  (pss_cons (ps_set (i := 0) sc_Lby_hand_right.nd rfl (Or.inl rfl) (pe_op op_cat (pv 0) (pe_lst (pa_cons (pe_tup (pa_cons pe_str (pa_cons pe_str (pa_cons pe_int (pa_cons pe_int (pa_cons pe_bl pa_nil)))))) pa_nil))))
  (pss_cons (ps_set (i := 0) sc_Lby_hand_right.nd rfl (Or.inl rfl) (pe_op op_cat (pv 0) (pe_lst (pa_cons (pe_tup (pa_cons pe_str (pa_cons pe_str (pa_cons pe_int (pa_cons pe_int (pa_cons pe_bl pa_nil)))))) (pa_cons (pe_tup (pa_cons pe_str (pa_cons pe_str (pa_cons pe_int (pa_cons pe_int (pa_cons pe_bl pa_nil)))))) pa_nil)))))
  (pss_cons (ps_set (i := 0) sc_Lby_hand_right.nd rfl (Or.inl rfl) (pe_op op_cat (pv 0) (pe_lst (pa_cons (pe_tup (pa_cons pe_str (pa_cons pe_str (pa_cons pe_int (pa_cons pe_int (pa_cons pe_bl pa_nil)))))) pa_nil))))
  (pss_cons (ps_set (i := 0) sc_Lby_hand_right.nd rfl (Or.inl rfl) (pe_op op_cat (pv 0) (pe_lst (pa_cons (pe_tup (pa_cons pe_str (pa_cons pe_str (pa_cons pe_int (pa_cons pe_int (pa_cons pe_bl pa_nil)))))) pa_nil))))
  (pss_cons (ps_set (i := 0) sc_Lby_hand_right.nd rfl (Or.inl rfl) (pe_op op_cat (pv 0) (pe_lst (pa_cons (pe_tup (pa_cons pe_str (pa_cons pe_str (pa_cons pe_int (pa_cons pe_int (pa_cons pe_bl pa_nil)))))) pa_nil))))
  (pss_cons (ps_set (i := 0) sc_Lby_hand_right.nd rfl (Or.inl rfl) (pe_op op_cat (pv 0) (pe_lst (pa_cons (pe_tup (pa_cons pe_str (pa_cons pe_str (pa_cons pe_int (pa_cons pe_int (pa_cons pe_bl pa_nil)))))) pa_nil))))
  (pss_cons (ps_set (i := 0) sc_Lby_hand_right.nd rfl (Or.inl rfl) (pe_op op_cat (pv 0) (pe_lst (pa_cons (pe_tup (pa_cons pe_str (pa_cons pe_str (pa_cons pe_int (pa_cons pe_int (pa_cons pe_bl pa_nil)))))) pa_nil))))
  (pss_cons (ps_for PassesOwn.never rfl (pi_list (pv 0)) (pg_tup rfl (pgs_cons (pg_name (i := 1) sc_Lby_hand_right.nd rfl (Or.inl rfl)) (pgs_cons (pg_name (i := 2) sc_Lby_hand_right.nd rfl (Or.inl rfl)) (pgs_cons (pg_name (i := 3) sc_Lby_hand_right.nd rfl (Or.inl rfl)) (pgs_cons (pg_name (i := 4) sc_Lby_hand_right.nd rfl (Or.inl rfl)) (pgs_cons (pg_name (i := 5) sc_Lby_hand_right.nd rfl (Or.inl rfl)) pgs_nil))))))
  (pss_cons (ps_par (i := 6) (j := 7) (by rfl) sc_Lby_hand_right.nd rfl rfl (by decide) rfl rfl (pa_cons (pe_fn F_Lread (hr.mono (by decide)) T.g_Lread (pa_cons (pv 1) pa_nil)) (pa_cons (pe_fn F_Lread (hr.mono (by decide)) T.g_Lread (pa_cons (pv 2) pa_nil)) pa_nil)) (by rfl))
  (pss_cons (ps_if (pt_not (pt_val (pe_fn F_Lrows_right (hr.mono (by decide)) T.g_Lrows_right (pa_cons (pv 6) (pa_cons (pv 7) (pa_cons (pv 3) (pa_cons (pv 4) (pa_cons (pv 5) pa_nil))))))))
  (pss_one (ps_ret pe_bl))
  pss_nil)
  (pss_cons (ps_par (i := 8) (j := 9) (by rfl) sc_Lby_hand_right.nd rfl rfl (by decide) rfl rfl (pa_cons (pe_op op_add (pe_op op_mul (pe_op op_pow pe_int pe_int) (pe_op op_sub (pv 3) pe_int)) pe_int) (pa_cons (pe_op op_add (pe_op op_mul (pe_op op_pow pe_int pe_int) (pe_op op_sub (pv 4) pe_int)) pe_int) pa_nil)) (by rfl))
  (pss_one (ps_if (pt_cmpR op_ne (pe_fn F_within_from (hr.mono (by decide)) T.g_within_from (pa_cons (pe_fn F_Lhost (hr.mono (by decide)) T.g_Lhost (pa_cons (pe_fn F_Lgreat (hr.mono (by decide)) T.g_Lgreat (pa_cons (pv 6) pa_nil)) pa_nil)) (pa_cons (pe_fn F_Lhost (hr.mono (by decide)) T.g_Lhost (pa_cons (pe_fn F_Lgreat (hr.mono (by decide)) T.g_Lgreat (pa_cons (pv 7) pa_nil)) pa_nil)) (pa_cons (pv 8) (pa_cons (pv 9) pa_nil))))) (pv 5) (nomark _))
  (pss_one (ps_ret pe_bl))
  pss_nil))))))
  (pss_one (ps_ret pe_bl))))))))))))))), ?_⟩
  refine q_asg (a := (⟨hnds.take 1⟩ : Ls Hnd)) ((ev_lst1 ev_hnd).eq rfl) fun v1 H1 s1 hv1 => ?_
  refine q_asg (a := (⟨hnds.take 2⟩ : Ls Hnd)) ((ev_cat (ev_var rfl hv1) (ev_lst1 ev_hnd) (by show 2 ≤ sizeLine; decide)).eq rfl) fun v2 H2 s2 hv2 => ?_
  refine q_asg (a := (⟨hnds.take 3⟩ : Ls Hnd)) ((ev_cat (ev_var rfl hv2) (ev_lst1 ev_hnd) (by show 3 ≤ sizeLine; decide)).eq rfl) fun v3 H3 s3 hv3 => ?_
  refine q_asg (a := (⟨hnds.take 4⟩ : Ls Hnd)) ((ev_cat (ev_var rfl hv3) (ev_lst1 ev_hnd) (by show 4 ≤ sizeLine; decide)).eq rfl) fun v4 H4 s4 hv4 => ?_
  refine q_asg (a := (⟨hnds.take 6⟩ : Ls Hnd)) ((ev_cat (ev_var rfl hv4) (ev_lst2 ev_hnd ev_hnd) (by show 6 ≤ sizeLine; decide)).eq rfl) fun v5 H5 s5 hv5 => ?_
  refine q_asg (a := (⟨hnds.take 7⟩ : Ls Hnd)) ((ev_cat (ev_var rfl hv5) (ev_lst1 ev_hnd) (by show 7 ≤ sizeLine; decide)).eq rfl) fun v6 H6 s6 hv6 => ?_
  refine q_asg (a := (⟨hnds.take 9⟩ : Ls Hnd)) ((ev_cat (ev_var rfl hv6) (ev_lst2 ev_hnd ev_hnd) (by show 9 ≤ sizeLine; decide)).eq rfl) fun v7 H7 s7 hv7 => ?_
  refine q_asg (a := (⟨hnds.take 10⟩ : Ls Hnd)) ((ev_cat (ev_var rfl hv7) (ev_lst1 ev_hnd) (by show 10 ≤ sizeLine; decide)).eq rfl) fun v8 H8 s8 hv8 => ?_
  refine q_asg (a := (⟨hnds.take 11⟩ : Ls Hnd)) ((ev_cat (ev_var rfl hv8) (ev_lst1 ev_hnd) (by show 11 ≤ sizeLine; decide)).eq rfl) fun v9 H9 s9 hv9 => ?_
  refine q_asg (a := (⟨hnds.take 12⟩ : Ls Hnd)) ((ev_cat (ev_var rfl hv9) (ev_lst1 ev_hnd) (by show 12 ≤ sizeLine; decide)).eq rfl) fun v10 H10 s10 hv10 => ?_
  refine q_asg (a := (⟨hnds.take 13⟩ : Ls Hnd)) ((ev_cat (ev_var rfl hv10) (ev_lst1 ev_hnd) (by show 13 ≤ sizeLine; decide)).eq rfl) fun v11 H11 s11 hv11 => ?_
  refine q_asg (a := (⟨hnds.take 14⟩ : Ls Hnd)) ((ev_cat (ev_var rfl hv11) (ev_lst1 ev_hnd) (by show 14 ≤ sizeLine; decide)).eq rfl) fun v12 H12 s12 hv12 => ?_
  have S12 : Same H H12 := s1.trans (s2.trans (s3.trans (s4.trans (s5.trans (s6.trans (s7.trans (s8.trans (s9.trans (s10.trans (s11.trans s12))))))))))
  refine s_forS (α := Hnd) (as := hnds) ((iw_list (as := ⟨hnds.take 14⟩) (ev_var rfl hv12))) (fun _ σ' _ => ∃ y1 y2 y3 y4 y5 y6 y7 y8 y9, σ' = [some v12, y1, y2, y3, y4, y5, y6, y7, y8, y9]) (fun _ _ => ⟨_, _, _, _, _, _, _, _, _, rfl⟩) (fun H13 s13 x r v σ' H14 H0 hx s0 s14 ⟨y1, y2, y3, y4, y5, y6, y7, y8, y9, eσ⟩ hv => ?_) (fun H13 s13 σ' H14 s14 _ => ?_)
  · subst eσ
    refine g_hnd hv ?_
    obtain ⟨p, q, rp, rq, ⟨sp, gp, hgp⟩, ⟨sq, gq, hgq⟩, ⟨l1, l2, l3, l4⟩, w1, w2⟩ := hand_facts hx
    refine q_par (a := p) (b := q) (ev_read (ev_var (a := x.a) rfl rfl) rp) (ev_read (ev_var (a := x.b) rfl rfl) rq) fun v6 v7 H15 s15 hv6 hv7 => ?_
    refine q_ifP (p := False) ((et_not (et_test (ev_right (T := T) (ev_var rfl hv6) (ev_var rfl hv7) (ev_var (a := x.l) rfl rfl) (ev_var (a := x.h) rfl rfl) (ev_var (a := x.g) rfl rfl) (right_pre sp sq l1 l2 l3 l4 (by rw [← w1]; exact CM.withinM_due l1 l3))))).eq (by rfl)) (fun c => c.elim) (fun _ H16 s16 => ?_)
    have b6 := Rp.mono s16 hv6
    have b7 := Rp.mono s16 hv7
    refine q_par (a := 10 ^ 38 * (x.l - 1) + 1) (b := 10 ^ 38 * (x.h - 1) + 1) (ev_opI (ev_opC (C := CMul) (f := fun i j => i * j) (ev_opC (C := CPow) (f := fun i j => i ^ j.toNat) (a := 10) (b := 38) ev_int ev_int ⟨by decide, by decide, by decide⟩) (ev_opI (f := fun i j => i - j) (ev_var (a := x.l) rfl rfl) ev_int) (.inr ⟨by omega, by omega⟩)) ev_int)
      (ev_opI (ev_opC (C := CMul) (f := fun i j => i * j) (ev_opC (C := CPow) (f := fun i j => i ^ j.toNat) (a := 10) (b := 38) ev_int ev_int ⟨by decide, by decide, by decide⟩) (ev_opI (f := fun i j => i - j) (ev_var (a := x.h) rfl rfl) ev_int) (.inr ⟨by omega, by omega⟩)) ev_int) fun v8 v9 H17 s17 hv8 hv9 => ?_
    have c6 := Rp.mono s17 b6
    have c7 := Rp.mono s17 b7
    refine s_ifP (p := False) ((et_B (ev_neB (a := withinF ⟨p.map Gr.greatS⟩ ⟨q.map Gr.greatS⟩ (10 ^ 38 * (x.l - 1) + 1) (10 ^ 38 * (x.h - 1) + 1)) (b := x.g) (ev_call4 (f := withinF) (ev_call1 (f := PipeO.mk) (a := p.map Gr.greatS) (ev_call1 (f := fun p => p.map Gr.greatS) (ev_var rfl c6) gp) hgp) (ev_call1 (f := PipeO.mk) (a := q.map Gr.greatS) (ev_call1 (f := fun p => p.map Gr.greatS) (ev_var rfl c7) gq) hgq) (ev_var rfl hv8) (ev_var rfl hv9) ⟨hgp.1, hgq.1⟩) (ev_var (a := x.g) rfl rfl))).eq ?_) (fun c => c.elim) (fun _ H18 s18 => ?_)
    · rw [within_is]
      show (!decide (CM.withinM _ _ _ _ = x.g)) = decide False
      rw [w2, decide_eq_true rfl]
      rfl
    · exact ⟨⟨_, _, _, _, _, _, _, _, _, rfl⟩, s14.trans (s15.trans (s16.trans (s17.trans s18)))⟩
  · dsimp only
    refine s_ret (a := true) ev_bl fun u H15 s15 hu => ?_
    obtain rfl : u = .bl true := hu
    exact kk H15 (S12.trans (s13.trans (s14.trans s15)))
end Cf
set_option Elab.async false
set_option linter.all false
set_option maxRecDepth 100000
set_option maxHeartbeats 4000000
namespace Cf
open PySem PySem.Spec PyProof.Rows L2 Cs
local macro_rules | `(tactic| walk_at "lf") => `(tactic| first
  | assumption
  | exact rfl
  | exact Rp.mono (by assumption) (by assumption)
  | exact Rp.mono (Same.trans (by assumption) (by assumption)) (by assumption)
  | exact RpK.monoK (by assumption) (by assumption))
local macro_rules | `(tactic| walk_at "ev") => `(tactic| first
  | with_reducible exact ev_int
  | with_reducible exact ev_bl
  | with_reducible exact ev_fill
  | with_reducible exact ev_drop
  | with_reducible exact ev_str
  | ((with_reducible refine' ev_var ?hs ?hv); (case hs => exact rfl); (case hv => walk_at "lf"))
  | ((with_reducible refine' ev_opI ?ha ?hb); (case ha => walk_at "ev"); (case hb => walk_at "ev"))
  | ((with_reducible refine' ev_opB ?ha ?hb); (case ha => walk_at "ev"); (case hb => walk_at "ev"))
  | ((with_reducible refine' ev_opC ?ha ?hb ?hc); (case ha => walk_at "ev"); (case hb => walk_at "ev"); (case hc => first | assumption | skip))
  | ((with_reducible refine' ev_un ?ha); (case ha => walk_at "ev"))
  | ((with_reducible refine' ev_eqK ?ha ?hb); (case ha => walk_at "ev"); (case hb => walk_at "ev"))
  | ((with_reducible refine' ev_eqI ?ha ?hb); (case ha => walk_at "ev"); (case hb => walk_at "ev"))
  | ((with_reducible refine' ev_eqS ?ha ?hb); (case ha => walk_at "ev"); (case hb => walk_at "ev"))
  | ((with_reducible refine' ev_neK ?ha ?hb); (case ha => walk_at "ev"); (case hb => walk_at "ev"))
  | ((with_reducible refine' ev_neI ?ha ?hb); (case ha => walk_at "ev"); (case hb => walk_at "ev"))
  | ((with_reducible refine' ev_neS ?ha ?hb); (case ha => walk_at "ev"); (case hb => walk_at "ev"))
  | ((with_reducible refine' ev_tup2 ?ha ?hb); (case ha => walk_at "ev"); (case hb => walk_at "ev"))
  | ((with_reducible refine' ev_tup1 ?ha); (case ha => walk_at "ev"))
  | with_reducible exact ev_tup0
  | ((with_reducible refine' ev_fst ?ha); (case ha => walk_at "ev"))
  | ((with_reducible refine' ev_snd ?ha); (case ha => walk_at "ev"))
  | ((with_reducible refine' ev_max2 rfl ?ha ?hb); (case ha => walk_at "ev"); (case hb => walk_at "ev"))
  | ((with_reducible refine' ev_min2 rfl ?ha ?hb); (case ha => walk_at "ev"); (case hb => walk_at "ev"))
  | ((with_reducible refine' ev_abs rfl ?ha); (case ha => walk_at "ev"))
  | ((with_reducible refine' ev_intI rfl ?ha); (case ha => walk_at "ev"))
  | ((with_reducible refine' ev_intB rfl ?ha); (case ha => walk_at "ev"))
  | ((with_reducible refine' ev_len rfl ?ha); (case ha => walk_at "ev"))
  | ((with_reducible refine' ev_lenL rfl ?ha); (case ha => walk_at "ev"))
  | ((with_reducible refine' ev_tuple rfl ?ha); (case ha => walk_at "ev"))
  | ((with_reducible refine' ev_sum ?ha); (case ha => walk_at "ev"))
  | ((with_reducible refine' ev_chain ?ha ?hb ?hc); (case ha => walk_at "ev"); (case hb => walk_at "ev"); (case hc => walk_at "ev"))
  | ((with_reducible refine' et_test ?ha); (case ha => walk_at "ev"))
  | ((with_reducible refine' et_B ?ha); (case ha => walk_at "ev"))
  | ((with_reducible refine' et_not ?ha); (case ha => walk_at "ev"))
  | ((with_reducible refine' ev_not ?ha); (case ha => walk_at "ev"))
  | ((with_reducible refine' et_and ?ha ?hb); (case ha => walk_at "ev"); (case hb => intro _; walk_at "ev"))
  | ((with_reducible refine' et_or ?ha ?hb); (case ha => walk_at "ev"); (case hb => intro _; walk_at "ev"))
  | ((with_reducible refine' ev_and ?ha ?hb); (case ha => walk_at "ev"); (case hb => intro _; walk_at "ev"))
  | ((with_reducible refine' ev_or ?ha ?hb); (case ha => walk_at "ev"); (case hb => intro _; walk_at "ev"))
  | ((with_reducible refine' ev_call1 ?ha ?hp); (case ha => walk_at "ev"); (case hp => first | assumption | trivial))
  | ((with_reducible refine' ev_call2 ?ha ?hb ?hp); (case ha => walk_at "ev"); (case hb => walk_at "ev"); (case hp => first | assumption | trivial))
  | ((with_reducible refine' ev_call3 ?ha ?hb ?hc ?hp); (case ha => walk_at "ev"); (case hb => walk_at "ev"); (case hc => walk_at "ev"); (case hp => first | assumption | trivial)))
variable {P : Program} {w : World} {K : PySem.W.Frag} {mg : Str → Option Value} {base : Heap}
theorem sc_Lright : FnScope ["_law_urn", "_law_turn", "_law_mine", "_law_its", "_law_low_so", "_law_hole_so", "_law_goal", "_law_one_here", "_law_other", "_law_lap", "_law_here", "_law_far", "_law_bit", "_law_track"] ["_law_urn"] (defScope s_Lright) := ⟨rfl, rfl, rfl, by decide +kernel, rfl, by decide +kernel, by decide +kernel⟩
def RightUSp : Sp := fun vs H Q _ => ∃ l : Addr, vs = [.ref l] ∧ Ur H l 2000 ∧ ∀ H', Same (dl H l) H' → Q (.bl true) H'
theorem ev_hand {σ : L2.St} {H : Hp} : EvR (tCall HandSp [] E0 tNil) σ H true := fun H1 s Q q => ⟨rfl, fun H' s' => q _ H' s' rfl⟩
theorem go_if {Q : VK} {k : Bool} {ta tb : TE} {σ : L2.St} {H : Hp} (R : V → Hp → Prop) (h1 : k = true → ∀ Q : VK, (∀ v H', R v H' → Q v H') → ta σ H Q) (h2 : k = false → ∀ Q : VK, (∀ v H', R v H' → Q v H') → tb σ H Q) (h : ∀ v H', R v H' → Q v H') : if k = true then ta σ H Q else tb σ H Q := by
  cases k with
  | true => rw [if_pos rfl]; exact h1 rfl Q h
  | false => rw [if_neg (by decide)]; exact h2 rfl Q h
theorem good_snoc {J L : Int} {X : List CM.Sn} {a b : Int} (g : CM.Good J L X) (h1 : J < b - a) (h2 : ∀ x ∈ X, x.2 + L < a) : CM.Good J L (X ++ [(a, b)]) := by
  refine ⟨fun x hx => ?_, List.pairwise_append.mpr ⟨g.2, List.pairwise_singleton .., fun x hx y hy => ?_⟩⟩
  · rcases List.mem_append.mp hx with h | h
    · exact g.1 x h
    · rw [List.mem_singleton.mp h]
      exact h1
  · rw [List.mem_singleton.mp hy]
    exact h2 x hx
theorem Lat.dl [RpK α] {H H' : Hp} {D l : Addr} {as : List α} (h : Lat H D as) (hne : D ≠ l) (s : Same (dl H l) H') (k : Kp H H') : Lat H' D as := by
  obtain ⟨ys, h1, h2⟩ := h
  exact ⟨ys, s _ _ (by rw [dl_ne hne]; exact h1), h2.imp fun _ _ z => RpK.monoK k z⟩
theorem Ur.dl {H H' : Hp} {l D : Addr} {f : Nat} (u : Ur H l f) (hne : l ≠ D) (s : Same (dl H D) H') : Ur H' l f := by
  obtain ⟨a, b, c, h, r⟩ := u
  exact ⟨a, b, c, s _ _ (by rw [dl_ne hne]; exact h), r⟩
theorem Lin.small {p : List Stp} (h : Lin 6 8 p) : CM.Small p := ⟨by have := h.1; omega, fun s hs => ⟨(h.2 s hs).1, by have := (h.2 s hs).2; omega⟩⟩
theorem due_within {p q : List Stp} {lo ho : Int} {X : List CM.Sn} (hp : CM.Small p) (hq : CM.Small q) (h1 : 1 ≤ lo) (h2 : 1 ≤ ho) (hd : dueM p q lo ho = true) (g : CM.Good (lo - 1) (ho - 1) X) : withinR ⟨CM.pipe p X⟩ ⟨CM.pipe q X⟩ = true := by
  have g0 : CM.Good 0 0 X := g.mono (by omega) (by omega)
  obtain ⟨d1, d2, d3⟩ := (due_iff p q lo ho).mp hd
  have sub := CM.within_of (a := ho - 1) (b := lo - 1) (by omega) (by omega) (small_host hp).2 (small_host hq).2 d1 d2 d3 g
  have e := (CM.left_sub (CM.pipe_good (small_host hp).2 g0) (CM.pipe_good (small_host hq).2 g0)).mpr sub
  show (CM.leftM (CM.pipe p X) (CM.pipe q X)).isEmpty = true
  rw [e]
  rfl
theorem F_Lright (T : Tx w K mg) (pm : PMain P) : Fn P w K mg base 15 d_Lright ["_law_urn"] RightUSp := by
  have F_Ltake : Fn P w K mg base 1 d_Ltake ["_law_urn", "_law_low_so"] _ := F_Ltake T
  have F_Lline : Fn P w K mg base 4 d_Lline ["_law_urn", "_law_most_so", "_law_top"] _ := F_Lline T
  have F_Lbent : Fn P w K mg base 5 d_Lbent ["_law_urn", "_law_line_here"] _ := F_Lbent T
  have F_Lby_hand_right : Fn P w K mg base 14 d_Lby_hand_right [] _ := F_Lby_hand_right T pm
  have F_Ldue : Fn P w K mg base 4 d_Ldue ["_law_mine", "_law_its", "_law_low_so", "_law_hole_so"] _ := F_Ldue T
  have F_Lrows_right : Fn P w K mg base 13 d_Lrows_right ["_law_mine", "_law_its", "_law_low_so", "_law_hole_so", "_law_goal"] _ := F_Lrows_right T pm
  have F_Lhost : Fn P w K mg base 6 d_Lhost ["_law_line_here"] _ := F_Lhost T
  have F_Row_tup : Fn P w K mg base 2 d_Row_init ["self", "pairs"] _ := F_Row_tup T
  have F_Row_within : Fn P w K mg base 3 d_Row_within ["self", "b"] _ := F_Row_within T
  have F_Pipeline_call : Fn P w K mg base 5 d_Pipeline_call ["self", "row"] _ := F_Pipeline_call T
  refine mk_fn T.f_Lright sc_Lright (fun kV doc pm an cdv ct us hl => match us, hl with | [_], _ => rfl) (fun vs H Q E h => by obtain ⟨_, e, _⟩ := h; rw [e]; rfl) (fun cdv A outer s H vs Q E hr h => ?_)
  obtain ⟨l, rfl, hu, kk⟩ := h
  refine ⟨_, (pss_cons (ps_if (pt_not (pt_val (pe_fn0 F_Lby_hand_right (hr.mono (by decide)) T.g_Lby_hand_right)))
  (pss_one (ps_ret pe_bl))
  pss_nil)
  (pss_cons (ps_for PassesOwn.never rfl (pi_range1 (by rfl) T.b_range (pa_cons pe_int pa_nil)) (pg_name (i := 1) sc_Lright.nd rfl (Or.inl rfl))
  (pss_cons (ps_set (i := 2) sc_Lright.nd rfl (Or.inl rfl) (pe_fn F_Lline (hr.mono (by decide)) T.g_Lline (pa_cons (pv 0) (pa_cons pe_int (pa_cons pe_int pa_nil)))))
  (pss_cons (ps_set (i := 3) sc_Lright.nd rfl (Or.inl rfl) (pe_ifExp (pt_cmpR op_gt (pe_fn F_Ltake (hr.mono (by decide)) T.g_Ltake (pa_cons (pv 0) (pa_cons pe_int pa_nil))) pe_int (nomark _)) (pe_fn F_Lbent (hr.mono (by decide)) T.g_Lbent (pa_cons (pv 0) (pa_cons (pv 2) pa_nil))) (pe_fn F_Lline (hr.mono (by decide)) T.g_Lline (pa_cons (pv 0) (pa_cons pe_int (pa_cons pe_int pa_nil))))))
  (pss_cons (ps_par (i := 4) (j := 5) (by rfl) sc_Lright.nd rfl rfl (by decide) rfl rfl (pa_cons (pe_op op_add pe_int (pe_fn F_Ltake (hr.mono (by decide)) T.g_Ltake (pa_cons (pv 0) (pa_cons pe_int pa_nil)))) (pa_cons (pe_op op_add pe_int (pe_fn F_Ltake (hr.mono (by decide)) T.g_Ltake (pa_cons (pv 0) (pa_cons pe_int pa_nil)))) pa_nil)) (by rfl))
  (pss_cons (ps_set (i := 6) sc_Lright.nd rfl (Or.inl rfl) (pe_fn F_Ldue (hr.mono (by decide)) T.g_Ldue (pa_cons (pv 2) (pa_cons (pv 3) (pa_cons (pv 4) (pa_cons (pv 5) pa_nil))))))
  (pss_cons (ps_if (pt_not (pt_val (pe_fn F_Lrows_right (hr.mono (by decide)) T.g_Lrows_right (pa_cons (pv 2) (pa_cons (pv 3) (pa_cons (pv 4) (pa_cons (pv 5) (pa_cons (pv 6) pa_nil))))))))
  (pss_one (ps_ret pe_bl))
  pss_nil)
  (pss_cons (ps_par (i := 7) (j := 8) (by rfl) sc_Lright.nd rfl rfl (by decide) rfl rfl (pa_cons (pe_fn F_Lhost (hr.mono (by decide)) T.g_Lhost (pa_cons (pv 2) pa_nil)) (pa_cons (pe_fn F_Lhost (hr.mono (by decide)) T.g_Lhost (pa_cons (pv 3) pa_nil)) pa_nil)) (by rfl))
  (pss_one (ps_for PassesOwn.never rfl (pi_range1 (by rfl) T.b_range (pa_cons (pe_op op_mul pe_int (pe_callTy call_int1 (by rfl) T.b_int (by decide +kernel) (pa_cons (pv 6) pa_nil))) pa_nil)) (pg_name (i := 9) sc_Lright.nd rfl (Or.inl rfl))
  (pss_cons (ps_par (i := 10) (j := 11) (by rfl) sc_Lright.nd rfl rfl (by decide) rfl rfl (pa_cons (pe_lst pa_nil) (pa_cons (pe_op op_sub (pe_fn F_Ltake (hr.mono (by decide)) T.g_Ltake (pa_cons (pv 0) (pa_cons pe_int pa_nil))) pe_int) pa_nil)) (by rfl))
  (pss_cons (ps_for PassesOwn.never rfl (pi_range1 (by rfl) T.b_range (pa_cons (pe_fn F_Ltake (hr.mono (by decide)) T.g_Ltake (pa_cons (pv 0) (pa_cons pe_int pa_nil))) pa_nil)) (pg_name (i := 12) sc_Lright.nd rfl (Or.inl rfl))
  (pss_cons (ps_expr (pe_bm PySem.F.plainAttrs_list PySem.F.slot_list_append PySem.F.type_list_append mt_append (pv 10) (pa_cons (pe_tup (pa_cons (pv 11) (pa_cons (pe_op op_add (pe_op op_add (pv 11) (pv 4)) (pe_fn F_Ltake (hr.mono (by decide)) T.g_Ltake (pa_cons (pv 0) (pa_cons pe_int pa_nil)))) pa_nil))) pa_nil)))
  (pss_one (ps_set (i := 11) sc_Lright.nd rfl (Or.inl rfl) (pe_op op_add (pe_op op_add (pe_ix ix_tup (pe_ix ix_list (pv 10) (pe_un un_neg pe_int) (fun _ _ => rfl)) pe_int (fun _ _ => rfl)) (pv 5)) (pe_fn F_Ltake (hr.mono (by decide)) T.g_Ltake (pa_cons (pv 0) (pa_cons pe_int pa_nil))))))))
  (pss_cons (ps_set (i := 13) sc_Lright.nd rfl (Or.inl rfl) (pe_callTy call_tuple_of (by rfl) T.b_tuple (by decide +kernel) (pa_cons (pv 10) pa_nil)))
  (pss_one (ps_if (pt_not (pt_val (pe_me F_Row_within (hr.mono (by decide)) T.cl_Row T.me_Row_within (pe_co F_Pipeline_call (hr.mono (by decide)) T.co_Pipeline (pv 7) (pa_cons (pe_mk F_Row_tup T.mk_Row (hr.mono (by decide)) T.g_Row (pa_cons (pv 13) pa_nil)) pa_nil)) (pa_cons (pe_co F_Pipeline_call (hr.mono (by decide)) T.co_Pipeline (pv 8) (pa_cons (pe_mk F_Row_tup T.mk_Row (hr.mono (by decide)) T.g_Row (pa_cons (pv 13) pa_nil)) pa_nil)) pa_nil))))
  (pss_one (ps_ret pe_bl))
  pss_nil))))))))))))))
  (pss_one (ps_ret pe_bl)))), ?_⟩
  refine q_ifP (p := False) ((et_not (et_test ev_hand)).eq (by rfl)) (fun c => c.elim) (fun _ H1 s1 => ?_)
  have hu1 := hu.up s1
  refine s_forL (α := Int) (l := l) (il_range1 (n := 12) ev_int (by decide)) (fun r σ' H' => (∃ u1 u2 u3 u4 u5 u6 u7 u8 u9 u10 u11 u12 u13, σ' = [some (.ref l), u1, u2, u3, u4, u5, u6, u7, u8, u9, u10, u11, u12, u13]) ∧ Ur H' l (100 * r.length))
    (fun H2 s2 => ⟨⟨_, _, _, _, _, _, _, _, _, _, _, _, _, rfl⟩, (hu1.up s2).less (by rw [upto_len]; decide)⟩) (fun H2 s2 x r v σ' H' H0 hx s0 sd ⟨⟨u1, u2, u3, u4, u5, u6, u7, u8, u9, u10, u11, u12, u13, eσ⟩, hu0⟩ hv => ?_) (fun H2 s2 σ' H' sd ⟨⟨u1, u2, u3, u4, u5, u6, u7, u8, u9, u10, u11, u12, u13, eσ⟩, hu0⟩ => ?_)
  · subst eσ
    have hu' : Ur H' l (100 * r.length + 100) := (hu0.up s0).less (by rw [List.length_cons]; omega)
    generalize hR : 100 * r.length = R at hu' ⊢
    refine ⟨_, rfl, l, 4, 4, R + 84, rfl, by decide, by decide, by decide, by decide, hu'.less (by omega), fun v2 H3 p hp1 hp2 sd3 hu3 hv2 => ?_⟩
    refine ⟨_, rfl, l, 3, R + 83, rfl, hu3.less (by omega), by decide, by decide, fun j H4 hj0 hj1 sd4 hu4 => ⟨j, 0, rfl, rfl, _, rfl, ?_⟩⟩
    obtain ⟨z0, hz0⟩ := hu'.at
    obtain ⟨z3, hz3⟩ := hu3.at
    have lp : Lin 5 8 p := ⟨by omega, fun s hs => ⟨(hp2 s hs).1, by have := (hp2 s hs).2; omega⟩⟩
    have hv24 : Rp.is H4 v2 p := RpK.monoK (kp_dl hz3 sd4) hv2
    refine go_if (fun u H5 => ∃ q, Lin 6 8 q ∧ Same (dl H4 l) H5 ∧ Ur H5 l (R + 60) ∧ Rp.is H5 u q) (fun c Q' k => ?_) (fun c Q' k => ?_) (fun v3 H5 ⟨q, lq, sd5, hu5, hv3⟩ => ?_)
    · exact ⟨_, rfl, _, rfl, l, v2, p, R + 60, rfl, hv24, lp, hu4.less (by omega), fun u H5 p' h1 h2 h3 h4 => k u H5 ⟨p', h1, h2, h3, h4⟩⟩
    · exact ⟨_, rfl, l, 4, 4, R + 60, rfl, by decide, by decide, by decide, by decide, hu4.less (by omega), fun u H5 p' h1 h2 h3 h4 h5 => k u H5 ⟨p', ⟨by omega, fun s hs => ⟨(h2 s hs).1, by have := (h2 s hs).2; omega⟩⟩, h3, h4, h5⟩⟩
    refine ⟨_, rfl, l, 4, R + 59, rfl, hu5.less (by omega), by decide, by decide, fun a H6 ha0 ha1 sd6 hu6 => ⟨1, a, rfl, rfl, ?_⟩⟩
    refine ⟨_, rfl, l, 4, R + 58, rfl, hu6.less (by omega), by decide, by decide, fun b H7 hb0 hb1 sd7 hu7 => ⟨1, b, rfl, rfl, _, _, rfl, ?_⟩⟩
    obtain ⟨z4, hz4⟩ := hu4.at
    obtain ⟨z5, hz5⟩ := hu5.at
    obtain ⟨z6, hz6⟩ := hu6.at
    have S7 : Same (dl H' l) H7 := dl_trans (dl_trans (dl_trans (dl_trans sd3 sd4) sd5) sd6) sd7
    have k57 : Kp H5 H7 := (kp_dl hz5 sd6).trans (kp_dl hz6 sd7)
    have a2 : Rp.is H7 v2 p := RpK.monoK k57 (RpK.monoK (kp_dl hz4 sd5) hv24)
    have a3 : Rp.is H7 v3 q := RpK.monoK k57 hv3
    have sp : CM.Small p := Lin.small ⟨by have := lp.1; omega, lp.2⟩
    have sq : CM.Small q := lq.small
    obtain ⟨lo, elo⟩ : ∃ lo, lo = 1 + a := ⟨_, rfl⟩
    obtain ⟨ho, eho⟩ : ∃ ho, ho = 1 + b := ⟨_, rfl⟩
    dsimp only
    rw [← elo, ← eho]
    have l1 : 1 ≤ lo := by omega
    have l2 : lo ≤ 4 := by omega
    have o1 : 1 ≤ ho := by omega
    have o2 : ho ≤ 4 := by omega
    refine q_asg (a := dueM p q lo ho) (ev_call4 (f := dueM) (ev_var rfl a2) (ev_var rfl a3) (ev_var (a := lo) rfl rfl) (ev_var (a := ho) rfl rfl) ⟨small_sp sp, small_sp sq⟩) fun v6 H8 s8 hv6 => ?_
    obtain rfl : v6 = .bl (dueM p q lo ho) := hv6
    generalize hg : dueM p q lo ho = goal
    have b2 := Rp.mono s8 a2
    have b3 := Rp.mono s8 a3
    refine q_ifP (p := False) ((et_not (et_test (ev_right (T := T) (ev_var rfl b2) (ev_var rfl b3) (ev_var (a := lo) rfl rfl) (ev_var (a := ho) rfl rfl) (ev_var (a := goal) rfl rfl) (right_pre sp sq l1 (by omega) o1 (by omega) (by rw [← hg]; exact due_iff p q lo ho))))).eq (by rfl)) (fun c => c.elim) (fun _ H9 s9 => ?_)
    refine q_par (a := PipeO.mk p) (b := PipeO.mk q) (ev_call1 (f := PipeO.mk) (ev_var rfl (Rp.mono s9 b2)) (small_host sp)) (ev_call1 (f := PipeO.mk) (ev_var rfl (Rp.mono s9 b3)) (small_host sq)) fun v7 v8 H10 s10 hv7 hv8 => ?_
    have hu10 : Ur H10 l (R + 58) := ((hu7.up s8).up s9).up s10
    have S10 : Same (dl H' l) H10 := S7.trans (s8.trans (s9.trans s10))
    refine s_forL (α := Int) (l := l) (il_range1 (n := 4 * (if goal then (1 : Int) else 0)) (ev_opC (C := CMul) (f := fun i j => i * j) ev_int (ev_intB rfl (ev_var (a := goal) rfl rfl)) (.inl ⟨by decide, by decide⟩)) (by cases goal <;> decide))
      (fun r2 σ' H' => (∃ y9 y10 y11 y12 y13, σ' = [some (.ref l), some v, some v2, some v3, some (.int lo), some (.int ho), some (.bl goal), some v7, some v8, y9, y10, y11, y12, y13]) ∧ Ur H' l (R + 12 * r2.length) ∧ Rp.is H' v7 (PipeO.mk p) ∧ Rp.is H' v8 (PipeO.mk q))
      (fun H11 s11 => ⟨⟨_, _, _, _, _, rfl⟩, (hu10.up s11).less (by rw [upto_len]; cases goal <;> simp), Rp.mono s11 hv7, Rp.mono s11 hv8⟩) (fun H11 s11 x2 r2 v9 σ' Hl H00 hx2 s00 sd11 ⟨⟨y9, y10, y11, y12, y13, eσ⟩, hu00, hv70, hv80⟩ hv9 => ?_) (fun H11 s11 σ' Hl sd11 ⟨⟨y9, y10, y11, y12, y13, eσ⟩, hu00, _, _⟩ => ?_)
    · subst eσ
      have hgoal : dueM p q lo ho = true := by
        rw [hg]
        cases goal with
        | true => rfl
        | false => cases hx2
      have hul : Ur Hl l (R + 12 * r2.length + 12) := (hu00.up s00).less (by rw [List.length_cons]; omega)
      generalize hR2 : R + 12 * r2.length = R2 at hul ⊢
      obtain ⟨zl, hzl⟩ := hul.at
      refine ⟨Nat.zero_le _, fun D hD => ?_⟩
      have hDl : D ≠ l := fun c => by rw [c, hzl] at hD; cases hD
      have sD : Same Hl (upd Hl D (.lst [])) := same_new hD
      have hDd : dl Hl l D = none := by rw [dl_ne hDl]; exact hD
      refine ⟨_, rfl, l, 5, R2 + 11, rfl, (hul.up sD).less (by omega), by decide, by decide, fun z H12 hz0' hz1' sd12 hu12 => ⟨z, 2, rfl, rfl, _, _, rfl, ?_⟩⟩
      have hz1 : (upd Hl D (.lst [])) l = some (.lst zl) := sD _ _ hzl
      have lat12 : Lat H12 D ([] : List CM.Sn) := (Lat.new (l := D)).dl hDl sd12 (kp_dl hz1 sd12)
      refine ⟨_, rfl, l, 5, R2 + 10, rfl, hu12.less (by omega), by decide, by decide, fun n H13 hn0 hn1 sd13 hu13 => ⟨n, rfl, by omega, by omega, ?_⟩⟩
      obtain ⟨z12, hz12⟩ := hu12.at
      have lat13 : Lat H13 D ([] : List CM.Sn) := lat12.dl hDl sd13 (kp_dl hz12 sd13)
      refine for_it (walk_upto (lo := 0) (n := n.toNat)) (fun i σ' H' => ∃ (y12 : Option V) (far : Int) (X : List CM.Sn), σ' = [some (.ref l), some v, some v2, some v3, some (.int lo), some (.int ho), some (.bl goal), some v7, some v8, some v9, some (.ref D), some (.int far), y12, y13] ∧ Same (dl Hl l) H' ∧ Ur H' l (R2 + 2 * (n.toNat - i)) ∧ Lat H' D X ∧ CM.Good (lo - 1) (ho - 1) X ∧ X.length = i ∧ ∀ x ∈ X, x.2 + (ho - 1) < far)
        ⟨_, _, [], rfl, dl_trans (dl_trans (same_mut (dl_sub Hl l) hDd) sd12) sd13, hu13.less (by omega), lat13, CM.Good.nil, rfl, fun x hx => (by cases hx)⟩ (fun _ _ _ _ _ => trivial) (fun i x σ' H14 H15 hi r y => ?_) (fun σ' H14 r => ?_)
      · rw [upto_len] at hi
        obtain ⟨y12', far, X, rfl, t1, t2, t3, t4, t5, t6⟩ := r
        obtain ⟨_, rfl, rfl⟩ := y
        have t2a : Ur H15 l (R2 + 2 * (n.toNat - (i + 1)) + 2) := t2.less (by omega)
        generalize R2 + 2 * (n.toNat - (i + 1)) = R3 at t2a ⊢
        obtain ⟨zu, hzu⟩ := t2a.at
        obtain ⟨ys, e1, e2⟩ := id t3
        refine ⟨_, rfl, .inl ⟨rfl, _, SqL.of e1⟩, _, rfl, _, rfl, _, rfl, far, lo, rfl, rfl, _, rfl, l, 3, R3 + 1, rfl, t2a, by decide, by decide, fun c H16 hc0 hc1 sd16 hu16 => ⟨_, c, rfl, rfl, by show 2 ≤ sizeLine; decide, fun m hm => ⟨D, ys, .ref m, rfl, rfl, ?_, ?_, ?_⟩⟩⟩
        · have hD16 : H16 D = some (.lst ys) := sd16 _ _ (by rw [dl_ne hDl]; exact e1)
          exact same_new hm _ _ hD16
        · rw [e2.length]
          exact small_line (by omega)
        · have hD16 : H16 D = some (.lst ys) := sd16 _ _ (by rw [dl_ne hDl]; exact e1)
          have k16 : Kp H15 H16 := kp_dl hzu sd16
          have sm : Same H16 (upd H16 m (.tup [.int far, .int (far + lo + c)])) := same_new hm
          generalize hHm : upd H16 m (.tup [.int far, .int (far + lo + c)]) = Hm at sm ⊢
          have hDm : Hm D = some (.lst ys) := sm _ _ hD16
          have kD : Kp Hm (upd Hm D (.lst (ys ++ [.ref m]))) := kp_lst hDm
          have em : Hm m = some (.tup [.int far, .int (far + lo + c)]) := by rw [← hHm]; exact upd_same
          have latN : Lat (upd Hm D (.lst (ys ++ [.ref m]))) D (X ++ [(far, far + lo + c)]) := ⟨ys ++ [.ref m], upd_same, (e2.imp fun _ _ z => RpK.monoK kD (Rp.mono sm (RpK.monoK k16 z))).append ⟨RpK.monoK (α := Int × Int) kD ⟨m, _, _, rfl, em, rfl, rfl⟩, trivial⟩⟩
          have urN : Ur (upd Hm D (.lst (ys ++ [.ref m]))) l (R3 + 1) := (hu16.up sm).dl (Ne.symm hDl) (dl_up (dl_sub Hm D))
          have SN : Same (dl Hl l) (upd Hm D (.lst (ys ++ [.ref m]))) := same_mut ((dl_trans t1 sd16).trans sm) hDd
          have gN : CM.Good (lo - 1) (ho - 1) (X ++ [(far, far + lo + c)]) := good_snoc t4 (by omega) t6
          generalize upd Hm D (.lst (ys ++ [.ref m])) = HN at latN urN SN ⊢
          refine (ev_opI (f := fun i j => i + j) (ev_snd (p := ((far, far + lo + c) : Int × Int)) (ev_last rfl latN (by rw [List.getLast?_concat]))) (ev_var (a := ho) rfl rfl)) HN (Same.refl _) _ fun v17 H17 s17 hv17 => ?_
          obtain rfl : v17 = .int (far + lo + c + ho) := hv17
          refine ⟨_, rfl, l, 3, R3, rfl, urN.up s17, by decide, by decide, fun d H18 hd0 hd1 sd18 hu18 => ⟨_, d, rfl, rfl, ?_⟩⟩
          obtain ⟨z17, hz17⟩ := (urN.up s17).at
          refine ⟨_, _, X ++ [(far, far + lo + c)], rfl, dl_trans (SN.trans s17) sd18, hu18, (latN.up s17).dl hDl sd18 (kp_dl hz17 sd18), gN, by rw [List.length_append, List.length_singleton, t5], fun y hy => ?_⟩
          rcases List.mem_append.mp hy with h | h
          · have := t6 y h
            omega
          · rw [List.mem_singleton.mp h]
            show far + lo + c + (ho - 1) < far + lo + c + ho + d
            omega
      · obtain ⟨y12', far, X, rfl, t1, t2, t3, t4, t5, t6⟩ := r
        rw [upto_len] at t2 t5
        refine q_asg (a := X) (ev_tuple (as := ⟨X⟩) rfl (ev_var rfl t3.is)) fun v13 H16 s16 hv13 => ?_
        have kl : Kp Hl H16 := (kp_dl hzl t1).trans (kp_of s16)
        have c7 : Rp.is H16 v7 (PipeO.mk p) := RpK.monoK kl (Rp.mono s00 hv70)
        have c8 : Rp.is H16 v8 (PipeO.mk q) := RpK.monoK kl (Rp.mono s00 hv80)
        have lX : X.length ≤ 1000 := by omega
        have g0 : CM.Good 0 0 X := t4.mono (by omega) (by omega)
        have hrow : ∀ {σ : L2.St}, σ[13]? = some (some v13) → EvR (tMake 422 (InitOf 422 RowPre "own_spans" rowT) [] E0 (tCons (tVar 13) tNil)) σ H16 (RowO.mk X) := fun e => (ev_rowT (X := X) (ev_var e hv13) ⟨lX, asc_good g0⟩).eq (by rw [row_good g0 (Int.le_refl 0)])
        refine s_ifP (p := False) ((et_not (et_test (ev_meR (g := withinR) (r := ⟨CM.pipe p X⟩) (x := RowO.mk (CM.pipe q X)) (by decide +kernel) (ev_coP (g := callP) (r := ⟨p⟩) (x := RowO.mk X) (ev_var rfl c7) (hrow rfl) ⟨(small_host sp).2, lX, g0⟩) (ev_coP (g := callP) (r := ⟨q⟩) (x := RowO.mk X) (ev_var rfl c8) (hrow rfl) ⟨(small_host sq).2, lX, g0⟩) ⟨Nat.le_trans (pipe_len p X) lX, Nat.le_trans (pipe_len q X) lX⟩))).eq (by rw [due_within sp sq l1 o1 hgoal t4]; rfl)) (fun c => c.elim) (fun _ H17 s17 => ?_)
        exact ⟨⟨⟨_, _, _, _, _, rfl⟩, ((t2.up s16).up s17).less (by omega), Rp.mono s17 c7, Rp.mono s17 c8⟩, dl_trans sd11 (t1.trans (s16.trans s17))⟩
    · subst eσ
      exact ⟨⟨⟨_, _, _, _, _, _, _, _, _, _, _, _, _, rfl⟩, hu00.less (by simp)⟩, dl_trans sd (dl_trans (S10.trans s11) sd11)⟩
  · dsimp only
    refine s_ret (a := true) ev_bl fun u H3 s3 hu3 => ?_
    obtain rfl : u = .bl true := hu3
    exact kk H3 ((dl_mono (s1.trans s2)).trans (sd.trans s3))
end Cf
set_option Elab.async false
set_option linter.all false
set_option maxRecDepth 100000
set_option maxHeartbeats 4000000
namespace Cf
open PySem PySem.Spec PyProof.Rows L2 Cs
local macro_rules | `(tactic| walk_at "lf") => `(tactic| first
  | assumption
  | exact rfl
  | exact Rp.mono (by assumption) (by assumption)
  | exact Rp.mono (Same.trans (by assumption) (by assumption)) (by assumption)
  | exact RpK.monoK (by assumption) (by assumption))
local macro_rules | `(tactic| walk_at "ev") => `(tactic| first
  | with_reducible exact ev_int
  | with_reducible exact ev_bl
  | with_reducible exact ev_fill
  | with_reducible exact ev_drop
  | with_reducible exact ev_str
  | ((with_reducible refine' ev_var ?hs ?hv); (case hs => exact rfl); (case hv => walk_at "lf"))
  | ((with_reducible refine' ev_opI ?ha ?hb); (case ha => walk_at "ev"); (case hb => walk_at "ev"))
  | ((with_reducible refine' ev_opB ?ha ?hb); (case ha => walk_at "ev"); (case hb => walk_at "ev"))
  | ((with_reducible refine' ev_opC ?ha ?hb ?hc); (case ha => walk_at "ev"); (case hb => walk_at "ev"); (case hc => first | assumption | skip))
  | ((with_reducible refine' ev_un ?ha); (case ha => walk_at "ev"))
  | ((with_reducible refine' ev_eqK ?ha ?hb); (case ha => walk_at "ev"); (case hb => walk_at "ev"))
  | ((with_reducible refine' ev_eqI ?ha ?hb); (case ha => walk_at "ev"); (case hb => walk_at "ev"))
  | ((with_reducible refine' ev_eqS ?ha ?hb); (case ha => walk_at "ev"); (case hb => walk_at "ev"))
  | ((with_reducible refine' ev_neK ?ha ?hb); (case ha => walk_at "ev"); (case hb => walk_at "ev"))
  | ((with_reducible refine' ev_neI ?ha ?hb); (case ha => walk_at "ev"); (case hb => walk_at "ev"))
  | ((with_reducible refine' ev_neS ?ha ?hb); (case ha => walk_at "ev"); (case hb => walk_at "ev"))
  | ((with_reducible refine' ev_tup2 ?ha ?hb); (case ha => walk_at "ev"); (case hb => walk_at "ev"))
  | ((with_reducible refine' ev_tup1 ?ha); (case ha => walk_at "ev"))
  | with_reducible exact ev_tup0
  | ((with_reducible refine' ev_fst ?ha); (case ha => walk_at "ev"))
  | ((with_reducible refine' ev_snd ?ha); (case ha => walk_at "ev"))
  | ((with_reducible refine' ev_max2 rfl ?ha ?hb); (case ha => walk_at "ev"); (case hb => walk_at "ev"))
  | ((with_reducible refine' ev_min2 rfl ?ha ?hb); (case ha => walk_at "ev"); (case hb => walk_at "ev"))
  | ((with_reducible refine' ev_abs rfl ?ha); (case ha => walk_at "ev"))
  | ((with_reducible refine' ev_intI rfl ?ha); (case ha => walk_at "ev"))
  | ((with_reducible refine' ev_intB rfl ?ha); (case ha => walk_at "ev"))
  | ((with_reducible refine' ev_len rfl ?ha); (case ha => walk_at "ev"))
  | ((with_reducible refine' ev_lenL rfl ?ha); (case ha => walk_at "ev"))
  | ((with_reducible refine' ev_tuple rfl ?ha); (case ha => walk_at "ev"))
  | ((with_reducible refine' ev_sum ?ha); (case ha => walk_at "ev"))
  | ((with_reducible refine' ev_chain ?ha ?hb ?hc); (case ha => walk_at "ev"); (case hb => walk_at "ev"); (case hc => walk_at "ev"))
  | ((with_reducible refine' et_test ?ha); (case ha => walk_at "ev"))
  | ((with_reducible refine' et_B ?ha); (case ha => walk_at "ev"))
  | ((with_reducible refine' et_not ?ha); (case ha => walk_at "ev"))
  | ((with_reducible refine' ev_not ?ha); (case ha => walk_at "ev"))
  | ((with_reducible refine' et_and ?ha ?hb); (case ha => walk_at "ev"); (case hb => intro _; walk_at "ev"))
  | ((with_reducible refine' et_or ?ha ?hb); (case ha => walk_at "ev"); (case hb => intro _; walk_at "ev"))
  | ((with_reducible refine' ev_and ?ha ?hb); (case ha => walk_at "ev"); (case hb => intro _; walk_at "ev"))
  | ((with_reducible refine' ev_or ?ha ?hb); (case ha => walk_at "ev"); (case hb => intro _; walk_at "ev"))
  | ((with_reducible refine' ev_call1 ?ha ?hp); (case ha => walk_at "ev"); (case hp => first | assumption | trivial))
  | ((with_reducible refine' ev_call2 ?ha ?hb ?hp); (case ha => walk_at "ev"); (case hb => walk_at "ev"); (case hp => first | assumption | trivial))
  | ((with_reducible refine' ev_call3 ?ha ?hb ?hc ?hp); (case ha => walk_at "ev"); (case hb => walk_at "ev"); (case hc => walk_at "ev"); (case hp => first | assumption | trivial)))
variable {P : Program} {w : World} {K : PySem.W.Frag} {mg : Str → Option Value} {base : Heap}
theorem sc_law : FnScope ["_law_script", "_law_cells_here", "_law_k"] ["_law_script"] (defScope s_law) := ⟨rfl, rfl, rfl, by decide +kernel, rfl, by decide +kernel, by decide +kernel⟩
def LawSp (K : PySem.W.Frag) : Sp := fun vs H Q _ => ∃ (p : Addr) (cs : List Int), vs = [.ref p] ∧ SqL K H p (cs.map V.int) ∧ ∀ H', Q (.bl true) H'
theorem go_name {i : Nat} {v : V} {σ : L2.St} {H : Hp} {Q : L2.St → Hp → Prop} (h : Q (σ.set i (some v)) H) : gName i v σ H Q := h
theorem all2_true (H : Hp) : ∀ n : Nat, All2 (Rp.is H) (List.replicate n (V.bl true)) (List.replicate n true)
  | 0 => trivial
  | n + 1 => ⟨rfl, all2_true H n⟩
theorem F_law (T : Tx w K mg) (pm : PMain P) : Fn P w K mg base 16 d_law ["_law_script"] (LawSp K) := by
  have F_Lcells : Fn P w K mg base 1 d_Lcells ["_law_script", "_law_top"] _ := F_Lcells T
  have F_Lbox : Fn P w K mg base 1 d_Lbox ["_law_script", "_law_k"] _ := F_Lbox T
  have F_Lright : Fn P w K mg base 15 d_Lright ["_law_urn"] _ := F_Lright T pm
  refine mk_fn T.f_law sc_law (fun kV doc pm an cdv ct us hl => match us, hl with | [_], _ => rfl) (fun vs H Q E h => by obtain ⟨_, _, e, _⟩ := h; rw [e]; rfl) (fun cdv A outer s H vs Q E hr h => ?_)
  obtain ⟨p, cs, rfl, hp, kk⟩ := h
  refine ⟨_, (pss_cons (ps_set (i := 1) sc_law.nd rfl (Or.inr rfl) (pe_fn F_Lcells (hr.mono (by decide)) T.g_Lcells (pa_cons (pv 0) (pa_cons pe_int pa_nil))))
  (pss_one (ps_ret (pe_callB (cr_all rfl) (by rfl) T.b_all (by decide +kernel) (pa_cons (pe_lc (own := [("_law_k", 2)]) (g := (gName 2)) rfl sc_law.nd (pi_range1 (by rfl) T.b_range (pa_cons (pe_callB call_len_seq (by rfl) T.b_len PySem.boot_len (pa_cons (pv 1) pa_nil)) pa_nil)) (blkOk_by (own := [("_law_k", 2)]) (N := ["_law_script", "_law_cells_here", "_law_k"]) (sc := defScope s_law) (by decide +kernel)) (fun _ _ _ _ _ => (pg_name (i := 2) sc_law.nd rfl (Or.inl rfl))) (fun _ _ _ _ _ => pts_nil) (fun _ _ _ _ _ => (pe_fn F_Lright (hr.mono (by decide)) T.g_Lright (pa_cons (pe_fn F_Lbox (hr.mono (by decide)) T.g_Lbox (pa_cons (pv 1) (pa_cons (pv 2) pa_nil))) pa_nil)))) pa_nil))))), ?_⟩
  refine ⟨_, rfl, p, cs, rfl, hp, fun q H1 ds l1 l2 hq s1 e1 => ?_⟩
  refine go_name ?_
  dsimp only
  refine s_ret (a := true) ((ev_all (as := ⟨List.replicate ds.length true⟩) fun H2 s2 Q' k => ?_).eq (by simp)) fun u H5 s5 hu => ?_
  · have e2 := s2 _ _ e1
    refine ⟨_, rfl, q, ds.map V.int, rfl, .inl (SqL.of e2), (ds.length : Int), by rw [List.length_map], by omega, by omega, fun D hD => ?_⟩
    have hn : ((ds.length : Int)).toNat = ds.length := Int.toNat_natCast _
    rw [hn]
    refine lc_it (walk_upto (lo := 0) (n := ds.length)) (fun i H' => Same H2 H' ∧ H' D = some (.lst (List.replicate i (V.bl true)))) ⟨same_new hD, upd_same⟩ (fun _ _ _ _ => trivial) (fun i x H3 H4 hi r y => ?_) (fun H' r => ?_)
    · rw [upto_len] at hi
      obtain ⟨r1, r2⟩ := r
      obtain ⟨_, rfl, rfl⟩ := y
      refine ⟨rfl, ?_⟩
      simp only [tYes, if_true]
      have hlt : i < ds.length := hi
      refine ⟨_, rfl, _, rfl, q, ds, i, ds[i], by rw [Int.zero_add]; rfl, r1 _ _ e2, by omega, List.getElem?_eq_getElem hlt, fun m H5 hm s5 u5 => ⟨m, rfl, u5.less (by decide), fun H6 s6 => ?_⟩⟩
      have hDm : D ≠ m := fun c => by rw [c, hm] at r2; cases r2
      have hD6 := s6 _ _ (show dl H5 m D = some (.lst (List.replicate i (V.bl true))) by rw [dl_ne hDm]; exact s5 _ _ r2)
      refine ⟨_, hD6, ?_, ?_, ?_⟩
      · rw [List.length_replicate]
        exact small_line (by omega)
      · exact same_mut (r1.trans ((same_dl s5 hm).trans s6)) hD
      · rw [upd_same, List.replicate_succ']
    · rw [upto_len] at r
      exact k _ H' r.1 ⟨D, _, rfl, r.2, all2_true H' _⟩
  · obtain rfl : u = .bl true := hu
    exact kk H5
end Cf
set_option Elab.async false
set_option linter.all false
set_option maxRecDepth 100000
set_option maxHeartbeats 4000000
open PySem PySem.W PySem.Calls PyProof.Rows
theorem Cf.pmain : Cf.PMain (PySem.Challenge.rw_cleanspans_k97_whole_within_for_rows_tha).prog := ⟨by kernel_rfl, by kernel_rfl⟩
theorem Cf.law_facts {P : Program} {w : World} {K : PySem.W.Frag} {h : Heap} {mg : Str → Option Value} {f : Addr} (pm : Cf.PMain P) (X : K.In h) (G : h.Ns mainGlobals mg) (hfa : mg ("law" : Str) = some (.ref f)) (c : Cs.Says w K) :
    ∃ fd : FuncData, (∀ (s : Shared) (v : Value), BindsTo s fd ⟨[v], []⟩ [("_law_script", v)]) ∧ ∀ base : Heap, L2.FnOk P w K mg base L2.CX0 16 f fd ["_law_script"] (Cf.LawSp K) := by
  have T := Cs.tx_of X G c
  have e := hfa.symm.trans T.g_law
  cases e
  obtain ⟨fd, F⟩ := T.f_law
  have b := L2.FunD.bindsA (ps := ["_law_script"]) F fun _ _ _ _ _ _ us hl => match us, hl with | [_], _ => rfl
  refine ⟨fd, fun s v => b s [v] rfl, fun base => ?_⟩
  obtain ⟨fd', FO, _, _, oc, od, osl, h1⟩ := Cf.F_law (base := base) T pm
  obtain ⟨oc2, od2, osl2, h2⟩ := Cf.funD_at F
  have e2 := h1.symm.trans h2
  injection e2 with e3
  injection e3 with _ _ e4 _
  injection e4 with e5
  rw [← e5]
  exact FO
theorem PySem.Challenge.cw_cleanspans_k97_whole_within_for_rows_tha_holds : PySem.Challenge.rw_cleanspans_k97_whole_within_for_rows_tha.Holds := by
  w_on; o_law
  refine HandSHeadRun.head_any (r := Cs.R) (q := view Cs.R.prog [92]) (H := Cs.hk) (ob := Cs.ob) (M := 9000) (loose := Cs.names) (d := HandSHeadRun.topDef Cs.R.prog 92) (kwd := []) Cs.ob_eq
    (by kernel_rfl) (fun s => by kernel_rfl) Cs.run (by kernel_rfl) (by kernel_rfl) (by kernel_rfl) (by rfl) (by first | assumption | decide +kernel) (by decide +kernel) ⟨rfl, rfl, rfl, rfl, rfl, by decide +kernel⟩ ?hw ?hc
  case hw => w_witness2
  case hc =>
    refine L2.walk_ofE (l := PySem.Challenge.rw_cleanspans_k97_whole_within_for_rows_tha) (n := 63) (k := 16) (x := "_law_script") (CX := L2.CX0) rfl (by decide) (by kernel_rfl) ⟨rfl, by decide, by decide⟩ ?F (fun _ _ _ _ z => z)
    intro w mg fa h Y G hmg0
    obtain ⟨K, KX, c⟩ := Y
    have hmg : mg ("law" : PySem.Str) = some (.ref fa) := by
      have e : (HandSHeadRun.topDef Cs.R.prog 92).name = ("law" : PySem.Str) := by kernel_rfl
      rw [← e]
      exact hmg0
    obtain ⟨fd, hb, hF⟩ := Cf.law_facts Cf.pmain KX G hmg c
    exact ⟨K, fd, Cf.LawSp K, KX, hb, fun H a ns hl _ hS => ⟨a, ns, rfl, hS, fun _ => rfl⟩, fun base _ _ => hF base⟩
