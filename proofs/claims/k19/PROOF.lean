import PyProof.Rows.All
import Wide.All
import OpenK.AllK
import Wide.FinOn
import HandS.ForMost
import HandS.Defaults
import HandS.Set
import HandS.SetFor
import HandS.SortOrd
import HandS.SortRule
import HandS.SortInts
import HandS.TupSets
import HandS.IsInst
import HandS.Codes
import HandS.Deep
import HandS.Conv
import HandS.TupAny
import HandS.Zip
import PySem.Challenge.RW_lookmade_k19_whole_who_meets_whom_oddly
set_option Elab.async false
set_option linter.all false
set_option maxRecDepth 100000
set_option maxHeartbeats 0
section
/-! The plain law: strings, neighbours, lots that meet oddly, parity. -/
namespace K19
/-- the things below n -/
def rng (n : Nat) : List Int := (List.range n).map fun k : Nat => (k : Int)
theorem mem_rng {n : Nat} {x : Int} : x ∈ rng n ↔ 0 ≤ x ∧ x < (n : Int) := by
  unfold rng
  rw [List.mem_map]
  constructor
  · rintro ⟨k, hk, rfl⟩
    have := List.mem_range.mp hk
    omega
  · rintro ⟨h0, h1⟩
    exact ⟨x.toNat, List.mem_range.mpr (by omega), by omega⟩
theorem rng_lt (n : Nat) : (rng n).Pairwise (· < ·) := by
  unfold rng
  rw [List.pairwise_map]
  exact List.pairwise_lt_range.imp fun {a b} h => by omega
theorem rng_len (n : Nat) : (rng n).length = n := by
  unfold rng
  rw [List.length_map, List.length_range]
theorem rng_get {n k : Nat} (h : k < n) : (rng n)[k]? = some (k : Int) := by
  unfold rng
  rw [List.getElem?_map, List.getElem?_range h]
  rfl
theorem lt_nodup {l : List Int} (h : l.Pairwise (· < ·)) : l.Nodup := h.imp fun {a b} q e => by omega
theorem rng_nodup (n : Nat) : (rng n).Nodup := lt_nodup (rng_lt n)
/-- two ascending lists with the same members are one -/
theorem asc_ext {l m : List Int} (hl : l.Pairwise (· < ·)) (hm : m.Pairwise (· < ·)) (h : ∀ x, x ∈ l ↔ x ∈ m) : l = m := by
  have p : l.Perm m := (List.perm_ext_iff_of_nodup (lt_nodup hl) (lt_nodup hm)).mpr h
  exact List.Perm.eq_of_pairwise (le := (· < ·)) (fun a b _ _ h1 h2 => by omega) hl hm p
theorem asc_of {l : List Int} (hn : l.Nodup) (h : l.Pairwise (· ≤ ·)) : l.Pairwise (· < ·) := by
  refine List.Pairwise.imp₂ (R := (· ≤ ·)) (S := (· ≠ ·)) (fun {a b} h1 h2 => ?_) h hn
  omega
/-- a sorted one of an ascending list is the list -/
theorem sorted_asc {l m : List Int} (p : m.Perm l) (h : m.Pairwise (· ≤ ·)) (hl : l.Pairwise (· < ·)) : m = l :=
  asc_ext (asc_of (p.nodup_iff.mpr (lt_nodup hl)) h) hl fun x => p.mem_iff

abbrev Sx := Int × Int
/-- strings of n things, as drawn: each ascending, all ascending -/
structure Strs (n : Nat) (es : List Sx) : Prop where
  lo : ∀ e ∈ es, 0 ≤ e.1
  lt : ∀ e ∈ es, e.1 < e.2
  hi : ∀ e ∈ es, e.2 < (n : Int)
  asc : es.Pairwise fun e f => e.1 < f.1 ∨ (e.1 = f.1 ∧ e.2 < f.2)
theorem Strs.nodup {n : Nat} {es : List Sx} (h : Strs n es) : es.Nodup := h.asc.imp fun {e f} q z => by
  subst z
  omega
def adj (es : List Sx) (x y : Int) : Bool := decide ((x, y) ∈ es) || decide ((y, x) ∈ es)
theorem adj_iff {es : List Sx} {x y : Int} : adj es x y = true ↔ (x, y) ∈ es ∨ (y, x) ∈ es := by
  unfold adj
  rw [Bool.or_eq_true, decide_eq_true_iff, decide_eq_true_iff]
theorem adj_comm (es : List Sx) (x y : Int) : adj es x y = adj es y x := by
  unfold adj
  exact Bool.or_comm _ _
theorem adj_rng {n : Nat} {es : List Sx} (h : Strs n es) {x y : Int} (a : adj es x y = true) : x ∈ rng n ∧ y ∈ rng n := by
  rw [mem_rng, mem_rng]
  rcases adj_iff.mp a with m | m
  · have := h.lo _ m; have := h.lt _ m; have := h.hi _ m
    dsimp only at *
    omega
  · have := h.lo _ m; have := h.lt _ m; have := h.hi _ m
    dsimp only at *
    omega
/-- the neighbours of x, ascending -/
def nbr (n : Nat) (es : List Sx) (x : Int) : List Int := (rng n).filter fun y => adj es x y
theorem mem_nbr {n : Nat} {es : List Sx} (h : Strs n es) {x y : Int} : y ∈ nbr n es x ↔ adj es x y = true := by
  unfold nbr
  rw [List.mem_filter]
  exact ⟨fun q => q.2, fun q => ⟨(adj_rng h q).2, q⟩⟩
theorem nbr_asc (n : Nat) (es : List Sx) (x : Int) : (nbr n es x).Pairwise (· < ·) := (rng_lt n).filter _
/-- the row that is filled string by string -/
def ends1 (i : Int) (e : Sx) : List Int := (if e.1 = i then [e.2] else []) ++ (if e.2 = i then [e.1] else [])
def rowOf (es : List Sx) (i : Int) : List Int := es.flatMap (ends1 i)
theorem rowOf_snoc (es : List Sx) (e : Sx) (i : Int) : rowOf (es ++ [e]) i = rowOf es i ++ ends1 i e := by
  unfold rowOf
  rw [List.flatMap_append]
  simp
theorem mem_ends1 {i : Int} {e : Sx} {y : Int} : y ∈ ends1 i e ↔ e = (i, y) ∨ e = (y, i) := by
  obtain ⟨a, b⟩ := e
  unfold ends1
  rw [List.mem_append]
  dsimp only
  constructor
  · rintro (h | h)
    · split at h
      · rename_i q
        simp at h
        subst q h
        exact Or.inl rfl
      · cases h
    · split at h
      · rename_i q
        simp at h
        subst q h
        exact Or.inr rfl
      · cases h
  · rintro (h | h)
    · cases h
      exact Or.inl (by simp)
    · cases h
      exact Or.inr (by simp)
theorem mem_rowOf {es : List Sx} {i y : Int} : y ∈ rowOf es i ↔ adj es i y = true := by
  unfold rowOf
  rw [List.mem_flatMap, adj_iff]
  constructor
  · rintro ⟨e, he, hy⟩
    rcases mem_ends1.mp hy with q | q
    · exact Or.inl (q ▸ he)
    · exact Or.inr (q ▸ he)
  · rintro (h | h)
    · exact ⟨_, h, mem_ends1.mpr (Or.inl rfl)⟩
    · exact ⟨_, h, mem_ends1.mpr (Or.inr rfl)⟩
theorem rowOf_nodup {n : Nat} {es : List Sx} (h : Strs n es) (i : Int) : (rowOf es i).Nodup := by
  unfold rowOf
  refine List.pairwise_flatMap.mpr ⟨fun e he => ?_, ?_⟩
  · have hl := h.lt e he
    unfold ends1
    by_cases h1 : e.1 = i
    · have h2 : ¬ e.2 = i := by omega
      rw [if_pos h1, if_neg h2]
      simp
    · rw [if_neg h1]
      by_cases h2 : e.2 = i
      · rw [if_pos h2]
        simp
      · rw [if_neg h2]
        simp
  · have nd : es.Pairwise (fun e f => e ≠ f) := h.nodup
    refine List.Pairwise.imp_of_mem (fun {e f} he hf q => ?_) nd
    intro y hy z hz ez
    subst ez
    have l1 := h.lt e he
    have l2 := h.lt f hf
    rcases mem_ends1.mp hy with a | a <;> rcases mem_ends1.mp hz with b | b
    · exact q (a.trans b.symm)
    · subst a b
      dsimp only at l1 l2
      omega
    · subst a b
      dsimp only at l1 l2
      omega
    · exact q (a.trans b.symm)
theorem row_sorted {n : Nat} {es : List Sx} (h : Strs n es) {i : Int} {l : List Int} (p : l.Perm (rowOf es i)) (s : l.Pairwise (· ≤ ·)) : l = nbr n es i := by
  refine asc_ext (asc_of (p.nodup_iff.mpr (rowOf_nodup h i)) s) (nbr_asc n es i) fun x => ?_
  rw [p.mem_iff, mem_rowOf, mem_nbr h]
/-- how many of a lot are neighbours of x -/
def cnt (es : List Sx) (lot : List Int) (x : Int) : Nat := lot.countP fun t => adj es t x
def odd (k : Nat) : Bool := decide (k % 2 = 1)
/-- what a lot meets oddly -/
def met (n : Nat) (es : List Sx) (lot : List Int) : List Int := (rng n).filter fun x => odd (cnt es lot x)
theorem met_asc (n : Nat) (es : List Sx) (lot : List Int) : (met n es lot).Pairwise (· < ·) := (rng_lt n).filter _
theorem mem_met {n : Nat} {es : List Sx} {lot : List Int} {x : Int} : x ∈ met n es lot ↔ x ∈ rng n ∧ odd (cnt es lot x) = true := by
  unfold met
  exact List.mem_filter
theorem cnt_append (es : List Sx) (l m : List Int) (x : Int) : cnt es (l ++ m) x = cnt es l x + cnt es m x := by
  unfold cnt
  exact List.countP_append
/-! ### by walking the rows of a lot -/
def walked (n : Nat) (es : List Sx) (lot : List Int) : List Int := lot.flatMap (nbr n es)
theorem count_asc {l : List Int} (h : l.Pairwise (· < ·)) (y : Int) : l.count y = if y ∈ l then 1 else 0 := by
  have hn := lt_nodup h
  by_cases m : y ∈ l
  · rw [if_pos m]
    exact hn.count.trans (by rw [if_pos m])
  · rw [if_neg m]
    exact List.count_eq_zero.mpr m
theorem count_walked {n : Nat} {es : List Sx} (h : Strs n es) (lot : List Int) (y : Int) : (walked n es lot).count y = cnt es lot y := by
  unfold walked cnt
  induction lot with
  | nil => rfl
  | cons t r ih =>
    rw [List.flatMap_cons, List.count_append, ih, List.countP_cons, count_asc (nbr_asc n es t)]
    by_cases a : adj es t y = true
    · rw [if_pos ((mem_nbr h).mpr a), if_pos a]
      omega
    · rw [if_neg (fun q => a ((mem_nbr h).mp q)), if_neg a]
      omega
/-- the ascending keys whose truth is odd -/
theorem odd_keys {n : Nat} {es : List Sx} (h : Strs n es) (lot : List Int) {ys : List Int} (s : ys.Pairwise (· < ·)) (f : Int → Bool)
    (hk : ∀ y, y ∈ ys ↔ (walked n es lot).count y ≠ 0) (hf : ∀ y, y ∈ ys → f y = odd ((walked n es lot).count y)) : ys.filter f = met n es lot := by
  refine asc_ext (s.filter _) (met_asc n es lot) fun y => ?_
  rw [List.mem_filter, mem_met, ← count_walked h lot y]
  constructor
  · rintro ⟨m, t⟩
    rw [hf y m] at t
    refine ⟨?_, t⟩
    have c := (hk y).mp m
    have hm : y ∈ walked n es lot := List.count_pos_iff.mp (by omega)
    unfold walked at hm
    obtain ⟨t', _, hy⟩ := List.mem_flatMap.mp hm
    unfold nbr at hy
    exact (List.mem_filter.mp hy).1
  · rintro ⟨_, t⟩
    have m : y ∈ ys := (hk y).mpr fun z => by
      rw [z] at t
      exact absurd t (by decide)
    exact ⟨m, by rw [hf y m]; exact t⟩
/-! ### by counting the strings of a thing -/
def other (x : Int) (e : Sx) : Int := if e.1 = x then e.2 else e.1
def many (es : List Sx) (lot : List Int) (x : Int) : Nat := es.countP fun e => (decide (x = e.1) || decide (x = e.2)) && decide (other x e ∈ lot)
theorem nodup_map_on {α β : Type} {f : α → β} : ∀ {l : List α}, (∀ a ∈ l, ∀ b ∈ l, f a = f b → a = b) → l.Nodup → (l.map f).Nodup := by
  intro l h hn
  show (l.map f).Pairwise (· ≠ ·)
  rw [List.pairwise_map]
  exact List.Pairwise.imp_of_mem (fun {a b} ha hb q e => q (h a ha b hb e)) hn
theorem other_edge {x : Int} {e : Sx} (hl : e.1 < e.2) (h : x = e.1 ∨ x = e.2) : e = (x, other x e) ∨ e = (other x e, x) := by
  obtain ⟨a, b⟩ := e
  unfold other
  dsimp only at *
  by_cases q : a = x
  · rw [if_pos q]
    exact Or.inl (by rw [q])
  · rw [if_neg q]
    have : x = b := by omega
    exact Or.inr (by rw [this])
theorem many_eq {n : Nat} {es : List Sx} (h : Strs n es) {lot : List Int} (hn : lot.Nodup) (x : Int) : many es lot x = cnt es lot x := by
  unfold many cnt
  rw [List.countP_eq_length_filter, List.countP_eq_length_filter]
  have key : ((es.filter fun e => (decide (x = e.1) || decide (x = e.2)) && decide (other x e ∈ lot)).map (other x)).Perm (lot.filter fun t => adj es t x) := by
    refine (List.perm_ext_iff_of_nodup ?_ (hn.filter _)).mpr fun t => ?_
    · refine nodup_map_on (fun e he f hf q => ?_) (h.nodup.filter _)
      obtain ⟨he1, he2⟩ := List.mem_filter.mp he
      obtain ⟨hf1, hf2⟩ := List.mem_filter.mp hf
      rw [Bool.and_eq_true, Bool.or_eq_true, decide_eq_true_iff, decide_eq_true_iff] at he2 hf2
      have l1 := h.lt e he1
      have l2 := h.lt f hf1
      rcases other_edge l1 he2.1 with a | a <;> rcases other_edge l2 hf2.1 with b | b
      · rw [a, b, q]
      · rw [a] at l1
        rw [b] at l2
        rw [q] at l1
        dsimp only at l1 l2
        omega
      · rw [a] at l1
        rw [b] at l2
        rw [q] at l1
        dsimp only at l1 l2
        omega
      · rw [a, b, q]
    · rw [List.mem_map, List.mem_filter, adj_iff]
      constructor
      · rintro ⟨e, he, rfl⟩
        obtain ⟨he1, he2⟩ := List.mem_filter.mp he
        rw [Bool.and_eq_true, Bool.or_eq_true, decide_eq_true_iff, decide_eq_true_iff, decide_eq_true_iff] at he2
        refine ⟨he2.2, ?_⟩
        rcases other_edge (h.lt e he1) he2.1 with a | a
        · exact Or.inr (a ▸ he1)
        · exact Or.inl (a ▸ he1)
      · rintro ⟨ht, a | a⟩
        · have l := h.lt _ a
          dsimp only at l
          have o : other x (t, x) = t := by
            unfold other
            dsimp only
            rw [if_neg (by omega)]
          refine ⟨(t, x), List.mem_filter.mpr ⟨a, ?_⟩, o⟩
          rw [o]
          simp [ht]
        · have o : other x (x, t) = t := by
            unfold other
            dsimp only
            rw [if_pos rfl]
          refine ⟨(x, t), List.mem_filter.mpr ⟨a, ?_⟩, o⟩
          rw [o]
          simp [ht]
  rw [← key.length_eq, List.length_map]
/-! ### two lots together -/
def sym (one two : List Int) : List Int := (one.filter fun t => !decide (t ∈ two)) ++ (two.filter fun t => !decide (t ∈ one))
theorem cnt_split (es : List Sx) (l : List Int) (p : Int → Bool) (x : Int) : cnt es l x = cnt es (l.filter p) x + cnt es (l.filter fun t => !p t) x := by
  unfold cnt
  induction l with
  | nil => rfl
  | cons t r ih =>
    by_cases hp : p t = true
    · rw [List.filter_cons_of_pos hp, List.filter_cons_of_neg (by simp [hp]), List.countP_cons, List.countP_cons, ih]
      omega
    · rw [List.filter_cons_of_neg hp, List.filter_cons_of_pos (by simp [hp]), List.countP_cons, List.countP_cons, ih]
      omega
theorem cnt_perm (es : List Sx) {l m : List Int} (p : l.Perm m) (x : Int) : cnt es l x = cnt es m x := by
  unfold cnt
  exact p.countP_eq _
theorem cnt_sym (es : List Sx) {one two : List Int} (h1 : one.Nodup) (h2 : two.Nodup) (x : Int) :
    odd (cnt es (sym one two) x) = (odd (cnt es one x) != odd (cnt es two x)) := by
  have p : (one.filter fun t => decide (t ∈ two)).Perm (two.filter fun t => decide (t ∈ one)) := by
    refine (List.perm_ext_iff_of_nodup (h1.filter _) (h2.filter _)).mpr fun t => ?_
    rw [List.mem_filter, List.mem_filter, decide_eq_true_iff, decide_eq_true_iff]
    exact And.comm
  have e1 := cnt_split es one (fun t => decide (t ∈ two)) x
  have e2 := cnt_split es two (fun t => decide (t ∈ one)) x
  have e3 := cnt_perm es p x
  have e4 : cnt es (sym one two) x = cnt es (one.filter fun t => !decide (t ∈ two)) x + cnt es (two.filter fun t => !decide (t ∈ one)) x := cnt_append es _ _ x
  have o1 := Nat.mod_two_eq_zero_or_one (cnt es one x)
  have o2 := Nat.mod_two_eq_zero_or_one (cnt es two x)
  unfold odd
  rcases o1 with a | a <;> rcases o2 with b | b
  · rw [decide_eq_false (show ¬ _ by omega), decide_eq_false (show ¬ cnt es one x % 2 = 1 by omega), decide_eq_false (show ¬ cnt es two x % 2 = 1 by omega)]
    rfl
  · rw [decide_eq_true (show _ by omega), decide_eq_false (show ¬ cnt es one x % 2 = 1 by omega), decide_eq_true (show cnt es two x % 2 = 1 by omega)]
    rfl
  · rw [decide_eq_true (show _ by omega), decide_eq_true (show cnt es one x % 2 = 1 by omega), decide_eq_false (show ¬ cnt es two x % 2 = 1 by omega)]
    rfl
  · rw [decide_eq_false (show ¬ _ by omega), decide_eq_true (show cnt es one x % 2 = 1 by omega), decide_eq_true (show cnt es two x % 2 = 1 by omega)]
    rfl
theorem sym_nodup {one two : List Int} (h1 : one.Nodup) (h2 : two.Nodup) : (sym one two).Nodup := by
  unfold sym
  refine List.nodup_append.mpr ⟨h1.filter _, h2.filter _, ?_⟩
  intro a ha b hb e
  subst e
  have q1 := (List.mem_filter.mp ha).2
  have q2 := (List.mem_filter.mp hb).1
  rw [Bool.not_eq_true', decide_eq_false_iff_not] at q1
  exact q1 q2
theorem met_sym {n : Nat} {es : List Sx} {one two : List Int} (h1 : one.Nodup) (h2 : two.Nodup) :
    met n es (sym one two) = (rng n).filter fun x => decide (x ∈ met n es one) != decide (x ∈ met n es two) := by
  unfold met
  refine List.filter_congr fun x hx => ?_
  rw [cnt_sym es h1 h2]
  have e : ∀ l : List Int, decide (x ∈ (rng n).filter fun y => odd (cnt es l y)) = odd (cnt es l x) := fun l => by
    by_cases o : odd (cnt es l x) = true
    · rw [o]
      exact decide_eq_true (List.mem_filter.mpr ⟨hx, o⟩)
    · rw [Bool.not_eq_true] at o
      rw [o]
      refine decide_eq_false fun z => ?_
      have q := (List.mem_filter.mp z).2
      rw [o] at q
      cases q
  rw [e, e]
/-! ### as often, oddly or evenly -/
theorem sum_swap (es : List Sx) : ∀ (one two : List Int), (two.map fun x => cnt es one x).sum = (one.map fun t => cnt es two t).sum
  | [], two => by
    have : (two.map fun x => cnt es [] x) = two.map fun _ => 0 := List.map_congr_left fun _ _ => rfl
    rw [this]
    induction two with
    | nil => rfl
    | cons a r ih => rw [List.map_cons, List.sum_cons, ih (by rfl)]; rfl
  | t :: r, two => by
    have ih := sum_swap es r two
    have e : (two.map fun x => cnt es (t :: r) x).sum = cnt es two t + (two.map fun x => cnt es r x).sum := by
      clear ih
      induction two with
      | nil => rfl
      | cons a q ih =>
        rw [List.map_cons, List.sum_cons, ih, List.map_cons, List.sum_cons]
        unfold cnt
        rw [List.countP_cons, List.countP_cons]
        show List.countP _ r + (if adj es t a = true then 1 else 0) + _ = List.countP _ q + (if adj es a t = true then 1 else 0) + _
        rw [adj_comm es t a]
        omega
    rw [e, ih, List.map_cons, List.sum_cons]
theorem odd_len (f : Int → Nat) : ∀ l : List Int, (l.filter fun x => odd (f x)).length % 2 = (l.map f).sum % 2
  | [] => rfl
  | a :: r => by
    have ih := odd_len f r
    rw [List.map_cons, List.sum_cons]
    by_cases o : odd (f a) = true
    · rw [List.filter_cons_of_pos (by exact o), List.length_cons]
      unfold odd at o
      have := of_decide_eq_true o
      omega
    · rw [List.filter_cons_of_neg (by exact o)]
      unfold odd at o
      rw [decide_eq_true_iff] at o
      omega
theorem here_len {n : Nat} {es : List Sx} {one two : List Int} (h2 : two.Nodup) (hr : ∀ x ∈ two, x ∈ rng n) :
    ((met n es one).filter fun x => decide (x ∈ two)).length % 2 = (two.map fun x => cnt es one x).sum % 2 := by
  rw [← odd_len (fun x => cnt es one x) two]
  have p : ((met n es one).filter fun x => decide (x ∈ two)).Perm (two.filter fun x => odd (cnt es one x)) := by
    refine (List.perm_ext_iff_of_nodup ((lt_nodup (met_asc n es one)).filter _) (h2.filter _)).mpr fun x => ?_
    rw [List.mem_filter, List.mem_filter, mem_met, decide_eq_true_iff]
    exact ⟨fun q => ⟨q.2, q.1.2⟩, fun q => ⟨⟨hr x q.1, q.2⟩, q.1⟩⟩
  rw [p.length_eq]
theorem even_both {n : Nat} {es : List Sx} {one two : List Int} (h1 : one.Nodup) (h2 : two.Nodup) (r1 : ∀ x ∈ one, x ∈ rng n) (r2 : ∀ x ∈ two, x ∈ rng n) :
    (((met n es one).filter fun x => decide (x ∈ two)).length + ((met n es two).filter fun x => decide (x ∈ one)).length) % 2 = 0 := by
  have a := here_len (n := n) (es := es) (one := one) h2 r2
  have b := here_len (n := n) (es := es) (one := two) h1 r1
  have c := sum_swap es one two
  omega
end K19
end
section
/-! Own rules: a call by keywords alone, sorted of a tuple, len(set(tuple)), repr of a tuple of small ints, a def at the caller's own place. -/
namespace K19
open PySem PySem.Spec PyProof.Rows L2

/-! ### f(k = v, ..), keywords alone -/
def tKw0 (m : Nat) (sp : Sp) (gV : List V → List V → List V) (E : XK) (tk : TA) : TE := fun σ H Q =>
  tk σ H fun zs H1 => zs.length = m ∧ sp (gV [] zs) H1 Q E
section
variable {X : Cx} {CX : CXT} {k : Nat} {f : Addr} {fd : FuncData} {ps ks : List Str} {sp : Sp} {E : XK} {x : Str} {p pos : Pos} {kws : List Keyword} {tk : TA}
  {g : List Value → List Value → List Value} {gV : List V → List V → List V}
theorem pe_kw0 (F : FnOk X.prog X.w X.K X.mg X.base CX k f fd ps sp) (room : Room k X.A) (hg : Gl X x) (hm : X.mg x = some (.ref f))
    (keep : PySem.W.keepIn X.K (.ref f) = true) (bn : KBn X.K fd ps 0 ks g gV) (out : Passes CX X E) (hkw : PK X kws tk)
    (named : (backToKw pos (keywordEach kws X.env)).all (·.1.isSome) = true := by rfl)
    (names : (backToKw pos (keywordEach kws X.env)).filterMap (·.1) = ks := by rfl) (nodb : (x == ("__debug__" : Str)) = false := by decide)
    (plain : ((backTo pos (starEach [] X.env)).any (·.1) || (backToKw pos (keywordEach kws X.env)).any (·.1.isNone)) = false := by rfl) :
    PE X (.Call (.Name x p) [] kws pos) (tKw0 ks.length sp gV E tk) := by
  refine ⟨fun pins s σ H Q I q => ?_⟩
  refine wpAny_Call_Name_kw (ld_glob I hg hm ?_ nodb)
  have step := hkw.run pos pins s σ H _ I q
  refine PySem.W.callWith_KW0 (h₀ := X.base) I.ok.mod.kin keep named ?_ plain
  refine thn step fun ws s1 ⟨zs, H1, I1, rz, lz, q1⟩ => ⟨I1.kIn, ?_⟩
  rw [names]
  exact run_fnN (us := []) (vs := []) F room bn out I1 .nil rz rfl lz q1
end

/-! ### sorted(t), t a tuple of ints -/
section
variable {prog : Program} {w : World} {A : Around} {E : Value → Shared → Prop} {s : Shared}
/-- what a collected row leaves -/
abbrev heapC (h : Heap) (vs : List Value) : Heap := (h.push (seqObj "list" #[] 0)).update h.objs.size (Obj.mapSeq (· ++ vs.toArray))
theorem collect_tup {l : Addr} {vs : List Value} {Q : List Value → Shared → Prop} (tup : s.heap.IsTuple l vs.toArray) (few : vs.length ≤ sizeLine)
    (fin : Q vs { s with heap := heapC s.heap vs }) : wpAny (model prog w) A (collect (.ref l)) Q E s := by
  obtain ⟨ob, at_, ty, n, dt⟩ := id tup
  have fresh : (s.heap.push (seqObj "list" #[] 0)).get? s.heap.objs.size = some (seqObj "list" #[] 0) := Heap.get?_push_size _ rfl
  have old : (s.heap.push (seqObj "list" #[] 0)).get? l = some ob := Heap.get?_push_of_some _ at_
  unfold collect
  refine wpAny_bind (wpAny_runValue (codeAny_builtin entry_proto_collect' ?_))
  show wpAny _ _ (newList [] >>= fun r => again (.builtin "list.__iadd__" ⟨[r, .ref l], []⟩)) _ _ s
  refine wpAny_bind (wpAny_newList ?_)
  refine wpAny_pure ⟨Code.quiet_builtin _ (by decide +kernel), codeAny_builtin entry_list_iadd' ?_⟩
  show wpAny _ _ (Builtin.List.listExtendWith (.ref s.heap.objs.size) (.ref l) (.ref s.heap.objs.size)) _ _ _
  unfold Builtin.List.listExtendWith
  refine wpAny_bind (wpAny_typeOf (T := "tuple") ⟨ob, old, ty⟩ ?_)
  have same : (Value.type "tuple" == Value.type "tuple") = true := beq_self_eq_true _
  rw [if_pos (by rw [same, Bool.or_true])]
  refine wpAny_bind (listItems_at old dt ?_)
  refine wpAny_bind (listItems_at (xs := #[]) (n := 0) fresh rfl ?_)
  rw [if_neg (by simp)]
  refine wpAny_bind (listUpdate_at (xs := #[]) (n := 0) fresh rfl ?_ (Nat.zero_le _) ?_)
  · refine wpAny_pure ?_
    show wpAny _ A (load s.heap.objs.size >>= _) Q E { s with heap := heapC s.heap vs }
    refine wpAny_bind (wpAny_load (get?_update_seq fresh _) ?_)
    refine wpAny_pure ?_
    have e : ((#[] : Array Value) ++ vs.toArray).toList = vs := by simp
    show Q ((#[] : Array Value) ++ vs.toArray).toList _
    rw [e]
    exact fin
  · show (#[] ++ vs.toArray).size ≤ sizeLine + 1
    simp only [Array.size_append, List.size_toArray, List.length_nil]
    omega
open SrtO Srt in
theorem sorted_tupI {l : Addr} {vs : List Value} {ltv : Value → Value → Bool} {Q : Value → Shared → Prop} (ord : Swo ltv) (tup : s.heap.IsTuple l vs.toArray) (few : vs.length ≤ sizeLine)
    (able : 2 ≤ vs.length → ∀ (h1 : Heap) (a : Addr), SortableO prog w A.in1.in1 { s with heap := h1 } a vs ltv)
    (fin : ∀ out : List Value, Srtd ltv out → Stb ltv out vs → Q (.ref (s.heap.objs.size + 1)) { s with heap := sortedAll s.heap vs out.toArray }) :
    wpAny (model prog w) A (call (.builtin "sorted") [.ref l]) Q E s := by
  refine Calls.call_function_entry kind_sorted plain_sorted entry_sorted (args_sorted1 _) ?_
  unfold Builtin.«sorted»
  refine wpAny_bind (m := checkCount "sorted" 1 1 _) (wpAny_pure ?_)
  refine wpAny_bind (collect_tup tup few ?_)
  refine wpAny_bind (wpAny_newList ?_ few)
  have hz : (heapC s.heap vs).objs.size = s.heap.objs.size + 1 := (Heap.size_update ..).trans (size_push' ..)
  have top : ((heapC s.heap vs).push (seqObj "list" vs.toArray 0)).get? (s.heap.objs.size + 1) = some (seqObj "list" vs.toArray 0) := by
    rw [← hz]
    exact Heap.get?_push_size _ rfl
  show wpAny _ _ _ _ _ { s with heap := (heapC s.heap vs).push (seqObj "list" vs.toArray 0) }
  rw [hz]
  refine wpAny_bind (wpAny_holding ?_)
  refine wpAny_call_entry slot_list_sort ⟨_, top, rfl⟩ entry_list_sort ?_ (args_list_sort _)
  refine list_sort_ord ord top few (fun h2 => able h2 _ _) fun out g1 g2 => ⟨_, rfl, ?_⟩
  exact wpAny_pure ⟨_, rfl, fin out g1 g2⟩
end
def rSortTI (K : PySem.W.Frag) : List V → Hp → VK → Prop := fun vs H Q => ∃ (a : Addr) (ns : List Int), vs = [V.ref a] ∧ SqT K H a (ns.map V.int) ∧
  ∀ (ms : List Int) (p : Addr), ms.Perm ns → ms.Pairwise (· ≤ ·) → H p = none → Q (.ref p) (upd H p (.lst (ms.map V.int)))
theorem cr_sortTI {X : Cx} : CallR X (.builtin "sorted") (rSortTI X.K) := by
  intro pins s σ H vs us Q I r q
  obtain ⟨a, ns, rfl, tup, q⟩ := q
  obtain ⟨its, rv, tp, few⟩ := I.tuple tup
  rw [Vals.ref1 r]
  have hI := rv.ints
  refine sorted_tupI SrtO.swo_int (show s.heap.IsTuple a its.toArray from tp) (by rw [← rv.length]; exact few) (fun h2 h1 b => SrtO.ints_sortable hI h2) fun out g1 g2 => ?_
  obtain ⟨k1, k2, k3⟩ := SrtO.ints_out hI g1 g2
  obtain ⟨ep, stands⟩ := PyProof.Rows.sortedAll_at s.heap its out.toArray
  have len : ((out.map SrtO.iv).map V.int).length ≤ sizeLine := by
    rw [List.length_map] at few
    rw [List.length_map, k2.length_eq]
    exact few
  refine ⟨.ref _, upd H (s.heap.objs.size + 1) (.lst ((out.map SrtO.iv).map V.int)), ?_, rfl, q _ _ k2 k3 (I.hok.fresh (Nat.le_succ _))⟩
  exact I.laid (t' := s.toks) (fun _ _ => PyProof.Rows.sortedAll_old) (Nat.le_succ _) ⟨len, out, ep, vals_of_ints k1, stands⟩

/-! ### len(set(t)), t a tuple of unlike ints -/
def tLenSetT (K : PySem.W.Frag) (ta : TE) : TE := fun σ H Q => ta σ H fun x H1 => ∃ (l : Addr) (ns : List Int), x = V.ref l ∧ SqT K H1 l (ns.map V.int) ∧ ns.Nodup ∧ ns.length ≤ 1000 ∧ Q (.int (ns.length : Nat)) H1
theorem pe_lenSetT {X : Cx} {a : Expr} {ta : TE} {p p2 q pos : Pos} (g1 : Gl X "len") (m1 : X.mg "len" = none) (g2 : Gl X "set") (m2 : X.mg "set" = none) (ha : PE X a ta) (calm : X.calm = true := by rfl)
    (st : starEach [a] X.env = (false, eval a X.env) :: starEach [] X.env := by rfl) : PE X (.Call (.Name "len" p) [.Call (.Name "set" p2) [a] [] q] [] pos) (tLenSetT X.K ta) := by
  refine ⟨fun pins s σ H Q I h => ?_⟩
  have step := ha.run pins s σ H _ I h
  refine Call_ (ld_blt I g1 m1 boot_len (PyProof.Rows.callWith_builtin1 (PyProof.Rows.args_cons ?_ rfl) rfl rfl))
  refine Call_ (ld_blt I g2 m2 boot_set (PyProof.Rows.callWith_type1 (PyProof.Rows.args_cons (thn step fun v s1 ⟨x, H1, I1, r1, q1⟩ => PyProof.Rows.args_nil ?_) st) st rfl))
  obtain ⟨l, ns, rfl, tup, nd, few, q1⟩ := q1
  cases r1
  obtain ⟨its, rv, tp, _⟩ := I1.tuple tup
  have hI : IntsAre its.toArray.toList ns := ints_of_vals rv
  refine call_set_tupI ns (I1.ok.hd calm) (show s1.heap.IsTuple l its.toArray from tp) hI (by unfold scanBound; omega) fun h' tk c R1 cle kept => ?_
  refine PyProof.Rows.args_nil ?_
  obtain ⟨o, es, ep, t, ho, hex, hd, ge, nde, mem, room, fit, cn, _, _⟩ := R1
  have pm : (es.toList.map keyOf).Perm ns := (List.perm_ext_iff_of_nodup nde nd).mpr fun k => by
    rw [← mem k, decide_eq_true_iff]
  have sz : es.size = ns.length := by
    have z := pm.length_eq
    rw [List.length_map, Array.length_toList] at z
    exact z
  have I2 : Inv X pins σ H1 { s1 with heap := h', toks := tk } := I1.kept kept
  refine call_len_set ho hex hd fit (by omega) ?_
  exact ⟨.int ns.length, H1, I2.tok _, ⟨_, by rw [sz]⟩, q1⟩

/-! ### repr(t), t a tuple of small ints -/
/-- the text of a row of ints -/
def rowText (ns : List Int) : Str := (PyData.tuple (ns.map PyData.int)).shown
def rReprTI (K : PySem.W.Frag) : List V → Hp → VK → Prop := fun vs H Q => ∃ (p : Addr) (ns : List Int), vs = [V.ref p] ∧ SqT K H p (ns.map V.int) ∧ (rowText ns).length ≤ sizeLine ∧ (∀ n ∈ ns, n.natAbs < 1000) ∧ Q (.str (rowText ns)) H
theorem dpAll_ints {K : PySem.W.Frag} {H : Hp} : ∀ ns : List Int, DpAll K H (ns.map V.int) (ns.map PyData.int)
  | [] => .nil
  | n :: r => .cons (.int n) (dpAll_ints r)
theorem showAll_ints : ∀ ns : List Int, (∀ n ∈ ns, n.natAbs < 1000) → PyData.showableAll (ns.map PyData.int) = true
  | [], _ => rfl
  | n :: r, h => by
    show (decide (n.natAbs.log2 < 1920) && PyData.showableAll (r.map PyData.int)) = true
    rw [showAll_ints r fun m hm => h m (List.mem_cons_of_mem _ hm), Bool.and_true]
    refine decide_eq_true (Nat.lt_of_le_of_lt (Nat.log2_le_self _) ?_)
    have := h n List.mem_cons_self
    omega
theorem noDict_ints : ∀ ns : List Int, PyData.hasDictAll (ns.map PyData.int) = false
  | [] => rfl
  | n :: r => by
    show (false || PyData.hasDictAll (r.map PyData.int)) = false
    rw [noDict_ints r] <;> rfl
theorem depth_ints : ∀ ns : List Int, PyData.depthAll (ns.map PyData.int) = 0
  | [] => by rw [List.map_nil]; unfold PyData.depthAll; rfl
  | n :: r => by
    rw [List.map_cons]
    unfold PyData.depthAll
    rw [depth_ints r]
    unfold PyData.depth
    rfl
theorem cr_reprTI {X : Cx} (guard : X.A.guards = some []) (room : X.A.units + 8 < cLine) : CallR X (.builtin "repr") (rReprTI X.K) := by
  intro pins s σ H vs us Q I r q
  obtain ⟨p, ns, rfl, tup, size, small, q⟩ := q
  rw [Vals.ref1 r]
  obtain ⟨as, rd⟩ := Dp.reads I (.tuple (ns.map PyData.int)) (.ref p) (.ref p) (.tup tup (dpAll_ints ns)) rfl
  refine repr_of_reads' rd (by show PyData.showableAll _ = true; exact showAll_ints ns small) (fun z => ?_) guard ?_ (fun _ _ z => z) (fun h' u tk kept => ?_) size
  · have : (PyData.tuple (ns.map PyData.int)).hasDict = false := noDict_ints ns
    rw [this] at z
    cases z
  · have e : (PyData.tuple (ns.map PyData.int)).depth ≤ 1 := by
      unfold PyData.depth
      rw [depth_ints]
      exact Nat.le_refl _
    omega
  · exact ⟨.str (rowText ns), H, I.kept (t' := tk) kept, ⟨u, rfl⟩, q⟩
end K19
end
section
/-! A def that is entered where no guard stands (the law's own def), and the end of the row over it. -/
namespace K19
open PySem PySem.Spec PyProof.Rows L2

/-- a def's promise where no container is being shown around it -/
structure FnG (P : Program) (w : World) (K : PySem.W.Frag) (mg : Str → Option Value) (base : Heap) (k : Nat) (f : Addr) (fd : FuncData) (ps : List Str) (sp : Sp) : Prop where
  go : ∀ (A : Around) (outer : List Env) (s : Shared) (H : Hp) (args : Args) (us : List Value) (vs : List V) (Q : VK), A.guards = some [] → Room k A → Env0 P w K mg base A outer s H →
    BindsTo s fd args (ps.zip us) → Vals vs us → sp vs H Q E0 → codeAny (model P w) A (.call (.ref f) args) (CR CX0 outer P w H s Q E0) s

section
variable {P : Program} {w : World} {K : PySem.W.Frag} {mg : Str → Option Value} {base : Heap}
theorem fn_go {x qual : Str} {st : Stmt} {f : Addr} {fd : FuncData} {N ps : List Str} {k : Nat} {sp : Sp} (F : Fun K x qual st f fd) (S : FnScope N ps (defScope st)) (len : ∀ vs H Q E, sp vs H Q E → vs.length = ps.length)
    (walk : ∀ (cdv : Value) (A : Around) (outer : List Env) (s : Shared) (H : Hp) (vs : List V) (Q : VK), A.guards = some [] → Room k (A.deeper (envOfC qual (defScope st) s.heap.objs.size f cdv)) → sp vs H Q E0 →
      ∃ t, PSs (cxOf CX0 P w K mg base N qual (defScope st) f cdv A outer s H E0).nox (defBody st) t ∧ t { nx := fun _ H' => Q .non H', rt := Q } (start N vs) H) : FnG P w K mg base (k + 1) f fd ps sp := by
  obtain ⟨oc, od, kV, doc, pm, an, cdv, ct, osl, rfl, stands, code⟩ := F.ex
  refine ⟨fun A outer s H args us vs Q gd room e0 binds rel q => ?_⟩
  have whole : ∀ b o, base.get? b = some o → s.heap.get? b = some o := fun b o e => (e0.bs b o e).1
  have KX : K.In s.heap := e0.mod.kin.keeps whole
  have kinds : ∀ y ∈ ps.zip us, (defScope st).names.lookup y.1 = some .local ∨ ((defScope st).names.lookup y.1 = some .cell ∧ ((cellsFrom (s.heap.objs.size + 1) (defScope st).names []).lookup y.1).isSome = true) := by
    rintro ⟨n, v⟩ hy
    have hn := (List.of_mem_zip hy).1
    exact (S.par n hn).imp id fun c => ⟨c, PySem.W.cellsFrom_some _ _ _ (.inl c)⟩
  have enter := codeAny_call_function (prog := P) (w := w) (A := A) (R := CR CX0 outer P w H s Q E0) room.depth (KX _ _ stands) rfl S.co S.gen rfl (PySem.W.codeRec_of KX code) (args := args)
  refine enter (binds _ _ _ _ (wpAny_newFunctionEnv_cells S.kind kinds fun env he s1 inn => ?_))
  subst he
  refine ⟨(e0.mod.nolimit.keeps whole).keeps inn.toInCall.keep, codeAny_func ?_⟩
  obtain ⟨t, rule, read⟩ := walk cdv A outer s H vs Q gd (room.deeper _) q
  have I := inv_start (CX := CX0) (qual := qual) (cd := cdv) (E := E0) (f := f) S room.hd e0 (len _ _ _ _ q) rel inn
  refine wpAny_mono ((PSs.nox rule).run [] s1 (start N vs) H _ I read) (fun fl s2 hs => ?_) fun e s2 hs => hs
  cases fl with
  | ret u =>
    obtain ⟨v, σ2, H2, J, rv, qv⟩ := hs
    exact ⟨v, H2, J.os, J.bare, J.base, J.hok, rv, qv⟩
  | next =>
    obtain ⟨σ2, H2, J, qv⟩ := hs
    exact ⟨V.non, H2, J.os, J.bare, J.base, J.hok, rfl, qv⟩
  | brk => exact False.elim (hs.elim fun _ z => z.elim fun _ z => z.2)
  | cont => exact False.elim (hs.elim fun _ z => z.elim fun _ z => z.2)

/-- the law's def from the caller's place: the script alone is tracked -/
theorem law_go {mb : Str → Option Value} {k : Nat} {fa a : Addr} {fd : FuncData} {x : Str} {sp : Sp} {s1 : Shared} {vs : List Value} {ns : List Int}
    (KX : K.In s1.heap) (gl : s1.heap.Ns mainGlobals mg) (bl : s1.heap.Ns builtinsNs mb) (bb : ∀ x : Str, x ≠ "__name__" → mb x = bootBuiltins x) (lim : s1.heap.NoLimit) (gens : s1.gens = #[])
    (ob : s1.heap.get? a = some { cls := .type "list", data := .seq vs.toArray }) (hI : IntsAre vs ns) (few : ns.length ≤ sizeLine) (room : Room k callerA)
    (F : ∀ b : Heap, K.In b → b.Ns mainGlobals mg → FnG P w K mg b k fa fd [x] sp) (binds : ∀ (s : Shared) (u : Value), BindsTo s fd ⟨[u], []⟩ [(x, u)])
    (say : ∀ H : Hp, SqL K H a (ns.map V.int) → sp [.ref a] H (fun v _ => v = .bl true) E0) :
    codeAny (model P w) callerA (.call (.ref fa) ⟨[.ref a], []⟩) (fun r s' => r = .ok (.ret (.bool true)) ∧ OldK s1.heap s'.heap ∧ s'.os = s1.os ∧ AllBare s'.gens) s1 := by
  have rel : Vals (ns.map V.int) vs := vals_ints hI
  have lenI : ns.length = vs.length := by
    have z := rel.length
    rw [List.length_map] at z
    exact z
  -- the two ways the script may stand: an own object of the module, or a list that is handed in
  have both : ∃ H : Hp, SqL K H a (ns.map V.int) ∧ HOk P w H s1.heap ∧ (∀ b u, H b = some u → b = a ∧ K.lookup a = none ∧ u = .frz { cls := .type "list", data := .seq vs.toArray } (.lst (ns.map V.int))) := by
    cases own : K.lookup a with
    | some o =>
      obtain rfl : o = { cls := .type "list", data := .seq vs.toArray } := Option.some.inj ((KX a o own).symm.trans ob)
      refine ⟨fun _ => none, .inr ⟨_, vs.toArray, _, own, rfl, rfl, rfl, ?_, by simpa using rel⟩, (fun b u z => by have y : (none : Option HO) = some u := z; cases y), fun b u z => by have y : (none : Option HO) = some u := z; cases y⟩
      rw [List.size_toArray, ← lenI]
      exact few
    | none =>
      refine ⟨fun b => if b = a then some (.frz { cls := .type "list", data := .seq vs.toArray } (.lst (ns.map V.int))) else none, .inl (.inr ⟨_, if_pos rfl⟩), fun b u z => ?_, fun b u z => ?_⟩
      · dsimp only at z
        split at z
        · rename_i e
          subst e
          cases z
          exact ⟨ob, by rw [List.length_map]; exact few, vs, _, rel, ob⟩
        · cases z
      · dsimp only at z
        split at z
        · rename_i e
          exact ⟨e, rfl, (Option.some.inj z).symm⟩
        · cases z
  obtain ⟨H, seq, hok, only⟩ := both
  have bare : ∀ {b : Addr} {o : Obj}, s1.heap.get? b = some o → (∀ n, o.data ≠ .seq vs.toArray n) → H b = none := fun {b o} e d => by
    cases z : H b with
    | none => rfl
    | some u =>
      have eb := (only b u z).1
      rw [eb, ob] at e
      cases e
      exact absurd rfl (d _)
  have ns_of : ∀ {b : Addr} {m : Str → Option Value}, s1.heap.Ns b m → (hidT s1.heap H).Ns b m := by
    rintro b m ⟨o, es, ep, e, d, r⟩
    exact ⟨o, es, ep, hidT_get e (bare e fun n z => by rw [d] at z; cases z), d, r⟩
  have KB : K.In (hidT s1.heap H) := fun b o e => hidT_get (KX b o e) (by
    cases z : H b with
    | none => rfl
    | some u =>
      obtain ⟨eb, en, _⟩ := only b u z
      rw [eb, en] at e
      cases e)
  obtain ⟨mc, l1, l2⟩ := lim
  have e0 : Env0 P w K mg (hidT s1.heap H) callerA [] s1 H :=
    ⟨rfl, ⟨KB, ns_of gl, ⟨mb, ns_of bl, bb⟩, mc, ns_of l1, l2⟩, fun b o e => of_hidT e, Nat.le_of_eq (hidT_size _ _), trivial, (fun b z => nomatch z), hok, .of_eq gens⟩
  refine codeAny_mono ((F _ KB (ns_of gl)).go callerA [] s1 H ⟨[.ref a], []⟩ [.ref a] [.ref a] _ rfl room e0 (binds s1 (.ref a)) (.cons rfl .nil) (say H seq)) fun r s2 q => ?_
  match r, q with
  | .error e, q => exact q.elim
  | .ok .next, q => exact q.elim
  | .ok .brk, q => exact q.elim
  | .ok .cont, q => exact q.elim
  | .ok (.ret u), q =>
    obtain ⟨v, H2, os, gb, un, hok2, ru, qv⟩ := q
    obtain rfl : v = .bl true := qv
    obtain rfl : u = Value.bool true := ru
    refine ⟨rfl, OldK.of_keep fun b o e => ?_, os, gb⟩
    cases z : H b with
    | none => exact un.keep b o e z (by intro m; cases m) (by intro m; cases m)
    | some u =>
      obtain ⟨eb, _, eu⟩ := only b u z
      rw [eu] at z
      have g2 := (hok2 b _ (un.frzs b _ _ z)).1
      rw [eb, ob] at e
      cases e
      exact g2
end
/-- the goal behind the head -/
theorem walk_go {l : PySem.W.OpenLaw} {n k : Nat} {q : Program} {loose : List Str} {XP : (Str → Option Value) → Heap → Prop} {YP : World → Heap → Prop} {d : DefRec} {K : Params → PySem.W.Frag} {sp : PySem.W.Frag → Sp} {x : Str}
    (most : l.most = some n) (fits : n ≤ sizeLine) (nodf : d.params.defaults = []) (room : Room k callerA) (written : ∀ (w : World) (h : Heap), YP w h → (K w.params).In h)
    (F : ∀ (w : World) (mg : Str → Option Value) (fa : Addr) (h : Heap), (K w.params).In h → h.Ns mainGlobals mg → mg d.name = some (.ref fa) →
      ∃ fd : FuncData, (∀ (s : Shared) (u : Value), BindsTo s fd ⟨[u], []⟩ [(x, u)]) ∧ ∀ b : Heap, (K w.params).In b → b.Ns mainGlobals mg → FnG l.prog w (K w.params) mg b k fa fd [x] (sp (K w.params)))
    (say : ∀ (K : PySem.W.Frag) (H : Hp) (a : Addr) (ns : List Int), ns.length ≤ n → SqL K H a (ns.map V.int) → sp K [.ref a] H (fun v _ => v = .bl true) E0) :
    PySem.W.WalkO q loose XP YP l.row.toRowW d [] (fun f vs => PySem.call f vs) := by
  refine Att.attach_call most nodf fun w s0 s1 mg mb fa o pm cd doc a vs ns G Y ho hd hcd hmg ob hI len gens => ?_
  obtain ⟨fd, binds, FG⟩ := F w mg fa _ (written w _ Y) G.T.g hmg
  exact law_go (written w _ Y) G.T.g G.T.b G.T.builtins G.T.nolimit gens ob hI (Nat.le_trans len fits) room FG binds fun H seq => say (K w.params) H a ns len seq
end K19
end
section
/-! Tables of up to 512 slots: each slot is met, a free one is found, a table is laid anew. No row twice: all hashes differ. -/
namespace K19
open PySem PySem.Spec PyProof.Rows L2

/-! ### i -> 5 i + 1 goes round -/
def orb : Nat → Nat → List Nat
  | 0, _ => []
  | n + 1, x => x :: orb n ((x * 5 + 1) % 512)
theorem orb_mem : ∀ (n a : Nat) (x : Nat), x ∈ orb n (lcgN 511 a) → ∃ b, b < a + n ∧ lcgN 511 b = x
  | 0, _, _, h => nomatch h
  | n + 1, a, x, h => by
    rcases List.mem_cons.mp h with e | h
    · exact ⟨a, by omega, e.symm⟩
    · obtain ⟨b, hb, e⟩ := orb_mem n (a + 1) x h
      exact ⟨b, by omega, e⟩
def allIn (l : List Nat) : Nat → Bool
  | 0 => true
  | n + 1 => l.contains n && allIn l n
theorem allIn_mem {l : List Nat} : ∀ {n j : Nat}, allIn l n = true → j < n → j ∈ l
  | n + 1, j, h, hj => by
    obtain ⟨h1, h2⟩ := (Bool.and_eq_true ..).mp h
    by_cases c : j = n
    · subst c
      simpa using h1
    · exact allIn_mem h2 (by omega)
theorem orb_all : allIn (orb 512 0) 512 = true := by decide +kernel
theorem back511 : lcgN 511 512 = 0 := by decide +kernel
theorem turn511 : ∀ k, lcgN 511 (512 + k) = lcgN 511 k
  | 0 => back511
  | k + 1 => by
    show (lcgN 511 (512 + k) * 5 + 1) % 512 = (lcgN 511 k * 5 + 1) % 512
    rw [turn511 k]
/-- from each slot's start each slot's start is reached -/
def Cyc (m : Nat) : Prop := ∀ i j : Nat, i ≤ m → j ≤ m → ∃ k, k ≤ m ∧ lcgI m i k = j
theorem cyc511 : Cyc 511 := by
  intro i j hi hj
  obtain ⟨a, ha, ea⟩ := orb_mem 512 0 i (allIn_mem orb_all (by omega))
  obtain ⟨b, hb, eb⟩ := orb_mem 512 0 j (allIn_mem orb_all (by omega))
  subst ea eb
  by_cases c : a ≤ b
  · refine ⟨b - a, by omega, ?_⟩
    rw [lcgN_add]
    exact congrArg (lcgN 511) (by omega)
  · refine ⟨b + 512 - a, by omega, ?_⟩
    rw [lcgN_add, show a + (b + 512 - a) = 512 + b by omega]
    exact turn511 b
/-- the masks of a table that grows to 276 rows -/
def Msk (m : Nat) : Prop := m = 7 ∨ m = 31 ∨ m = 127 ∨ m = 511
theorem Msk.cyc {m : Nat} (h : Msk m) : Cyc m := by
  rcases h with rfl | rfl | rfl | rfl
  · exact fun i j hi hj => lcgI_all (.inl rfl) hi hj
  · exact fun i j hi hj => lcgI_all (.inr (.inl rfl)) hi hj
  · exact fun i j hi hj => lcgI_all (.inr (.inr rfl)) hi hj
  · exact cyc511
theorem Msk.le {m : Nat} (h : Msk m) : m ≤ 511 := by
  unfold Msk at h
  omega
/-- each slot begins a run, soon -/
theorem run_at {m : Nat} (c : Cyc m) (h : Int) {j : Nat} (hj : j ≤ m) : ∃ n, n < m + 13 ∧ runI m (SetTable.bits h) n = j := by
  obtain ⟨k, hk, e⟩ := c (runI m (SetTable.bits h) 12) j (runI_le ..) hj
  refine ⟨12 + k, by omega, ?_⟩
  rw [runI_tail (bits_lt h), e]
theorem way_at {m : Nat} (c : Cyc m) (h : Int) {j : Nat} (hj : j ≤ m) : ∃ k, k < 10 * SetTable.turns m ∧ way m h k = j := by
  obtain ⟨n, hn, e⟩ := run_at c h hj
  obtain ⟨k, hk, q⟩ := run_nth m (SetTable.bits h) n
  refine ⟨k, ?_, ?_⟩
  · unfold SetTable.turns
    omega
  · unfold way
    rw [q]
    exact e
theorem way_in (m : Nat) (h : Int) (k : Nat) : way m h k ≤ m := by
  have b : SetTable.bits h % (m + 1) < m + 1 := Nat.mod_lt _ (Nat.succ_pos _)
  obtain ⟨r1, r2, _⟩ := runEnd_bd (m := m) (i := SetTable.bits h % (m + 1)) (by omega)
  have q := nth_in (m := m) k (runAt m (SetTable.bits h % (m + 1)) (SetTable.bits h)) (by
    unfold runAt
    dsimp only
    omega)
  unfold way
  omega
/-- the first slot of the way that is not taken -/
theorem first_free {m : Nat} (c : Cyc m) (h : Int) (taken : List Nat) (few : taken.length ≤ m) :
    ∃ K, K < 10 * SetTable.turns m ∧ way m h K ∉ taken ∧ ∀ k, k < K → way m h k ∈ taken := by
  obtain ⟨j, hj, out⟩ := st_missing taken (m + 1) (by omega)
  obtain ⟨k0, lt0, e0⟩ := way_at c h (j := j) (by omega)
  obtain ⟨K, le, no, low⟩ := st_least (p := fun k => way m h k ∉ taken) k0 (by rw [e0]; exact out)
  exact ⟨K, by omega, no, fun k hk => Classical.byContradiction fun z => low k hk z⟩

/-! ### laid anew -/
/-- n rows sit in a table, each at one slot -/
structure Seat (m n : Nat) (ow : Array (Option Nat)) : Prop where
  sz : ow.size = m + 1
  few : ∃ js : List Nat, js.length = n ∧ ∀ j k, j ≤ m → oAt ow j = some k → j ∈ js
  all : ∀ k, k < n → ∃ j, j ≤ m ∧ oAt ow j = some k
theorem seat_free {m n : Nat} (c : Cyc m) {ow : Array (Option Nat)} (S : Seat m n ow) (lt : n ≤ m) (h : Int) :
    ∃ j, SetTable.layClean.free m ow (SetTable.turns m) (SetTable.bits h % (m + 1)) (SetTable.bits h) = some j ∧ j ≤ m ∧ oAt ow j = none := by
  obtain ⟨js, ljs, inj⟩ := S.few
  obtain ⟨j0, h0, n0⟩ := st_missing js (m + 1) (by omega)
  have f0 : oAt ow j0 = none := by
    cases z : oAt ow j0 with
    | none => rfl
    | some k => exact absurd (inj j0 k (by omega) z) n0
  obtain ⟨n1, hn1, e1⟩ := run_at c h (j := j0) (by omega)
  have at0 : (nth m (runAt m (SetTable.bits h % (m + 1)) (SetTable.bits h)) (off m (SetTable.bits h % (m + 1)) (SetTable.bits h) n1)).j = j0 := by
    rw [nth_off, itL_run]
    exact e1
  obtain ⟨K, le, free, low⟩ := st_least (p := fun k => oAt ow (way m h k) = none) _ (show oAt ow (way m h (off m (SetTable.bits h % (m + 1)) (SetTable.bits h) n1)) = none by
    unfold way
    rw [at0]
    exact f0)
  refine ⟨way m h K, ?_, way_in m h K, free⟩
  refine free_spec m ow (SetTable.turns m) n1 _ _ K (by unfold SetTable.turns; omega) le (fun k hk => ?_) ?_
  · have z := low k hk
    rw [Option.isNone_eq_false_iff, Option.isSome_iff_ne_none]
    exact z
  · rw [Option.isNone_iff_eq_none]
    exact free
theorem seat_step {m n : Nat} (c : Cyc m) {ow : Array (Option Nat)} (S : Seat m n ow) (lt : n ≤ m) (h : Int) :
    ∃ ow2, stepF m (some (ow, n)) h = some (ow2, n + 1) ∧ Seat m (n + 1) ow2 := by
  obtain ⟨j, e, jm, fr⟩ := seat_free c S lt h
  obtain ⟨js, ljs, inj⟩ := S.few
  have js1 : j < ow.size := by rw [S.sz]; omega
  have self := oAt_set_self (some n) js1
  refine ⟨_, stepF_some e, by rw [Array.size_setIfInBounds]; exact S.sz, ⟨j :: js, by rw [List.length_cons, ljs], fun i k hi z => ?_⟩, fun k hk => ?_⟩
  · by_cases q : i = j
    · rw [q]
      exact List.mem_cons_self
    · rw [oAt_set_ne _ q] at z
      exact List.mem_cons_of_mem _ (inj i k hi z)
  · by_cases q : k = n
    · exact ⟨j, jm, by rw [q]; exact self⟩
    · obtain ⟨i, hi, z⟩ := S.all k (by omega)
      have ne : i ≠ j := fun w => by
        rw [w, fr] at z
        cases z
      exact ⟨i, hi, by rw [oAt_set_ne _ ne]; exact z⟩
theorem seat_fold {m : Nat} (c : Cyc m) : ∀ (hs : List Int) (n : Nat) (ow : Array (Option Nat)), Seat m n ow → n + hs.length ≤ m →
    ∃ ow2, hs.foldl (stepF m) (some (ow, n)) = some (ow2, n + hs.length) ∧ Seat m (n + hs.length) ow2
  | [], n, ow, S, _ => ⟨ow, rfl, S⟩
  | h :: r, n, ow, S, le => by
    rw [List.length_cons] at le
    obtain ⟨ow1, e1, S1⟩ := seat_step c S (by omega) h
    obtain ⟨ow2, e2, S2⟩ := seat_fold c r (n + 1) ow1 S1 (by omega)
    have en : n + 1 + r.length = n + (h :: r).length := by rw [List.length_cons]; omega
    rw [en] at e2 S2
    exact ⟨ow2, by rw [List.foldl_cons, e1]; exact e2, S2⟩
theorem seat_all {m : Nat} (c : Cyc m) {hs : Array Int} (le : hs.size ≤ m) : ∃ ow, SetTable.layClean m hs = some ow ∧ Seat m hs.size ow := by
  have S0 : Seat m 0 (Array.replicate (m + 1) none) := ⟨by simp, ⟨[], rfl, fun j k hj z => by rw [oAt_init hj] at z; cases z⟩, fun k hk => by omega⟩
  obtain ⟨ow, e, S⟩ := seat_fold c hs.toList 0 _ S0 (by rw [Array.length_toList]; omega)
  rw [Array.length_toList, Nat.zero_add] at e S
  exact ⟨ow, by rw [layClean_eq, e]; rfl, S⟩
/-- what the new table is -/
theorem relay_tab (t : SetTable) {hs : Array Int} {wanted m : Nat} (hw : SetTable.sizeAbove wanted - 1 = m) (c : Cyc m) (le : hs.size ≤ m) :
    ∃ t2 ord, t.relaid hs wanted = some (t2, ord) ∧ ord.toList.Perm (List.range hs.size) ∧ Ris t2.place.toList ∧ t2.place.size = hs.size ∧ t2.dummies = #[] ∧ t2.mask = m ∧ t2.plain = t.plain ∧ ∀ x ∈ t2.place.toList, x ≤ m := by
  obtain ⟨ow, e, S⟩ := seat_all c le
  obtain ⟨js, ljs, inj⟩ := S.few
  have up := ris_live (fun j => ow.getD j none) (List.range (m + 1)) (by unfold Ris; exact List.pairwise_lt_range)
  have u1 : Ris ((liveOf m ow).map (·.1)) := up.1
  have u2 : ∀ x ∈ (liveOf m ow).map (·.1), x ∈ List.range (m + 1) := up.2
  have sit : ∀ {j k : Nat}, (j, k) ∈ liveOf m ow ↔ j ≤ m ∧ oAt ow j = some k := mem_live S.sz
  have ge : hs.size ≤ (liveOf m ow).length := by
    have z := nat_nodup_len (List.range hs.size) ((liveOf m ow).map (·.2)) List.nodup_range fun k hk => by
      obtain ⟨j, hj, q⟩ := S.all k (List.mem_range.mp hk)
      exact List.mem_map.mpr ⟨(j, k), sit.mpr ⟨hj, q⟩, rfl⟩
    rw [List.length_range, List.length_map] at z
    exact z
  have le2 : (liveOf m ow).length ≤ hs.size := by
    have nd : ((liveOf m ow).map (·.1)).Nodup := List.Pairwise.imp (fun h => Nat.ne_of_lt h) u1
    have z := nat_nodup_len ((liveOf m ow).map (·.1)) js nd fun x hx => by
      obtain ⟨⟨j, k⟩, hq, rfl⟩ := List.mem_map.mp hx
      exact inj j k (sit.mp hq).1 (sit.mp hq).2
    rw [List.length_map, ljs] at z
    exact z
  refine ⟨tabOf t m ow, ((liveOf m ow).map (·.2)).toArray, by rw [relaid_eq, hw, e]; rfl, ?_, u1, ?_, rfl, rfl, rfl, fun x hx => ?_⟩
  · refine perm_range hs.size _ (by show ((liveOf m ow).map (·.2)).length = hs.size; rw [List.length_map]; omega) fun k hk => ?_
    obtain ⟨j, hj, q⟩ := S.all k hk
    exact List.mem_map.mpr ⟨(j, k), sit.mpr ⟨hj, q⟩, rfl⟩
  · show ((liveOf m ow).map (·.1)).toArray.size = hs.size
    rw [List.size_toArray, List.length_map]
    omega
  · have z := List.mem_range.mp (u2 x hx)
    omega
end K19
end
section
/-! The hashes of the pairs below 24 all differ. -/
namespace K19
open PySem PySem.Spec PyProof.Rows L2
def pairs24 : List (Nat × Nat) := (List.range 24).flatMap fun j => (List.range j).map fun i => (i, j)
def pairHash (i j : Int) : Int := reduceHash (Builtin.Tuple.tupleHashOf [hashInt i, hashInt j])
theorem thash_pair (P : Program) (w : World) (i j : Int) : thash P w [i, j] = pairHash i j := rfl
def resid (p : Nat × Nat) : Nat := (pairHash (p.1 : Int) (p.2 : Int) % 1530).toNat
def resids : List Nat := [1050, 1262, 833, 1061, 1240, 1242, 606, 844, 846, 1093, 210, 389, 645, 638, 894, 617, 1523, 1052, 437, 1301, 9, 221, 400, 402, 649, 905, 1084, 469,
  1296, 1475, 201, 448, 450, 629, 876, 1132, 900, 1079, 1081, 1328, 54, 233, 480, 482, 729, 1307, 624, 212, 1127, 461, 1308, 25, 281, 528, 530, 852,
  1090, 1092, 1339, 6, 244, 1159, 493, 1408, 937, 313, 456, 635, 891, 1138, 1140, 1319, 36, 292, 539, 541, 720, 976, 1, 239, 436, 683, 685, 923, 1170,
  1367, 84, 86, 324, 521, 768, 1135, 1314, 902, 287, 1151, 468, 715, 971, 1218, 1220, 1399, 125, 372, 619, 12, 191, 447, 694, 696, 875, 514, 1378, 763,
  1019, 1198, 532, 1447, 164, 352, 1146, 1325, 51, 44, 300, 479, 726, 982, 367, 1231, 1410, 136, 383, 1298, 564, 1479, 691, 870, 1126, 1373, 1375, 278,
  271, 527, 774, 776, 1209, 1211, 1458, 843, 363, 610, 612, 490, 474, 1338, 977, 252, 1158, 1405, 72, 378, 575, 559, 756, 1003, 1309, 1243, 1490, 157,
  404, 702, 881, 1137, 522, 1386, 35, 1204, 538, 1453, 1455, 358, 1222, 607, 854, 1042, 1289, 1291, 8, 196, 247, 485, 682, 929, 1185, 1364, 1416, 83,
  998, 586, 765, 767, 152, 399, 1449, 834, 168, 1083, 603, 1518, 1381, 30, 286, 533, 535, 714, 961, 1217, 1464, 1466, 115, 371, 618, 3, 1053, 1046,
  1302, 687, 207, 454, 1369, 1180, 1359, 693, 78, 334, 513, 760, 762, 1009, 1265, 1444, 1446, 163, 410, 598, 845, 847, 1094, 1282, 1529, 914, 248, 1392,
  41, 297, 1212, 741, 725, 110, 366, 613, 810, 1048, 382, 1297, 14, 202, 449, 451, 698, 886, 1133, 1380, 1382, 31]
theorem resids_eq : pairs24.map resid = resids := by decide +kernel
theorem resids_nd : resids.Nodup := by decide +kernel
theorem inj_of_nd {α β : Type} {f : α → β} : ∀ {l : List α}, (l.map f).Nodup → ∀ a ∈ l, ∀ b ∈ l, f a = f b → a = b
  | x :: r, h, a, ha, b, hb, e => by
    rw [List.map_cons] at h
    obtain ⟨h1, h2⟩ := List.nodup_cons.mp h
    rcases List.mem_cons.mp ha with ea | ma <;> rcases List.mem_cons.mp hb with eb | mb
    · rw [ea, eb]
    · exact absurd (List.mem_map.mpr ⟨b, mb, by rw [← e, ea]⟩) h1
    · exact absurd (List.mem_map.mpr ⟨a, ma, by rw [e, eb]⟩) h1
    · exact inj_of_nd h2 a ma b mb e
theorem mem_pairs24 {i j : Nat} (h1 : i < j) (h2 : j < 24) : (i, j) ∈ pairs24 := by
  unfold pairs24
  exact List.mem_flatMap.mpr ⟨j, List.mem_range.mpr h2, List.mem_map.mpr ⟨i, List.mem_range.mpr h1, rfl⟩⟩
/-- unlike pairs, unlike hashes -/
theorem pairHash_inj {i j k l : Int} (hi : 0 ≤ i) (hij : i < j) (hj : j < 24) (hk : 0 ≤ k) (hkl : k < l) (hl : l < 24) (e : pairHash i j = pairHash k l) : i = k ∧ j = l := by
  obtain ⟨a, rfl⟩ : ∃ a : Nat, i = (a : Int) := ⟨i.toNat, by omega⟩
  obtain ⟨b, rfl⟩ : ∃ b : Nat, j = (b : Int) := ⟨j.toNat, by omega⟩
  obtain ⟨c, rfl⟩ : ∃ c : Nat, k = (c : Int) := ⟨k.toNat, by omega⟩
  obtain ⟨d, rfl⟩ : ∃ d : Nat, l = (d : Int) := ⟨l.toNat, by omega⟩
  have nd : (pairs24.map resid).Nodup := by
    rw [resids_eq]
    exact resids_nd
  have q := inj_of_nd nd (a, b) (mem_pairs24 (by omega) (by omega)) (c, d) (mem_pairs24 (by omega) (by omega)) (by
    unfold resid
    dsimp only
    rw [e])
  cases q
  exact ⟨rfl, rfl⟩
end K19
end
section
/-! set(xs) of a list of tuples whose hashes all differ; len(set(xs)). -/
namespace K19
open PySem PySem.Spec PyProof.Rows L2

section
variable {P : Program} {w : World} {A : Around} {E : Value → Shared → Prop} {s : Shared}
/-- the set at a holds the rows L, one each -/
structure PSet (P : Program) (w : World) (h : Heap) (a : Addr) (L : List (Addr × List Int)) (es : Array (Int × Value)) (ep : Nat) (t : SetTable) : Prop where
  ob : ∃ o, h.get? a = some o ∧ o.ExactSet ∧ o.data = .set es ep t
  rows : es.toList = rowsOf P w L
  ris : Ris t.place.toList
  dm : t.dummies = #[]
  sz : t.place.size = L.length
  msk : Msk t.mask
  bd : ∀ x ∈ t.place.toList, x ≤ t.mask
  plain : t.plain = true
  room : L.length * 5 < t.mask * 3
variable {a : Addr} {L : List (Addr × List Int)} {es : Array (Int × Value)} {ep : Nat} {t : SetTable}
theorem rows_size (e : es.toList = rowsOf P w L) : es.size = L.length := by
  rw [← Array.length_toList, e]
  unfold rowsOf
  exact List.length_map ..
theorem fits_of (dm : t.dummies = #[]) {n : Nat} (sz : t.place.size = n) (le : n ≤ t.mask) : t.fits n = true := by
  unfold SetTable.fits SetTable.fill
  rw [dm, sz]
  simp only [beq_self_eq_true, Bool.true_and, decide_eq_true_eq]
  exact le
theorem PSet.fit (R : PSet P w s.heap a L es ep t) : t.fits es.size = true :=
  fits_of R.dm (R.sz.trans (rows_size R.rows).symm) (by rw [rows_size R.rows]; have := R.room; omega)
theorem Msk.odd {m : Nat} (h : Msk m) : m % 2 = 1 := by
  rcases h with rfl | rfl | rfl | rfl <;> rfl
/-- a new row is not met, its slot is free -/
theorem pset_search (R : PSet P w s.heap a L es ep t) {x : Value} {h : Int} (new : ∀ p ∈ L, thash P w p.2 ≠ h) {Q : SetFound → Shared → Prop}
    (fin : ∀ K, way t.mask h K ∉ t.place.toList → Q (.free (way t.mask h K) false) s) : wpAny (model P w) A (setSearch a x h true) Q E s := by
  obtain ⟨o, ho, _, hd⟩ := R.ob
  have len : t.place.toList.length = L.length := by rw [Array.length_toList]; exact R.sz
  obtain ⟨K, hK, free, low⟩ := first_free R.msk.cyc h t.place.toList (by rw [len]; have := R.room; omega)
  unfold setSearch
  rw [show (100000 : Nat) = 99999 + 1 from rfl, setSearchFrom_succ]
  refine wpAny_bind (wpAny_setState_of ho hd R.fit ?_)
  dsimp only
  refine wp_if_neg (by unfold SetTable.gaveWay; rw [R.msk.odd]; decide) ?_
  try refine wpAny_bind (wpAny_pure ?_)
  have found := go_spec t R.ris R.dm (fun i => (es[i]?.map (·.1)).getD 0) h (10 * SetTable.turns t.mask) K (runAt t.mask (SetTable.bits h % (t.mask + 1)) (SetTable.bits h)) rfl hK low free
  have ans : t.probe (fun i => (es[i]?.map (·.1)).getD 0) h ((none : Option SetTable.Probe).getD (t.probeStart h)) = some (.empty (way t.mask h K) none) := by
    rcases found with ⟨k, i, _, hi, hh, _, _⟩ | ⟨_, q⟩
    · exfalso
      have il : i < L.length := by
        rw [← len]
        exact (List.getElem?_eq_some_iff.mp hi).1
      have row : es[i]? = some (thash P w L[i].2, Value.ref L[i].1) := by
        rw [← Array.getElem?_toList, R.rows]
        unfold rowsOf
        rw [List.getElem?_map, List.getElem?_eq_getElem il]
        rfl
      rw [row] at hh
      exact new _ (List.getElem_mem il) hh
    · exact q
  rw [ans]
  dsimp only
  exact wpAny_pure (fin K free)
/-- the rows behind a new laying -/
theorem rows_order (L : List (Addr × List Int)) (es : Array (Int × Value)) (ord : Array Nat) (e : es.toList = rowsOf P w L) (pm : ord.toList.Perm (List.range L.length)) :
    ∃ L2, (ord.filterMap (es[·]?)).toList = rowsOf P w L2 ∧ L2.Perm L := by
  obtain ⟨L2, e1, e2, _⟩ := order_rows (P := P) (w := w) L es ord e pm
  exact ⟨L2, e1, e2⟩
theorem pset_relay {o : Obj} (ho : s.heap.get? a = some o) (hex : o.ExactSet) (hd : o.data = .set es ep t) (rows : es.toList = rowsOf P w L) (sz : t.place.size = L.length) (dm : t.dummies = #[]) (le : L.length ≤ t.mask) (pl : t.plain = true)
    {wanted m : Nat} (hw : SetTable.sizeAbove wanted - 1 = m) (hm : Msk m) (big : SetTable.sizeAbove wanted ≤ 512) (room : L.length * 5 < m * 3) {Q : Unit → Shared → Prop}
    (fin : ∀ h2 L2 es2 ep2 t2, Heap.SameBut a s.heap h2 → PSet P w h2 a L2 es2 ep2 t2 → L2.Perm L → Q () { s with heap := h2 }) : wpAny (model P w) A (setRelay a wanted) Q E s := by
  have es_len := rows_size rows
  obtain ⟨t2, ord, e, pm, ris, sz2, dm2, mk2, pl2, bd2⟩ := relay_tab t (hs := es.map (·.1)) hw hm.cyc (by rw [Array.size_map, es_len]; omega)
  rw [Array.size_map, es_len] at pm sz2
  obtain ⟨L2, r1, r2⟩ := rows_order L es ord rows pm
  have kept : (ord.filterMap (es[·]?)).size = es.size := (rows_size r1).trans (r2.length_eq.trans es_len.symm)
  rw [setRelay_eq]
  refine wpAny_bind (wpAny_setState_of ho hd (fits_of dm (sz.trans es_len.symm) (by rw [es_len]; exact le)) ?_)
  dsimp only
  refine wp_if_neg (by rw [sizeLine_eq]; omega) ?_
  try refine wpAny_bind (wpAny_pure ?_)
  rw [e]
  dsimp only
  refine wpAny_bind ?_
  refine wp_if_neg (by rw [kept]; simp) ?_
  try refine wpAny_bind (wpAny_pure ?_)
  refine wpAny_pure ?_
  dsimp only
  refine wpAny_storeSet_of ho hd ?_ (by rw [kept, es_len, sizeLine_eq]; have := hm.le; omega)
  have sb : Heap.SameBut a s.heap (s.heap.update a (Obj.putSet (ord.filterMap (es[·]?)) t2)) := Heap.SameBut.update ..
  refine fin _ L2 (ord.filterMap (es[·]?)) (ep + 1) t2 sb ?_ r2
  exact ⟨⟨_, store_at ho hd, ⟨hex.1, hex.2.1, hex.2.2⟩, rfl⟩, r1, ris, dm2, by rw [sz2, r2.length_eq], by rw [mk2]; exact hm, by rw [mk2]; exact bd2, by rw [pl2]; exact pl, by rw [r2.length_eq, mk2]; exact room⟩
theorem grow4 : SetTable.sizeAbove (SetTable.grown 5) = 32 ∧ SetTable.sizeAbove (SetTable.grown 19) = 128 ∧ SetTable.sizeAbove (SetTable.grown 77) = 512 := by decide +kernel
/-- a row that is not in comes in -/
theorem pset_add (R : PSet P w s.heap a L es ep t) {x : Addr} {k : List Int} (hx : IsT P w s.heap k x) (new : ∀ p ∈ L, thash P w p.2 ≠ thash P w k) (few : L.length < 300) {Q : Bool → Shared → Prop}
    (fin : ∀ h2 L2 es2 ep2 t2, Heap.SameBut a s.heap h2 → PSet P w h2 a L2 es2 ep2 t2 → L2.Perm ((x, k) :: L) → Q true { s with heap := h2 }) :
    wpAny (model P w) A (setAddHashed a (.ref x) (thash P w k)) Q E s := by
  obtain ⟨o, ho, hex, hd⟩ := R.ob
  have es_len := rows_size R.rows
  have room := R.room
  unfold setAddHashed
  refine wpAny_holding ?_
  rw [show (100000 : Nat) = 99999 + 1 from rfl, setAddHashedIn_succ]
  refine wpAny_bind (wpAny_setState_of ho hd R.fit ?_)
  dsimp only
  refine wp_if_neg (by simp [byScan, Value.scannable]) ?_
  try refine wpAny_bind (wpAny_pure ?_)
  refine wpAny_bind (pset_search R new fun K free => ?_)
  dsimp only
  refine wpAny_bind (wpAny_setState_of ho hd R.fit ?_)
  dsimp only
  have jm := way_in t.mask (thash P w k) K
  generalize way t.mask (thash P w k) K = j at free jm ⊢
  have place := put_place t j
  have cut := (below_cut R.ris j).1
  have pl1 : (t.put j).1.plain = true := R.plain
  have dm1 : (t.put j).1.dummies = #[] := put_dm R.dm j
  have mk1 : (t.put j).1.mask = t.mask := rfl
  have p1 : (t.put j).2 = SetTable.below t.place j := rfl
  have ris1 : Ris (t.put j).1.place.toList := ris_insert R.ris fun e => free (List.mem_of_getElem? (by rw [Array.getElem?_toList]; exact e))
  have bd1 : ∀ y ∈ (t.put j).1.place.toList, y ≤ t.mask := fun y hy => by
    rw [place] at hy
    rcases mem_ins.mp hy with z | z
    · rw [z]
      exact jm
    · exact R.bd y z
  have sz1 : (t.put j).1.place.size = L.length + 1 := by
    rw [← Array.length_toList, place, len_ins _ (by rw [Array.length_toList]; exact cut), Array.length_toList, R.sz]
  have cutL : SetTable.below t.place j ≤ L.length := by rw [← R.sz]; exact cut
  generalize SetTable.below t.place j = c at place p1 cutL cut
  generalize t.put j = pt at place pl1 dm1 mk1 p1 ris1 bd1 sz1 ⊢
  obtain ⟨t1, p⟩ := pt
  dsimp only at place pl1 dm1 mk1 p1 ris1 bd1 sz1 ⊢
  subst p1
  first
    | (refine wpAny_bind ?_; refine wp_if_pos pl1 ?_; refine hashBy_tup hx ?_)
    | refine wp_if_pos pl1 (wpAny_bind (hashBy_tup hx ?_))
  simp only [if_true]
  have rows1 : (SetTable.insertAt es p (thash P w k, Value.ref x)).toList = rowsOf P w (L.take p ++ (x, k) :: L.drop p) := by
    rw [SetTable.toList_insertAt, rows_put, R.rows]
  have pm := put_perm L p (x, k)
  have len1 : (L.take p ++ (x, k) :: L.drop p).length = L.length + 1 := pm.length_eq
  generalize SetTable.insertAt es p (thash P w k, Value.ref x) = es1 at rows1 ⊢
  generalize L.take p ++ (x, k) :: L.drop p = L1 at rows1 pm len1
  have es1_len := rows_size rows1
  refine wpAny_bind (wpAny_storeSet_of ho hd ?_ (by rw [es1_len, len1, sizeLine_eq]; omega))
  have sb : Heap.SameBut a s.heap (s.heap.update a (Obj.putSet es1 t1)) := Heap.SameBut.update ..
  have ho1 := store_at (es' := es1) (t' := t1) ho hd
  generalize s.heap.update a (Obj.putSet es1 t1) = h1 at sb ho1 ⊢
  have full : t1.tooFull = decide ((L.length + 1) * 5 ≥ t.mask * 3) := by
    unfold SetTable.tooFull SetTable.fill
    rw [dm1, sz1, mk1]
    rfl
  by_cases hf : t1.tooFull = true
  · first
      | (refine wpAny_bind ?_; refine wp_if_pos (by simp [hf]) ?_)
      | (refine wp_if_pos (by simp [hf]) ?_; refine wpAny_bind ?_)
    rw [full, decide_eq_true_eq] at hf
    rw [es_len]
    have size : SetTable.sizeAbove (SetTable.grown (L.length + 1)) - 1 = 31 ∨ SetTable.sizeAbove (SetTable.grown (L.length + 1)) - 1 = 127 ∨ SetTable.sizeAbove (SetTable.grown (L.length + 1)) - 1 = 511 := by
      rcases R.msk with e | e | e | e
      · rw [e] at hf room
        rw [show L.length + 1 = 5 by omega, grow4.1]
        exact .inl rfl
      · rw [e] at hf room
        rw [show L.length + 1 = 19 by omega, grow4.2.1]
        exact .inr (.inl rfl)
      · rw [e] at hf room
        rw [show L.length + 1 = 77 by omega, grow4.2.2]
        exact .inr (.inr rfl)
      · rw [e] at hf
        omega
    have msk2 : Msk (SetTable.sizeAbove (SetTable.grown (L.length + 1)) - 1) := .inr size
    have lim : (L1.length) * 5 < (SetTable.sizeAbove (SetTable.grown (L.length + 1)) - 1) * 3 := by
      rw [len1]
      rcases R.msk with e | e | e | e
      · rw [e] at room
        omega
      · rw [e] at hf room
        rw [show L.length + 1 = 19 by omega, grow4.2.1]
        decide
      · rw [e] at hf room
        rw [show L.length + 1 = 77 by omega, grow4.2.2]
        decide
      · rw [e] at hf
        omega
    refine pset_relay (s := { s with heap := h1 }) (t := t1) (L := L1) ho1 ⟨hex.1, hex.2.1, hex.2.2⟩ rfl rows1 (by rw [sz1, len1]) dm1 ?_ pl1 rfl msk2 ?_ lim ?_
    · rw [len1, mk1]
      rcases R.msk with e | e | e | e <;> rw [e] at hf room ⊢ <;> omega
    · rcases size with e | e | e <;> omega
    · intro h2 L2 es2 ep2 t2 sb2 R2 pm2
      refine wpAny_pure (fin h2 L2 es2 ep2 t2 (sb.trans sb2) R2 (pm2.trans pm))
  · first
      | refine wp_if_neg (by simp [hf]) ?_
      | (refine wpAny_bind ?_; refine wp_if_neg (by simp [hf]) ?_; refine wpAny_pure ?_)
    refine wpAny_pure (fin h1 L1 es1 (ep + 1) t1 sb ⟨⟨_, ho1, ⟨hex.1, hex.2.1, hex.2.2⟩, rfl⟩, rows1, ris1, dm1, by rw [sz1, len1], by rw [mk1]; exact R.msk, by rw [mk1]; exact bd1, pl1, ?_⟩ pm)
    rw [full, decide_eq_true_eq] at hf
    rw [len1, mk1]
    omega
end
end K19
end
section
/-! set(xs) of a list of tuples whose hashes all differ; len(set(xs)). -/
namespace K19
open PySem PySem.Spec PyProof.Rows L2

section
variable {P : Program} {w : World} {A : Around} {E : Value → Shared → Prop} {s : Shared}
theorem PSet.keep {h h2 : Heap} {a : Addr} {L : List (Addr × List Int)} {es : Array (Int × Value)} {ep : Nat} {t : SetTable} (R : PSet P w h a L es ep t) (at_ : ∀ o, h.get? a = some o → h2.get? a = some o) : PSet P w h2 a L es ep t := by
  obtain ⟨o, ho, r⟩ := R.ob
  exact { R with ob := ⟨o, at_ o ho, r⟩ }
/-- the empty set as it is made -/
abbrev set0 (w : World) : Obj := { cls := .type "set", dict := none, data := .set #[] 0 (.fresh 0 0 (!w.params.followText "set-order")) }
theorem pset_new {h : Heap} {a : Addr} (ho : h.get? a = some (set0 w)) : PSet P w h a [] #[] 0 (.fresh 0 0 (!w.params.followText "set-order")) where
  ob := ⟨_, ho, ⟨rfl, rfl, rfl⟩, rfl⟩
  rows := rfl
  ris := List.Pairwise.nil
  dm := rfl
  sz := rfl
  msk := .inl rfl
  bd := fun x hx => (by cases hx)
  plain := rfl
  room := (by decide : 0 * 5 < 7 * 3)
/-- rows whose hashes all differ -/
abbrev Apart (P : Program) (w : World) (ks : List (Addr × List Int)) : Prop := ks.Pairwise fun p q => thash P w p.2 ≠ thash P w q.2
theorem loop_pairs {I : Addr} {fp wr : List Addr} {G : Array GenState → Array GenState → Prop} {n : Nat} {Pv : Nat → Value → Prop} {St : Nat → Shared → Prop} {R : Result → Shared → Prop}
    (W : WalksS P w A.in1 I fp wr G n Pv St) (S : Addr) (out : S ∉ fp) (ks : List (Addr × List Int)) (hn : n = ks.length) (few : ks.length < 300) (ap : Apart P w ks) (val : ∀ i v, Pv i v → ∃ p, ks[i]? = some p ∧ v = .ref p.1)
    (h0 : Heap) (tups : ∀ p ∈ ks, IsT P w h0 p.2 p.1) (new : h0.get? S = none) (newW : ∀ b ∈ wr, h0.get? b = none) (room : A.in1.units < cLine) :
    ∀ (m i : Nat) (s : Shared), i + m = n → St i s → (∀ b o, h0.get? b = some o → s.heap.get? b = some o) → (∃ L es ep t, PSet P w s.heap S L es ep t ∧ L.Perm (ks.take i)) →
      (∀ s2 L es ep t, Moved (S :: wr) G s s2 → PSet P w s2.heap S L es ep t → L.Perm ks → (∀ b o, h0.get? b = some o → s2.heap.get? b = some o) → R (.ok (.ret .none)) s2) →
      codeAny (model P w) A (.builtin "set.update.loop" ⟨[.ref S, .ref I], []⟩) R s := by
  have outW : S ∉ wr := fun z => out (W.sub _ z)
  have wide : ∀ b ∈ wr, b ∈ S :: wr := fun _ z => List.mem_cons_of_mem _ z
  have old : ∀ {u v : Shared}, Moved wr G u v → (∀ b o, h0.get? b = some o → u.heap.get? b = some o) → ∀ b o, h0.get? b = some o → v.heap.get? b = some o := by
    intro u v mv keep b o e
    refine mv.heap b o (fun z => ?_) (keep b o e)
    rw [newW b z] at e
    cases e
  intro m
  induction m with
  | zero =>
    rintro i s im st keep ⟨L, es, ep, t, hS, pm⟩ fin
    obtain rfl : i = n := im
    refine codeAny_builtin F.entry_set_update_loop ?_
    rw [Around.under_plainId F.plain_set_update_loop _]
    show wpAny _ A.in1 (pyNext (.ref I) >>= _) _ _ s
    refine wpAny_bind (W.done s _ _ st fun s2 mv => ?_)
    rw [List.take_of_length_le (by omega)] at pm
    exact wpAny_pure (fin s2 L es ep t (mv.mono wide) (hS.keep fun o e => mv.heap S o outW e) pm (old mv keep))
  | succ m ih =>
    rintro i s im st keep ⟨L, es, ep, t, hS, pm⟩ fin
    have lt : i < n := by omega
    refine codeAny_builtin F.entry_set_update_loop ?_
    rw [Around.under_plainId F.plain_set_update_loop _]
    show wpAny _ A.in1 (pyNext (.ref I) >>= _) _ _ s
    refine wpAny_bind (W.item i s _ _ lt st fun v s2 hP st2 mv => ?_)
    obtain ⟨p, hp, rfl⟩ := val i v hP
    have keep2 := old mv keep
    have hS2 : PSet P w s2.heap S L es ep t := hS.keep fun o e => mv.heap S o outW e
    have tup : IsT P w s2.heap p.2 p.1 := isT_keep (tups p (List.mem_of_getElem? hp)) keep2
    have fresh : ∀ q ∈ L, thash P w q.2 ≠ thash P w p.2 := fun q hq => by
      obtain ⟨j, hj, ej⟩ := List.getElem_of_mem (pm.mem_iff.mp hq)
      rw [List.length_take] at hj
      obtain ⟨li, ei⟩ := List.getElem?_eq_some_iff.mp hp
      rw [List.getElem_take] at ej
      rw [← ej, ← ei]
      exact List.pairwise_iff_getElem.mp ap j i (by omega) li (by omega)
    show wpAny _ A.in1 (holding [Value.ref p.1] (setAdd S (.ref p.1)) >>= _) _ _ s2
    refine wpAny_bind (wpAny_holding ?_)
    unfold setAdd
    refine wpAny_holding (wpAny_bind (wpAny_pyHash_tuple room tup ?_))
    have lenL : L.length ≤ i := by
      rw [pm.length_eq, List.length_take]
      omega
    refine pset_add (s := { s2 with toks := s2.toks + (p.2.length + 1) }) hS2 tup fresh (by omega) fun h3 L3 es3 ep3 t3 sb hS3 pm3 => ?_
    have side : ∀ b, b ≠ S → h3.get? b = s2.heap.get? b := fun b hb => sb.2 b hb
    refine wpAny_pure ⟨plainId_quiet F.plain_set_update_loop _, ih (i + 1) _ (by omega) (W.frame _ s2 _ _ st2 (Nat.le_add_right _ _) fun b hb o e => ?_) (fun b o e => ?_) ⟨L3, es3, ep3, t3, hS3, ?_⟩ fun s4 L4 es4 ep4 t4 mv4 hS4 pm4 keep4 => ?_⟩
    · rw [side b fun z => out (z ▸ hb)]
      exact e
    · rw [side b fun z => by rw [z, new] at e; cases e]
      exact keep2 b o e
    · have tk : ks.take (i + 1) = ks.take i ++ [p] := by rw [List.take_add_one, hp]; rfl
      rw [tk]
      exact pm3.trans ((pm.cons p).trans (List.perm_append_singleton p _).symm)
    · refine fin s4 L4 es4 ep4 t4 (Moved.trans W.gtrans ((mv.mono wide).then_heap (Nat.le_add_right _ _) fun b o hb e => ?_) mv4) hS4 pm4 keep4
      rw [side b fun z => hb (by rw [z]; exact List.mem_cons_self)]
      exact e

/-- set(xs) -/
theorem call_set_pairs {l : Addr} {items : Array Value} (ks : List (Addr × List Int)) {Q : Value → Shared → Prop} (calm : A.handled = none) (lst : s.heap.IsList l items) (refs : items.toList = ks.map fun p => Value.ref p.1)
    (tups : ∀ p ∈ ks, IsT P w s.heap p.2 p.1) (few : ks.length < 300) (ap : Apart P w ks) (room : A.units + 3 < cLine)
    (fin : ∀ (h2 : Heap) (tk : Nat) L es ep t, PSet P w h2 s.heap.objs.size L es ep t → L.Perm ks → (∀ b o, s.heap.get? b = some o → h2.get? b = some o) → Q (.ref s.heap.objs.size) { s with heap := h2, toks := tk }) :
    wpAny (model P w) A (call (.type "set") [.ref l]) Q E s := by
  have sized : items.size = ks.length := by rw [← Array.length_toList, refs, List.length_map]
  obtain ⟨hd, tl, mro⟩ := F.called_set.mro
  have made := F.called_set.made
  have subT := F.called_set.sub
  refine wpAny_call (codeAny_of_tree ?_)
  show wpAny _ _ (callAny (.type "set") _) _ _ _
  refine wpAny_pure ⟨Code.quiet_builtin _ (by decide +kernel), codeAny_builtin F.entry_type_call ?_⟩
  rw [Around.under_plain (weight_type_call_type "set" [.ref l] []) rfl]
  have notT := F.called_set.notType
  have can := F.called_set.canCreate
  have callT := F.typeCall_set_1 (.ref l)
  repeat (any_goals (first | assumption | wp_step))
  refine codeAny_mono (code_set_led1 (.ref l) (E := E) (Q₁ := fun ob s1 => ob = .ref s.heap.objs.size ∧ s1 = { s with heap := s.heap.push (set0 w) }) ⟨rfl, rfl⟩) fun r s1 hr => ?_
  match r, hr with
  | .error e, hr => exact hr
  | .ok .next, hr => exact hr.elim
  | .ok .brk, hr => exact hr.elim
  | .ok .cont, hr => exact hr.elim
  | .ok (.ret ob), hr =>
    obtain ⟨rfl, rfl⟩ := hr
    have at0 : (s.heap.push (set0 w)).get? s.heap.objs.size = some (set0 w) := Heap.get?_push_size _ rfl
    have ty0 : Shared.TypeIs { s with heap := s.heap.push (set0 w) } (.ref s.heap.objs.size) "set" := ⟨_, at0, rfl⟩
    have look := F.called_set.init.lookup
    have bnd := F.called_set.init.bind (.ref s.heap.objs.size)
    repeat (any_goals (first | assumption | wp_step))
    refine codeAny_mono (codeAny_call_builtin (R := wants (fun v s2 => v = .none ∧ ∃ h2 tk L es ep t, s2 = { s with heap := h2, toks := tk } ∧ PSet P w h2 s.heap.objs.size L es ep t ∧ L.Perm ks ∧
        ∀ b o, s.heap.get? b = some o → h2.get? b = some o) E) F.called_set.init.plain F.entry_set_init (check_set_init_1 ty0 ?_)) fun r2 s2 hr2 => ?_
    · obtain ⟨ol, hol, cl, nl, dl⟩ := lst
      obtain ⟨c0, d0, dt0, sl0⟩ := ol
      simp only at cl dl
      subst cl dl
      have hol1 : (s.heap.push (set0 w)).get? l = some { cls := .type "list", dict := d0, data := .seq items nl, slots := sl0 } := Heap.get?_push_of_some _ hol
      have lst1 : (s.heap.push (set0 w)).IsList l items := ⟨_, hol1, rfl, nl, rfl⟩
      have sub1 := F.sub_list_set
      have sub2 := F.sub_list_frozenset
      have nod : (Value.type "list" == Value.type "dict") = false := by decide
      unfold Builtin.«set.__init__» noKeywords Builtin.Frozenset.updateFrom
      generalize hPI : pyIter = PI
      wp_walk
      subst hPI
      refine wpAny_pyIter_list lst1 ?_
      refine wpAny_bind (wpAny_runValue ?_)
      have lS : l < s.heap.objs.size := Heap.lt_size hol
      have calm3 : A.in1.in1.in1.handled = none := by simp [calm]
      have sz1 : (s.heap.push (set0 w)).objs.size = s.heap.objs.size + 1 := Heap.size_push ..
      have val : ∀ (i : Nat) (v : Value), items[i]? = some v → ∃ p, ks[i]? = some p ∧ v = .ref p.1 := fun i v e => by
        rw [← Array.getElem?_toList, refs, List.getElem?_map] at e
        obtain ⟨p, hp, ep⟩ := Option.map_eq_some_iff.mp e
        exact ⟨p, hp, ep.symm⟩
      have none_at : ∀ b, s.heap.objs.size ≤ b → s.heap.get? b = none := fun b hb => by
        cases z : s.heap.get? b with
        | none => rfl
        | some o => exact absurd (Heap.lt_size z) (Nat.not_lt.mpr hb)
      have apart1 : l ≠ (s.heap.push (set0 w)).objs.size := by
        rw [sz1]
        exact Nat.ne_of_lt (Nat.lt_succ_of_lt lS)
      have apart2 : s.heap.objs.size ∉ [(s.heap.push (set0 w)).objs.size, l] := by
        rw [sz1]
        simp only [List.mem_cons, List.not_mem_nil, or_false, not_or]
        exact ⟨Nat.ne_of_lt (Nat.lt_succ_self _), Nat.ne_of_gt lS⟩
      refine loop_pairs ((Walks.list calm3 _ l apart1 items).toS) s.heap.objs.size apart2 ks sized few ap val s.heap tups (none_at _ (Nat.le_refl _)) (fun b hb => none_at b ?_) room items.size 0 _ (Nat.zero_add _)
        ⟨⟨_, Heap.get?_push_size _ rfl, rfl, rfl⟩, lst1.push _⟩ (fun b o e => Heap.get?_push_of_some _ (Heap.get?_push_of_some _ e)) ?first ?last
      · rw [List.mem_singleton.mp hb, sz1]
        exact Nat.le_succ _
      case first =>
        exact ⟨[], #[], 0, _, pset_new (Heap.get?_push_of_some _ at0), List.Perm.refl _⟩
      case last =>
        intro s3 L es ep t mv hS pm keep
        obtain ⟨h3, g3, d3, tk3, os3⟩ := s3
        obtain rfl : g3 = s.gens := mv.gens
        obtain rfl : d3 = s.drawn := mv.drawn
        obtain rfl : os3 = s.os := mv.os
        show wpAny _ _ _ _ _ _
        refine wpAny_pure ?_
        show wpAny _ _ (ret Value.none) _ _ _
        exact wpAny_pure ⟨rfl, h3, tk3, L, es, ep, t, rfl, hS, pm, keep⟩
    · match r2, hr2 with
      | .error e, hr2 => exact hr2
      | .ok .next, hr2 => exact hr2.elim
      | .ok .brk, hr2 => exact hr2.elim
      | .ok .cont, hr2 => exact hr2.elim
      | .ok (.ret v), hr2 =>
        obtain ⟨rfl, h2, tk, L, es, ep, t, rfl, hS, pm, keep⟩ := hr2
        repeat (any_goals (first | assumption | wp_step))
        exact fin _ _ _ _ _ _ hS pm keep
end

/-! ### len(set(xs)) of unlike pairs below 24 -/
/-- the list at l: pairs -/
def PairsAt (H : Hp) (ts : List Addr) (es : List (Int × Int)) : Prop := Paired (fun t e => H t = some (.tup [.int e.1, .int e.2])) ts es
def rowsP : List Addr → List (Int × Int) → List (Addr × List Int)
  | t :: ts, e :: es => (t, [e.1, e.2]) :: rowsP ts es
  | _, _ => []
theorem rowsP_ok {H : Hp} : ∀ {ts : List Addr} {es : List (Int × Int)}, PairsAt H ts es → (rowsP ts es).map (fun p => V.ref p.1) = ts.map V.ref ∧ (rowsP ts es).map (·.2) = es.map (fun e => [e.1, e.2]) ∧
    ∀ p ∈ rowsP ts es, H p.1 = some (.tup (p.2.map V.int))
  | _, _, .nil => ⟨rfl, rfl, fun p hp => (by cases hp)⟩
  | t :: ts, e :: es, .cons h r => by
    obtain ⟨a, b, c⟩ := rowsP_ok r
    refine ⟨congrArg (V.ref t :: ·) a, congrArg ([e.1, e.2] :: ·) b, fun p hp => ?_⟩
    rcases List.mem_cons.mp hp with q | q
    · rw [q]
      exact h
    · exact c p q
def tLenSetP (ta : TE) : TE := fun σ H Q => ta σ H fun x H1 => ∃ (l : Addr) (ts : List Addr) (es : List (Int × Int)), x = V.ref l ∧ H1 l = some (.lst (ts.map V.ref)) ∧ PairsAt H1 ts es ∧ es.Nodup ∧ es.length < 300 ∧
  (∀ e ∈ es, 0 ≤ e.1 ∧ e.1 < e.2 ∧ e.2 < 24) ∧ Q (.int (es.length : Nat)) H1
theorem pe_lenSetP {X : Cx} {a : Expr} {ta : TE} {p p2 q pos : Pos} (g1 : Gl X "len") (m1 : X.mg "len" = none) (g2 : Gl X "set") (m2 : X.mg "set" = none) (units : X.A.units + 64 < cLine) (ha : PE X a ta) (calm : X.calm = true := by rfl)
    (st : starEach [a] X.env = (false, eval a X.env) :: starEach [] X.env := by rfl) : PE X (.Call (.Name "len" p) [.Call (.Name "set" p2) [a] [] q] [] pos) (tLenSetP ta) := by
  refine ⟨fun pins s σ H Q I h => ?_⟩
  have step := ha.run pins s σ H _ I h
  refine Call_ (ld_blt I g1 m1 boot_len (PyProof.Rows.callWith_builtin1 (PyProof.Rows.args_cons ?_ rfl) rfl rfl))
  refine Call_ (ld_blt I g2 m2 boot_set (PyProof.Rows.callWith_type1 (PyProof.Rows.args_cons (thn step fun v s1 ⟨x, H1, I1, r1, q1⟩ => PyProof.Rows.args_nil ?_) st) st rfl))
  obtain ⟨l, ts, es, rfl, lst, prs, nd, few, bd, q1⟩ := q1
  cases r1
  obtain ⟨k1, k2, k3⟩ := rowsP_ok prs
  have len : (rowsP ts es).length = es.length := by
    have z := congrArg List.length k2
    rw [List.length_map, List.length_map] at z
    exact z
  rw [← k1] at lst
  obtain ⟨its, rv, pl, _⟩ := I1.list (show SqL X.K H1 l _ from SqL.of lst)
  have refs : its.toArray.toList = (rowsP ts es).map fun p => Value.ref p.1 := by
    rw [List.toList_toArray]
    exact refs_of_vals rv
  have ap : Apart X.prog X.w (rowsP ts es) := by
    have pw : (es.map fun e => [e.1, e.2]).Pairwise fun x y => thash X.prog X.w x ≠ thash X.prog X.w y := by
      rw [List.pairwise_map]
      refine List.Pairwise.imp_of_mem (fun {e f} he hf ne z => ne ?_) (show es.Pairwise (· ≠ ·) from nd)
      obtain ⟨b1, b2, b3⟩ := bd e he
      obtain ⟨c1, c2, c3⟩ := bd f hf
      rw [thash_pair, thash_pair] at z
      obtain ⟨y1, y2⟩ := pairHash_inj b1 b2 b3 c1 c2 c3 z
      exact Prod.ext y1 y2
    rw [← k2, List.pairwise_map] at pw
    exact pw
  refine call_set_pairs (P := X.prog) (w := X.w) (rowsP ts es) (I1.ok.hd calm) pl.isList refs (fun p hp => I1.isT (SqT.of (k3 p hp))) (by omega) ap (by omega) fun h2 tk L e2 ep t R pm keep => ?_
  refine PyProof.Rows.args_nil ?_
  obtain ⟨o, ho, hex, hdt⟩ := R.ob
  have sz : e2.size = es.length := by rw [rows_size R.rows, pm.length_eq, len]
  have I2 : Inv X pins σ H1 { s1 with heap := h2, toks := tk } := I1.kept keep
  refine call_len_set ho hex hdt (PSet.fit (s := { s1 with heap := h2, toks := tk }) R) (by omega) ?_
  exact ⟨.int es.length, H1, I2.tok _, ⟨_, by rw [sz]⟩, q1⟩
end K19
end
section
/-! The text by places, what stands behind the top, the heaps. -/
namespace K19
open PySem PySem.Spec PyProof.Rows L2

def top (i : Nat) : Stmt := PySem.Challenge.pw_lookmade_k19_whole_who_meets_whom_oddly.main.body.getD i (.Pass ⟨0, 0, 0, 0⟩)
abbrev sInteger : Stmt := top 8
abbrev sWithin : Stmt := top 9
abbrev sTurn : Stmt := top 10
abbrev sLot : Stmt := top 11
abbrev sNumber : Stmt := top 12
abbrev sPairs : Stmt := top 13
abbrev sThings : Stmt := top 24
abbrev sString : Stmt := top 25
abbrev sStrings : Stmt := top 26
abbrev sThingsFrom : Stmt := top 27
abbrev sTurns : Stmt := top 28
abbrev sInit : Stmt := inClass (top 32) 0
abbrev sNeedNet : Stmt := top 33
abbrev sNear : Stmt := top 34
abbrev sMetBy : Stmt := top 35
abbrev sNeighbours : Stmt := top 36
abbrev sOddly : Stmt := top 37
abbrev sHeap : Stmt := top 39
abbrev sSift : Stmt := top 40
abbrev sAnyOf : Stmt := top 41
abbrev sMixed : Stmt := top 42
abbrev sDrawn : Stmt := top 43
abbrev sMet : Stmt := top 44
abbrev sLawLot : Stmt := top 45
abbrev sLaw : Stmt := top 46

/-- a def of the module, as it stands behind the top -/
structure Df (K : PySem.W.Frag) (mg : Str → Option Value) (x : Str) (st : Stmt) : Prop where
  ex : ∃ (f : Addr) (fd : FuncData), Fun K x x st f fd ∧ mg x = some (.ref f)
theorem mk_def {K : PySem.W.Frag} {mg : Str → Option Value} {h : Heap} {x : Str} {st : Stmt} {f : Addr} {oc : Value} {od an : Option Addr} {osl : Array (Option Value)} {kV doc pm cdv ct : Value} (X : K.In h) (G : h.Ns mainGlobals mg)
    (a : PySem.W.nsIn K mainGlobals x = some (some (.ref f))) (l : K.lookup f = some ⟨oc, od, .func (PySem.W.fnOf x x (defArgs st) (defBody st) (defScope st) .none kV doc pm an cdv ct), osl⟩)
    (c : PySem.W.codeIn K cdv x = true) (k : PySem.W.keepIn K (.ref f) = true) : Df K mg x st :=
  ⟨f, _, fun_mk l c k, PySem.W.mg_of X G a⟩
/-- .. with defaults -/
structure DfD (K : PySem.W.Frag) (mg : Str → Option Value) (x : Str) (st : Stmt) (dvs : List V) : Prop where
  ex : ∃ (f : Addr) (fd : FuncData), FunD K x x (defArgs st) (defBody st) (defScope st) dvs [] f fd ∧ mg x = some (.ref f)
theorem mk_defD {K : PySem.W.Frag} {mg : Str → Option Value} {h : Heap} {x : Str} {st : Stmt} {f T : Addr} {oc : Value} {od an : Option Addr} {osl : Array (Option Value)} {kV doc pm cdv ct : Value} {d : Str} {o : Obj} {tk : Tok} {n : Nat} (X : K.In h) (G : h.Ns mainGlobals mg)
    (a : PySem.W.nsIn K mainGlobals x = some (some (.ref f))) (l : K.lookup f = some ⟨oc, od, .func (PySem.W.fnOf x x (defArgs st) (defBody st) (defScope st) (.ref T) kV doc pm an cdv ct), osl⟩)
    (c : PySem.W.codeIn K cdv x = true) (k : PySem.W.keepIn K (.ref f) = true) (t : K.lookup T = some o) (td : o.data = .seq ([.str d tk] : List Value).toArray n) : DfD K mg x st [V.str d] :=
  ⟨f, _, ⟨⟨oc, od, .ref T, kV, doc, pm, an, cdv, ct, osl, rfl, l, c, .inr ⟨(fun z => by cases z), T, o, [.str d tk], n, rfl, t, td, .cons ⟨tk, rfl⟩ .nil⟩, .inl rfl⟩, k⟩, PySem.W.mg_of X G a⟩
/-- the class Net -/
structure NetC (K : PySem.W.Frag) (mg : Str → Option Value) (C : Addr) : Prop where
  ins : C8.InsC K C
  mgC : mg "Net" = some (.ref C)
  init : ∃ (f : Addr) (fd : FuncData), Fun K "__init__" "Net.__init__" sInit f fd ∧ Mk K C f
  nT : NoAttr K C "things"
  nS : NoAttr K C "strings"
  nG : NoAttr K C "given"
  nK : NoAttr K C "kept"
  nL : NoAttr K C "looked"
  nU : NoAttr K C "turns"
theorem mk_net {K : PySem.W.Frag} {mg : Str → Option Value} {h : Heap} {C f : Addr} {oc : Value} {od an : Option Addr} {osl : Array (Option Value)} {kV doc pm cdv ct : Value} (X : K.In h) (G : h.Ns mainGlobals mg)
    (a : PySem.W.nsIn K mainGlobals "Net" = some (some (.ref C))) (i : PySem.W.findIn K (.ref C) "__init__" = some (some (.ref f))) (fn : PySem.W.isFn K (.ref f) = true)
    (l : K.lookup f = some ⟨oc, od, .func (PySem.W.fnOf "__init__" "Net.__init__" (defArgs sInit) (defBody sInit) (defScope sInit) .none kV doc pm an cdv ct), osl⟩)
    (c : PySem.W.codeIn K cdv "Net.__init__" = true) (k : PySem.W.keepIn K (.ref f) = true)
    (pg : PySem.W.plainGet K C Str.empty = true) (hd : PySem.W.hasDictIn K C = true) (po : PySem.W.plainOver K C = true) (sa : PySem.W.findIn K (.ref C) "__setattr__" = some (some (.builtin "object.__setattr__")))
    (mk : PySem.W.makesIn K C = true) (kc : PySem.W.keepIn K (.ref C) = true)
    (ha : PySem.W.findIn K (.ref C) "__class__" = some (some (.builtin "object.__class__"))) (hn : PySem.W.specialIn K (.builtin "object.__class__") "__get__" = some (some (.builtin "getset_descriptor.__get__")))
    (htk : PySem.W.takesIn K (.builtin "object.__class__") = some true) (hm : PySem.W.mroIn K C (.type "object") = some true)
    (nT : PySem.W.findIn K (.ref C) "things" = some none) (nS : PySem.W.findIn K (.ref C) "strings" = some none) (nG : PySem.W.findIn K (.ref C) "given" = some none)
    (nK : PySem.W.findIn K (.ref C) "kept" = some none) (nL : PySem.W.findIn K (.ref C) "looked" = some none) (nU : PySem.W.findIn K (.ref C) "turns" = some none) : NetC K mg C :=
  ⟨⟨⟨pg, hd, po, sa⟩, ha, hn, htk, hm, if_pos (beq_self_eq_true _)⟩, PySem.W.mg_of X G a, ⟨f, _, fun_mk l c k, ⟨mk, i, fn, kc⟩⟩, nT, nS, nG, nK, nL, nU⟩
/-- the other names -/
structure Txt (K : PySem.W.Frag) (mg : Str → Option Value) : Prop where
  abs : mg "abs" = none
  all : mg "all" = none
  bool : mg "bool" = none
  dict : mg "dict" = none
  int : mg "int" = none
  isi : mg "isinstance" = none
  len : mg "len" = none
  list : mg "list" = none
  min : mg "min" = none
  range : mg "range" = none
  repr : mg "repr" = none
  set : mg "set" = none
  sorted : mg "sorted" = none
  tuple : mg "tuple" = none
  turns : ∃ u, mg "TURNS" = some u ∧ RelV (.int 8) u
  most : ∃ u, mg "MOST_THINGS" = some u ∧ RelV (.int 120) u
theorem mk_none {K : PySem.W.Frag} {mg : Str → Option Value} {h : Heap} {x : Str} (X : K.In h) (G : h.Ns mainGlobals mg) (a : PySem.W.nsIn K mainGlobals x = some none) : mg x = none := PySem.W.mg_none_of X G a
theorem mk_int {K : PySem.W.Frag} {mg : Str → Option Value} {h : Heap} {x : Str} {i : Int} {v : Value} (X : K.In h) (G : h.Ns mainGlobals mg) (a : PySem.W.nsIn K mainGlobals x = some (some v)) (e : ∃ t, v = .int i t) : ∃ u, mg x = some u ∧ RelV (.int i) u :=
  ⟨v, PySem.W.mg_of X G a, e⟩
/-- all that the walk asks of the top -/
structure World0 (K : PySem.W.Frag) (mg : Str → Option Value) : Prop where
  t : Txt K mg
  net : ∃ C, NetC K mg C
  d8 : Df K mg "is_integer" sInteger
  d9 : Df K mg "is_within" sWithin
  d10 : Df K mg "is_turn" sTurn
  d11 : Df K mg "is_lot" sLot
  d12 : Df K mg "need_number" sNumber
  d13 : Df K mg "pairs_in" sPairs
  d24 : Df K mg "is_things" sThings
  d25 : Df K mg "is_string" sString
  d26 : Df K mg "strings_from" sStrings
  d27 : Df K mg "things_from" sThingsFrom
  d28 : Df K mg "turns_from" sTurns
  d33 : DfD K mg "need_net" sNeedNet [V.str "net"]
  d34 : Df K mg "near_in" sNear
  d35 : Df K mg "met_by" sMetBy
  d36 : Df K mg "neighbours" sNeighbours
  d37 : Df K mg "oddly_met" sOddly
  d39 : Df K mg "_law_heap" sHeap
  d40 : Df K mg "_law_sift" sSift
  d41 : Df K mg "_law_any_of" sAnyOf
  d42 : Df K mg "_law_mixed" sMixed
  d43 : Df K mg "_law_drawn" sDrawn
  d44 : Df K mg "_law_met" sMet
  d45 : Df K mg "_law_lot" sLawLot
  d46 : Df K mg "law" sLaw
end K19
end
section
/-! Small defs: is_integer, is_within, is_turn, need_number, need_net. -/
namespace K19
open PySem PySem.Spec PyProof.Rows L2
theorem b_isi : bootBuiltins "isinstance" = some (.builtin "isinstance") := by decide +kernel
theorem b_int : bootBuiltins "int" = some (.type "int") := by decide +kernel
theorem b_bool : bootBuiltins "bool" = some (.type "bool") := by decide +kernel
theorem b_list : bootBuiltins "list" = some (.type "list") := by decide +kernel
theorem b_tuple : bootBuiltins "tuple" = some (.type "tuple") := by decide +kernel
theorem b_dict : bootBuiltins "dict" = some (.type "dict") := by decide +kernel
theorem b_all : bootBuiltins "all" = some (.builtin "all") := by decide +kernel
theorem b_len : bootBuiltins "len" = some (.builtin "len") := by decide +kernel
theorem b_abs : bootBuiltins "abs" = some (.builtin "abs") := by decide +kernel
theorem b_min : bootBuiltins "min" = some (.builtin "min") := by decide +kernel
theorem b_sorted : bootBuiltins "sorted" = some (.builtin "sorted") := by decide +kernel
theorem b_repr : bootBuiltins "repr" = some (.builtin "repr") := by decide +kernel
theorem k_ii {K : PySem.W.Frag} : PySem.W.kitOne K (.type "int") (.type "int") = some true := if_pos (beq_self_eq_true _)
theorem k_ib {K : PySem.W.Frag} : PySem.W.kitOne K (.type "int") (.type "bool") = some false := kit_ty (by decide +kernel)
section
variable {P : Program} {w : World} {K : PySem.W.Frag} {mg : Str → Option Value} {base : Heap}
/-- a def that may be called, by its body -/
theorem cal_of {x : Str} {st : Stmt} {ps : List Str} {k : Nat} {sp : Sp} (D : Df K mg x st) (ok : ∀ (f : Addr) (fd : FuncData), Fun K x x st f fd → FnOk P w K mg base CX0 k f fd ps sp)
    (h : ∀ (kV doc pm : Value) (an : Option Addr) (cdv ct : Value) (us : List Value), us.length = ps.length → bindArgs (PySem.W.fnOf x x (defArgs st) (defBody st) (defScope st) .none kV doc pm an cdv ct) ⟨us, []⟩ = pure (ps.zip us)) : C8.Cal P w K mg base k x sp [] := by
  obtain ⟨f, fd, F, m⟩ := D.ex
  exact ⟨f, fd, ps, [], ok f fd F, m, F.kp, F.binds h, .nil⟩
abbrev Cl (P : Program) (w : World) (K : PySem.W.Frag) (mg : Str → Option Value) (base : Heap) (k : Nat) (x : Str) (sp : Sp) : Prop := C8.Cal P w K mg base k x sp []

/-! ### is_integer -/
def spInteger : Sp := fun vs H Q _ => ∃ n : Int, vs = [.int n] ∧ Q (.bl true) H
theorem sc8 : FnScope ["value"] ["value"] (defScope sInteger) := ⟨rfl, rfl, rfl, by decide +kernel, rfl, by decide +kernel, by decide +kernel⟩
theorem ok8 (W : World0 K mg) : Cl P w K mg base 1 "is_integer" spInteger := by
  refine cal_of (ps := ["value"]) W.d8 (fun f fd F => F.ok sc8 (fun vs H Q E h => ?_) (fun cdv A outer s H vs Q E hr h => ?_)) (fun _ _ _ _ _ _ us hl => match us, hl with | [_], _ => rfl)
  · obtain ⟨n, rfl, _⟩ := h
    rfl
  · obtain ⟨n, rfl, q⟩ := h
    refine ⟨_, pss_one (ps_ret (pe_and (pe_callB call_isi (by rfl) W.t.isi b_isi (pa_cons (pv 0) (pa_cons (pe_bltn (v := .ty "int") (by rfl) W.t.int b_int rfl) pa_nil)))
      (pe_one (pe_not (pe_callB call_isi (by rfl) W.t.isi b_isi (pa_cons (pv 0) (pa_cons (pe_bltn (v := .ty "bool") (by rfl) W.t.bool b_bool rfl) pa_nil))))))), ?_⟩
    refine ⟨_, rfl, _, _, _, _, true, rfl, .ty "int", .base (.int n), k_ii, true, rfl, ?_⟩
    refine iteT ⟨_, rfl, _, _, _, _, false, rfl, .ty "bool", .base (.int n), k_ib, false, rfl, ?_⟩
    exact q

/-! ### is_within -/
/-- None is no bound -/
def upTo (n : Int) : V → Bool
  | .int m => decide (n ≤ m)
  | _ => true
def spWithin : Sp := fun vs H Q _ => ∃ (n lo : Int) (hi : V), vs = [.int n, .int lo, hi] ∧ (hi = .non ∨ ∃ m, hi = .int m) ∧ Q (.bl (decide (lo ≤ n) && upTo n hi)) H
theorem sc9 : FnScope ["value", "least", "most"] ["value", "least", "most"] (defScope sWithin) := ⟨rfl, rfl, rfl, by decide +kernel, rfl, by decide +kernel, by decide +kernel⟩
theorem ok9 (W : World0 K mg) : Cl P w K mg base 2 "is_within" spWithin := by
  refine cal_of (ps := ["value", "least", "most"]) W.d9 (fun f fd F => F.ok sc9 (fun vs H Q E h => ?_) (fun cdv A outer s H vs Q E hr h => ?_)) (fun _ _ _ _ _ _ us hl => match us, hl with | [_, _, _], _ => rfl)
  · obtain ⟨n, lo, hi, rfl, _⟩ := h
    rfl
  · obtain ⟨n, lo, hi, rfl, hh, q⟩ := h
    refine ⟨_, pss_cons (ps_if (pt_not (pt_val (C8.pe_c (ok8 W) hr (by decide) (by rfl) (pa_cons (pv 0) pa_nil)))) (pss_one (ps_ret pe_bl)) pss_nil)
      (pss_one (ps_ret (pe_and (pe_or (pe_cmpR op_isN (pv 1) pe_non (nomark _)) (pe_one (pe_cmpR op_le (pv 1) (pv 0) (nomark _))))
        (pe_one (pe_or (pe_cmpR op_isN (pv 2) pe_non (nomark _)) (pe_one (pe_cmpR op_le (pv 0) (pv 2) (nomark _)))))))), ?_⟩
    refine ⟨_, rfl, n, rfl, true, rfl, ?_⟩
    refine iteF ?_
    refine ⟨_, rfl, rfl, _, rfl, iteF ⟨_, rfl, _, rfl, _, _, rfl, rfl, _, rfl, ?_⟩⟩
    refine ite2 (fun hle => ?_) (fun hle => ?_)
    · rw [hle, Bool.true_and] at q
      rcases hh with rfl | ⟨m, rfl⟩
      · exact ⟨_, rfl, rfl, _, rfl, iteT q⟩
      · exact ⟨_, rfl, rfl, _, rfl, iteF ⟨_, rfl, _, rfl, _, _, rfl, rfl, q⟩⟩
    · rw [Bool.not_eq_true] at hle
      rw [hle, Bool.false_and] at q
      exact q

/-! ### is_turn -/
def spTurn : Sp := fun vs H Q _ => ∃ n : Int, vs = [.int n] ∧ Q (.bl (decide (0 ≤ n) && decide (n ≤ 7))) H
theorem sc10 : FnScope ["value"] ["value"] (defScope sTurn) := ⟨rfl, rfl, rfl, by decide +kernel, rfl, by decide +kernel, by decide +kernel⟩
theorem ok10 (W : World0 K mg) : Cl P w K mg base 3 "is_turn" spTurn := by
  refine cal_of (ps := ["value"]) W.d10 (fun f fd F => F.ok sc10 (fun vs H Q E h => ?_) (fun cdv A outer s H vs Q E hr h => ?_)) (fun _ _ _ _ _ _ us hl => match us, hl with | [_], _ => rfl)
  · obtain ⟨n, rfl, _⟩ := h
    rfl
  · obtain ⟨n, rfl, q⟩ := h
    refine ⟨_, pss_one (ps_ret (C8.pe_c (ok9 W) hr (by decide) (by rfl) (pa_cons (pv 0) (pa_cons pe_int (pa_cons (pe_op op_sub (C8.pe_gc (by rfl) W.t.turns) pe_int) pa_nil))))), ?_⟩
    exact ⟨_, rfl, _, _, rfl, rfl, n, 0, .int (8 - 1), rfl, .inr ⟨_, rfl⟩, q⟩

/-! ### need_number -/
def spNumber : Sp := fun vs H Q _ => ∃ (n lo m : Int) (p : Str), vs = [.int n, .str p, .int lo, .int m] ∧ lo ≤ n ∧ n ≤ m ∧ Q .non H
theorem sc12 : FnScope ["value", "part", "least", "most"] ["value", "part", "least", "most"] (defScope sNumber) := ⟨rfl, rfl, rfl, by decide +kernel, rfl, by decide +kernel, by decide +kernel⟩
theorem ok12 (W : World0 K mg) : Cl P w K mg base 3 "need_number" spNumber := by
  refine cal_of (ps := ["value", "part", "least", "most"]) W.d12 (fun f fd F => F.ok sc12 (fun vs H Q E h => ?_) (fun cdv A outer s H vs Q E hr h => ?_)) (fun _ _ _ _ _ _ us hl => match us, hl with | [_, _, _, _], _ => rfl)
  · obtain ⟨n, lo, m, p, rfl, _⟩ := h
    rfl
  · obtain ⟨n, lo, m, p, rfl, h1, h2, q⟩ := h
    refine ⟨_, pss_one (ps_if (pt_not (pt_val (C8.pe_c (ok9 W) hr (by decide) (by rfl) (pa_cons (pv 0) (pa_cons (pv 2) (pa_cons (pv 3) pa_nil)))))) pss_never pss_nil), ?_⟩
    refine ⟨_, rfl, _, rfl, _, rfl, n, lo, .int m, rfl, .inr ⟨m, rfl⟩, true, ?_, iteF q⟩
    show V.bl (decide (lo ≤ n) && decide (n ≤ m)) = V.bl true
    rw [decide_eq_true h1, decide_eq_true h2] <;> rfl

/-! ### need_net -/
def spNeedNet (C : Addr) : Sp := fun vs H Q _ => ∃ (a dx : Addr) (fs : List (Str × V)) (p : Str), vs = [.ref a, .str p] ∧ H a = some (.ins C dx fs) ∧ Q .non H
theorem sc33 : FnScope ["value", "part"] ["value", "part"] (defScope sNeedNet) := ⟨rfl, rfl, rfl, by decide +kernel, rfl, by decide +kernel, by decide +kernel⟩
theorem ok33 {C : Addr} (W : World0 K mg) (N : NetC K mg C) : Cl P w K mg base 1 "need_net" (spNeedNet C) := by
  obtain ⟨f, fd, F, m⟩ := W.d33.ex
  have b := F.binds1 (ps := ["value", "part"]) 2 1 (fun z => by cases z) rfl fun T kV doc pm an cdv ct us its hl hi => match us, hl, its, hi with | [_, _], _, [_], _ => ⟨_, rfl, rfl⟩
  obtain ⟨ds, hd, hb⟩ := b
  refine ⟨f, fd, ["value", "part"], ds, F.ok sc33 (fun vs H Q E h => ?_) (fun cdv A outer s H vs Q E hr h => ?_), m, F.kp, hb, hd⟩
  · obtain ⟨a, dx, fs, p, rfl, _⟩ := h
    rfl
  · obtain ⟨a, dx, fs, p, rfl, ha, q⟩ := h
    refine ⟨_, PSs.nox (pss_one (ps_if (pt_not (pt_val (pe_callB (C8.call_isC N.ins) (by rfl) W.t.isi b_isi (pa_cons (pv 0) (pa_cons (C8.pe_gc (v := .ref C) (by rfl) ⟨_, N.mgC, rfl⟩) pa_nil))))) pss_never pss_nil)), ?_⟩
    refine ⟨_, rfl, a, dx, fs, rfl, ha, true, rfl, iteF q⟩
end
end K19
end
section
/-! is_lot, is_things, is_string. -/
namespace K19
open PySem PySem.Spec PyProof.Rows L2
/-- a tracked list or tuple of ints -/
def SeqI (H : Hp) (a : Addr) (ns : List Int) : Prop := H a = some (.lst (ns.map V.int)) ∨ H a = some (.tup (ns.map V.int))
theorem seqI_same {H H2 : Hp} {a : Addr} {ns : List Int} (s : Same H H2) (h : SeqI H a ns) : SeqI H2 a ns := h.imp (s _ _) (s _ _)
theorem same_new {H : Hp} {p : Addr} {o : HO} (h : H p = none) : Same H (upd H p o) := fun b u e => by rw [upd_ne (ne_of_none e h)]; exact e
theorem same_mut {H H2 : Hp} {p : Addr} {o : HO} (s : Same H H2) (h : H p = none) : Same H (upd H2 p o) := fun b u e => by rw [upd_ne (ne_of_none e h)]; exact s _ _ e
theorem kit_lt {K : PySem.W.Frag} : PySem.W.kitAny K (.type "list") [.type "list", .type "tuple"] = some true :=
  kitAny_cons (b := true) (if_pos (beq_self_eq_true _)) (fun z => by cases z) fun _ => rfl
theorem kit_tt {K : PySem.W.Frag} : PySem.W.kitAny K (.type "tuple") [.type "list", .type "tuple"] = some true :=
  kitAny_cons (b := false) (kit_ty (by decide +kernel)) (fun _ => kitAny_cons (b := true) (if_pos (beq_self_eq_true _)) (fun z => by cases z) fun _ => rfl) fun z => by cases z
theorem cls_lt : Paired ClsV [.ty "list", .ty "tuple"] [.type "list", .type "tuple"] := .cons (.ty _) (.cons (.ty _) .nil)
theorem map_get {ns : List Int} {i : Nat} {x : V} (h : (ns.map V.int)[i]? = some x) : ∃ n, ns[i]? = some n ∧ x = .int n := by
  rw [List.getElem?_map] at h
  obtain ⟨n, e1, e2⟩ := Option.map_eq_some_iff.mp h
  exact ⟨n, e1, e2.symm⟩
theorem rep_succ (i : Nat) (b : V) : List.replicate i b ++ [b] = List.replicate (i + 1) b := by rw [List.replicate_succ']
theorem allTrue (k : Nat) : (List.replicate k true).all id = true := by simp
theorem mapTrue (k : Nat) : List.replicate k (V.bl true) = (List.replicate k true).map V.bl := by simp
theorem sz_lt {n : Nat} (h : n < 100000) : n < sizeLine := by rw [sizeLine_eq]; omega
theorem sz_le {n : Nat} (h : n ≤ 100000) : n ≤ sizeLine := by rw [sizeLine_eq]; omega
section
variable {P : Program} {w : World} {K : PySem.W.Frag} {mg : Str → Option Value} {base : Heap}
def spLot : Sp := fun vs H Q _ => ∃ (a : Addr) (ns : List Int), vs = [.ref a] ∧ SeqI H a ns ∧ ns.Nodup ∧ (∀ n ∈ ns, 0 ≤ n) ∧ ns.length ≤ 300 ∧ ∀ H', Same H H' → Q (.bl true) H'
theorem sc11 : FnScope ["value", "each"] ["value"] (defScope sLot) := ⟨rfl, rfl, rfl, by decide +kernel, rfl, by decide +kernel, by decide +kernel⟩
theorem ok11 (W : World0 K mg) : Cl P w K mg base 3 "is_lot" spLot := by
  refine cal_of (ps := ["value"]) W.d11 (fun f fd F => F.ok sc11 (fun vs H Q E h => ?_) (fun cdv A outer s H vs Q E hr h => ?_)) (fun _ _ _ _ _ _ us hl => match us, hl with | [_], _ => rfl)
  · obtain ⟨a, ns, rfl, _⟩ := h
    rfl
  · obtain ⟨a, ns, rfl, seq, nd, pos, few, q⟩ := h
    rcases seq with hL | hT
    · refine ⟨_, pss_cons (ps_if (PW.pt (pw_or (pt_not (pt_val (pe_callB call_isiT (by rfl) W.t.isi b_isi (pa_cons (pv 0) (pa_cons (pe_tup (pa_cons (pe_bltn (v := .ty "list") (by rfl) W.t.list b_list rfl) (pa_cons (pe_bltn (v := .ty "tuple") (by rfl) W.t.tuple b_tuple rfl) pa_nil))) pa_nil)))))
          (pw_or1 (pt_not (pt_val (pe_callB (cr_all rfl) (by rfl) W.t.all b_all (pa_cons
            (pe_lc (own := [("each", 1)]) (g := gName 1) (tt := tYes) rfl sc11.nd (pi_list (pv 0)) (blkOk_by (N := ["value", "each"]) (sc := defScope sLot) (by decide +kernel)) (fun _ _ _ _ _ => pg_name (i := 1) sc11.nd rfl (Or.inl rfl)) (fun _ _ _ _ _ => pts_nil)
              (fun _ _ _ _ _ => C8.pe_c (ok9 W) hr (by decide) (by rfl) (pa_cons (pv 1) (pa_cons pe_int (pa_cons pe_non pa_nil))))) pa_nil))))))) (pss_one (ps_ret pe_bl)) pss_nil)
        (pss_one (ps_ret (pe_cmpR op_eq (RZ.pe_lenSetI (by rfl) W.t.len (by rfl) W.t.set (pv 0)) (pe_callB call_len_seq (by rfl) W.t.len b_len (pa_cons (pv 0) pa_nil)) (nomark _)))), ?_⟩
      refine ⟨_, rfl, (by show 2 ≤ sizeLine; decide), fun tp ntp => ⟨_, tp, _, _, _, true, rfl, upd_same, cls_lt, .base (.lst (by rw [upd_ne (ne_of_none hL ntp)]; exact hL)), kit_lt, true, rfl, iteF ?_⟩⟩
      have s1 : Same H (upd H tp (.tup [.ty "list", .ty "tuple"])) := same_new ntp
      generalize upd H tp (.tup [.ty "list", .ty "tuple"]) = H1 at s1
      refine ⟨_, rfl, a, rfl, ⟨_, SqL.of (s1 _ _ hL)⟩, fun D nD => ?_⟩
      refine lc_list (K := K) (a := a) (xs := ns.map V.int) (fun i H2 => Same H1 H2 ∧ H2 D = some (.lst (List.replicate i (.bl true)))) ⟨same_new nD, upd_same⟩ (fun i H2 _ p => SqL.of (p.1 _ _ (s1 _ _ hL))) ?_ ?_
      · rintro i x H2 hi ⟨s2, hD⟩
        obtain ⟨n, hn, rfl⟩ := map_get hi
        have ln : i < ns.length := (List.getElem?_eq_some_iff.mp hn).1
        have p0 := pos n (List.mem_of_getElem? hn)
        refine ⟨rfl, ⟨_, rfl, n, 0, .non, rfl, .inl rfl, List.replicate i (.bl true), hD, by rw [List.length_replicate]; exact sz_lt (by omega), same_mut s2 nD, ?_⟩⟩
        rw [upd_same]
        show some (HO.lst (List.replicate i (V.bl true) ++ [V.bl (decide (0 ≤ n) && true)])) = _
        rw [decide_eq_true p0, Bool.true_and, rep_succ]
      · rintro H2 ⟨s2, hD⟩
        have sH : Same H H2 := s1.trans s2
        refine ⟨D, List.replicate (ns.map V.int).length true, rfl, SqL.of (by rw [hD, mapTrue]), (List.replicate (ns.map V.int).length true).all id, rfl, ?_⟩
        rw [allTrue]
        refine iteF ⟨_, rfl, a, ns, rfl, SqL.of (sH _ _ hL), nd, by omega, _, rfl, a, _, rfl, .inl (SqL.of (sH _ _ hL)), rfl, ?_⟩
        have e : decide (V.int ((ns.length : Nat) : Int) = V.int (((ns.map V.int).length : Nat) : Int)) = true := decide_eq_true (by rw [List.length_map])
        show Q (.bl (decide (V.int ((ns.length : Nat) : Int) = V.int (((ns.map V.int).length : Nat) : Int)))) H2
        rw [e]
        exact q _ sH
    · refine ⟨_, pss_cons (ps_if (PW.pt (pw_or (pt_not (pt_val (pe_callB call_isiT (by rfl) W.t.isi b_isi (pa_cons (pv 0) (pa_cons (pe_tup (pa_cons (pe_bltn (v := .ty "list") (by rfl) W.t.list b_list rfl) (pa_cons (pe_bltn (v := .ty "tuple") (by rfl) W.t.tuple b_tuple rfl) pa_nil))) pa_nil)))))
          (pw_or1 (pt_not (pt_val (pe_callB (cr_all rfl) (by rfl) W.t.all b_all (pa_cons
            (pe_lc (own := [("each", 1)]) (g := gName 1) (tt := tYes) rfl sc11.nd (pi_tup (pv 0)) (blkOk_by (N := ["value", "each"]) (sc := defScope sLot) (by decide +kernel)) (fun _ _ _ _ _ => pg_name (i := 1) sc11.nd rfl (Or.inl rfl)) (fun _ _ _ _ _ => pts_nil)
              (fun _ _ _ _ _ => C8.pe_c (ok9 W) hr (by decide) (by rfl) (pa_cons (pv 1) (pa_cons pe_int (pa_cons pe_non pa_nil))))) pa_nil))))))) (pss_one (ps_ret pe_bl)) pss_nil)
        (pss_one (ps_ret (pe_cmpR op_eq (pe_lenSetT (by rfl) W.t.len (by rfl) W.t.set (pv 0)) (pe_callB call_len_seq (by rfl) W.t.len b_len (pa_cons (pv 0) pa_nil)) (nomark _)))), ?_⟩
      refine ⟨_, rfl, (by show 2 ≤ sizeLine; decide), fun tp ntp => ⟨_, tp, _, _, _, true, rfl, upd_same, cls_lt, .base (.tup (by rw [upd_ne (ne_of_none hT ntp)]; exact hT)), kit_tt, true, rfl, iteF ?_⟩⟩
      have s1 : Same H (upd H tp (.tup [.ty "list", .ty "tuple"])) := same_new ntp
      generalize upd H tp (.tup [.ty "list", .ty "tuple"]) = H1 at s1
      refine ⟨_, rfl, a, rfl, ⟨_, SqT.of (s1 _ _ hT)⟩, fun D nD => ?_⟩
      refine lc_tup (K := K) (a := a) (xs := ns.map V.int) (fun i H2 => Same H1 H2 ∧ H2 D = some (.lst (List.replicate i (.bl true)))) ⟨same_new nD, upd_same⟩ (fun i H2 _ p => SqT.of (p.1 _ _ (s1 _ _ hT))) ?_ ?_
      · rintro i x H2 hi ⟨s2, hD⟩
        obtain ⟨n, hn, rfl⟩ := map_get hi
        have ln : i < ns.length := (List.getElem?_eq_some_iff.mp hn).1
        have p0 := pos n (List.mem_of_getElem? hn)
        refine ⟨rfl, ⟨_, rfl, n, 0, .non, rfl, .inl rfl, List.replicate i (.bl true), hD, by rw [List.length_replicate]; exact sz_lt (by omega), same_mut s2 nD, ?_⟩⟩
        rw [upd_same]
        show some (HO.lst (List.replicate i (V.bl true) ++ [V.bl (decide (0 ≤ n) && true)])) = _
        rw [decide_eq_true p0, Bool.true_and, rep_succ]
      · rintro H2 ⟨s2, hD⟩
        have sH : Same H H2 := s1.trans s2
        refine ⟨D, List.replicate (ns.map V.int).length true, rfl, SqL.of (by rw [hD, mapTrue]), (List.replicate (ns.map V.int).length true).all id, rfl, ?_⟩
        rw [allTrue]
        refine iteF ⟨_, rfl, a, ns, rfl, SqT.of (sH _ _ hT), nd, by omega, _, rfl, a, _, rfl, .inr (SqT.of (sH _ _ hT)), rfl, ?_⟩
        have e : decide (V.int ((ns.length : Nat) : Int) = V.int (((ns.map V.int).length : Nat) : Int)) = true := decide_eq_true (by rw [List.length_map])
        show Q (.bl (decide (V.int ((ns.length : Nat) : Int) = V.int (((ns.map V.int).length : Nat) : Int)))) H2
        rw [e]
        exact q _ sH
end
end K19
end
section
/-! is_things, is_string, things_from; walks over a list or a tuple of ints; lists of pairs. -/
namespace K19
open PySem PySem.Spec PyProof.Rows L2
/-! ### a list or a tuple, either -/
def iEither (w1 w2 : TI) : TI := fun σ H R => w1 σ H R ∨ w2 σ H R
theorem pi_either {X : Cx} {tg e : Expr} {w1 w2 : TI} (h1 : PI X tg e w1) (h2 : PI X tg e w2) : PI X tg e (iEither w1 w2) :=
  ⟨fun pins s σ H R I h => h.elim (h1.run pins s σ H R I) (h2.run pins s σ H R I)⟩
theorem lc_seqI {K : PySem.W.Frag} {j : Nat} {a : Addr} {ns : List Int} {g : TG} {tt : TT} {te : TE} {vs : List Nat} {σ : L2.St} {H1 : Hp} {Q : VK} (slot : σ[j]? = some (some (.ref a))) (seq : SeqI H1 a ns)
    (key : ∀ D, H1 D = none → ∃ Pv : Nat → Hp → Prop, Pv 0 (upd H1 D (.lst [])) ∧ (∀ i H, Pv i H → Same H1 H) ∧
      (∀ i n H, ns[i]? = some n → Pv i H → g (.int n) (wipe σ vs) H fun σ2 H2 => wipe σ2 vs = wipe σ vs ∧ tt σ2 H2 fun b H3 => if b = true then te σ2 H3 fun y H4 => ∃ acc, H4 D = some (.lst acc) ∧ acc.length < sizeLine ∧ Pv (i + 1) (upd H4 D (.lst (acc ++ [y]))) else Pv (i + 1) H3) ∧
      ∀ H, Pv ns.length H → Q (.ref D) H) : tLc (iEither (iList K (tVar j)) (iTup K (tVar j))) g tt te vs σ H1 Q := by
  rcases seq with hL | hT
  · refine .inl ⟨_, slot, a, rfl, ⟨_, SqL.of hL⟩, fun D nD => ?_⟩
    obtain ⟨Pv, p0, same, turn, done⟩ := key D nD
    refine lc_list (K := K) (a := a) (xs := ns.map V.int) Pv p0 (fun i H _ p => SqL.of (same i H p _ _ hL)) (fun i x H hi p => ?_) fun H p => done H (by rw [List.length_map] at p; exact p)
    obtain ⟨n, hn, rfl⟩ := map_get hi
    exact turn i n H hn p
  · refine .inr ⟨_, slot, a, rfl, ⟨_, SqT.of hT⟩, fun D nD => ?_⟩
    obtain ⟨Pv, p0, same, turn, done⟩ := key D nD
    refine lc_tup (K := K) (a := a) (xs := ns.map V.int) Pv p0 (fun i H _ p => SqT.of (same i H p _ _ hT)) (fun i x H hi p => ?_) fun H p => done H (by rw [List.length_map] at p; exact p)
    obtain ⟨n, hn, rfl⟩ := map_get hi
    exact turn i n H hn p
theorem filter_take {p : Int → Bool} {ns : List Int} {i : Nat} {n : Int} (h : ns[i]? = some n) : (ns.take (i + 1)).filter p = if p n = true then (ns.take i).filter p ++ [n] else (ns.take i).filter p := by
  rw [List.take_add_one, h]
  show ((ns.take i) ++ [n]).filter p = _
  rw [List.filter_append]
  by_cases c : p n = true
  · rw [if_pos c, List.filter_cons_of_pos c] <;> rfl
  · rw [if_neg c, List.filter_cons_of_neg c]
    exact List.append_nil _
section
variable {P : Program} {w : World} {K : PySem.W.Frag} {mg : Str → Option Value} {base : Heap}
/-! ### is_things -/
def spThings : Sp := fun vs H Q _ => ∃ (a : Addr) (ns : List Int) (n : Int), vs = [.ref a, .int n] ∧ SeqI H a ns ∧ ns.Nodup ∧ (∀ x ∈ ns, 0 ≤ x ∧ x < n) ∧ ns.length ≤ 300 ∧ ∀ H', Same H H' → Q (.bl true) H'
theorem sc24 : FnScope ["value", "things", "thing"] ["value", "things"] (defScope sThings) := ⟨rfl, rfl, rfl, by decide +kernel, rfl, by decide +kernel, by decide +kernel⟩
theorem ok24 (W : World0 K mg) : Cl P w K mg base 4 "is_things" spThings := by
  refine cal_of (ps := ["value", "things"]) W.d24 (fun f fd F => F.ok sc24 (fun vs H Q E h => ?_) (fun cdv A outer s H vs Q E hr h => ?_)) (fun _ _ _ _ _ _ us hl => match us, hl with | [_, _], _ => rfl)
  · obtain ⟨a, ns, n, rfl, _⟩ := h
    rfl
  · obtain ⟨a, ns, n, rfl, seq, nd, bd, few, q⟩ := h
    refine ⟨_, pss_one (ps_ret (pe_and (C8.pe_c (ok11 W) hr (by decide) (by rfl) (pa_cons (pv 0) pa_nil)) (pe_one (pe_callB (cr_all rfl) (by rfl) W.t.all b_all (pa_cons
        (pe_lc (own := [("thing", 2)]) (g := gName 2) (tt := tYes) rfl sc24.nd (pi_either (pi_list (pv 0)) (pi_tup (pv 0))) (blkOk_by (N := ["value", "things", "thing"]) (sc := defScope sThings) (by decide +kernel)) (fun _ _ _ _ _ => pg_name (i := 2) sc24.nd rfl (Or.inl rfl)) (fun _ _ _ _ _ => pts_nil)
          (fun _ _ _ _ _ => pe_cmpR op_lt (pv 2) (pv 1) (nomark _))) pa_nil))))), ?_⟩
    refine ⟨_, rfl, a, ns, rfl, seq, nd, fun x hx => (bd x hx).1, few, fun H1 s1 => ⟨true, rfl, iteT ?_⟩⟩
    dsimp only [tCB, tCons, tNil]
    refine lc_seqI (K := K) (j := 0) (a := a) (ns := ns) ?sl (seqI_same s1 seq) fun D nD => ⟨fun i H2 => Same H1 H2 ∧ H2 D = some (.lst (List.replicate i (.bl true))), ⟨same_new nD, upd_same⟩, fun _ _ p => p.1, ?_, ?_⟩
    · rfl
    · rintro i x H2 hx ⟨s2, hD⟩
      have li : i < ns.length := (List.getElem?_eq_some_iff.mp hx).1
      refine ⟨rfl, ⟨_, rfl, _, rfl, _, _, rfl, rfl, List.replicate i (.bl true), hD, by rw [List.length_replicate]; exact sz_lt (by omega), same_mut s2 nD, ?_⟩⟩
      rw [upd_same]
      show some (HO.lst (List.replicate i (V.bl true) ++ [V.bl (decide (x < n))])) = _
      rw [decide_eq_true (bd x (List.mem_of_getElem? hx)).2, rep_succ]
    · rintro H2 ⟨s2, hD⟩
      refine ⟨D, List.replicate ns.length true, rfl, SqL.of (by rw [hD, mapTrue]), ?_⟩
      rw [allTrue]
      exact q _ (s1.trans s2)
/-! ### is_string -/
def spString : Sp := fun vs H Q _ => ∃ (a : Addr) (i j n : Int), vs = [.ref a, .int n] ∧ H a = some (.tup [.int i, .int j]) ∧ 0 ≤ i ∧ i < j ∧ j < n ∧ ∀ H', Same H H' → Q (.bl true) H'
theorem sc25 : FnScope ["value", "things"] ["value", "things"] (defScope sString) := ⟨rfl, rfl, rfl, by decide +kernel, rfl, by decide +kernel, by decide +kernel⟩
theorem ok25 (W : World0 K mg) : Cl P w K mg base 5 "is_string" spString := by
  refine cal_of (ps := ["value", "things"]) W.d25 (fun f fd F => F.ok sc25 (fun vs H Q E h => ?_) (fun cdv A outer s H vs Q E hr h => ?_)) (fun _ _ _ _ _ _ us hl => match us, hl with | [_, _], _ => rfl)
  · obtain ⟨a, i, j, n, rfl, _⟩ := h
    rfl
  · obtain ⟨a, i, j, n, rfl, tup, h0, h1, h2, q⟩ := h
    refine ⟨_, pss_one (ps_ret (pe_and (C8.pe_c (ok24 W) hr (by decide) (by rfl) (pa_cons (pv 0) (pa_cons (pv 1) pa_nil))) (pe_one (pe_cmpR op_eq (pe_callB call_len_seq (by rfl) W.t.len b_len (pa_cons (pv 0) pa_nil)) pe_int (nomark _))))), ?_⟩
    refine ⟨_, rfl, _, rfl, a, [i, j], n, rfl, .inr tup, ?_, ?_, (by show 2 ≤ 300; decide), fun H1 s1 => ⟨true, rfl, iteT ?_⟩⟩
    · refine List.nodup_cons.mpr ⟨fun z => ?_, by simp⟩
      have : i = j := by simpa using z
      omega
    · intro x hx
      have : x = i ∨ x = j := by simpa using hx
      omega
    · exact ⟨_, rfl, a, _, rfl, .inr (SqT.of (s1 _ _ tup)), rfl, q H1 s1⟩
/-! ### things_from -/
def spThingsFrom : Sp := fun vs H Q _ => ∃ (a : Addr) (ns : List Int) (n : Int) (p : Str), vs = [.ref a, .int n, .str p] ∧ H a = some (.lst (ns.map V.int)) ∧ ns.Nodup ∧ (∀ x ∈ ns, 0 ≤ x ∧ x < n) ∧ ns.length ≤ 300 ∧
  ∀ t H', Same H H' → H t = none → H' t = some (.tup (ns.map V.int)) → Q (.ref t) H'
theorem sc27 : FnScope ["value", "things", "part"] ["value", "things", "part"] (defScope sThingsFrom) := ⟨rfl, rfl, rfl, by decide +kernel, rfl, by decide +kernel, by decide +kernel⟩
theorem ok27 (W : World0 K mg) : Cl P w K mg base 5 "things_from" spThingsFrom := by
  refine cal_of (ps := ["value", "things", "part"]) W.d27 (fun f fd F => F.ok sc27 (fun vs H Q E h => ?_) (fun cdv A outer s H vs Q E hr h => ?_)) (fun _ _ _ _ _ _ us hl => match us, hl with | [_, _, _], _ => rfl)
  · obtain ⟨a, ns, n, p, rfl, _⟩ := h
    rfl
  · obtain ⟨a, ns, n, p, rfl, lst, nd, bd, few, q⟩ := h
    refine ⟨_, pss_cons (ps_if (pt_not (pt_val (C8.pe_c (ok24 W) hr (by decide) (by rfl) (pa_cons (pv 0) (pa_cons (pv 1) pa_nil))))) pss_never pss_nil)
      (pss_one (ps_ret (pe_callTy call_tuple_of (by rfl) W.t.tuple b_tuple (pa_cons (pv 0) pa_nil)))), ?_⟩
    refine ⟨_, rfl, _, rfl, a, ns, n, rfl, .inl lst, nd, bd, few, fun H1 s1 => ⟨true, rfl, iteF ?_⟩⟩
    exact ⟨_, rfl, a, _, rfl, .inl ⟨SqL.of (s1 _ _ lst), fun t nt => q t _ (same_mut s1 (s1.free nt)) (s1.free nt) upd_same⟩⟩
end
end K19
end
section
/-! strings_from; lists of pairs. -/
namespace K19
open PySem PySem.Spec PyProof.Rows L2
theorem prs_same {H H2 : Hp} {ts : List Addr} {es : List Sx} (s : Same H H2) (h : PairsAt H ts es) : PairsAt H2 ts es := Paired.mapP h fun _ _ q => s _ _ q
theorem prs_len {H : Hp} {ts : List Addr} {es : List Sx} (h : PairsAt H ts es) : ts.length = es.length := Paired.length h
theorem prs_snoc {H : Hp} : ∀ {ts : List Addr} {es : List Sx} {t : Addr} {e : Sx}, PairsAt H ts es → H t = some (.tup [.int e.1, .int e.2]) → PairsAt H (ts ++ [t]) (es ++ [e])
  | _, _, _, _, .nil, q => .cons q .nil
  | _, _, _, _, .cons r h, q => .cons r (prs_snoc h q)
theorem prs_get {H : Hp} : ∀ {ts : List Addr} {es : List Sx} {i : Nat} {x : V}, PairsAt H ts es → (ts.map V.ref)[i]? = some x → ∃ (t : Addr) (e : Sx), ts[i]? = some t ∧ es[i]? = some e ∧ x = .ref t ∧ H t = some (.tup [.int e.1, .int e.2])
  | _, _, i, x, .nil, h => by simp at h
  | t :: _, e :: _, 0, x, .cons r _, h => ⟨t, e, rfl, rfl, (Option.some.inj h).symm, r⟩
  | _ :: _, _ :: _, i + 1, x, .cons _ q, h => prs_get (i := i) (x := x) q h
theorem prs_mem {H : Hp} {ts : List Addr} {es : List Sx} (h : PairsAt H ts es) {x : V} (hx : x ∈ ts.map V.ref) : ∃ (t : Addr) (e : Sx), x = .ref t ∧ e ∈ es ∧ H t = some (.tup [.int e.1, .int e.2]) := by
  obtain ⟨i, hi⟩ := List.mem_iff_getElem?.mp hx
  obtain ⟨t, e, _, h2, h3, h4⟩ := prs_get h hi
  exact ⟨t, e, h3, List.mem_of_getElem? h2, h4⟩
def rTup (K : PySem.W.Frag) : List V → Hp → VK → Prop := fun xs H Q => ∃ p ys, xs = [.ref p] ∧ ((SqL K H p ys ∧ ∀ l, H l = none → Q (.ref l) (upd H l (.tup ys))) ∨ (SqT K H p ys ∧ Q (.ref p) H))
theorem cr_tup {X : Cx} : CallR X (.type "tuple") (rTup X.K) := call_tuple_of
/-- the pair that stands at an address -/
def pairOf (H : Hp) : V → Int × Int
  | .ref t => match H t with
    | some (.tup [.int i, .int j]) => (i, j)
    | _ => (0, 0)
  | _ => (0, 0)
theorem pairOf_at {H : Hp} {t : Addr} {e : Sx} (h : H t = some (.tup [.int e.1, .int e.2])) : pairOf H (.ref t) = e := by
  simp only [pairOf, h]
theorem pairOf_map {H : Hp} : ∀ {ts : List Addr} {es : List Sx}, PairsAt H ts es → (ts.map V.ref).map (pairOf H) = es
  | _, _, .nil => rfl
  | _, _, .cons r q => by
    rw [List.map_cons, List.map_cons, pairOf_at r, pairOf_map q]
theorem prs_pair {H : Hp} {ts : List Addr} {es : List Sx} (h : PairsAt H ts es) : ∀ x ∈ ts.map V.ref, ∃ t, x = V.ref t ∧ H t = some (.tup [.int (pairOf H x).1, .int (pairOf H x).2]) := fun x hx => by
  obtain ⟨t, e, rfl, _, q⟩ := prs_mem h hx
  exact ⟨t, rfl, by rw [pairOf_at q]; exact q⟩
/-- what is sorted already stays -/
theorem sorted_same {H : Hp} {ts : List Addr} {es : List Sx} (h : PairsAt H ts es) (asc : es.Pairwise fun e f => e.1 < f.1 ∨ (e.1 = f.1 ∧ e.2 < f.2)) {ys : List V}
    (s : SrtO.Srtd (ltP (pairOf H)) ys) (b : SrtO.Stb (ltP (pairOf H)) ys (ts.map V.ref)) : ys = ts.map V.ref := by
  have pw : (ts.map V.ref).Pairwise fun x y => (pairOf H x).1 < (pairOf H y).1 ∨ ((pairOf H x).1 = (pairOf H y).1 ∧ (pairOf H x).2 < (pairOf H y).2) := by
    rw [← pairOf_map h, List.pairwise_map] at asc
    exact asc
  have inj : ∀ x ∈ ts.map V.ref, ∀ y ∈ ts.map V.ref, pairOf H x = pairOf H y → x = y := by
    intro x hx y hy e
    obtain ⟨i, hi, rfl⟩ := List.getElem_of_mem hx
    obtain ⟨j, hj, rfl⟩ := List.getElem_of_mem hy
    rcases Nat.lt_trichotomy i j with c | c | c
    · have z := List.pairwise_iff_getElem.mp pw i j hi hj c
      rw [e] at z
      omega
    · subst c
      rfl
    · have z := List.pairwise_iff_getElem.mp pw j i hj hi c
      rw [e] at z
      omega
  refine List.Perm.eq_of_pairwise (le := fun x y => ¬ ((pairOf H y).1 < (pairOf H x).1 ∨ ((pairOf H y).1 = (pairOf H x).1 ∧ (pairOf H y).2 < (pairOf H x).2))) (fun x y hx hy h1 h2 => ?_) ?_ ?_ b.perm
  · refine inj x (b.perm.mem_iff.mp hx) y hy (Prod.ext ?_ ?_) <;> omega
  · refine List.Pairwise.imp (fun {x y} q => ?_) (show ys.Pairwise fun x y => ltP (pairOf H) y x = false from s)
    exact SrtO.lexB_no.mp q
  · exact pw.imp fun {x y} q => by omega
section
variable {P : Program} {w : World} {K : PySem.W.Frag} {mg : Str → Option Value} {base : Heap}
/-- the list at l: the pairs es -/
def PairsL (H : Hp) (l : Addr) (es : List Sx) : Prop := ∃ ts, H l = some (.lst (ts.map V.ref)) ∧ PairsAt H ts es
def PairsT (H : Hp) (l : Addr) (es : List Sx) : Prop := ∃ ts, H l = some (.tup (ts.map V.ref)) ∧ PairsAt H ts es
def spStrings : Sp := fun vs H Q _ => ∃ (l : Addr) (es : List Sx) (n : Nat), vs = [.ref l, .int (n : Int)] ∧ PairsL H l es ∧ Strs n es ∧ n ≤ 24 ∧ es.length < 300 ∧ ∀ t H', Same H H' → H t = none → PairsT H' t es → Q (.ref t) H'
theorem sc26 : FnScope ["value", "things", "found", "each"] ["value", "things"] (defScope sStrings) := ⟨rfl, rfl, rfl, by decide +kernel, rfl, by decide +kernel, by decide +kernel⟩
theorem ok26 (W : World0 K mg) : Cl P w K mg base 6 "strings_from" spStrings := by
  refine cal_of (ps := ["value", "things"]) W.d26 (fun f fd F => F.ok sc26 (fun vs H Q E h => ?_) (fun cdv A outer s H vs Q E hr h => ?_)) (fun _ _ _ _ _ _ us hl => match us, hl with | [_, _], _ => rfl)
  · obtain ⟨l, es, n, rfl, _⟩ := h
    rfl
  · obtain ⟨l, es, n, rfl, ⟨ts, lst, prs⟩, S, n24, few, q⟩ := h
    refine ⟨_, pss_cons (ps_if (PW.pt (pw_or (pt_not (pt_val (pe_callB call_isiT (by rfl) W.t.isi b_isi (pa_cons (pv 0) (pa_cons (pe_tup (pa_cons (pe_bltn (v := .ty "list") (by rfl) W.t.list b_list rfl) (pa_cons (pe_bltn (v := .ty "tuple") (by rfl) W.t.tuple b_tuple rfl) pa_nil))) pa_nil)))))
          (pw_or1 (pt_not (pt_val (pe_callB (cr_all rfl) (by rfl) W.t.all b_all (pa_cons
            (pe_lc (own := [("each", 3)]) (g := gName 3) (tt := tYes) rfl sc26.nd (pi_list (pv 0)) (blkOk_by (N := ["value", "things", "found", "each"]) (sc := defScope sStrings) (by decide +kernel)) (fun _ _ _ _ _ => pg_name (i := 3) sc26.nd rfl (Or.inl rfl)) (fun _ _ _ _ _ => pts_nil)
              (fun _ _ _ _ _ => C8.pe_c (ok25 W) hr (by decide) (by rfl) (pa_cons (pv 3) (pa_cons (pv 1) pa_nil)))) pa_nil))))))) pss_never pss_nil)
      (pss_cons (ps_set (i := 2) sc26.nd rfl (Or.inl rfl) (pe_callB cr_sortedPO (by rfl) W.t.sorted b_sorted (pa_cons
          (pe_lc (own := [("each", 3)]) (g := gName 3) (tt := tYes) rfl sc26.nd (pi_list (pv 0)) (blkOk_by (N := ["value", "things", "found", "each"]) (sc := defScope sStrings) (by decide +kernel)) (fun _ _ _ _ _ => pg_name (i := 3) sc26.nd rfl (Or.inl rfl)) (fun _ _ _ _ _ => pts_nil)
            (fun _ _ _ _ _ => pe_callTy (r := rTup K) cr_tup (by rfl) W.t.tuple b_tuple (pa_cons (pe_callB (r := rSortTI K) cr_sortTI (by rfl) W.t.sorted b_sorted (pa_cons (pv 3) pa_nil)) pa_nil))) pa_nil)))
      (pss_cons (ps_if (pt_cmpR op_ne (pe_lenSetP (by rfl) W.t.len (by rfl) W.t.set hr.units (pv 2)) (pe_callB call_len_seq (by rfl) W.t.len b_len (pa_cons (pv 2) pa_nil)) (nomark _)) pss_never pss_nil)
      (pss_one (ps_ret (pe_callTy call_tuple_of (by rfl) W.t.tuple b_tuple (pa_cons (pv 2) pa_nil)))))), ?_⟩
    have tl := prs_len prs
    refine ⟨_, rfl, (by show 2 ≤ sizeLine; decide), fun tp ntp => ⟨_, tp, _, _, _, true, rfl, upd_same, cls_lt, .base (.lst (by rw [upd_ne (ne_of_none lst ntp)]; exact lst)), kit_lt, true, rfl, iteF ?_⟩⟩
    have s1 : Same H (upd H tp (.tup [.ty "list", .ty "tuple"])) := same_new ntp
    generalize upd H tp (.tup [.ty "list", .ty "tuple"]) = H1 at s1
    -- all([is_string(each, things) for each in value])
    refine ⟨_, rfl, l, rfl, ⟨_, SqL.of (s1 _ _ lst)⟩, fun D nD => ?_⟩
    refine lc_list (K := K) (a := l) (xs := ts.map V.ref) (fun i H2 => Same H1 H2 ∧ H2 D = some (.lst (List.replicate i (.bl true)))) ⟨same_new nD, upd_same⟩ (fun i H2 _ p => SqL.of (p.1 _ _ (s1 _ _ lst))) ?_ ?_
    · rintro i x H2 hi ⟨s2, hD⟩
      obtain ⟨t, e, ht, he, rfl, tup⟩ := prs_get prs hi
      have li : i < ts.length := (List.getElem?_eq_some_iff.mp ht).1
      have em := List.mem_of_getElem? he
      refine ⟨rfl, ⟨_, rfl, _, rfl, t, e.1, e.2, (n : Int), rfl, s2 _ _ (s1 _ _ tup), S.lo e em, S.lt e em, S.hi e em, fun H3 s3 => ⟨List.replicate i (.bl true), s3 _ _ hD, by rw [List.length_replicate]; exact sz_lt (by omega), same_mut (s2.trans s3) nD, ?_⟩⟩⟩
      rw [upd_same]
      show some (HO.lst (List.replicate i (V.bl true) ++ [V.bl true])) = _
      rw [rep_succ]
    · rintro H2 ⟨s2, hD⟩
      refine ⟨D, List.replicate (ts.map V.ref).length true, rfl, SqL.of (by rw [hD, mapTrue]), (List.replicate (ts.map V.ref).length true).all id, rfl, ?_⟩
      rw [allTrue]
      have sH : Same H H2 := s1.trans s2
      clear s1 s2 hD nD ntp
      refine iteF ?_
      -- found = sorted([tuple(sorted(each)) for each in value])
      refine ⟨_, rfl, l, rfl, ⟨_, SqL.of (sH _ _ lst)⟩, fun D2 nD2 => ?_⟩
      refine lc_list (K := K) (a := l) (xs := ts.map V.ref) (fun i H3 => Same H2 H3 ∧ ∃ us, H3 D2 = some (.lst (us.map V.ref)) ∧ PairsAt H3 us (es.take i)) ⟨same_new nD2, [], upd_same, .nil⟩ (fun i H3 _ p => SqL.of (p.1 _ _ (sH _ _ lst))) ?_ ?_
      · rintro i x H3 hi ⟨s3, us, hD2, pu⟩
        obtain ⟨t, e, ht, he, rfl, tup⟩ := prs_get prs hi
        have em := List.mem_of_getElem? he
        have lu : us.length ≤ i := by
          rw [prs_len pu, List.length_take]
          omega
        have li : i < es.length := (List.getElem?_eq_some_iff.mp he).1
        refine ⟨rfl, ⟨_, rfl, t, [e.1, e.2], rfl, SqT.of (s3 _ _ (sH _ _ tup)), fun ms p pm srt np => ?_⟩⟩
        have asc : [e.1, e.2].Pairwise (· < ·) := List.pairwise_cons.mpr ⟨fun z hz => (by rw [List.mem_singleton.mp hz]; exact S.lt e em), List.pairwise_singleton ..⟩
        obtain rfl := sorted_asc pm srt asc
        refine ⟨p, _, rfl, .inl ⟨SqL.of upd_same, fun l2 nl2 => ?_⟩⟩
        have n1 : H3 l2 = none := by
          have np2 : l2 ≠ p := fun z => by rw [z, upd_same] at nl2; cases nl2
          rw [upd_ne np2] at nl2
          exact nl2
        have s4 : Same H3 (upd (upd H3 p (.lst ([e.1, e.2].map V.int))) l2 (.tup ([e.1, e.2].map V.int))) := same_mut (same_new np) n1
        refine ⟨us.map V.ref, s4 _ _ hD2, by rw [List.length_map]; exact sz_lt (by omega), same_mut (s3.trans s4) nD2, us ++ [l2], ?_, ?_⟩
        · rw [upd_same, List.map_append]
          rfl
        · have ne : l2 ≠ D2 := fun z => by rw [z, hD2] at n1; cases n1
          have s5 : ∀ t2 u, H3 t2 = some (.tup u) → upd (upd (upd H3 p (.lst ([e.1, e.2].map V.int))) l2 (.tup ([e.1, e.2].map V.int))) D2 (.lst (us.map V.ref ++ [.ref l2])) t2 = some (.tup u) := fun t2 u z => by
            rw [upd_ne (fun y => by rw [y, hD2] at z; cases z)]
            exact s4 _ _ z
          rw [show es.take (i + 1) = es.take i ++ [e] by rw [List.take_add_one, he]; rfl]
          refine prs_snoc (Paired.mapP pu fun t2 e2 z => s5 _ _ z) ?_
          rw [upd_ne ne, upd_same]
          rfl
      · rintro H3 ⟨s3, us, hD2, pu⟩
        rw [List.length_map, tl, List.take_length] at pu
        refine ⟨D2, us.map V.ref, pairOf H3, rfl, SqL.of hD2, prs_pair pu, fun ys p srt stb np => ?_⟩
        obtain rfl := sorted_same pu S.asc srt stb
        have s4 : Same H3 (upd H3 p (.lst (us.map V.ref))) := same_new np
        have hp : upd H3 p (.lst (us.map V.ref)) p = some (.lst (us.map V.ref)) := upd_same
        have pu4 := prs_same s4 pu
        generalize upd H3 p (.lst (us.map V.ref)) = H4 at s4 hp pu4
        refine ⟨_, rfl, p, us, es, rfl, hp, pu4, S.nodup, few, fun e he => ⟨S.lo e he, S.lt e he, ?_⟩, ?_⟩
        · have := S.hi e he
          omega
        refine ⟨_, rfl, p, _, rfl, .inl (SqL.of hp), rfl, _, rfl, ?_⟩
        have e1 : V.int ((es.length : Nat) : Int) = V.int (((us.map V.ref).length : Nat) : Int) := by rw [List.length_map, prs_len pu]
        refine iteNS e1 ⟨_, rfl, p, _, rfl, .inl ⟨SqL.of hp, fun t nt => ?_⟩⟩
        have sF : Same H H4 := sH.trans (s3.trans s4)
        exact q t _ (same_mut sF (sF.free nt)) (sF.free nt) ⟨us, upd_same, prs_same (same_new nt) pu4⟩
end
end K19
end
section
/-! pairs_in, turns_from; data as read. -/
namespace K19
open PySem PySem.Spec PyProof.Rows L2
/-! ### rows that grow -/
def Grow (H1 : Hp) (D : Addr) (acc : Nat → List V) (i : Nat) (H : Hp) : Prop := Same H1 H ∧ H D = some (.lst (acc i))
theorem grow_new {H1 : Hp} {D : Addr} {acc : Nat → List V} (nD : H1 D = none) (e : acc 0 = []) : Grow H1 D acc 0 (upd H1 D (.lst [])) := ⟨same_new nD, by rw [e]; exact upd_same⟩
theorem grow_step {H1 H H4 : Hp} {D : Addr} {acc : Nat → List V} {i : Nat} {y : V} (nD : H1 D = none) (p : Grow H1 D acc i H) (s : Same H H4) (e : acc (i + 1) = acc i ++ [y]) (few : (acc i).length < 100000) :
    ∃ ac, H4 D = some (.lst ac) ∧ ac.length < sizeLine ∧ Grow H1 D acc (i + 1) (upd H4 D (.lst (ac ++ [y]))) :=
  ⟨acc i, s _ _ p.2, sz_lt few, same_mut (p.1.trans s) nD, by rw [e]; exact upd_same⟩
theorem grow_skip {H1 H H4 : Hp} {D : Addr} {acc : Nat → List V} {i : Nat} (p : Grow H1 D acc i H) (s : Same H H4) (e : acc (i + 1) = acc i) : Grow H1 D acc (i + 1) H4 := ⟨p.1.trans s, by rw [e]; exact s _ _ p.2⟩
theorem grow_at {H1 H : Hp} {D : Addr} {acc : Nat → List V} {i : Nat} {ys : List V} (p : Grow H1 D acc i H) (e : acc i = ys) : H D = some (.lst ys) := e ▸ p.2
theorem take_snoc {α : Type} {xs : List α} {i : Nat} {x : α} (h : xs[i]? = some x) : xs.take (i + 1) = xs.take i ++ [x] := by
  rw [List.take_add_one, h]
  rfl
theorem take_few {α : Type} {xs : List α} {i n : Nat} (h : xs.length < n) : (xs.take i).length < n := by
  rw [List.length_take]
  omega
def rIsiT' (K : PySem.W.Frag) : List V → Hp → VK → Prop := rIsiT K
def rLenSeq (K : PySem.W.Frag) : List V → Hp → VK → Prop := fun xs H Q => ∃ p ys, xs = [.ref p] ∧ (SqL K H p ys ∨ SqT K H p ys) ∧ Q (.int ys.length) H
theorem cr_lenSeq {X : Cx} : CallR X (.builtin "len") (rLenSeq X.K) := call_len_seq
def rLst (K : PySem.W.Frag) : List V → Hp → VK → Prop := fun xs H Q => ∃ p ys, xs = [.ref p] ∧ (SqL K H p ys ∨ SqT K H p ys) ∧ ∀ l, H l = none → Q (.ref l) (upd H l (.lst ys))
theorem cr_lst {X : Cx} : CallR X (.type "list") (rLst X.K) := call_list_of
theorem k_ld {K : PySem.W.Frag} : PySem.W.kitOne K (.type "list") (.type "dict") = some false := kit_ty (by decide +kernel)
/-! ### data -/
theorem eqvI : ∀ ms ns : List Int, PyData.eqvAll (ms.map PyData.int) (ns.map PyData.int) = decide (ms = ns)
  | [], [] => by simp [PyData.eqvAll]
  | [], _ :: _ => by simp [PyData.eqvAll]
  | _ :: _, [] => by simp [PyData.eqvAll]
  | m :: ms, n :: ns => by
    rw [List.map_cons, List.map_cons, PyData.eqvAll, eqvI ms ns, PyData.eqv]
    by_cases h : m = n <;> simp [h]
theorem eqvL (ms ns : List Int) : PyData.eqv (.list (ms.map PyData.int)) (.list (ns.map PyData.int)) = decide (ms = ns) := by rw [PyData.eqv, eqvI]
theorem eqvT (ms ns : List Int) : PyData.eqv (.tuple (ms.map PyData.int)) (.tuple (ns.map PyData.int)) = decide (ms = ns) := by rw [PyData.eqv, eqvI]
theorem shL (ns : List Int) : SeqAt.shaped (.list (ns.map PyData.int)) = true := PySem.W.shaped_ints ns
theorem shT (ns : List Int) : SeqAt.shaped (.tuple (ns.map PyData.int)) = true := by
  have h1 := PySem.W.depthAll_ints ns
  have h2 : PyData.depth (.tuple (ns.map PyData.int)) ≤ 64 := by
    simp only [PyData.depth]
    omega
  show (PyData.canLay0 (.tuple (ns.map PyData.int)) && decide (PyData.depth (.tuple (ns.map PyData.int)) ≤ 64)) = true
  rw [Bool.and_eq_true]
  exact ⟨by simp only [PyData.canLay0]; exact PySem.W.canLayAll0_ints ns, decide_eq_true h2⟩
theorem dpL {K : PySem.W.Frag} {H : Hp} {a : Addr} {ns : List Int} (h : H a = some (.lst (ns.map V.int))) : Dp K H (.ref a) (.list (ns.map PyData.int)) := .lst (SqL.of h) (dpAll_ints ns)
theorem dpT {K : PySem.W.Frag} {H : Hp} {a : Addr} {ns : List Int} (h : H a = some (.tup (ns.map V.int))) : Dp K H (.ref a) (.tuple (ns.map PyData.int)) := .tup (SqT.of h) (dpAll_ints ns)
section
variable {P : Program} {w : World} {K : PySem.W.Frag} {mg : Str → Option Value} {base : Heap}
/-! ### pairs_in -/
def spPairs : Sp := fun vs H Q _ => ∃ (l : Addr) (es : List Sx), vs = [.ref l] ∧ PairsL H l es ∧ (es.map (·.1)).Nodup ∧ es.length < 300 ∧ ∀ p H', Same H H' → H p = none → PairsL H' p es → Q (.ref p) H'
theorem sc13 : FnScope ["value", "each"] ["value"] (defScope sPairs) := ⟨rfl, rfl, rfl, by decide +kernel, rfl, by decide +kernel, by decide +kernel⟩
theorem ok13 (W : World0 K mg) : Cl P w K mg base 2 "pairs_in" spPairs := by
  refine cal_of (ps := ["value"]) W.d13 (fun f fd F => F.ok sc13 (fun vs H Q E h => ?_) (fun cdv A outer s H vs Q E hr h => ?_)) (fun _ _ _ _ _ _ us hl => match us, hl with | [_], _ => rfl)
  · obtain ⟨l, es, rfl, _⟩ := h
    rfl
  · obtain ⟨l, es, rfl, ⟨ts, lst, prs⟩, nd, few, q⟩ := h
    refine ⟨_, pss_cons (ps_if (pt_val (pe_callB call_isi (by rfl) W.t.isi b_isi (pa_cons (pv 0) (pa_cons (pe_bltn (v := .ty "dict") (by rfl) W.t.dict b_dict rfl) pa_nil)))) pss_never pss_nil)
      (pss_cons (ps_if (pt_not (pt_val (pe_callB call_isiT (by rfl) W.t.isi b_isi (pa_cons (pv 0) (pa_cons (pe_tup (pa_cons (pe_bltn (v := .ty "list") (by rfl) W.t.list b_list rfl) (pa_cons (pe_bltn (v := .ty "tuple") (by rfl) W.t.tuple b_tuple rfl) pa_nil))) pa_nil))))) pss_never pss_nil)
      (pss_cons (ps_if (pt_not (pt_val (pe_callB (cr_all rfl) (by rfl) W.t.all b_all (pa_cons
          (pe_lc (own := [("each", 1)]) (g := gName 1) (tt := tYes) rfl sc13.nd (pi_list (pv 0)) (blkOk_by (N := ["value", "each"]) (sc := defScope sPairs) (by decide +kernel)) (fun _ _ _ _ _ => pg_name (i := 1) sc13.nd rfl (Or.inl rfl)) (fun _ _ _ _ _ => pts_nil)
            (fun _ _ _ _ _ => pe_and (pe_callB (r := rIsiT K) call_isiT (by rfl) W.t.isi b_isi (pa_cons (pv 1) (pa_cons (pe_tup (pa_cons (pe_bltn (v := .ty "list") (by rfl) W.t.list b_list rfl) (pa_cons (pe_bltn (v := .ty "tuple") (by rfl) W.t.tuple b_tuple rfl) pa_nil))) pa_nil)))
              (pe_one (pe_cmpR op_eq (pe_callB (r := rLenSeq K) cr_lenSeq (by rfl) W.t.len b_len (pa_cons (pv 1) pa_nil)) pe_int (nomark _))))) pa_nil)))) pss_never pss_nil)
      (pss_cons (ps_if (PW.pt (pw_or (pt_not (pt_val (pe_callB (cr_all rfl) (by rfl) W.t.all b_all (pa_cons
          (pe_lc (own := [("each", 1)]) (g := gName 1) (tt := tYes) rfl sc13.nd (pi_list (pv 0)) (blkOk_by (N := ["value", "each"]) (sc := defScope sPairs) (by decide +kernel)) (fun _ _ _ _ _ => pg_name (i := 1) sc13.nd rfl (Or.inl rfl)) (fun _ _ _ _ _ => pts_nil)
            (fun _ _ _ _ _ => C8.pe_c (ok8 W) hr (by decide) (by rfl) (pa_cons (pe_ix (r := rIxT K) ix_tup (pv 1) pe_int (fun _ _ => rfl)) pa_nil))) pa_nil))))
        (pw_or1 (pt_cmpR op_ne (RZ.pe_lenSetI (by rfl) W.t.len (by rfl) W.t.set
          (pe_lc (own := [("each", 1)]) (g := gName 1) (tt := tYes) rfl sc13.nd (pi_list (pv 0)) (blkOk_by (N := ["value", "each"]) (sc := defScope sPairs) (by decide +kernel)) (fun _ _ _ _ _ => pg_name (i := 1) sc13.nd rfl (Or.inl rfl)) (fun _ _ _ _ _ => pts_nil)
            (fun _ _ _ _ _ => pe_ix (r := rIxT K) ix_tup (pv 1) pe_int (fun _ _ => rfl)))) (pe_callB call_len_seq (by rfl) W.t.len b_len (pa_cons (pv 0) pa_nil)) (nomark _))))) pss_never pss_nil)
      (pss_one (ps_ret
          (pe_lc (own := [("each", 1)]) (g := gName 1) (tt := tYes) rfl sc13.nd (pi_list (pv 0)) (blkOk_by (N := ["value", "each"]) (sc := defScope sPairs) (by decide +kernel)) (fun _ _ _ _ _ => pg_name (i := 1) sc13.nd rfl (Or.inl rfl)) (fun _ _ _ _ _ => pts_nil)
            (fun _ _ _ _ _ => pe_callTy (r := rTup K) cr_tup (by rfl) W.t.tuple b_tuple (pa_cons (pv 1) pa_nil)))))))), ?_⟩
    have tl := prs_len prs
    have cl : (ts.map V.ref).length = es.length := by rw [List.length_map, tl]
    refine ⟨_, rfl, _, _, _, _, false, rfl, .ty "dict", .base (.lst lst), k_ld, false, rfl, iteF ?_⟩
    refine ⟨_, rfl, (by show 2 ≤ sizeLine; decide), fun tp ntp => ⟨_, tp, _, _, _, true, rfl, upd_same, cls_lt, .base (.lst (by rw [upd_ne (ne_of_none lst ntp)]; exact lst)), kit_lt, true, rfl, iteF ?_⟩⟩
    have s1 : Same H (upd H tp (.tup [.ty "list", .ty "tuple"])) := same_new ntp
    generalize upd H tp (.tup [.ty "list", .ty "tuple"]) = H1 at s1
    -- all pairs
    refine ⟨_, rfl, l, rfl, ⟨_, SqL.of (s1 _ _ lst)⟩, fun D nD => ?_⟩
    refine lc_list (K := K) (a := l) (xs := ts.map V.ref) (Grow H1 D fun i => List.replicate i (.bl true)) (grow_new nD rfl) (fun i H2 _ p => SqL.of (p.1 _ _ (s1 _ _ lst))) ?_ ?_
    · intro i x H2 hi p
      obtain ⟨t, e, ht, he, rfl, tup⟩ := prs_get prs hi
      have li : i < ts.length := (List.getElem?_eq_some_iff.mp ht).1
      have tup2 := p.1 _ _ (s1 _ _ tup)
      refine ⟨rfl, ⟨_, rfl, (by show 2 ≤ sizeLine; decide), fun tq ntq => ⟨_, tq, _, _, _, true, rfl, upd_same, cls_lt, .base (.tup (by rw [upd_ne (ne_of_none tup2 ntq)]; exact tup2)), kit_tt, true, rfl, iteT ?_⟩⟩⟩
      refine ⟨_, rfl, t, _, rfl, .inr (SqT.of (by rw [upd_ne (ne_of_none tup2 ntq)]; exact tup2)), rfl, ?_⟩
      exact grow_step nD p (same_new ntq) (rep_succ i _).symm (by rw [List.length_replicate]; omega)
    rintro H2 p
    refine ⟨D, List.replicate (ts.map V.ref).length true, rfl, SqL.of (grow_at p (mapTrue _)), (List.replicate (ts.map V.ref).length true).all id, rfl, ?_⟩
    rw [allTrue]
    have s2 : Same H H2 := s1.trans p.1
    clear s1 p nD ntp
    refine iteF ?_
    -- all ints
    refine ⟨_, rfl, l, rfl, ⟨_, SqL.of (s2 _ _ lst)⟩, fun D nD => ?_⟩
    refine lc_list (K := K) (a := l) (xs := ts.map V.ref) (Grow H2 D fun i => List.replicate i (.bl true)) (grow_new nD rfl) (fun i H3 _ p => SqL.of (p.1 _ _ (s2 _ _ lst))) ?_ ?_
    · intro i x H3 hi p
      obtain ⟨t, e, ht, he, rfl, tup⟩ := prs_get prs hi
      have li : i < ts.length := (List.getElem?_eq_some_iff.mp ht).1
      refine ⟨rfl, ⟨_, rfl, t, _, 0, .int e.1, rfl, rfl, SqT.of (p.1 _ _ (s2 _ _ tup)), rfl, e.1, rfl, ?_⟩⟩
      exact grow_step nD p (.refl _) (rep_succ i _).symm (by rw [List.length_replicate]; omega)
    rintro H3 p
    refine ⟨D, List.replicate (ts.map V.ref).length true, rfl, SqL.of (grow_at p (mapTrue _)), (List.replicate (ts.map V.ref).length true).all id, rfl, ?_⟩
    rw [allTrue]
    have s3 : Same H H3 := s2.trans p.1
    clear s2 p nD
    refine iteF ?_
    -- unlike firsts
    refine ⟨_, rfl, l, rfl, ⟨_, SqL.of (s3 _ _ lst)⟩, fun D nD => ?_⟩
    refine lc_list (K := K) (a := l) (xs := ts.map V.ref) (Grow H3 D fun i => ((es.take i).map (·.1)).map V.int) (grow_new nD rfl) (fun i H4 _ p => SqL.of (p.1 _ _ (s3 _ _ lst))) ?_ ?_
    · intro i x H4 hi p
      obtain ⟨t, e, ht, he, rfl, tup⟩ := prs_get prs hi
      refine ⟨rfl, ⟨_, rfl, t, _, 0, .int e.1, rfl, rfl, SqT.of (p.1 _ _ (s3 _ _ tup)), rfl, ?_⟩⟩
      refine grow_step nD p (.refl _) (by rw [take_snoc he, List.map_append, List.map_append]; rfl) ?_
      rw [List.length_map, List.length_map]
      exact take_few (by omega)
    rintro H4 p
    rw [cl] at p
    have pd := grow_at p (ys := (es.map (·.1)).map V.int) (by rw [List.take_length])
    refine ⟨D, es.map (·.1), rfl, SqL.of pd, nd, (by rw [List.length_map]; omega), _, rfl, l, _, rfl, .inl (SqL.of (p.1 _ _ (s3 _ _ lst))), rfl, _, rfl, ?_⟩
    have s4 : Same H H4 := s3.trans p.1
    have e1 : V.int (((es.map (·.1)).length : Nat) : Int) = V.int (((ts.map V.ref).length : Nat) : Int) := by rw [cl, List.length_map]
    clear s3 p nD pd
    refine iteNS e1 ?_
    -- the pairs
    refine ⟨_, rfl, l, rfl, ⟨_, SqL.of (s4 _ _ lst)⟩, fun D nD => ?_⟩
    refine lc_list (K := K) (a := l) (xs := ts.map V.ref) (Grow H4 D fun i => (ts.map V.ref).take i) (grow_new nD rfl) (fun i H5 _ p => SqL.of (p.1 _ _ (s4 _ _ lst))) ?_ ?_
    · intro i x H5 hi p
      obtain ⟨t, e, ht, he, rfl, tup⟩ := prs_get prs hi
      refine ⟨rfl, ⟨_, rfl, t, _, rfl, .inr ⟨SqT.of (p.1 _ _ (s4 _ _ tup)), ?_⟩⟩⟩
      exact grow_step nD p (.refl _) (take_snoc hi) (take_few (by omega))
    rintro H5 p
    have pd := grow_at p (List.take_length ..)
    exact q D H5 (s4.trans p.1) (s4.free nD) ⟨ts, pd, prs_same (s4.trans p.1) prs⟩
/-! ### turns_from -/
def spTurns : Sp := fun vs H Q _ => ∃ (l k : Addr) (es : List Sx) (ls : List Int), vs = [.ref l, .ref k] ∧ PairsL H l es ∧ H k = some (.tup (ls.map V.int)) ∧ es.map (·.1) = ls ∧ ls.Pairwise (· < ·) ∧ (∀ e ∈ es, 0 ≤ e.1 ∧ 0 ≤ e.2 ∧ e.2 ≤ 7) ∧ es.length < 300 ∧
  ∀ t H', Same H H' → H t = none → Q (.ref t) H'
theorem sc28 : FnScope ["value", "looked", "pairs", "thing", "turn", "_"] ["value", "looked"] (defScope sTurns) := ⟨rfl, rfl, rfl, by decide +kernel, rfl, by decide +kernel, by decide +kernel⟩
theorem ok28 (W : World0 K mg) : Cl P w K mg base 4 "turns_from" spTurns := by
  refine cal_of (ps := ["value", "looked"]) W.d28 (fun f fd F => F.ok sc28 (fun vs H Q E h => ?_) (fun cdv A outer s H vs Q E hr h => ?_)) (fun _ _ _ _ _ _ us hl => match us, hl with | [_, _], _ => rfl)
  · obtain ⟨l, k, es, ls, rfl, _⟩ := h
    rfl
  · obtain ⟨l, k, es, ls, rfl, prl, hk, fst, asc, bd, few, q⟩ := h
    refine ⟨_, pss_cons (ps_set (i := 2) sc28.nd rfl (Or.inl rfl) (C8.pe_c (ok13 W) hr (by decide) (by rfl) (pa_cons (pv 0) pa_nil)))
      (pss_cons (ps_if (PW.pt (pw_or (pt_cmpR op_isN (pv 2) pe_non (nomark _)) (pw_or1 (pt_not (pt_val (pe_callB (cr_all rfl) (by rfl) W.t.all b_all (pa_cons
          (pe_lc (own := [("thing", 3), ("turn", 4)]) (g := gTup K 2 (gCons (gName 3) (gCons (gName 4) gNil))) (tt := tYes) rfl sc28.nd (pi_list (pv 2)) (blkOk_by (N := ["value", "looked", "pairs", "thing", "turn", "_"]) (sc := defScope sTurns) (by decide +kernel))
            (fun _ _ _ _ _ => pg_tup rfl (pgs_cons (pg_name (i := 3) sc28.nd rfl (Or.inl rfl)) (pgs_cons (pg_name (i := 4) sc28.nd rfl (Or.inl rfl)) pgs_nil))) (fun _ _ _ _ _ => pts_nil)
            (fun _ _ _ _ _ => pe_and (C8.pe_c (ok9 W) hr (by decide) (by rfl) (pa_cons (pv 3) (pa_cons pe_int (pa_cons pe_non pa_nil)))) (pe_one (C8.pe_c (ok10 W) hr (by decide) (by rfl) (pa_cons (pv 4) pa_nil))))) pa_nil))))))) pss_never pss_nil)
      (pss_cons (ps_if (pt_cmpR (op_neD hr.units) (pe_callB cr_sortedI (by rfl) W.t.sorted b_sorted (pa_cons
          (pe_lc (own := [("thing", 3), ("_", 5)]) (g := gTup K 2 (gCons (gName 3) (gCons (gName 5) gNil))) (tt := tYes) rfl sc28.nd (pi_list (pv 2)) (blkOk_by (N := ["value", "looked", "pairs", "thing", "turn", "_"]) (sc := defScope sTurns) (by decide +kernel))
            (fun _ _ _ _ _ => pg_tup rfl (pgs_cons (pg_name (i := 3) sc28.nd rfl (Or.inl rfl)) (pgs_cons (pg_name (i := 5) sc28.nd rfl (Or.inl rfl)) pgs_nil))) (fun _ _ _ _ _ => pts_nil)
            (fun _ _ _ _ _ => pv 3)) pa_nil)) (pe_callTy call_list_of (by rfl) W.t.list b_list (pa_cons (pv 1) pa_nil)) (nomark _)) pss_never pss_nil)
      (pss_one (ps_ret (pe_callTy call_tuple_of (by rfl) W.t.tuple b_tuple (pa_cons (pe_callB cr_sortedPO (by rfl) W.t.sorted b_sorted (pa_cons (pv 2) pa_nil)) pa_nil)))))), ?_⟩
    refine ⟨_, rfl, l, es, rfl, prl, (by rw [fst]; exact lt_nodup asc), few, fun p H1 s1 np ⟨ts, lst, prs⟩ => ?_⟩
    have tl := prs_len prs
    have cl : (ts.map V.ref).length = es.length := by rw [List.length_map, tl]
    refine ⟨_, rfl, rfl, _, rfl, iteF ?_⟩
    refine ⟨_, rfl, p, rfl, ⟨_, SqL.of lst⟩, fun D nD => ?_⟩
    refine lc_list (K := K) (a := p) (xs := ts.map V.ref) (Grow H1 D fun i => List.replicate i (.bl true)) (grow_new nD rfl) (fun i H2 _ p => SqL.of (p.1 _ _ lst)) ?_ ?_
    · intro i x H2 hi pg
      obtain ⟨t, e, ht, he, rfl, tup⟩ := prs_get prs hi
      have li : i < ts.length := (List.getElem?_eq_some_iff.mp ht).1
      obtain ⟨b1, b2, b3⟩ := bd e (List.mem_of_getElem? he)
      refine ⟨t, _, rfl, SqT.of (pg.1 _ _ tup), rfl, _, _, rfl, _, _, rfl, rfl, rfl, ?_⟩
      refine ⟨_, rfl, e.1, 0, .non, rfl, .inl rfl, _, rfl, ?_⟩
      rw [decide_eq_true b1]
      refine iteT ⟨_, rfl, e.2, rfl, ?_⟩
      rw [decide_eq_true b2, decide_eq_true b3]
      exact grow_step nD pg (.refl _) (rep_succ i _).symm (by rw [List.length_replicate]; omega)
    rintro H2 pg
    refine ⟨D, List.replicate (ts.map V.ref).length true, rfl, SqL.of (grow_at pg (mapTrue _)), (List.replicate (ts.map V.ref).length true).all id, rfl, ?_⟩
    rw [allTrue]
    have s2 : Same H1 H2 := pg.1
    clear pg nD
    refine iteF ?_
    refine ⟨_, rfl, p, rfl, ⟨_, SqL.of (s2 _ _ lst)⟩, fun D nD => ?_⟩
    refine lc_list (K := K) (a := p) (xs := ts.map V.ref) (Grow H2 D fun i => ((es.take i).map (·.1)).map V.int) (grow_new nD rfl) (fun i H3 _ p => SqL.of (p.1 _ _ (s2 _ _ lst))) ?_ ?_
    · intro i x H3 hi pg
      obtain ⟨t, e, ht, he, rfl, tup⟩ := prs_get prs hi
      refine ⟨t, _, rfl, SqT.of (pg.1 _ _ (s2 _ _ tup)), rfl, _, _, rfl, _, _, rfl, rfl, rfl, ?_⟩
      refine ⟨_, rfl, ?_⟩
      refine grow_step nD pg (.refl _) (by rw [take_snoc he, List.map_append, List.map_append]; rfl) ?_
      rw [List.length_map, List.length_map]
      exact take_few (by omega)
    rintro H3 pg
    rw [cl] at pg
    have pd := grow_at pg (ys := ls.map V.int) (by rw [List.take_length, fst])
    have s3 : Same H1 H3 := s2.trans pg.1
    refine ⟨D, ls, rfl, SqL.of pd, fun ms p2 pm srt np2 => ?_⟩
    obtain rfl := sorted_asc pm srt asc
    have s4 : Same H1 (upd H3 p2 (.lst (ms.map V.int))) := same_mut s3 (s3.free np2)
    have hp2 : upd H3 p2 (.lst (ms.map V.int)) p2 = some (.lst (ms.map V.int)) := upd_same
    clear pg nD
    generalize upd H3 p2 (.lst (ms.map V.int)) = H4 at s4 hp2
    refine ⟨_, rfl, k, _, rfl, .inr (SqT.of (s4 _ _ (s1 _ _ hk))), fun l2 nl2 => ?_⟩
    have s5 : Same H4 (upd H4 l2 (.lst (ms.map V.int))) := same_new nl2
    have hl2 : upd H4 l2 (.lst (ms.map V.int)) l2 = some (.lst (ms.map V.int)) := upd_same
    generalize upd H4 l2 (.lst (ms.map V.int)) = H5 at s5 hl2
    refine ⟨_, _, dpL (s5 _ _ hp2), dpL hl2, shL _, shL _, _, rfl, ?_⟩
    rw [eqvL]
    refine iteNS rfl ?_
    have s6 := s4.trans s5
    refine ⟨_, rfl, p, ts.map V.ref, pairOf H5, rfl, SqL.of (s6 _ _ lst), prs_pair (prs_same s6 prs), fun ys p3 srt stb np3 => ?_⟩
    have s7 : Same H1 (upd H5 p3 (.lst ys)) := same_mut s6 (s6.free np3)
    refine ⟨p3, ys, rfl, .inl ⟨SqL.of upd_same, fun t nt => ?_⟩⟩
    have s8 := s1.trans s7
    exact q t _ (same_mut s8 (s8.free nt)) (s8.free nt)
end
end K19
end
section
/-! Net.__init__. -/
namespace K19
open PySem PySem.Spec PyProof.Rows L2
/-! ### all stays but one -/
def But (p : Addr) (H H' : Hp) : Prop := ∀ b o, b ≠ p → H b = some o → H' b = some o
theorem but_same {p : Addr} {H H' : Hp} (s : Same H H') : But p H H' := fun b o _ e => s b o e
theorem but_trans {p : Addr} {H H1 H2 : Hp} (s : But p H H1) (t : But p H1 H2) : But p H H2 := fun b o n e => t b o n (s b o n e)
theorem but_upd {p : Addr} {H H1 : Hp} {o : HO} (s : But p H H1) : But p H (upd H1 p o) := fun b u n e => by rw [upd_ne n]; exact s b u n e
theorem prt_but {p : Addr} {H H' : Hp} {ts : List Addr} {es : List Sx} (h : PairsAt H ts es) {C dx : Addr} {fs : List (Str × V)} (hp : H p = some (.ins C dx fs)) (b : But p H H') : PairsAt H' ts es :=
  Paired.mapP h fun t e q => b t _ (fun z => by rw [z, hp] at q; cases q) q
theorem prl_but {p l : Addr} {H H' : Hp} {es : List Sx} (h : PairsL H l es) {C dx : Addr} {fs : List (Str × V)} (hp : H p = some (.ins C dx fs)) (b : But p H H') : PairsL H' l es := by
  obtain ⟨ts, hl, q⟩ := h
  exact ⟨ts, b l _ (fun z => by rw [z, hp] at hl; cases hl) hl, prt_but q hp b⟩
theorem prT_but {p l : Addr} {H H' : Hp} {es : List Sx} (h : PairsT H l es) {C dx : Addr} {fs : List (Str × V)} (hp : H p = some (.ins C dx fs)) (b : But p H H') : PairsT H' l es := by
  obtain ⟨ts, hl, q⟩ := h
  exact ⟨ts, b l _ (fun z => by rw [z, hp] at hl; cases hl) hl, prt_but q hp b⟩
theorem prl_same {l : Addr} {H H' : Hp} {es : List Sx} (h : PairsL H l es) (s : Same H H') : PairsL H' l es := by
  obtain ⟨ts, hl, q⟩ := h
  exact ⟨ts, s _ _ hl, prs_same s q⟩
theorem prT_same {l : Addr} {H H' : Hp} {es : List Sx} (h : PairsT H l es) (s : Same H H') : PairsT H' l es := by
  obtain ⟨ts, hl, q⟩ := h
  exact ⟨ts, s _ _ hl, prs_same s q⟩
theorem but_at {p b : Addr} {H H' : Hp} {o : HO} {C dx : Addr} {fs : List (Str × V)} (s : But p H H') (hp : H p = some (.ins C dx fs)) (h : H b = some o) (no : ∀ x y z, o ≠ .ins x y z) : H' b = some o :=
  s b o (fun z => no C dx fs (by rw [z, hp] at h; exact (Option.some.inj h).symm)) h
theorem put_look {f g : Str} {v u : V} {fs : List (Str × V)} (h : fs.lookup g = some u) (ne : g ≠ f) : (putF f v fs).lookup g = some u := by
  rw [lookup_putF, if_neg ne]
  exact h
theorem put_at {f : Str} {v : V} {fs : List (Str × V)} : (putF f v fs).lookup f = some v := by rw [lookup_putF, if_pos rfl]
theorem put_len {f : Str} {v : V} {fs : List (Str × V)} {k : Nat} (h : fs.length ≤ k) : (putF f v fs).length ≤ k + 1 := by
  have := length_putF f v fs
  omega
/-! ### in a row of ints; filters -/
theorem inI (x : Int) (ns : List Int) : inV (.int x) (ns.map V.int) = decide (x ∈ ns) := by
  unfold inV
  induction ns with
  | nil => simp
  | cons n ns ih =>
    rw [List.map_cons, List.any_cons, ih]
    have e : eqV (.int n) (.int x) = decide (n = x) := rfl
    rw [e]
    by_cases h : n = x
    · subst h
      simp
    · have h2 : ¬ x = n := fun z => h z.symm
      simp [h, h2]
theorem flatI (ns : List Int) : (ns.map V.int).all flatV = true := by
  rw [List.all_map]
  exact List.all_eq_true.mpr fun _ _ => rfl
def fil (ns : List Int) (p : Int → Bool) (i : Nat) : List V := ((ns.take i).filter p).map V.int
theorem fil_len (ns : List Int) (p : Int → Bool) (i : Nat) : (fil ns p i).length ≤ ns.length := by
  unfold fil
  rw [List.length_map]
  refine Nat.le_trans (List.length_filter_le ..) ?_
  rw [List.length_take]
  omega
theorem fil_add {H1 H H3 : Hp} {D : Addr} {ns : List Int} {p : Int → Bool} {i : Nat} {x : Int} (hx : ns[i]? = some x) (hp : p x = true) (nD : H1 D = none) (pg : Grow H1 D (fil ns p) i H) (s : Same H H3) (few : ns.length < 100000) :
    ∃ ac, H3 D = some (.lst ac) ∧ ac.length < sizeLine ∧ Grow H1 D (fil ns p) (i + 1) (upd H3 D (.lst (ac ++ [.int x]))) := by
  refine grow_step nD pg s ?_ (Nat.lt_of_le_of_lt (fil_len ns p i) few)
  unfold fil
  rw [filter_take hx, if_pos hp, List.map_append]
  rfl
theorem fil_not {H1 H H3 : Hp} {D : Addr} {ns : List Int} {p : Int → Bool} {i : Nat} {x : Int} (hx : ns[i]? = some x) (hp : ¬ p x = true) (pg : Grow H1 D (fil ns p) i H) (s : Same H H3) : Grow H1 D (fil ns p) (i + 1) H3 := by
  refine grow_skip pg s ?_
  unfold fil
  rw [filter_take hx, if_neg hp]
theorem fil_all (ns : List Int) (p : Int → Bool) : fil ns p ns.length = (ns.filter p).map V.int := by
  unfold fil
  rw [List.take_length]
theorem fil_rng (n : Nat) (p : Int → Bool) : fil (rng n) p n = ((rng n).filter p).map V.int := by
  have h := fil_all (rng n) p
  rw [rng_len] at h
  exact h
theorem rng0 {n i : Nat} (h : i < n) : (rng n)[i]? = some (0 + (i : Int)) := by
  rw [rng_get h, Int.zero_add]
section
variable {P : Program} {w : World} {K : PySem.W.Frag} {mg : Str → Option Value} {base : Heap}
/-- a net, as it stands -/
def NetAt (C : Addr) (H : Hp) (x : Addr) (n : Nat) (es : List Sx) : Prop := ∃ dx fs t, H x = some (.ins C dx fs) ∧ fs.lookup ("things" : Str) = some (.int (n : Int)) ∧ fs.lookup ("strings" : Str) = some (.ref t) ∧ PairsT H t es
def spInit (C : Addr) : Sp := fun vs H Q _ => ∃ (p dx sl gl kl tl : Addr) (n : Nat) (es tes : List Sx) (gs ks : List Int), vs = [.ref p, .int (n : Int), .ref sl, .ref gl, .ref kl, .ref tl] ∧ H p = some (.ins C dx []) ∧
  1 ≤ n ∧ n ≤ 24 ∧ PairsL H sl es ∧ Strs n es ∧ es.length < 300 ∧ (H gl = some (.lst (gs.map V.int)) ∧ gs.Nodup ∧ (∀ x ∈ gs, 0 ≤ x ∧ x < (n : Int)) ∧ gs.length ≤ 300) ∧
  (H kl = some (.lst (ks.map V.int)) ∧ ks.Nodup ∧ (∀ x ∈ ks, 0 ≤ x ∧ x < (n : Int)) ∧ ks.length ≤ 300) ∧
  (PairsL H tl tes ∧ tes.map (·.1) = ((rng n).filter fun x => !decide (x ∈ ks)) ∧ (∀ e ∈ tes, 0 ≤ e.1 ∧ 0 ≤ e.2 ∧ e.2 ≤ 7) ∧ tes.length < 300) ∧
  ∀ H', But p H H' → NetAt C H' p n es → Q .non H'
theorem sc32 : FnScope ["self", "things", "strings", "given", "kept", "turns", "thing"] ["self", "things", "strings", "given", "kept", "turns"] (defScope sInit) := ⟨rfl, rfl, rfl, by decide +kernel, rfl, by decide +kernel, by decide +kernel⟩
theorem ok32 {C : Addr} (W : World0 K mg) (N : NetC K mg C) : C8.Mak P w K mg base 7 "Net" C (spInit C) [] := by
  obtain ⟨f, fd, F, M⟩ := N.init
  refine ⟨f, fd, ["self", "things", "strings", "given", "kept", "turns"], [], M, F.ok sc32 (fun vs H Q E h => ?_) (fun cdv A outer s H vs Q E hr h => ?_), N.mgC, F.binds (fun _ _ _ _ _ _ us hl => match us, hl with | [_, _, _, _, _, _], _ => rfl), .nil⟩
  · obtain ⟨p, dx, sl, gl, kl, tl, n, es, tes, gs, ks, rfl, _⟩ := h
    rfl
  · obtain ⟨p, dx, sl, gl, kl, tl, n, es, tes, gs, ks, rfl, hp, n1, n24, hS, S, few, ⟨hG, gnd, gbd, gfew⟩, ⟨hK, knd, kbd, kfew⟩, ⟨hT, tf, tbd, tfew⟩, q⟩ := h
    refine ⟨_, pss_cons (ps_if (pt_not (pt_val (C8.pe_c (ok9 W) hr (by decide) (by rfl) (pa_cons (pv 1) (pa_cons pe_int (pa_cons (C8.pe_gc (by rfl) W.t.most) pa_nil)))))) pss_never pss_nil)
      (pss_cons (ps_fld (pv 0) (pv 1) rfl)
      (pss_cons (ps_fld (pv 0) (C8.pe_c (ok26 W) hr (by decide) (by rfl) (pa_cons (pv 2) (pa_cons (pv 1) pa_nil))) rfl)
      (pss_cons (ps_fld (pv 0) (C8.pe_c (ok27 W) hr (by decide) (by rfl) (pa_cons (pv 3) (pa_cons (pv 1) (pa_cons pe_str pa_nil)))) rfl)
      (pss_cons (ps_fld (pv 0) (C8.pe_c (ok27 W) hr (by decide) (by rfl) (pa_cons (pv 4) (pa_cons (pv 1) (pa_cons pe_str pa_nil)))) rfl)
      (pss_cons (ps_fld (pv 0) (pe_callTy call_tuple_of (by rfl) W.t.tuple b_tuple (pa_cons
          (pe_lc (own := [("thing", 6)]) (g := gName 6) rfl sc32.nd (pi_range1 (by rfl) W.t.range (pa_cons (pv 1) pa_nil)) (blkOk_by (N := ["self", "things", "strings", "given", "kept", "turns", "thing"]) (sc := defScope sInit) (by decide +kernel)) (fun _ _ _ _ _ => pg_name (i := 6) sc32.nd rfl (Or.inl rfl))
            (fun _ _ _ _ _ => pts_one (pt_cmpR (r := rIn K true) op_notIn_seq (pv 6) (show PE _ _ (tFld K (tVar 0) "kept") from pe_fld (pv 0) rfl) rfl))
            (fun _ _ _ _ _ => pv 6)) pa_nil)) rfl)
      (pss_one (ps_fld (pv 0) (C8.pe_c (ok28 W) hr (by decide) (by rfl) (pa_cons (pv 5) (pa_cons (pe_fld (pv 0) rfl) pa_nil))) rfl))))))), ?_⟩
    refine ⟨_, rfl, (n : Int), 1, .int 120, rfl, .inr ⟨_, rfl⟩, true, ?_, iteF ?_⟩
    · show V.bl (decide ((1 : Int) ≤ n) && decide ((n : Int) ≤ 120)) = V.bl true
      rw [decide_eq_true (by omega), decide_eq_true (by omega)]
      rfl
    -- self.things
    refine ⟨_, rfl, _, rfl, p, C, dx, [], rfl, hp, N.ins.cl, N.nT, (by show 0 < 1000; decide), ?_⟩
    have b1 : But p H (upd H p (.ins C dx (putF "things" (.int (n : Int)) []))) := but_upd (but_same (.refl H))
    have p1 : upd H p (.ins C dx (putF "things" (.int (n : Int)) [])) p = some (.ins C dx (putF "things" (.int (n : Int)) [])) := upd_same
    generalize upd H p (.ins C dx (putF "things" (.int (n : Int)) [])) = H1 at b1 p1
    have t1 : (putF "things" (.int (n : Int)) []).lookup ("things" : Str) = some (.int (n : Int)) := put_at
    have c1 : (putF "things" (.int (n : Int)) []).length ≤ 1 := put_len (Nat.le_refl 0)
    generalize putF "things" (.int (n : Int)) [] = f1 at p1 t1 c1
    -- self.strings
    refine ⟨_, rfl, _, rfl, sl, es, n, rfl, prl_but hS hp b1, S, n24, few, fun t H2 s2 nt hPT => ?_⟩
    refine ⟨_, rfl, p, C, dx, f1, rfl, s2 _ _ p1, N.ins.cl, N.nS, by omega, ?_⟩
    have tp : t ≠ p := fun z => by rw [z, p1] at nt; cases nt
    have b2 : But p H (upd H2 p (.ins C dx (putF "strings" (.ref t) f1))) := but_upd (but_trans b1 (but_same s2))
    have p2 : upd H2 p (.ins C dx (putF "strings" (.ref t) f1)) p = some (.ins C dx (putF "strings" (.ref t) f1)) := upd_same
    have k2 : PairsT (upd H2 p (.ins C dx (putF "strings" (.ref t) f1))) t es := prT_but hPT (s2 _ _ p1) (but_upd (but_same (.refl H2)))
    generalize upd H2 p (.ins C dx (putF "strings" (.ref t) f1)) = H3 at b2 p2 k2
    have t2 : (putF "strings" (.ref t) f1).lookup ("things" : Str) = some (.int (n : Int)) := put_look t1 (by decide)
    have u2 : (putF "strings" (.ref t) f1).lookup ("strings" : Str) = some (.ref t) := put_at
    have c2 : (putF "strings" (.ref t) f1).length ≤ 2 := put_len c1
    generalize putF "strings" (.ref t) f1 = f2 at p2 t2 u2 c2
    -- self.given
    refine ⟨_, rfl, _, rfl, gl, gs, (n : Int), _, rfl, but_at b2 hp hG (fun _ _ _ z => by cases z), gnd, gbd, gfew, fun tg H4 s4 ng hg => ?_⟩
    refine ⟨_, rfl, p, C, dx, f2, rfl, s4 _ _ p2, N.ins.cl, N.nG, by omega, ?_⟩
    have b3 : But p H (upd H4 p (.ins C dx (putF "given" (.ref tg) f2))) := but_upd (but_trans b2 (but_same s4))
    have p3 : upd H4 p (.ins C dx (putF "given" (.ref tg) f2)) p = some (.ins C dx (putF "given" (.ref tg) f2)) := upd_same
    have k3 : PairsT (upd H4 p (.ins C dx (putF "given" (.ref tg) f2))) t es := prT_but k2 p2 (but_upd (but_same s4))
    generalize upd H4 p (.ins C dx (putF "given" (.ref tg) f2)) = H5 at b3 p3 k3
    have t3 : (putF "given" (.ref tg) f2).lookup ("things" : Str) = some (.int (n : Int)) := put_look t2 (by decide)
    have u3 : (putF "given" (.ref tg) f2).lookup ("strings" : Str) = some (.ref t) := put_look u2 (by decide)
    have c3 : (putF "given" (.ref tg) f2).length ≤ 3 := put_len c2
    generalize putF "given" (.ref tg) f2 = f3 at p3 t3 u3 c3
    -- self.kept
    refine ⟨_, rfl, _, rfl, kl, ks, (n : Int), _, rfl, but_at b3 hp hK (fun _ _ _ z => by cases z), knd, kbd, kfew, fun tk H6 s6 nk hk => ?_⟩
    refine ⟨_, rfl, p, C, dx, f3, rfl, s6 _ _ p3, N.ins.cl, N.nK, by omega, ?_⟩
    have b4 : But p H (upd H6 p (.ins C dx (putF "kept" (.ref tk) f3))) := but_upd (but_trans b3 (but_same s6))
    have p4 : upd H6 p (.ins C dx (putF "kept" (.ref tk) f3)) p = some (.ins C dx (putF "kept" (.ref tk) f3)) := upd_same
    have k4 : PairsT (upd H6 p (.ins C dx (putF "kept" (.ref tk) f3))) t es := prT_but k3 p3 (but_upd (but_same s6))
    have tkp : tk ≠ p := fun z => by rw [z, p3] at nk; cases nk
    have hk4 : upd H6 p (.ins C dx (putF "kept" (.ref tk) f3)) tk = some (.tup (ks.map V.int)) := by rw [upd_ne tkp]; exact hk
    generalize upd H6 p (.ins C dx (putF "kept" (.ref tk) f3)) = H7 at b4 p4 k4 hk4
    have t4 : (putF "kept" (.ref tk) f3).lookup ("things" : Str) = some (.int (n : Int)) := put_look t3 (by decide)
    have u4 : (putF "kept" (.ref tk) f3).lookup ("strings" : Str) = some (.ref t) := put_look u3 (by decide)
    have w4 : (putF "kept" (.ref tk) f3).lookup ("kept" : Str) = some (.ref tk) := put_at
    have c4 : (putF "kept" (.ref tk) f3).length ≤ 4 := put_len c3
    generalize putF "kept" (.ref tk) f3 = f4 at p4 t4 u4 w4 c4
    -- self.looked
    refine ⟨_, rfl, (n : Int), rfl, by omega, by omega, fun D nD => ?_⟩
    refine lc_range (lo := 0) (n := ((n : Nat) : Int).toNat) (Grow H7 D (fil (rng n) fun x => !decide (x ∈ ks))) (grow_new nD rfl) ?_ ?_
    · intro i H8 hi pg
      rw [Int.toNat_natCast] at hi
      have hx := rng0 hi
      refine ⟨rfl, _, rfl, _, rfl, p, C, dx, f4, .ref tk, rfl, pg.1 _ _ p4, N.ins.cl, N.nK, w4, tk, _, rfl, .inr (SqT.of (pg.1 _ _ hk4)), rfl, flatI ks, _, rfl, ?_⟩
      show if (!inV (.int (0 + (i : Int))) (ks.map V.int)) = true then _ else _
      rw [inI]
      refine ite2 (fun hq => ⟨_, rfl, fil_add hx hq nD pg (.refl _) (by rw [rng_len]; omega)⟩) (fun hq => fil_not hx hq pg (.refl _))
    rintro H8 pg
    rw [Int.toNat_natCast] at pg
    have pd := grow_at pg (fil_rng n _)
    refine ⟨D, _, rfl, .inl ⟨SqL.of pd, fun tu ntu => ?_⟩⟩
    have s8 : Same H7 (upd H8 tu (.tup (((rng n).filter fun x => !decide (x ∈ ks)).map V.int))) := same_mut pg.1 (pg.1.free ntu)
    have hu : upd H8 tu (.tup (((rng n).filter fun x => !decide (x ∈ ks)).map V.int)) tu = some (.tup (((rng n).filter fun x => !decide (x ∈ ks)).map V.int)) := upd_same
    have nu7 : H7 tu = none := pg.1.free ntu
    generalize upd H8 tu (.tup (((rng n).filter fun x => !decide (x ∈ ks)).map V.int)) = H9 at s8 hu
    refine ⟨_, rfl, p, C, dx, f4, rfl, s8 _ _ p4, N.ins.cl, N.nL, by omega, ?_⟩
    have tup : tu ≠ p := fun z => by rw [z, p4] at nu7; cases nu7
    have b5 : But p H (upd H9 p (.ins C dx (putF "looked" (.ref tu) f4))) := but_upd (but_trans b4 (but_same s8))
    have p5 : upd H9 p (.ins C dx (putF "looked" (.ref tu) f4)) p = some (.ins C dx (putF "looked" (.ref tu) f4)) := upd_same
    have k5 : PairsT (upd H9 p (.ins C dx (putF "looked" (.ref tu) f4))) t es := prT_but k4 p4 (but_upd (but_same s8))
    have hu5 : upd H9 p (.ins C dx (putF "looked" (.ref tu) f4)) tu = some (.tup (((rng n).filter fun x => !decide (x ∈ ks)).map V.int)) := by rw [upd_ne tup]; exact hu
    generalize upd H9 p (.ins C dx (putF "looked" (.ref tu) f4)) = Ha at b5 p5 k5 hu5
    have t5 : (putF "looked" (.ref tu) f4).lookup ("things" : Str) = some (.int (n : Int)) := put_look t4 (by decide)
    have u5 : (putF "looked" (.ref tu) f4).lookup ("strings" : Str) = some (.ref t) := put_look u4 (by decide)
    have w5 : (putF "looked" (.ref tu) f4).lookup ("looked" : Str) = some (.ref tu) := put_at
    have c5 : (putF "looked" (.ref tu) f4).length ≤ 5 := put_len c4
    generalize putF "looked" (.ref tu) f4 = f5 at p5 t5 u5 w5 c5
    -- self.turns
    refine ⟨_, rfl, _, rfl, p, C, dx, f5, _, rfl, p5, N.ins.cl, N.nL, w5, tl, tu, tes, _, rfl, prl_but hT hp b5, hu5, tf, (rng_lt n).filter _, tbd, tfew, fun tt Hb sb ntt => ?_⟩
    refine ⟨_, rfl, p, C, dx, f5, rfl, sb _ _ p5, N.ins.cl, N.nU, by omega, ?_⟩
    exact q _ (but_upd (but_trans b5 (but_same sb))) ⟨dx, _, t, upd_same, put_look t5 (by decide), put_look u5 (by decide), prT_but k5 p5 (but_upd (but_same sb))⟩
end
end K19
end
section
/-! near_in. -/
namespace K19
open PySem PySem.Spec PyProof.Rows L2
def RowsAt (H : Hp) (rs : List Addr) (f : Int → List Int) : Prop := ∀ (i : Nat) (r : Addr), rs[i]? = some r → H r = some (.lst ((f (i : Int)).map V.int))
/-- the rows of neighbours, one tuple each -/
def NearAt (H : Hp) (p : Addr) (n : Nat) (es : List Sx) : Prop := ∃ us : List Addr, H p = some (.lst (us.map V.ref)) ∧ us.length = n ∧ ∀ (i : Nat) (u : Addr), us[i]? = some u → H u = some (.tup ((nbr n es (i : Int)).map V.int))
theorem ref_get {rs : List Addr} {i : Nat} {x : V} (h : (rs.map V.ref)[i]? = some x) : ∃ r, rs[i]? = some r ∧ x = .ref r := by
  rw [List.getElem?_map] at h
  obtain ⟨n, e1, e2⟩ := Option.map_eq_some_iff.mp h
  exact ⟨n, e1, e2.symm⟩
theorem ref_at {rs : List Addr} {i : Nat} {r : Addr} (h : rs[i]? = some r) : atI (rs.map V.ref) (i : Int) = some (.ref r) := atI_nat (by rw [List.getElem?_map, h]; rfl)
theorem snoc_get {α : Type} {xs : List α} {x y : α} {i : Nat} (h : (xs ++ [x])[i]? = some y) : xs[i]? = some y ∨ (i = xs.length ∧ y = x) := by
  rw [List.getElem?_append] at h
  by_cases c : i < xs.length
  · rw [if_pos c] at h
    exact .inl h
  · rw [if_neg c] at h
    refine .inr ?_
    have l := (List.getElem?_eq_some_iff.mp h).1
    rw [List.length_singleton] at l
    have z : i - xs.length = 0 := by omega
    rw [z] at h
    exact ⟨by omega, (Option.some.inj h).symm⟩
theorem ends_len (i : Int) (e : Sx) : (ends1 i e).length ≤ 2 := by
  unfold ends1
  by_cases h1 : e.1 = i <;> by_cases h2 : e.2 = i <;> simp [h1, h2]
theorem row_len (i : Int) : ∀ es : List Sx, (rowOf es i).length ≤ 2 * es.length
  | [] => by simp [rowOf]
  | e :: es => by
    have h := row_len i es
    have h2 := ends_len i e
    unfold rowOf at h ⊢
    rw [List.flatMap_cons, List.length_append, List.length_cons]
    omega
theorem ends_a {a b : Int} (h : a < b) : ends1 a (a, b) = [b] := by
  unfold ends1
  rw [if_pos rfl, if_neg (show ¬ b = a by omega)]
  rfl
theorem ends_b {a b : Int} (h : a < b) : ends1 b (a, b) = [a] := by
  unfold ends1
  rw [if_pos rfl, if_neg (show ¬ a = b by omega)]
  rfl
theorem ends_no {a b i : Int} (h1 : i ≠ a) (h2 : i ≠ b) : ends1 i (a, b) = [] := by
  unfold ends1
  rw [if_neg (show ¬ a = i from fun z => h1 z.symm), if_neg (show ¬ b = i from fun z => h2 z.symm)]
  rfl
theorem nd_get {rs : List Addr} (nd : rs.Nodup) {i j : Nat} {r : Addr} (h1 : rs[i]? = some r) (h2 : rs[j]? = some r) : i = j := by
  obtain ⟨l1, e1⟩ := List.getElem?_eq_some_iff.mp h1
  obtain ⟨l2, e2⟩ := List.getElem?_eq_some_iff.mp h2
  have pw := List.pairwise_iff_getElem.mp nd
  rcases Nat.lt_trichotomy i j with c | c | c
  · exact absurd (e1.trans e2.symm) (pw i j l1 l2 c)
  · exact c
  · exact absurd (e2.trans e1.symm) (pw j i l2 l1 c)
section
variable {P : Program} {w : World} {K : PySem.W.Frag} {mg : Str → Option Value} {base : Heap}
def spNear (C : Addr) : Sp := fun vs H Q _ => ∃ (x : Addr) (n : Nat) (es : List Sx), vs = [.ref x] ∧ NetAt C H x n es ∧ 1 ≤ n ∧ n ≤ 24 ∧ Strs n es ∧ es.length < 300 ∧ ∀ p H', Same H H' → H p = none → NearAt H' p n es → Q (.ref p) H'
theorem sc34 : FnScope ["net", "found", "one", "other", "_", "row"] ["net"] (defScope sNear) := ⟨rfl, rfl, rfl, by decide +kernel, rfl, by decide +kernel, by decide +kernel⟩
theorem ok34 {C : Addr} (W : World0 K mg) (N : NetC K mg C) : Cl P w K mg base 1 "near_in" (spNear C) := by
  refine cal_of (ps := ["net"]) W.d34 (fun f fd F => F.ok sc34 (fun vs H Q E h => ?_) (fun cdv A outer s H vs Q E hr h => ?_)) (fun _ _ _ _ _ _ us hl => match us, hl with | [_], _ => rfl)
  · obtain ⟨x, n, es, rfl, _⟩ := h
    rfl
  · obtain ⟨x, n, es, rfl, ⟨dx, fs, t, hx, fT, fS, ⟨ts, hT, prs⟩⟩, n1, n24, S, few, q⟩ := h
    refine ⟨_, pss_cons (ps_setLc (i := 1) rfl sc34.nd rfl rfl (sw_true rfl rfl rfl (by decide +kernel)) (own := [("_", 4)]) (g := gName 4) (tt := tYes) (pi_range1 (by rfl) W.t.range (pa_cons (pe_fld (pv 0) rfl) pa_nil)) (blkOk_by (N := ["net", "found", "one", "other", "_", "row"]) (sc := defScope sNear) (by decide +kernel)) (fun _ _ _ _ _ => pg_name (i := 4) sc34.nd rfl (Or.inl rfl)) (fun _ _ _ _ _ => pts_nil)
          (fun _ _ _ _ _ => pe_lst pa_nil))
      (pss_cons (ps_for PassesOwn.never rfl (pi_tup (pe_fld (pv 0) rfl)) (pg_tup rfl (pgs_cons (pg_name (i := 2) sc34.nd rfl (Or.inl rfl)) (pgs_cons (pg_name (i := 3) sc34.nd rfl (Or.inl rfl)) pgs_nil)))
          (pss_cons (ps_expr (pe_bm PySem.F.plainAttrs_list PySem.F.slot_list_append PySem.F.type_list_append mt_append (pe_ix ix_list (pv 1) (pv 2) (fun _ _ => rfl)) (pa_cons (pv 3) pa_nil)))
          (pss_one (ps_expr (pe_bm PySem.F.plainAttrs_list PySem.F.slot_list_append PySem.F.type_list_append mt_append (pe_ix ix_list (pv 1) (pv 3) (fun _ _ => rfl)) (pa_cons (pv 2) pa_nil))))))
      (pss_one (ps_ret (pe_lc (own := [("row", 5)]) (g := gName 5) (tt := tYes) rfl sc34.nd (pi_list (pv 1)) (blkOk_by (N := ["net", "found", "one", "other", "_", "row"]) (sc := defScope sNear) (by decide +kernel)) (fun _ _ _ _ _ => pg_name (i := 5) sc34.nd rfl (Or.inl rfl)) (fun _ _ _ _ _ => pts_nil)
          (fun _ _ _ _ _ => pe_callTy (r := rTup K) cr_tup (by rfl) W.t.tuple b_tuple (pa_cons (pe_callB (r := rSortedI K) cr_sortedI (by rfl) W.t.sorted b_sorted (pa_cons (pv 5) pa_nil)) pa_nil)))))), ?_⟩
    have tl := prs_len prs
    -- the empty rows
    refine ⟨_, rfl, x, C, dx, fs, _, rfl, hx, N.ins.cl, N.nT, fT, (n : Int), rfl, by omega, by omega, fun D nD => ?_⟩
    refine lc_range (lo := 0) (n := ((n : Nat) : Int).toNat) (fun i H2 => Same H H2 ∧ ∃ rs : List Addr, H2 D = some (.lst (rs.map V.ref)) ∧ rs.length = i ∧ rs.Nodup ∧ (¬ D ∈ rs) ∧ (∀ r ∈ rs, H r = none) ∧ ∀ r ∈ rs, H2 r = some (.lst [])) ?_ ?_ ?_
    · exact ⟨same_new nD, [], upd_same, rfl, List.nodup_nil, (by simp), (by simp), (by simp)⟩
    · rintro i H2 hi ⟨s2, rs, hD, lr, nd, ni, fr, emp⟩
      rw [Int.toNat_natCast] at hi
      refine ⟨rfl, ⟨(by show 0 ≤ sizeLine; decide), fun l nl => ⟨rs.map V.ref, ?_, (by rw [List.length_map]; exact sz_lt (by omega)), ?_⟩⟩⟩
      · rw [upd_ne (ne_of_none hD nl)]
        exact hD
      · have lD : l ≠ D := fun z => by rw [z, hD] at nl; cases nl
        have lr2 : ¬ l ∈ rs := fun z => by rw [emp l z] at nl; cases nl
        refine ⟨same_mut (same_mut s2 (s2.free nl)) nD, rs ++ [l], by rw [upd_same, List.map_append]; rfl, by rw [List.length_append, lr]; rfl, nd_snoc nd lr2, ?_, ?_, ?_⟩
        · intro z
          rcases List.mem_append.mp z with z | z
          · exact ni z
          · exact lD (List.mem_singleton.mp z).symm
        · intro r z
          rcases List.mem_append.mp z with z | z
          · exact fr r z
          · rw [List.mem_singleton.mp z]
            exact s2.free nl
        · intro r z
          rcases List.mem_append.mp z with z | z
          · rw [upd_ne (fun y : r = D => ni (y ▸ z)), upd_ne (fun y : r = l => lr2 (y ▸ z))]
            exact emp r z
          · rw [List.mem_singleton.mp z, upd_ne lD, upd_same]
    rintro H2 ⟨s2, rs, hD, lr, nd, ni, fr, emp⟩
    rw [Int.toNat_natCast] at lr
    -- the strings, one by one
    refine ⟨_, rfl, x, C, dx, fs, _, rfl, s2 _ _ hx, N.ins.cl, N.nS, fS, t, rfl, ⟨_, SqT.of (s2 _ _ hT)⟩, ?_⟩
    refine for_tup (K := K) (a := t) (xs := ts.map V.ref) (fun k σ H3 => Same H H3 ∧ H3 D = some (.lst (rs.map V.ref)) ∧ RowsAt H3 rs (fun i => rowOf (es.take k) i) ∧ ∃ o1 o2 : Option V, σ = [some (.ref x), some (.ref D), o1, o2, none, none]) ?_ ?_ ?_ ?_
    · refine ⟨s2, hD, fun i r hi => ?_, none, none, rfl⟩
      rw [emp r (List.mem_of_getElem? hi)]
      rfl
    · rintro k σ H3 _ ⟨s3, _⟩
      exact SqT.of (s3 _ _ hT)
    · rintro k v σ H3 hk ⟨s3, hD3, rows, o1, o2, rfl⟩
      obtain ⟨u, e, hu, he, rfl, tup⟩ := prs_get prs hk
      have em := List.mem_of_getElem? he
      have e0 := S.lo e em
      have e1 := S.lt e em
      have e2 := S.hi e em
      obtain ⟨a, b⟩ := e
      dsimp only at e0 e1 e2 tup
      obtain ⟨j1, rfl⟩ := Int.eq_ofNat_of_zero_le e0
      obtain ⟨j2, rfl⟩ := Int.eq_ofNat_of_zero_le (show 0 ≤ b by omega)
      have l1 : j1 < rs.length := by omega
      have l2 : j2 < rs.length := by omega
      have g1 : rs[j1]? = some rs[j1] := List.getElem?_eq_getElem l1
      have g2 : rs[j2]? = some rs[j2] := List.getElem?_eq_getElem l2
      generalize rs[j1] = r1 at g1
      generalize rs[j2] = r2 at g2
      have m1 := List.mem_of_getElem? g1
      have m2 := List.mem_of_getElem? g2
      have ne12 : r2 ≠ r1 := fun z => by
        subst z
        have := nd_get nd g1 g2
        omega
      have D1 : D ≠ r1 := fun z => ni (z ▸ m1)
      have D2 : D ≠ r2 := fun z => ni (z ▸ m2)
      have kl : (es.take k).length ≤ es.length := by rw [List.length_take]; omega
      refine ⟨u, _, rfl, SqT.of (s3 _ _ tup), rfl, _, _, rfl, _, _, rfl, rfl, ?_⟩
      refine ⟨_, rfl, _, rfl, D, _, (j1 : Int), .ref r1, rfl, rfl, SqL.of hD3, ref_at g1, .inl ⟨rfl, _, SqL.of (rows j1 r1 g1)⟩, _, rfl, r1, _, _, rfl, rfl, rows j1 r1 g1, ?_, ?_⟩
      · rw [List.length_map]
        have := row_len (j1 : Int) (es.take k)
        show (rowOf (es.take k) (j1 : Int)).length < sizeLine
        exact sz_lt (by omega)
      have q2 : upd H3 r1 (.lst ((rowOf (es.take k) (j1 : Int)).map V.int ++ [.int (j2 : Int)])) r2 = some (.lst ((rowOf (es.take k) (j2 : Int)).map V.int)) := by
        rw [upd_ne ne12]
        exact rows j2 r2 g2
      refine ⟨_, rfl, _, rfl, D, _, (j2 : Int), .ref r2, rfl, rfl, SqL.of (by rw [upd_ne D1]; exact hD3), ref_at g2, .inl ⟨rfl, _, SqL.of q2⟩, _, rfl, r2, _, _, rfl, rfl, q2, ?_, ?_⟩
      · rw [List.length_map]
        have := row_len (j2 : Int) (es.take k)
        show (rowOf (es.take k) (j2 : Int)).length < sizeLine
        exact sz_lt (by omega)
      refine ⟨same_mut (same_mut s3 (fr r1 m1)) (fr r2 m2), by rw [upd_ne D2, upd_ne D1]; exact hD3, fun i r hi => ?_, _, _, rfl⟩
      dsimp only
      rw [take_snoc he, rowOf_snoc]
      by_cases c2 : i = j2
      · subst c2
        obtain rfl : r = r2 := Option.some.inj (hi.symm.trans g2)
        rw [upd_same, ends_b e1, List.map_append]
        rfl
      · by_cases c1 : i = j1
        · subst c1
          obtain rfl : r = r1 := Option.some.inj (hi.symm.trans g1)
          rw [upd_ne (Ne.symm ne12), upd_same, ends_a e1, List.map_append]
          rfl
        · have n1 : r ≠ r1 := fun z => c1 (nd_get nd (z ▸ hi) g1)
          have n2 : r ≠ r2 := fun z => c2 (nd_get nd (z ▸ hi) g2)
          rw [upd_ne n2, upd_ne n1, ends_no (by omega) (by omega), List.append_nil]
          exact rows i r hi
    rintro σ H3 ⟨s3, hD3, rows, o1, o2, rfl⟩
    rw [List.length_map, tl, List.take_length] at rows
    -- the rows, sorted
    refine ⟨_, rfl, D, rfl, ⟨_, SqL.of hD3⟩, fun D2 nD2 => ?_⟩
    refine lc_list (K := K) (a := D) (xs := rs.map V.ref) (fun i H4 => Same H3 H4 ∧ ∃ us : List Addr, H4 D2 = some (.lst (us.map V.ref)) ∧ us.length = i ∧ ∀ (j : Nat) (u : Addr), us[j]? = some u → H4 u = some (.tup ((nbr n es (j : Int)).map V.int))) ⟨same_new nD2, [], upd_same, rfl, fun j u z => by simp at z⟩ (fun i H4 _ p => SqL.of (p.1 _ _ hD3)) ?_ ?_
    · rintro i v H4 hi ⟨s4, us, hD4, lu, tus⟩
      obtain ⟨r, hr', rfl⟩ := ref_get hi
      have li : i < rs.length := (List.getElem?_eq_some_iff.mp hr').1
      refine ⟨rfl, ⟨_, rfl, r, _, rfl, SqL.of (s4 _ _ (rows i r hr')), fun ms p pm srt np => ?_⟩⟩
      obtain rfl := row_sorted S pm srt
      refine ⟨p, _, rfl, .inl ⟨SqL.of upd_same, fun l2 nl2 => ?_⟩⟩
      have lp : l2 ≠ p := fun z => by rw [z, upd_same] at nl2; cases nl2
      have nl4 : H4 l2 = none := by rw [upd_ne lp] at nl2; exact nl2
      have s5 : Same H4 (upd (upd H4 p (.lst ((nbr n es (i : Int)).map V.int))) l2 (.tup ((nbr n es (i : Int)).map V.int))) := same_mut (same_new np) nl4
      have D4 : D2 ≠ l2 := fun z => by rw [← z, hD4] at nl4; cases nl4
      refine ⟨us.map V.ref, s5 _ _ hD4, by rw [List.length_map]; exact sz_lt (by omega), same_mut (s4.trans s5) nD2, us ++ [l2], by rw [upd_same, List.map_append]; rfl, by rw [List.length_append, lu]; rfl, fun j u hj => ?_⟩
      rcases snoc_get hj with hj | ⟨rfl, rfl⟩
      · have hu := tus j u hj
        rw [upd_ne (fun z => by rw [z, hD4] at hu; cases hu)]
        exact s5 _ _ hu
      · rw [upd_ne (Ne.symm D4), upd_same, lu]
    rintro H4 ⟨s4, us, hD4, lu, tus⟩
    refine q D2 H4 (s3.trans s4) (s3.free nD2) ⟨us, hD4, ?_, tus⟩
    rw [lu, List.length_map, lr]
end
end K19
end
section
/-! met_by, neighbours, oddly_met. -/
namespace K19
open PySem PySem.Spec PyProof.Rows L2
theorem sub_len : ∀ {l m : List Int}, l.Nodup → (∀ x ∈ l, x ∈ m) → l.length ≤ m.length
  | [], _, _, _ => Nat.zero_le _
  | a :: l, m, nd, h => by
    obtain ⟨h1, h2⟩ := List.nodup_cons.mp nd
    have ha := h a (List.mem_cons.mpr (.inl rfl))
    have ih := sub_len (m := m.erase a) h2 fun x hx => (List.mem_erase_of_ne (fun z : x = a => h1 (z ▸ hx))).2 (h x (List.mem_cons.mpr (.inr hx)))
    have e := List.length_erase_of_mem ha
    have p : 0 < m.length := List.length_pos_of_mem ha
    rw [List.length_cons]
    omega
theorem rng_few {l : List Int} {n : Nat} (nd : l.Nodup) (h : ∀ x ∈ l, x ∈ rng n) : l.length ≤ n := by
  have := sub_len nd h
  rw [rng_len] at this
  exact this
theorem for_seqI {K : PySem.W.Frag} {j : Nat} {a : Addr} {ns : List Int} {g : TG} {tb : TS} {D : Ends} {σ : L2.St} {H : Hp} (slot : σ[j]? = some (some (.ref a))) (seq : SeqI H a ns) (Pv : Nat → L2.St → Hp → Prop) (h0 : Pv 0 σ H)
    (stay : ∀ i σ' H', Pv i σ' H' → ∀ o, H a = some o → H' a = some o) (hs : ∀ i n σ H, ns[i]? = some n → Pv i σ H → g (.int n) σ H fun σ2 H2 => tb { D with nx := Pv (i + 1), ct := Pv (i + 1), bk := D.nx } σ2 H2) (hd : ∀ σ H, Pv ns.length σ H → D.nx σ H) :
    tFor (iEither (iList K (tVar j)) (iTup K (tVar j))) g tb D σ H := by
  rcases seq with hL | hT
  · refine .inl ⟨_, slot, a, rfl, ⟨_, SqL.of hL⟩, ?_⟩
    refine for_list (K := K) (a := a) (xs := ns.map V.int) Pv h0 (fun i σ' H' _ p => SqL.of (stay i σ' H' p _ hL)) (fun i x σ' H' hi p => ?_) fun σ' H' p => hd σ' H' (by rw [List.length_map] at p; exact p)
    obtain ⟨n, hn, rfl⟩ := map_get hi
    exact hs i n σ' H' hn p
  · refine .inr ⟨_, slot, a, rfl, ⟨_, SqT.of hT⟩, ?_⟩
    refine for_tup (K := K) (a := a) (xs := ns.map V.int) Pv h0 (fun i σ' H' _ p => SqT.of (stay i σ' H' p _ hT)) (fun i x σ' H' hi p => ?_) fun σ' H' p => hd σ' H' (by rw [List.length_map] at p; exact p)
    obtain ⟨n, hn, rfl⟩ := map_get hi
    exact hs i n σ' H' hn p
theorem seq_stay {H H0 H2 : Hp} {a : Addr} {ns : List Int} (seq : SeqI H a ns) (s0 : Same H H0) (s2 : Same H H2) : ∀ o, H0 a = some o → H2 a = some o := fun o e => by
  rcases seq with h | h
  · rw [s0 _ _ h] at e
    exact (Option.some.inj e) ▸ s2 _ _ h
  · rw [s0 _ _ h] at e
    exact (Option.some.inj e) ▸ s2 _ _ h
/-! ### the dict of the odd ones -/
structure Odd (kvs : List (Key × V)) (w : List Int) : Prop where
  ks : ∃ ks : List Int, kvs.map (·.1) = ks.map Sum.inl ∧ ks.Nodup ∧ ∀ y, y ∈ ks ↔ w.count y ≠ 0
  val : ∀ y, valV kvs (Sum.inl y) = if w.count y = 0 then none else some (.bl (odd (w.count y)))
theorem Odd.nil : Odd [] [] := ⟨⟨[], rfl, List.nodup_nil, fun y => by simp⟩, fun y => rfl⟩
theorem odd_next (c : Nat) : (!odd c) = odd (c + 1) := by
  unfold odd
  by_cases h : c % 2 = 1
  · have h2 : ¬ (c + 1) % 2 = 1 := by omega
    rw [decide_eq_true h, decide_eq_false h2]
    rfl
  · have h2 : (c + 1) % 2 = 1 := by omega
    rw [decide_eq_false h, decide_eq_true h2]
    rfl
theorem Odd.getD {kvs : List (Key × V)} {w : List Int} (h : Odd kvs w) (y : Int) : (valV kvs (Sum.inl y)).getD (.bl false) = .bl (odd (w.count y)) := by
  rw [h.val]
  by_cases c : w.count y = 0
  · rw [if_pos c, c]
    rfl
  · rw [if_neg c]
    rfl
theorem count_snoc (w : List Int) (y z : Int) : (w ++ [y]).count z = w.count z + if z = y then 1 else 0 := by
  rw [List.count_append, List.count_singleton]
  by_cases h : z = y
  · subst h
    simp
  · have h2 : ¬ y = z := fun e => h e.symm
    simp [h, h2]
theorem Odd.snoc {kvs : List (Key × V)} {w : List Int} (h : Odd kvs w) (y : Int) : Odd (putK kvs (Sum.inl y) (.bl (!odd (w.count y)))) (w ++ [y]) := by
  refine ⟨?_, fun z => ?_⟩
  · obtain ⟨ks, e, nd, mem⟩ := h.ks
    by_cases c : w.count y = 0
    · have nv : valV kvs (Sum.inl y) = none := by rw [h.val, if_pos c]
      have ny : ¬ y ∈ ks := fun m => (mem y).mp m c
      refine ⟨ks ++ [y], ?_, nd_snoc nd ny, fun z => ?_⟩
      · rw [putK_new _ nv, List.map_append, List.map_append, e]
        rfl
      · rw [List.mem_append, List.mem_singleton, mem z, count_snoc]
        by_cases q : z = y
        · subst q
          rw [if_pos rfl]
          exact ⟨fun _ => by omega, fun _ => .inr rfl⟩
        · rw [if_neg q, Nat.add_zero]
          exact ⟨fun r => r.resolve_right q, .inl⟩
    · refine ⟨ks, ?_, nd, fun z => ?_⟩
      · have a : (kvs.any fun kv => decide (kv.1 = Sum.inl y)) = true := by rw [valV_any, h.val, if_neg c]; rfl
        unfold putK
        rw [if_pos a, List.map_map, ← e]
        refine List.map_congr_left fun kv _ => ?_
        show (if kv.1 = Sum.inl y then (kv.1, V.bl (!odd (w.count y))) else kv).1 = kv.1
        by_cases q : kv.1 = Sum.inl y
        · rw [if_pos q]
        · rw [if_neg q]
      · rw [mem z, count_snoc]
        by_cases q : z = y
        · subst q
          rw [if_pos rfl]
          exact ⟨fun _ => by omega, fun _ => c⟩
        · rw [if_neg q, Nat.add_zero]
  · rw [valV_put, count_snoc]
    by_cases q : z = y
    · subst q
      rw [if_pos rfl, if_pos rfl, if_neg (by omega), odd_next]
    · rw [if_neg (fun e : (Sum.inl z : Key) = Sum.inl y => q (Sum.inl.inj e)), if_neg q, Nat.add_zero]
      exact h.val z
theorem Odd.few {kvs : List (Key × V)} {w : List Int} {n : Nat} (h : Odd kvs w) (hw : ∀ x ∈ w, x ∈ rng n) : kvs.length ≤ n := by
  obtain ⟨ks, e, nd, mem⟩ := h.ks
  have l : kvs.length = ks.length := by
    have := congrArg List.length e
    rw [List.length_map, List.length_map] at this
    exact this
  rw [l]
  refine rng_few nd fun x hx => hw x ?_
  have := (mem x).mp hx
  exact List.count_pos_iff.mp (by omega)
theorem walked_take {n : Nat} {es : List Sx} {lot : List Int} {i : Nat} {x : Int} (h : lot[i]? = some x) : walked n es (lot.take (i + 1)) = walked n es (lot.take i) ++ nbr n es x := by
  unfold walked
  rw [take_snoc h, List.flatMap_append]
  simp
theorem nbr_sub {n : Nat} {es : List Sx} {x y : Int} (h : y ∈ nbr n es x) : y ∈ rng n := by
  unfold nbr at h
  exact (List.mem_filter.mp h).1
theorem walked_sub {n : Nat} {es : List Sx} {lot : List Int} : ∀ y ∈ walked n es lot, y ∈ rng n := fun y h => by
  unfold walked at h
  obtain ⟨t, _, hy⟩ := List.mem_flatMap.mp h
  exact nbr_sub hy
/-- the two given by name come in the other order -/
def swp {α : Type} (_ ws : List α) : List α := ws.reverse
theorem swp_rel {vs : List V} {us : List Value} {zs : List V} {ws : List Value} (_ : Vals vs us) (r : Vals zs ws) : Vals (swp vs zs) (swp us ws) := by
  unfold swp
  induction r with
  | nil => exact .nil
  | cons r t ih =>
    rw [List.reverse_cons, List.reverse_cons]
    exact Vals.append ih (.cons r .nil)
section
variable {P : Program} {w : World} {K : PySem.W.Frag} {mg : Str → Option Value} {base : Heap}
def spMet : Sp := fun vs H Q _ => ∃ (p l : Addr) (n : Nat) (es : List Sx) (lot : List Int), vs = [.ref p, .ref l] ∧ NearAt H p n es ∧ SeqI H l lot ∧ n ≤ 24 ∧ Strs n es ∧ (∀ x ∈ lot, x ∈ rng n) ∧
  ∀ t H', Same H H' → H t = none → H' t = some (.tup ((met n es lot).map V.int)) → Q (.ref t) H'
theorem sc35 : FnScope ["near", "lot", "found", "thing", "other"] ["near", "lot"] (defScope sMetBy) := ⟨rfl, rfl, rfl, by decide +kernel, rfl, by decide +kernel, by decide +kernel⟩
theorem ok35 (W : World0 K mg) : Cl P w K mg base 1 "met_by" spMet := by
  refine cal_of (ps := ["near", "lot"]) W.d35 (fun f fd F => F.ok sc35 (fun vs H Q E h => ?_) (fun cdv A outer s H vs Q E hr h => ?_)) (fun _ _ _ _ _ _ us hl => match us, hl with | [_, _], _ => rfl)
  · obtain ⟨p, l, n, es, lot, rfl, _⟩ := h
    rfl
  · obtain ⟨p, l, n, es, lot, rfl, ⟨us, hp, lu, tus⟩, seq, n24, S, bd, q⟩ := h
    refine ⟨_, pss_cons (ps_set (i := 2) sc35.nd rfl (Or.inr rfl) pe_dnewK)
      (pss_cons (ps_for PassesOwn.never rfl (pi_either (pi_list (pv 1)) (pi_tup (pv 1))) (pg_name (i := 3) sc35.nd rfl (Or.inl rfl))
          (pss_one (ps_for PassesOwn.never rfl (pi_tup (pe_ix ix_list (pv 0) (pv 3) (fun _ _ => rfl))) (pg_name (i := 4) sc35.nd rfl (Or.inl rfl))
            (pss_one (ps_dput (hu_of hr) (pv 2) (pv 4) (pe_not (pe_dget2 (hu_of hr) (pv 2) (pv 4) pe_bl ⟨rfl, rfl, rfl, rfl⟩)) rfl)))))
      (pss_one (ps_ret (pe_callTy call_tuple_of (by rfl) W.t.tuple b_tuple (pa_cons
          (pe_lc (own := [("thing", 3)]) (g := gName 3) rfl sc35.nd (pi_list (pe_callB (call_sortedDI rfl) (by rfl) W.t.sorted b_sorted (pa_cons (pv 2) pa_nil))) (blkOk_by (N := ["near", "lot", "found", "thing", "other"]) (sc := defScope sMetBy) (by decide +kernel)) (fun _ _ _ _ _ => pg_name (i := 3) sc35.nd rfl (Or.inl rfl))
            (fun _ _ _ _ _ => pts_one (pt_val (pe_dget (hu_of hr) (pv 2) (pv 3) (fun _ _ => rfl)))) (fun _ _ _ _ _ => pv 3)) pa_nil))))), ?_⟩
    intro D nD
    have s0 : Same H (upd H D (.dK [])) := same_new nD
    have hD0 : upd H D (.dK []) D = some (.dK []) := upd_same
    generalize upd H D (.dK []) = H0 at s0 hD0
    refine for_seqI (K := K) (j := 1) (a := l) (ns := lot) rfl (seqI_same s0 seq) (fun i σ H2 => Same H H2 ∧ (∃ kvs, H2 D = some (.dK kvs) ∧ Odd kvs (walked n es (lot.take i))) ∧ ∃ o1 o2 : Option V, σ = [some (.ref p), some (.ref l), some (.ref D), o1, o2]) ?_ ?_ ?_ ?_
    · exact ⟨s0, ⟨[], hD0, Odd.nil⟩, none, none, rfl⟩
    · rintro i σ H2 ⟨s2, _⟩
      exact seq_stay seq s0 s2
    · rintro i x σ H2 hi ⟨s2, ⟨kvs, hD, od⟩, o1, o2, rfl⟩
      have xr := bd x (List.mem_of_getElem? hi)
      obtain ⟨x0, x1⟩ := mem_rng.mp xr
      obtain ⟨j, rfl⟩ := Int.eq_ofNat_of_zero_le x0
      have lj : j < us.length := by omega
      have gu : us[j]? = some us[j] := List.getElem?_eq_getElem lj
      generalize us[j] = u at gu
      have hu := tus j u gu
      refine ⟨_, rfl, _, rfl, p, _, (j : Int), .ref u, rfl, rfl, SqL.of (s2 _ _ hp), ref_at gu, u, rfl, ⟨_, SqT.of (s2 _ _ hu)⟩, ?_⟩
      refine for_tup (K := K) (a := u) (xs := (nbr n es (j : Int)).map V.int) (fun k σ H3 => Same H H3 ∧ (∃ kvs, H3 D = some (.dK kvs) ∧ Odd kvs (walked n es (lot.take i) ++ (nbr n es (j : Int)).take k)) ∧ ∃ o1 o2 : Option V, σ = [some (.ref p), some (.ref l), some (.ref D), o1, o2]) ?_ ?_ ?_ ?_
      · exact ⟨s2, ⟨kvs, hD, by rw [List.take_zero, List.append_nil]; exact od⟩, _, _, rfl⟩
      · rintro k σ H3 _ ⟨s3, _⟩
        exact SqT.of (s3 _ _ hu)
      · rintro k v σ H3 hk ⟨s3, ⟨kvs3, hD3, od3⟩, o3, o4, rfl⟩
        obtain ⟨y, hy, rfl⟩ := map_get hk
        have few : kvs3.length ≤ n := od3.few fun z hz => by
          rcases List.mem_append.mp hz with m | m
          · exact walked_sub z m
          · exact nbr_sub (List.mem_of_mem_take m)
        refine ⟨_, rfl, D, rfl, .inl ⟨kvs3, .of hD3⟩, _, rfl, _, DGet.k (k := Sum.inl y) hD3, _, od3.getD y, _, rfl, _, rfl, D, _, rfl, DPut.k (k := Sum.inl y) hD3 (sz_lt (by omega)), ?_⟩
        refine ⟨same_mut s3 nD, ⟨_, upd_same, ?_⟩, _, _, rfl⟩
        rw [take_snoc hy, ← List.append_assoc]
        exact od3.snoc y
      · rintro σ H3 ⟨s3, ⟨kvs3, hD3, od3⟩, o3, o4, rfl⟩
        rw [List.length_map, List.take_length] at od3
        exact ⟨s3, ⟨kvs3, hD3, by rw [walked_take hi]; exact od3⟩, _, _, rfl⟩
    rintro σ H2 ⟨s2, ⟨kvs, hD, od⟩, o1, o2, rfl⟩
    rw [List.take_length] at od
    obtain ⟨ks, ek, knd, kmem⟩ := od.ks
    have kfew : ks.length ≤ n := by
      have l1 := od.few fun z hz => walked_sub z hz
      have l2 := congrArg List.length ek
      rw [List.length_map, List.length_map] at l2
      omega
    refine ⟨_, rfl, D, kvs, ks, rfl, .of hD, ek, by omega, fun ys p2 pm srt np2 => ⟨p2, rfl, ⟨_, SqL.of upd_same⟩, fun D2 nD2 => ?_⟩⟩
    have s3 : Same H2 (upd H2 p2 (.lst (ys.map V.int))) := same_new np2
    have hp2 : upd H2 p2 (.lst (ys.map V.int)) p2 = some (.lst (ys.map V.int)) := upd_same
    generalize upd H2 p2 (.lst (ys.map V.int)) = H3 at s3 hp2 nD2
    have yasc : ys.Pairwise (· < ·) := asc_of (pm.nodup_iff.mpr knd) srt
    have ymem : ∀ y, y ∈ ys ↔ (walked n es lot).count y ≠ 0 := fun y => pm.mem_iff.trans (kmem y)
    have yfew : ys.length ≤ n := by rw [pm.length_eq]; exact kfew
    refine lc_list (K := K) (a := p2) (xs := ys.map V.int) (Grow H3 D2 (fil ys fun y => odd ((walked n es lot).count y))) (grow_new nD2 rfl) (fun i H4 _ pg => SqL.of (pg.1 _ _ hp2)) ?_ ?_
    · intro i v H4 hi pg
      obtain ⟨y, hy, rfl⟩ := map_get hi
      have vy : valV kvs (Sum.inl y) = some (.bl (odd ((walked n es lot).count y))) := by
        rw [od.val, if_neg ((ymem y).mp (List.mem_of_getElem? hy))]
      have dg := DGet.k (k := Sum.inl y) (pg.1 _ _ (s3 _ _ hD))
      rw [vy] at dg
      refine ⟨rfl, ⟨_, rfl, _, rfl, D, _, rfl, dg, _, rfl, ?_⟩⟩
      exact ite2 (fun hq => ⟨_, rfl, fil_add hy hq nD2 pg (.refl _) (by omega)⟩) (fun hq => fil_not hy hq pg (.refl _))
    rintro H4 pg
    rw [List.length_map] at pg
    have pd := grow_at pg (fil_all ys _)
    rw [odd_keys S lot yasc (fun y => odd ((walked n es lot).count y)) ymem (fun _ _ => rfl)] at pd
    refine ⟨D2, _, rfl, .inl ⟨SqL.of pd, fun t nt => ?_⟩⟩
    have s5 : Same H H4 := s2.trans (s3.trans pg.1)
    exact q t _ (same_mut s5 (s5.free nt)) (s5.free nt) upd_same
/-! ### neighbours -/
def spNbr (C : Addr) : Sp := fun vs H Q _ => ∃ (x : Addr) (i : Int) (n : Nat) (es : List Sx), vs = [.ref x, .int i] ∧ NetAt C H x n es ∧ 1 ≤ n ∧ n ≤ 24 ∧ Strs n es ∧ es.length < 300 ∧ i ∈ rng n ∧
  ∀ t H', Same H H' → H' t = some (.tup ((nbr n es i).map V.int)) → Q (.ref t) H'
theorem sc36 : FnScope ["net", "thing"] ["net", "thing"] (defScope sNeighbours) := ⟨rfl, rfl, rfl, by decide +kernel, rfl, by decide +kernel, by decide +kernel⟩
theorem net_same {C : Addr} {H H' : Hp} {x : Addr} {n : Nat} {es : List Sx} (h : NetAt C H x n es) (s : Same H H') : NetAt C H' x n es := by
  obtain ⟨dx, fs, t, h1, h2, h3, h4⟩ := h
  exact ⟨dx, fs, t, s _ _ h1, h2, h3, prT_same h4 s⟩
/-- a def that may be called by two names alone -/
structure Kw2 (P : Program) (w : World) (K : PySem.W.Frag) (mg : Str → Option Value) (base : Heap) (k : Nat) (x : Str) (ks : List Str) (sp : Sp) : Prop where
  ex : ∃ (f : Addr) (fd : FuncData) (ps : List Str), FnOk P w K mg base CX0 k f fd ps sp ∧ mg x = some (.ref f) ∧ PySem.W.keepIn K (.ref f) = true ∧ KBn K fd ps 0 ks swp swp
theorem walk36 {C : Addr} (W : World0 K mg) (N : NetC K mg C) (f : Addr) (fd : FuncData) (F : Fun K "neighbours" "neighbours" sNeighbours f fd) : FnOk P w K mg base CX0 4 f fd ["net", "thing"] (spNbr C) := by
  refine F.ok sc36 (fun vs H Q E h => ?_) (fun cdv A outer s H vs Q E hr h => ?_)
  · obtain ⟨x, i, n, es, rfl, _⟩ := h
    rfl
  · obtain ⟨x, i, n, es, rfl, net, n1, n24, S, few, hi, q⟩ := h
    refine ⟨_, pss_cons (ps_expr (C8.pe_c (ok33 W N) hr (by decide) (by rfl) (pa_cons (pv 0) (pa_cons pe_str pa_nil))))
      (pss_cons (ps_expr (C8.pe_c (ok12 W) hr (by decide) (by rfl) (pa_cons (pv 1) (pa_cons pe_str (pa_cons pe_int (pa_cons (pe_op op_sub (pe_fld (pv 0) rfl) pe_int) pa_nil))))))
      (pss_one (ps_ret (pe_ix ix_list (C8.pe_c (ok34 W N) hr (by decide) (by rfl) (pa_cons (pv 0) pa_nil)) (pv 1) (fun _ _ => rfl))))), ?_⟩
    obtain ⟨i0, i1⟩ := mem_rng.mp hi
    obtain ⟨j, rfl⟩ := Int.eq_ofNat_of_zero_le i0
    obtain ⟨dx, fs, t, hx, fT, fS, hP⟩ := id net
    refine ⟨_, rfl, x, dx, fs, _, rfl, hx, ?_⟩
    refine ⟨_, rfl, _, rfl, x, C, dx, fs, _, rfl, hx, N.ins.cl, N.nT, fT, _, _, rfl, rfl, (j : Int), 0, (n : Int) - 1, _, rfl, by omega, by omega, ?_⟩
    refine ⟨_, rfl, x, n, es, rfl, net, n1, n24, S, few, fun p H' s' np ⟨us, hp, lu, tus⟩ => ?_⟩
    have lj : j < us.length := by omega
    have gu : us[j]? = some us[j] := List.getElem?_eq_getElem lj
    generalize us[j] = u at gu
    exact ⟨_, rfl, p, _, (j : Int), .ref u, rfl, rfl, SqL.of hp, ref_at gu, q u H' s' (tus j u gu)⟩
theorem ok36 {C : Addr} (W : World0 K mg) (N : NetC K mg C) : Cl P w K mg base 4 "neighbours" (spNbr C) :=
  cal_of (ps := ["net", "thing"]) W.d36 (fun f fd F => walk36 W N f fd F) (fun _ _ _ _ _ _ us hl => match us, hl with | [_, _], _ => rfl)
/-- a def of two parameters, called by their names, the second ahead -/
theorem kbn_of {x : Str} {st : Stmt} {f : Addr} {fd : FuncData} {p1 p2 : Str} (F : Fun K x x st f fd)
    (h : ∀ (kV doc pm : Value) (an : Option Addr) (cdv ct : Value) (a b : Value), bindArgs (PySem.W.fnOf x x (defArgs st) (defBody st) (defScope st) .none kV doc pm an cdv ct) ⟨[], [p2, p1].zip [a, b]⟩ = pure ([p1, p2].zip [b, a])) : KBn K fd [p1, p2] 0 [p2, p1] swp swp := by
  obtain ⟨oc, od, kV, doc, pm, an, cdv, ct, osl, rfl, lk, hcd⟩ := F.ex
  refine ⟨fun s us ws _ h0 hl => ?_, fun r1 r2 => swp_rel r1 r2⟩
  obtain rfl := List.length_eq_zero_iff.mp h0
  match ws, hl with
  | [a, b], _ => exact .of_eq (h kV doc pm an cdv ct a b)
theorem kw36 {C : Addr} (W : World0 K mg) (N : NetC K mg C) : Kw2 P w K mg base 4 "neighbours" ["thing", "net"] (spNbr C) := by
  obtain ⟨f, fd, F, m⟩ := W.d36.ex
  exact ⟨f, fd, _, walk36 W N f fd F, m, F.kp, kbn_of F fun _ _ _ _ _ _ _ _ => rfl⟩
/-! ### oddly_met -/
def spOdd (C : Addr) : Sp := fun vs H Q _ => ∃ (x l : Addr) (n : Nat) (es : List Sx) (lot : List Int), vs = [.ref x, .ref l] ∧ NetAt C H x n es ∧ 1 ≤ n ∧ n ≤ 24 ∧ Strs n es ∧ es.length < 300 ∧ SeqI H l lot ∧ lot.Nodup ∧ (∀ x ∈ lot, x ∈ rng n) ∧
  ∀ t H', Same H H' → H' t = some (.tup ((met n es lot).map V.int)) → Q (.ref t) H'
theorem sc37 : FnScope ["net", "lot"] ["net", "lot"] (defScope sOddly) := ⟨rfl, rfl, rfl, by decide +kernel, rfl, by decide +kernel, by decide +kernel⟩
theorem walk37 {C : Addr} (W : World0 K mg) (N : NetC K mg C) (f : Addr) (fd : FuncData) (F : Fun K "oddly_met" "oddly_met" sOddly f fd) : FnOk P w K mg base CX0 5 f fd ["net", "lot"] (spOdd C) := by
  refine F.ok sc37 (fun vs H Q E h => ?_) (fun cdv A outer s H vs Q E hr h => ?_)
  · obtain ⟨x, l, n, es, lot, rfl, _⟩ := h
    rfl
  · obtain ⟨x, l, n, es, lot, rfl, net, n1, n24, S, few, seq, nd, bd, q⟩ := h
    refine ⟨_, pss_cons (ps_expr (C8.pe_c (ok33 W N) hr (by decide) (by rfl) (pa_cons (pv 0) (pa_cons pe_str pa_nil))))
      (pss_cons (ps_if (pt_not (pt_val (C8.pe_c (ok24 W) hr (by decide) (by rfl) (pa_cons (pv 1) (pa_cons (pe_fld (pv 0) rfl) pa_nil))))) pss_never pss_nil)
      (pss_one (ps_ret (C8.pe_c (ok35 W) hr (by decide) (by rfl) (pa_cons (C8.pe_c (ok34 W N) hr (by decide) (by rfl) (pa_cons (pv 0) pa_nil)) (pa_cons (pv 1) pa_nil)))))), ?_⟩
    obtain ⟨dx, fs, t, hx, fT, fS, hP⟩ := id net
    refine ⟨_, rfl, x, dx, fs, _, rfl, hx, ?_⟩
    have lf := rng_few nd bd
    refine ⟨_, rfl, _, rfl, x, C, dx, fs, _, rfl, hx, N.ins.cl, N.nT, fT, l, lot, (n : Int), rfl, seq, nd, fun y hy => mem_rng.mp (bd y hy), by omega, fun H1 s1 => ⟨true, rfl, iteF ?_⟩⟩
    refine ⟨_, rfl, x, n, es, rfl, net_same net s1, n1, n24, S, few, fun p H2 s2 np near => ?_⟩
    have s12 := s1.trans s2
    exact ⟨_, rfl, p, l, n, es, lot, rfl, near, seqI_same s12 seq, n24, S, bd, fun t2 H3 s3 _ h3 => q t2 H3 (s12.trans s3) h3⟩
theorem ok37 {C : Addr} (W : World0 K mg) (N : NetC K mg C) : Cl P w K mg base 5 "oddly_met" (spOdd C) :=
  cal_of (ps := ["net", "lot"]) W.d37 (fun f fd F => walk37 W N f fd F) (fun _ _ _ _ _ _ us hl => match us, hl with | [_, _], _ => rfl)
theorem kw37 {C : Addr} (W : World0 K mg) (N : NetC K mg C) : Kw2 P w K mg base 5 "oddly_met" ["lot", "net"] (spOdd C) := by
  obtain ⟨f, fd, F, m⟩ := W.d37.ex
  exact ⟨f, fd, _, walk37 W N f fd F, m, F.kp, kbn_of F fun _ _ _ _ _ _ _ _ => rfl⟩
theorem pe_k2 {X : Cx} {k j m : Nat} {x : Str} {ks : List Str} {sp : Sp} {p pos : Pos} {kws : List Keyword} {tk : TA} (c : Kw2 X.prog X.w X.K X.mg X.base k x ks sp) (hr : Room j X.A) (hk : k ≤ j) (hg : Gl X x) (hkw : PK X kws tk)
    (hm : ks.length = m := by rfl) (named : (backToKw pos (keywordEach kws X.env)).all (·.1.isSome) = true := by rfl)
    (names : (backToKw pos (keywordEach kws X.env)).filterMap (·.1) = ks := by rfl) (nodb : (x == ("__debug__" : Str)) = false := by decide)
    (plain : ((backTo pos (starEach [] X.env)).any (·.1) || (backToKw pos (keywordEach kws X.env)).any (·.1.isNone)) = false := by rfl) :
    PE X (.Call (.Name x p) [] kws pos) (tKw0 m sp swp E0 tk) := by
  subst hm
  obtain ⟨f, fd, ps, F, hm, kp, bn⟩ := c.ex
  exact pe_kw0 F (hr.mono hk) hg hm kp bn pass0 hkw named names nodb plain
end
end K19
end
section
/-! What the law draws: _law_sift, _law_any_of. -/
namespace K19
open PySem PySem.Spec PyProof.Rows L2
/-- what draws: begun at most L times -/
def Drw (H : Hp) (a c : Addr) (L : Nat) : Prop := ∃ (ns : List Int) (lap sand : Int), H a = some (.lst [.ref c, .int lap, .int sand]) ∧ H c = some (.lst (ns.map V.int)) ∧ c ≠ a ∧ 0 ≤ lap ∧ lap ≤ (L : Int) ∧ 0 ≤ sand
theorem drw_le {H : Hp} {a c : Addr} {L M : Nat} (h : Drw H a c L) (l : L ≤ M) : Drw H a c M := by
  obtain ⟨ns, lap, sand, h1, h2, h3, h4, h5, h6⟩ := h
  exact ⟨ns, lap, sand, h1, h2, h3, h4, by omega, h6⟩
theorem drw_same {H H' : Hp} {a c : Addr} {L : Nat} (h : Drw H a c L) (s : Same H H') : Drw H' a c L := by
  obtain ⟨ns, lap, sand, h1, h2, h3, h4, h5, h6⟩ := h
  exact ⟨ns, lap, sand, s _ _ h1, s _ _ h2, h3, h4, h5, h6⟩
theorem but_refl (a : Addr) (H : Hp) : But a H H := fun _ _ _ e => e
theorem but_free {a b : Addr} {H H' : Hp} {o : HO} (s : But a H H') (ha : H a = some o) (ha' : ∃ o', H' a = some o') (h : H' b = none) : H b = none := by
  cases e : H b with
  | none => rfl
  | some u =>
    by_cases c : b = a
    · subst c
      obtain ⟨o', q⟩ := ha'
      rw [q] at h
      cases h
    · rw [s b u c e] at h
      cases h
theorem but_ne {a b : Addr} {H H' : Hp} {o : HO} (s : But a H H') (n : b ≠ a) (h : H b = some o) : H' b = some o := s b o n h
theorem nat_lt {i : Int} (h0 : 0 ≤ i) (h : i < 2 ^ 64) : i.natAbs < 2 ^ 64 := by omega
theorem base_lt {dust lap : Int} (d0 : 0 ≤ dust) (d1 : dust < 2147483497) (l0 : 0 ≤ lap) (l1 : lap ≤ 100000) : (dust * (2 * lap + 4219) + 72043 * lap * lap + 41023).natAbs < 2 ^ 64 := by
  have a0 : 0 ≤ dust * (2 * lap + 4219) := Int.mul_nonneg d0 (by omega)
  have a1 : dust * (2 * lap + 4219) ≤ 2147483497 * 204219 := Int.mul_le_mul (by omega) (by omega) (by omega) (by omega)
  have b0 : 0 ≤ 72043 * lap * lap := Int.mul_nonneg (by omega) l0
  have b1 : 72043 * lap * lap ≤ 7204300000 * 100000 := Int.mul_le_mul (by omega) l1 l0 (by omega)
  exact nat_lt (by omega) (by omega)
theorem sv_nn {cell : Int} (h : decide ((10 : Int) ^ Int.toNat 18 ≤ (if cell < 0 then -cell else cell)) = true) : 0 ≤ 2 * ((if cell < 0 then -cell else cell) - 10 ^ Int.toNat 18) + (if decide (cell < 0) = true then 1 else 0) := by
  have h3 : (10 : Int) ^ Int.toNat 18 ≤ (if cell < 0 then -cell else cell) := of_decide_eq_true h
  by_cases c3 : cell < 0
  · rw [decide_eq_true c3, if_pos rfl]
    omega
  · rw [decide_eq_false c3, if_neg Bool.false_ne_true]
    omega
theorem cp1 {cell lap : Int} (l0 : 0 ≤ lap) (l1 : lap ≤ 100000) : CPow (cell % 2147483543 + 41023 * lap + 9533) 5 := by
  have c0 : 0 ≤ cell % 2147483543 := Int.emod_nonneg _ (by decide)
  have c1 : cell % 2147483543 < 2147483543 := Int.emod_lt_of_pos _ (by decide)
  exact ⟨by decide, by decide, nat_lt (by omega) (by omega)⟩
theorem cm1 (x y : Int) : CMul (x % 2147483497) y := by
  have c0 : 0 ≤ x % 2147483497 := Int.emod_nonneg _ (by decide)
  have c1 : x % 2147483497 < 2147483497 := Int.emod_lt_of_pos _ (by decide)
  exact .inl ⟨by omega, by omega⟩
theorem cp2 {x lap : Int} (l0 : 0 ≤ lap) (l1 : lap ≤ 100000) : CPow (x % 2147483497 * (2 * lap + 4219) + 72043 * lap * lap + 41023) 3 :=
  ⟨by decide, by decide, base_lt (Int.emod_nonneg _ (by decide)) (Int.emod_lt_of_pos _ (by decide)) l0 l1⟩
section
variable {P : Program} {w : World} {K : PySem.W.Frag} {mg : Str → Option Value} {base : Heap}
def spSift : Sp := fun vs H Q _ => ∃ (a c : Addr) (many : Int) (L : Nat), vs = [.ref a, .int many] ∧ Drw H a c L ∧ L ≤ 100000 ∧ 1 ≤ many ∧ many ≤ 1000 ∧ ∀ r H', 0 ≤ r → r < many → But a H H' → Drw H' a c (L + 1) → Q (.int r) H'
theorem sc40 : FnScope ["_law_heap_here", "_law_many", "_law_sand", "_law_lap", "_law_cell", "_law_dust"] ["_law_heap_here", "_law_many"] (defScope sSift) := ⟨rfl, rfl, rfl, by decide +kernel, rfl, by decide +kernel, by decide +kernel⟩
theorem ok40 (W : World0 K mg) : Cl P w K mg base 1 "_law_sift" spSift := by
  refine cal_of (ps := ["_law_heap_here", "_law_many"]) W.d40 (fun f fd F => F.ok sc40 (fun vs H Q E h => ?_) (fun cdv A outer s H vs Q E hr h => ?_)) (fun _ _ _ _ _ _ us hl => match us, hl with | [_, _], _ => rfl)
  · obtain ⟨a, c, many, L, rfl, _⟩ := h
    rfl
  · obtain ⟨a, c, many, L, rfl, ⟨ns, lap, sand, ha, hc, ca, lap0, lapL, sand0⟩, hL, m1, m2, q⟩ := h
    refine ⟨_, pss_cons (ps_if (pt_cmpR op_gt (pe_ix ix_list (pv 0) pe_int (fun _ _ => rfl)) pe_int (nomark _))
          (pss_cons (ps_set (i := 2) sc40.nd rfl (Or.inl rfl) (pe_callTy call_int1 (by rfl) W.t.int b_int (pa_cons (pe_ix ix_list (pv 0) pe_int (fun _ _ => rfl)) pa_nil)))
          (pss_cons (ps_asg (pe_op op_fdiv (pv 2) (pv 1)) (pg_sub (pv 0) pe_int set_list))
          (pss_one (ps_ret (pe_op op_mod (pe_callTy call_int1 (by rfl) W.t.int b_int (pa_cons (pv 2) pa_nil)) (pv 1)))))) pss_nil)
      (pss_cons (ps_set (i := 3) sc40.nd rfl (Or.inl rfl) (pe_ix ix_list (pv 0) pe_int (fun _ _ => rfl)))
      (pss_cons (ps_asg (pe_op op_add (pv 3) pe_int) (pg_sub (pv 0) pe_int set_list))
      (pss_cons (ps_set (i := 4) sc40.nd rfl (Or.inl rfl) (pe_op op_add (pe_op op_mul pe_int (pv 3)) pe_int))
      (pss_cons (ps_if (pt_cmpR (op_neD hr.units) (pe_ix ix_list (pv 0) pe_int (fun _ _ => rfl)) (pe_lst pa_nil) (nomark _))
          (pss_one (ps_set (i := 4) sc40.nd rfl (Or.inl rfl) (pe_ix ix_list (pe_ix ix_list (pv 0) pe_int (fun _ _ => rfl)) (pe_op op_mod (pe_callTy call_int1 (by rfl) W.t.int b_int (pa_cons (pv 3) pa_nil)) (pe_callB call_len_seq (by rfl) W.t.len b_len (pa_cons (pe_ix ix_list (pv 0) pe_int (fun _ _ => rfl)) pa_nil))) (fun _ _ => rfl)))) pss_nil)
      (pss_cons (ps_if (PW.pt (pw_and (pt_cmpR op_lt (pv 3) (pe_callB call_len_seq (by rfl) W.t.len b_len (pa_cons (pe_ix ix_list (pv 0) pe_int (fun _ _ => rfl)) pa_nil)) (nomark _))
            (pw_and1 (pt_cmpR op_ge (pe_callB call_abs (by rfl) W.t.abs b_abs (pa_cons (pv 4) pa_nil)) (pe_op op_pow pe_int pe_int) (nomark _)))))
          (pss_cons (ps_set (i := 2) sc40.nd rfl (Or.inl rfl) (pe_op op_add (pe_op op_mul pe_int (pe_op op_sub (pe_callB call_abs (by rfl) W.t.abs b_abs (pa_cons (pv 4) pa_nil)) (pe_op op_pow pe_int pe_int)))
              (pe_callTy call_int1 (by rfl) W.t.int b_int (pa_cons (pe_cmpR op_lt (pv 4) pe_int (nomark _)) pa_nil))))
          (pss_cons (ps_asg (pe_op op_fdiv (pv 2) (pv 1)) (pg_sub (pv 0) pe_int set_list))
          (pss_one (ps_ret (pe_op op_mod (pe_callTy call_int1 (by rfl) W.t.int b_int (pa_cons (pv 2) pa_nil)) (pv 1)))))) pss_nil)
      (pss_cons (ps_set (i := 5) sc40.nd rfl (Or.inl rfl) (pe_op op_mod (pe_callTy call_int1 (by rfl) W.t.int b_int (pa_cons (pe_op op_pow (pe_op op_add (pe_op op_add (pe_op op_mod (pe_callTy call_int1 (by rfl) W.t.int b_int (pa_cons (pv 4) pa_nil)) pe_int) (pe_op op_mul pe_int (pv 3))) pe_int) pe_int) pa_nil)) pe_int))
      (pss_cons (ps_set (i := 5) sc40.nd rfl (Or.inl rfl) (pe_op op_mod (pe_callTy call_int1 (by rfl) W.t.int b_int (pa_cons (pe_op op_pow (pe_op op_add (pe_op op_add (pe_op op_mul (pv 5) (pe_op op_add (pe_op op_mul pe_int (pv 3)) pe_int)) (pe_op op_mul (pe_op op_mul pe_int (pv 3)) (pv 3))) pe_int) pe_int) pa_nil)) pe_int))
      (pss_one (ps_ret (pe_op op_mod (pe_callTy call_int1 (by rfl) W.t.int b_int (pa_cons (pe_op op_fdiv (pv 5) pe_int) pa_nil)) (pv 1))))))))))), ?_⟩
    refine ⟨_, rfl, a, _, 2, _, rfl, rfl, SqL.of ha, rfl, _, _, rfl, rfl, _, rfl, ite2 (fun hs => ?_) (fun hs => ?_)⟩
    · refine ⟨_, rfl, a, _, 2, _, rfl, rfl, SqL.of ha, rfl, .inl ⟨_, rfl, ?_⟩⟩
      refine ⟨_, rfl, _, rfl, _, _, rfl, rfl, ⟨by omega, by omega⟩, _, rfl, a, _, 2, 2, rfl, rfl, ha, rfl, ?_⟩
      refine ⟨_, rfl, .inl ⟨_, rfl, _, rfl, _, _, rfl, rfl, (by show 0 < many; omega), ?_⟩⟩
      refine q _ _ (Int.emod_nonneg _ (by omega)) (Int.emod_lt_of_pos _ (by omega)) (but_upd (but_refl a H)) ⟨ns, lap, sand / many, upd_same, ?_, ca, lap0, by omega, Int.ediv_nonneg sand0 (by omega)⟩
      rw [upd_ne ca]
      exact hc
    refine ⟨_, rfl, a, _, 1, _, rfl, rfl, SqL.of ha, rfl, ?_⟩
    refine ⟨_, rfl, _, _, rfl, rfl, _, rfl, a, _, 1, 1, rfl, rfl, ha, rfl, ?_⟩
    have b1 : But a H (upd H a (.lst ([.ref c, .int lap, .int sand].set 1 (.int (lap + 1))))) := but_upd (but_refl a H)
    have ha1 : upd H a (.lst ([.ref c, .int lap, .int sand].set 1 (.int (lap + 1)))) a = some (.lst [.ref c, .int (lap + 1), .int sand]) := upd_same
    have hc1 : upd H a (.lst ([.ref c, .int lap, .int sand].set 1 (.int (lap + 1)))) c = some (.lst (ns.map V.int)) := by
      rw [upd_ne ca]
      exact hc
    generalize upd H a (.lst ([.ref c, .int lap, .int sand].set 1 (.int (lap + 1)))) = H1 at b1 ha1 hc1
    refine ⟨_, rfl, _, _, rfl, rfl, .inl ⟨by decide, by decide⟩, _, _, rfl, rfl, ?_⟩
    refine ⟨_, rfl, a, _, 0, .ref c, rfl, rfl, SqL.of ha1, rfl, (by show 0 ≤ sizeLine; decide), fun l nl => ?_⟩
    have s2 : Same H1 (upd H1 l (.lst [])) := same_new nl
    have hl2 : upd H1 l (.lst []) l = some (.lst (([] : List Int).map V.int)) := upd_same
    generalize upd H1 l (.lst []) = H2 at s2 hl2
    have b2 : But a H H2 := but_trans b1 (but_same s2)
    have ha2 := s2 _ _ ha1
    have hc2 := s2 _ _ hc1
    refine ⟨_, _, dpL hc2, dpL hl2, shL _, shL _, _, rfl, ?_⟩
    rw [eqvL]
    by_cases en : ns = []
    focus
      rw [decide_eq_true en]
      refine iteF ?_
    rotate_left
    focus
      rw [decide_eq_false en]
      have lp : 0 < (((ns.map V.int).length : Nat) : Int) := by
        have := List.length_pos_iff.mpr en
        rw [List.length_map]
        omega
      have i0 : 0 ≤ lap % (((ns.map V.int).length : Nat) : Int) := Int.emod_nonneg _ (by omega)
      have i1 : lap % (((ns.map V.int).length : Nat) : Int) < (((ns.map V.int).length : Nat) : Int) := Int.emod_lt_of_pos _ lp
      have ix : ∃ cell : Int, atI (ns.map V.int) (lap % (((ns.map V.int).length : Nat) : Int)) = some (.int cell) := by
        obtain ⟨j, hj⟩ := Int.eq_ofNat_of_zero_le i0
        rw [hj] at i1 ⊢
        have lj : j < ns.length := by rw [List.length_map] at i1; omega
        exact ⟨ns[j], atI_nat (by rw [List.getElem?_map, List.getElem?_eq_getElem lj]; rfl)⟩
      obtain ⟨cell, hcell⟩ := ix
      refine iteT ⟨_, rfl, a, _, 0, .ref c, rfl, rfl, SqL.of ha2, rfl, _, rfl, .inl ⟨_, rfl, _, rfl, a, _, 0, .ref c, rfl, rfl, SqL.of ha2, rfl, c, _, rfl, .inl (SqL.of hc2), _, _, rfl, rfl, lp, c, _, _, _, rfl, rfl, SqL.of hc2, hcell, ?_⟩⟩
    all_goals
      refine ⟨_, rfl, _, rfl, a, _, 0, .ref c, rfl, rfl, SqL.of ha2, rfl, c, _, rfl, .inl (SqL.of hc2), _, _, rfl, rfl, _, rfl, ite2 (fun h1 => ?_) (fun h1 => ?_)⟩
      focus
        refine ⟨_, rfl, _, rfl, _, _, rfl, rfl, ⟨by decide, by decide, by decide⟩, _, _, rfl, rfl, _, rfl, ite2 (fun h2 => ?_) (fun h2 => ?_)⟩
        focus
          refine ⟨_, rfl, _, rfl, _, _, rfl, rfl, ⟨by decide, by decide, by decide⟩, _, _, rfl, rfl, _, _, rfl, rfl, .inl ⟨by decide, by decide⟩, _, rfl, _, _, rfl, rfl, .inr ⟨_, rfl, _, _, rfl, rfl, ?_⟩⟩
          refine ⟨_, rfl, _, rfl, _, _, rfl, rfl, ⟨by omega, by omega⟩, _, rfl, a, _, 2, 2, rfl, rfl, ha2, rfl, ?_⟩
          refine ⟨_, rfl, .inl ⟨_, rfl, _, rfl, _, _, rfl, rfl, (by show 0 < many; omega), ?_⟩⟩
          refine q _ _ (Int.emod_nonneg _ (by omega)) (Int.emod_lt_of_pos _ (by omega)) (but_upd b2) ⟨ns, lap + 1, _, upd_same, ?_, ca, by omega, by omega, Int.ediv_nonneg (sv_nn h2) (by omega)⟩
          rw [upd_ne ca]
          exact hc2
      rotate_left
      focus refine iteF ?_
      all_goals
        refine ⟨_, rfl, .inl ⟨_, rfl, _, _, rfl, rfl, (by show (0 : Int) < 2147483543; decide), _, rfl, _, _, rfl, rfl, .inl ⟨by decide, by decide⟩, _, _, rfl, rfl, _, _, rfl, rfl, _, _, rfl, rfl, cp1 lap0 (by omega), .inl ⟨_, rfl, _, _, rfl, rfl, (by show (0 : Int) < 2147483497; decide), ?_⟩⟩⟩
        refine ⟨_, rfl, _, rfl, _, _, rfl, rfl, .inl ⟨by decide, by decide⟩, _, _, rfl, rfl, _, _, rfl, rfl, cm1 _ _, _, rfl, _, _, rfl, rfl, .inl ⟨by decide, by decide⟩, _, rfl, _, _, rfl, rfl, .inr ⟨by omega, by omega⟩, _, _, rfl, rfl, _, _, rfl, rfl, _, _, rfl, rfl, cp2 lap0 (by omega), .inl ⟨_, rfl, _, _, rfl, rfl, (by show (0 : Int) < 2147483489; decide), ?_⟩⟩
        refine ⟨_, rfl, _, _, rfl, rfl, ⟨by decide, by decide⟩, .inl ⟨_, rfl, _, rfl, _, _, rfl, rfl, (by show 0 < many; omega), ?_⟩⟩
        exact q _ _ (Int.emod_nonneg _ (by omega)) (Int.emod_lt_of_pos _ (by omega)) b2 ⟨ns, lap + 1, sand, ha2, hc2, ca, by omega, by omega, sand0⟩
end
end K19
end
section
/-! _law_any_of, _law_mixed. -/
namespace K19
open PySem PySem.Spec PyProof.Rows L2
theorem drw_ne {H : Hp} {a c s : Addr} {L : Nat} {ns : List Int} (d : Drw H a c L) (g : H s = some (.lst (ns.map V.int))) : s ≠ a := fun e => by
  obtain ⟨_, _, _, h, _⟩ := d
  subst e
  rw [h] at g
  cases ns with
  | nil => cases g
  | cons n ns =>
    have z := HO.lst.inj (Option.some.inj g)
    rw [List.map_cons] at z
    cases (List.cons.inj z).1
theorem drw_at {H : Hp} {a c : Addr} {L : Nat} (d : Drw H a c L) : ∃ o, H a = some o := by
  obtain ⟨_, _, _, h, _⟩ := d
  exact ⟨_, h⟩
theorem drw_cell {H : Hp} {a c : Addr} {L : Nat} (d : Drw H a c L) : ∃ o, H c = some o := by
  obtain ⟨_, _, _, _, h, _⟩ := d
  exact ⟨_, h⟩
theorem drw_new {H : Hp} {a c p : Addr} {L : Nat} (d : Drw H a c L) (h : H p = none) : p ≠ a ∧ p ≠ c := by
  obtain ⟨o1, e1⟩ := drw_at d
  obtain ⟨o2, e2⟩ := drw_cell d
  exact ⟨fun z => (by rw [z, e1] at h; cases h), fun z => (by rw [z, e2] at h; cases h)⟩
theorem drw_free {a b c c' : Addr} {H H' : Hp} {L M : Nat} (s : But a H H') (d : Drw H a c L) (d' : Drw H' a c' M) (h : H' b = none) : H b = none := by
  obtain ⟨o, e⟩ := drw_at d
  exact but_free s e (drw_at d') h
theorem era_perm : ∀ (l : List Int) (j : Nat) (h : j < l.length), (l[j] :: l.eraseIdx j).Perm l
  | x :: l, 0, _ => .refl _
  | x :: l, j + 1, h => by
    have lj : j < l.length := Nat.lt_of_succ_lt_succ h
    exact (List.Perm.swap x l[j] (l.eraseIdx j)).trans (List.Perm.cons x (era_perm l j lj))
theorem map_era (f : Int → V) : ∀ (xs : List Int) (j : Nat), (xs.map f).eraseIdx j = (xs.eraseIdx j).map f
  | [], _ => rfl
  | x :: xs, 0 => rfl
  | x :: xs, j + 1 => by rw [List.eraseIdx_cons_succ, List.map_cons, List.map_cons, List.eraseIdx_cons_succ, map_era f xs j]
/-- what is new, changed -/
theorem but_mut {a p : Addr} {H H2 : Hp} {o : HO} (s : But a H H2) (h : H p = none) : But a H (upd H2 p o) := fun b u n e => by
  rw [upd_ne (ne_of_none e h)]
  exact s b u n e
theorem drw_upd {H : Hp} {a c p : Addr} {L : Nat} {o : HO} (d : Drw H a c L) (n : p ≠ a ∧ p ≠ c) : Drw (upd H p o) a c L := by
  obtain ⟨ns, lap, sand, h1, h2, h3, h4, h5, h6⟩ := d
  exact ⟨ns, lap, sand, by rw [upd_ne (Ne.symm n.1)]; exact h1, by rw [upd_ne (Ne.symm n.2)]; exact h2, h3, h4, h5, h6⟩
section
variable {P : Program} {w : World} {K : PySem.W.Frag} {mg : Str → Option Value} {base : Heap}
def spAny : Sp := fun vs H Q _ => ∃ (a c s : Addr) (xs : List V) (L : Nat), vs = [.ref a, .ref s] ∧ Drw H a c L ∧ L ≤ 100000 ∧ H s = some (.lst xs) ∧ s ≠ a ∧ 1 ≤ xs.length ∧ xs.length ≤ 1000 ∧ ∀ (i : Nat) x H', xs[i]? = some x → But a H H' → Drw H' a c (L + 1) → Q x H'
theorem sc41 : FnScope ["_law_heap_here", "_law_some"] ["_law_heap_here", "_law_some"] (defScope sAnyOf) := ⟨rfl, rfl, rfl, by decide +kernel, rfl, by decide +kernel, by decide +kernel⟩
theorem ok41 (W : World0 K mg) : Cl P w K mg base 2 "_law_any_of" spAny := by
  refine cal_of (ps := ["_law_heap_here", "_law_some"]) W.d41 (fun f fd F => F.ok sc41 (fun vs H Q E h => ?_) (fun cdv A outer s H vs Q E hr h => ?_)) (fun _ _ _ _ _ _ us hl => match us, hl with | [_, _], _ => rfl)
  · obtain ⟨a, c, s, xs, L, rfl, _⟩ := h
    rfl
  · obtain ⟨a, c, s2, xs, L, rfl, d, hL, hs, sa, x1, x2, q⟩ := h
    refine ⟨_, pss_one (ps_ret (pe_ix ix_list (pv 1) (C8.pe_c (ok40 W) hr (by decide) (by rfl) (pa_cons (pv 0) (pa_cons (pe_callB call_len_seq (by rfl) W.t.len b_len (pa_cons (pv 1) pa_nil)) pa_nil))) (fun _ _ => rfl))), ?_⟩
    refine ⟨_, rfl, _, rfl, _, rfl, s2, _, rfl, .inl (SqL.of hs), a, c, _, L, rfl, d, hL, by omega, by omega, fun r H' r0 r1 b d' => ?_⟩
    obtain ⟨j, rfl⟩ := Int.eq_ofNat_of_zero_le r0
    have lj : j < xs.length := by omega
    have gx : xs[j]? = some xs[j] := List.getElem?_eq_getElem lj
    exact ⟨s2, xs, _, _, rfl, rfl, SqL.of (but_ne b sa hs), atI_nat gx, q j _ H' gx b d'⟩
def spMixed : Sp := fun vs H Q _ => ∃ (a c s : Addr) (ns : List Int) (L : Nat), vs = [.ref a, .ref s] ∧ Drw H a c L ∧ L + 24 ≤ 100000 ∧ H s = some (.lst (ns.map V.int)) ∧ ns.length ≤ 24 ∧
  ∀ p (ms : List Int) H', ms.Perm ns → But a H H' → H p = none → H' p = some (.lst (ms.map V.int)) → Drw H' a c (L + ns.length) → Q (.ref p) H'
theorem sc42 : FnScope ["_law_heap_here", "_law_some", "_law_left", "_law_found"] ["_law_heap_here", "_law_some"] (defScope sMixed) := ⟨rfl, rfl, rfl, by decide +kernel, rfl, by decide +kernel, by decide +kernel⟩
theorem ok42 (W : World0 K mg) : Cl P w K mg base 2 "_law_mixed" spMixed := by
  refine cal_of (ps := ["_law_heap_here", "_law_some"]) W.d42 (fun f fd F => F.ok sc42 (fun vs H Q E h => ?_) (fun cdv A outer s H vs Q E hr h => ?_)) (fun _ _ _ _ _ _ us hl => match us, hl with | [_, _], _ => rfl)
  · obtain ⟨a, c, s, ns, L, rfl, _⟩ := h
    rfl
  · obtain ⟨a, c, s2, ns, L, rfl, d, hL, hs, few, q⟩ := h
    refine ⟨_, pss_cons (ps_par (i := 2) (j := 3) rfl sc42.nd rfl rfl (by decide) rfl rfl (pa_cons (pe_callTy call_list_of (by rfl) W.t.list b_list (pa_cons (pv 1) pa_nil)) (pa_cons (pe_lst pa_nil) pa_nil)) rfl)
      (pss_cons (ps_while PassesOwn.never (pt_cmpR (op_neD hr.units) (pv 2) (pe_lst pa_nil) (nomark _))
          (pss_one (ps_expr (pe_bm PySem.F.plainAttrs_list PySem.F.slot_list_append PySem.F.type_list_append mt_append (pv 3) (pa_cons
            (pe_bm PySem.F.plainAttrs_list PySem.F.slot_list_pop PySem.F.type_list_pop mt_popAt (pv 2) (pa_cons
              (C8.pe_c (ok40 W) hr (by decide) (by rfl) (pa_cons (pv 0) (pa_cons (pe_callB call_len_seq (by rfl) W.t.len b_len (pa_cons (pv 2) pa_nil)) pa_nil))) pa_nil)) pa_nil)))))
      (pss_one (ps_ret (pv 3)))), ?_⟩
    refine ⟨_, rfl, s2, _, rfl, .inl (SqL.of hs), fun l nl => ?_⟩
    have sl : Same H (upd H l (.lst (ns.map V.int))) := same_new nl
    have hl : upd H l (.lst (ns.map V.int)) l = some (.lst (ns.map V.int)) := upd_same
    generalize upd H l (.lst (ns.map V.int)) = H1 at sl hl
    refine ⟨(by show 0 ≤ sizeLine; decide), fun p np => ?_⟩
    have sp : Same H1 (upd H1 p (.lst [])) := same_new np
    have hp : upd H1 p (.lst []) p = some (.lst (([] : List Int).map V.int)) := upd_same
    generalize upd H1 p (.lst []) = H2 at sp hp
    have lp : l ≠ p := ne_of_none hl np
    have nlH : H l = none := nl
    have npH : H p = none := sl.free np
    refine ⟨_, _, rfl, ?_⟩
    refine ⟨fun m σ H3 => ∃ (ls ms : List Int), m = ls.length ∧ (ms ++ ls).Perm ns ∧ H3 l = some (.lst (ls.map V.int)) ∧ H3 p = some (.lst (ms.map V.int)) ∧ But a H H3 ∧ Drw H3 a c (L + ms.length) ∧ σ = [some (.ref a), some (.ref s2), some (.ref l), some (.ref p)],
      ⟨_, ns, [], rfl, .refl _, sp _ _ hl, hp, but_same (sl.trans sp), drw_same d (sl.trans sp), rfl⟩, ?_⟩
    rintro m σ H3 ⟨ls, ms, rfl, pm, hl3, hp3, b3, d3, rfl⟩
    have tot := pm.length_eq
    rw [List.length_append] at tot
    refine ⟨_, rfl, (by show 0 ≤ sizeLine; decide), fun e ne => ?_⟩
    have se : Same H3 (upd H3 e (.lst [])) := same_new ne
    have he : upd H3 e (.lst []) e = some (.lst (([] : List Int).map V.int)) := upd_same
    generalize upd H3 e (.lst []) = H4 at se he
    have b4 := but_trans b3 (but_same se)
    have d4 := drw_same d3 se
    refine ⟨_, _, dpL (se _ _ hl3), dpL he, shL _, shL _, _, rfl, ?_⟩
    rw [eqvL]
    by_cases en : ls = []
    · subst en
      rw [decide_eq_true rfl]
      rw [List.append_nil] at pm
      exact iteF ⟨_, rfl, q p ms H4 pm b4 npH (se _ _ hp3) (drw_le d4 (by omega))⟩
    · rw [decide_eq_false en]
      have lp0 := List.length_pos_iff.mpr en
      refine iteT ⟨fun σ H5 => ∃ (ls' ms' : List Int), ls'.length < ls.length ∧ (ms' ++ ls').Perm ns ∧ H5 l = some (.lst (ls'.map V.int)) ∧ H5 p = some (.lst (ms'.map V.int)) ∧ But a H H5 ∧ Drw H5 a c (L + ms'.length) ∧ σ = [some (.ref a), some (.ref s2), some (.ref l), some (.ref p)], ?_, ?_⟩
      · rintro σ' H5 ⟨ls', ms', lt, h⟩
        exact ⟨_, lt, ls', ms', rfl, h⟩
      · refine ⟨_, rfl, .inl ⟨rfl, _, SqL.of (se _ _ hp3)⟩, _, rfl, .inl ⟨rfl, _, SqL.of (se _ _ hl3)⟩, _, rfl, _, rfl, l, _, rfl, .inl (SqL.of (se _ _ hl3)), a, c, _, L + ms.length, rfl, d4, by omega, ?_, ?_, fun r H5 r0 r1 b5 d5 => ?_⟩
        · rw [List.length_map]
          omega
        · rw [List.length_map]
          omega
        obtain ⟨j, rfl⟩ := Int.eq_ofNat_of_zero_le r0
        rw [List.length_map] at r1
        have lj : j < ls.length := by omega
        have gx : (ls.map V.int)[j]? = some (.int ls[j]) := by rw [List.getElem?_map, List.getElem?_eq_getElem lj]; rfl
        have la := drw_ne d4 (se _ _ hl3)
        have pa := drw_ne d4 (se _ _ hp3)
        have hl5 := but_ne b5 la (se _ _ hl3)
        have hp5 := but_ne b5 pa (se _ _ hp3)
        refine ⟨l, _, _, j, _, rfl, rfl, hl5, by omega, by omega, ?_, gx, p, ms.map V.int, _, rfl, rfl, ?_, ?_, ?_⟩
        · rw [seqIndex_of (by omega) (by rw [List.length_map]; omega)]
          rfl
        · rw [upd_ne (Ne.symm lp)]
          exact hp5
        · rw [List.length_map]
          exact sz_lt (by omega)
        refine ⟨ls.eraseIdx j, ms ++ [ls[j]], ?_, ?_, ?_, ?_, ?_, ?_, rfl⟩
        · rw [List.length_eraseIdx_of_lt lj]
          omega
        · refine List.Perm.trans ?_ pm
          rw [List.append_assoc]
          exact List.Perm.append_left ms (era_perm ls j lj)
        · rw [upd_ne lp, upd_same, map_era]
        · rw [upd_same, List.map_append]
          rfl
        · exact but_mut (but_mut (but_trans b4 b5) nlH) npH
        · rw [List.length_append]
          exact drw_upd (drw_upd d5 (drw_new d nlH)) (drw_new d npH)
end
end K19
end
section
/-! _law_drawn. -/
namespace K19
open PySem PySem.Spec PyProof.Rows L2
theorem sub_lenP : ∀ {l m : List Sx}, l.Nodup → (∀ x ∈ l, x ∈ m) → l.length ≤ m.length
  | [], _, _, _ => Nat.zero_le _
  | a :: l, m, nd, h => by
    obtain ⟨h1, h2⟩ := List.nodup_cons.mp nd
    have ha := h a (List.mem_cons.mpr (.inl rfl))
    have ih := sub_lenP (m := m.erase a) h2 fun x hx => (List.mem_erase_of_ne (fun z : x = a => h1 (z ▸ hx))).2 (h x (List.mem_cons.mpr (.inr hx)))
    have e := List.length_erase_of_mem ha
    have p : 0 < m.length := List.length_pos_of_mem ha
    rw [List.length_cons]
    omega
def all24 : List Sx := (List.range 24).flatMap fun a : Nat => ((List.range 24).filter fun b : Nat => decide (a < b)).map fun b : Nat => (((a : Nat) : Int), ((b : Nat) : Int))
theorem all24_len : all24.length = 276 := by decide +kernel
theorem strs_few {n : Nat} {es : List Sx} (h : Strs n es) (n24 : n ≤ 24) : es.length < 300 := by
  have l := sub_lenP (m := all24) h.nodup fun e he => by
    have e0 := h.lo e he
    have e1 := h.lt e he
    have e2 := h.hi e he
    obtain ⟨x, y⟩ := e
    dsimp only at e0 e1 e2
    obtain ⟨i, rfl⟩ := Int.eq_ofNat_of_zero_le e0
    obtain ⟨j, rfl⟩ := Int.eq_ofNat_of_zero_le (show 0 ≤ y by omega)
    exact List.mem_flatMap.mpr ⟨i, List.mem_range.mpr (by omega), List.mem_map.mpr ⟨j, List.mem_filter.mpr ⟨List.mem_range.mpr (by omega), decide_eq_true (by omega)⟩, rfl⟩⟩
  rw [all24_len] at l
  omega
theorem strs_snoc {n : Nat} {es : List Sx} {e : Sx} (h : Strs n es) (e0 : 0 ≤ e.1) (e1 : e.1 < e.2) (e2 : e.2 < (n : Int)) (after : ∀ f ∈ es, f.1 < e.1 ∨ (f.1 = e.1 ∧ f.2 < e.2)) : Strs n (es ++ [e]) := by
  have each : ∀ {p : Sx → Prop}, (∀ f ∈ es, p f) → p e → ∀ f ∈ es ++ [e], p f := fun {p} a b f hf => by
    rcases List.mem_append.mp hf with z | z
    · exact a f z
    · rw [List.mem_singleton.mp z]
      exact b
  refine ⟨each h.lo e0, each h.lt e1, each h.hi e2, ?_⟩
  refine List.pairwise_append.mpr ⟨h.asc, List.pairwise_singleton .., fun f hf g hg => ?_⟩
  rw [List.mem_singleton.mp hg]
  exact after f hf
theorem strs_nil (n : Nat) : Strs n [] := ⟨fun _ h => (nomatch h), fun _ h => (nomatch h), fun _ h => (nomatch h), .nil⟩
theorem prl_app {H : Hp} {l t : Addr} {es : List Sx} {e : Sx} {ts : List Addr} (hl : H l = some (.lst (ts.map V.ref))) (pr : PairsAt H ts es) (nt : H t = none) :
    PairsL (upd (upd H t (.tup [.int e.1, .int e.2])) l (.lst (ts.map V.ref ++ [.ref t]))) l (es ++ [e]) := by
  have tl : t ≠ l := fun z => by rw [z, hl] at nt; cases nt
  refine ⟨ts ++ [t], by rw [upd_same, List.map_append]; rfl, ?_⟩
  refine prs_snoc (Paired.mapP pr fun t2 e2 z => ?_) (by rw [upd_ne tl, upd_same])
  rw [upd_ne (fun y => by rw [y, hl] at z; cases z), upd_ne (fun y => by rw [y, nt] at z; cases z)]
  exact z
theorem prt_drw {H H' : Hp} {a c : Addr} {L : Nat} {ts : List Addr} {es : List Sx} (d : Drw H a c L) (b : But a H H') (pr : PairsAt H ts es) : PairsAt H' ts es := by
  obtain ⟨_, _, _, ha, _⟩ := d
  exact Paired.mapP pr fun t e q => b t _ (fun z => (by rw [z, ha] at q; cases q)) q
theorem prl_drw {H H' : Hp} {a c l : Addr} {L : Nat} {es : List Sx} (d : Drw H a c L) (b : But a H H') (h : PairsL H l es) : PairsL H' l es := by
  obtain ⟨ts, hl, pr⟩ := h
  refine ⟨ts, b l _ (fun z => ?_) hl, prt_drw d b pr⟩
  obtain ⟨_, _, _, ha, _⟩ := d
  rw [z, ha] at hl
  have e := HO.lst.inj (Option.some.inj hl)
  match ts, e with
  | [], e => cases e
  | [_], e => cases e
  | _ :: _ :: _, e => cases (List.cons.inj (List.cons.inj e).2).1
theorem prl_ne {H : Hp} {a c l : Addr} {L : Nat} {es : List Sx} (d : Drw H a c L) (h : PairsL H l es) : l ≠ a := fun z => by
  obtain ⟨ts, hl, pr⟩ := h
  obtain ⟨_, _, _, ha, _⟩ := d
  rw [z, ha] at hl
  have e := HO.lst.inj (Option.some.inj hl)
  match ts, e with
  | [], e => cases e
  | [_], e => cases e
  | _ :: _ :: _, e => cases (List.cons.inj (List.cons.inj e).2).1
theorem rg_rng (n : Nat) : rgV 0 (n : Int) = (rng n).map V.int := by
  unfold rgV rng
  rw [List.map_map, Int.sub_zero, Int.toNat_natCast]
  refine List.map_congr_left fun k _ => ?_
  show V.int (0 + (k : Int)) = V.int (k : Int)
  rw [Int.zero_add]
theorem cut_int (ms : List Int) (hi : Option Int) : ∃ k, cutV (ms.map V.int) none hi = (ms.take k).map V.int := by
  unfold cutV
  rw [HT.sIx_none, List.drop_zero, ← List.map_take]
  exact ⟨_, rfl⟩
theorem min4 (n : Nat) : 1 ≤ (if (n : Int) + 1 < 4 then (n : Int) + 1 else 4) ∧ (if (n : Int) + 1 < 4 then (n : Int) + 1 else 4) ≤ 1000 := by
  by_cases h : (n : Int) + 1 < 4
  · rw [if_pos h]
    omega
  · rw [if_neg h]
    omega
/-- a row of unlike things of n -/
structure Lot (n : Nat) (ns : List Int) : Prop where
  nd : ns.Nodup
  bd : ∀ x ∈ ns, 0 ≤ x ∧ x < (n : Int)
theorem Lot.few {n : Nat} {ns : List Int} (h : Lot n ns) : ns.length ≤ n := rng_few h.nd fun x hx => mem_rng.mpr (h.bd x hx)
theorem Lot.perm {n : Nat} {ms : List Int} (p : ms.Perm (rng n)) : Lot n ms := ⟨p.nodup_iff.mpr (rng_nodup n), fun x hx => mem_rng.mp (p.mem_iff.mp hx)⟩
theorem Lot.take {n : Nat} {ms : List Int} (h : Lot n ms) (k : Nat) : Lot n (ms.take k) := ⟨h.nd.sublist (List.take_sublist k ms), fun x hx => h.bd x (List.mem_of_mem_take hx)⟩
theorem Lot.filter {n : Nat} {ms : List Int} (h : Lot n ms) (p : Int → Bool) : Lot n (ms.filter p) := ⟨h.nd.sublist List.filter_sublist, fun x hx => h.bd x (List.mem_filter.mp hx).1⟩
/-- all that a net is made of -/
structure Net5 (H : Hp) (n : Nat) (es tes : List Sx) (gs ks : List Int) (sl gl kl tl : Addr) : Prop where
  n1 : 1 ≤ n
  n24 : n ≤ 24
  sl : PairsL H sl es
  S : Strs n es
  gl : H gl = some (.lst (gs.map V.int))
  gL : Lot n gs
  kl : H kl = some (.lst (ks.map V.int))
  kL : Lot n ks
  tl : PairsL H tl tes
  tf : tes.map (·.1) = ((rng n).filter fun x => !decide (x ∈ ks))
  tb : ∀ e ∈ tes, 0 ≤ e.1 ∧ 0 ≤ e.2 ∧ e.2 ≤ 7
section
variable {P : Program} {w : World} {K : PySem.W.Frag} {mg : Str → Option Value} {base : Heap}
def spDrawn : Sp := fun vs H Q _ => ∃ (a c : Addr) (most : Int) (L : Nat), vs = [.ref a, .int most] ∧ Drw H a c L ∧ L + 1300 ≤ 100000 ∧ 1 ≤ most ∧ most ≤ 24 ∧
  ∀ n es tes gs ks sl gl kl tl p H', Net5 H' n es tes gs ks sl gl kl tl → H' p = some (.tup [.int (n : Int), .ref sl, .ref gl, .ref kl, .ref tl]) → But a H H' → Drw H' a c (L + 1300) → Q (.ref p) H'
abbrev nDrawn : List Str := ["_law_heap_here", "_law_most", "_law_things", "_law_strings", "_law_dense", "_law_one", "_law_other", "_law_mixed_here", "_law_given", "_law_kept", "_law_turns", "_law_thing"]
theorem sc43 : FnScope nDrawn ["_law_heap_here", "_law_most"] (defScope sDrawn) := ⟨rfl, rfl, rfl, by decide +kernel, rfl, by decide +kernel, by decide +kernel⟩
theorem ok43 (W : World0 K mg) : Cl P w K mg base 3 "_law_drawn" spDrawn := by
  refine cal_of (ps := ["_law_heap_here", "_law_most"]) W.d43 (fun f fd F => F.ok sc43 (fun vs H Q E h => ?_) (fun cdv A outer s H vs Q E hr h => ?_)) (fun _ _ _ _ _ _ us hl => match us, hl with | [_, _], _ => rfl)
  · obtain ⟨a, c, most, L, rfl, _⟩ := h
    rfl
  · obtain ⟨a, c, most, L, rfl, d, hL, m1, m2, q⟩ := h
    refine ⟨_, pss_cons (ps_par (i := 2) (j := 3) rfl sc43.nd rfl rfl (by decide) rfl rfl (pa_cons (pe_op op_add pe_int (C8.pe_c (ok40 W) hr (by decide) (by rfl) (pa_cons (pv 0) (pa_cons (pv 1) pa_nil)))) (pa_cons (pe_lst pa_nil) pa_nil)) rfl)
      (pss_cons (ps_set (i := 4) sc43.nd rfl (Or.inl rfl) (C8.pe_c (ok41 W) hr (by decide) (by rfl) (pa_cons (pv 0) (pa_cons (pe_lst (pa_cons pe_int (pa_cons pe_int (pa_cons pe_int pa_nil)))) pa_nil))))
      (pss_cons (ps_for PassesOwn.never rfl (pi_range1 (by rfl) W.t.range (pa_cons (pv 2) pa_nil)) (pg_name (i := 5) sc43.nd rfl (Or.inl rfl))
          (pss_one (ps_for PassesOwn.never rfl (pi_range2 (by rfl) W.t.range (pa_cons (pe_op op_add (pv 5) pe_int) (pa_cons (pv 2) pa_nil))) (pg_name (i := 6) sc43.nd rfl (Or.inl rfl))
            (pss_one (ps_if (PW.pt (pw_or (pt_cmpR op_eq (C8.pe_c (ok40 W) hr (by decide) (by rfl) (pa_cons (pv 0) (pa_cons (pv 4) pa_nil))) pe_int (nomark _))
                (pw_or1 (PW.pt (pw_and (pt_cmpR op_eq (pv 6) (pe_op op_add (pv 5) pe_int) (nomark _)) (pw_and1 (pt_cmpR op_eq (C8.pe_c (ok40 W) hr (by decide) (by rfl) (pa_cons (pv 0) (pa_cons pe_int pa_nil))) pe_int (nomark _))))))))
              (pss_one (ps_expr (pe_bm PySem.F.plainAttrs_list PySem.F.slot_list_append PySem.F.type_list_append mt_append (pv 3) (pa_cons (pe_tup (pa_cons (pv 5) (pa_cons (pv 6) pa_nil))) pa_nil)))) pss_nil)))))
      (pss_cons (ps_set (i := 7) sc43.nd rfl (Or.inl rfl) (C8.pe_c (ok42 W) hr (by decide) (by rfl) (pa_cons (pv 0) (pa_cons (pe_listRg rfl (by rfl) W.t.list (prg_1 (by rfl) W.t.range (pv 2))) pa_nil))))
      (pss_cons (ps_asg (pe_tup (pa_cons (pe_slice sl_list (pv 7) po_none (po_some (C8.pe_c (ok40 W) hr (by decide) (by rfl) (pa_cons (pv 0) (pa_cons (pe_callB (call_min2 rfl) (by rfl) W.t.min b_min (pa_cons pe_int (pa_cons (pe_op op_add (pv 2) pe_int) pa_nil))) pa_nil)))))
            (pa_cons (pe_slice sl_list (C8.pe_c (ok42 W) hr (by decide) (by rfl) (pa_cons (pv 0) (pa_cons (pe_listRg rfl (by rfl) W.t.list (prg_1 (by rfl) W.t.range (pv 2))) pa_nil))) po_none
              (po_some (C8.pe_c (ok40 W) hr (by decide) (by rfl) (pa_cons (pv 0) (pa_cons (pe_callB (call_min2 rfl) (by rfl) W.t.min b_min (pa_cons pe_int (pa_cons (pe_op op_add (pv 2) pe_int) pa_nil))) pa_nil))))) pa_nil)))
          (pg_tup rfl (pgs_cons (pg_name (i := 8) sc43.nd rfl (Or.inl rfl)) (pgs_cons (pg_name (i := 9) sc43.nd rfl (Or.inr rfl)) pgs_nil))))
      (pss_cons (ps_setLc (i := 10) rfl sc43.nd rfl rfl (sw_true rfl rfl rfl (by decide +kernel)) (own := [("_law_thing", 11)]) (g := gName 11) (pi_range1 (by rfl) W.t.range (pa_cons (pv 2) pa_nil)) (blkOk_by (N := nDrawn) (sc := defScope sDrawn) (by decide +kernel)) (fun _ _ _ _ _ => pg_name (i := 11) sc43.nd rfl (Or.inl rfl))
            (fun _ _ _ _ _ => pts_one (pt_cmpR (r := rIn K true) op_notIn_seq (pv 11) (pv 9) rfl)) (fun _ _ _ _ _ => pe_tup (pa_cons (pv 11) (pa_cons (C8.pe_c (ok40 W) hr (by decide) (by rfl) (pa_cons (pv 0) (pa_cons pe_int pa_nil))) pa_nil))))
      (pss_one (ps_ret (pe_tup (pa_cons (pv 2) (pa_cons (pv 3) (pa_cons (pv 8) (pa_cons (pv 9) (pa_cons (pv 10) pa_nil))))))))))))), ?_⟩
    -- how many things; the strings' list
    refine ⟨_, rfl, _, rfl, a, c, most, L, rfl, d, by omega, m1, by omega, fun r0 H1 r00 r01 b1 d1 => ?_⟩
    refine ⟨_, _, rfl, rfl, (by show 0 ≤ sizeLine; decide), fun SL nSL => ⟨_, _, rfl, ?_⟩⟩
    obtain ⟨n0, rfl⟩ := Int.eq_ofNat_of_zero_le r00
    have nSLH : H SL = none := drw_free b1 d d1 nSL
    have sS : Same H1 (upd H1 SL (.lst [])) := same_new nSL
    have hSL : upd H1 SL (.lst []) SL = some (.lst (([] : List Addr).map V.ref)) := upd_same
    generalize upd H1 SL (.lst []) = H2 at sS hSL
    have b2 := but_trans b1 (but_same sS)
    have d2 := drw_same d1 sS
    have SLa : SL ≠ a := (drw_new d nSLH).1
    have SLc : SL ≠ c := (drw_new d nSLH).2
    -- dense
    refine ⟨_, rfl, (by show 3 ≤ sizeLine; decide), fun lp nlp => ?_⟩
    have s3 : Same H2 (upd H2 lp (.lst [.int 2, .int 3, .int 5])) := same_new nlp
    have hlp : upd H2 lp (.lst [.int 2, .int 3, .int 5]) lp = some (.lst [.int 2, .int 3, .int 5]) := upd_same
    have lpa : lp ≠ a := (drw_new d2 nlp).1
    have lpS : SL ≠ lp := ne_of_none hSL nlp
    generalize upd H2 lp (.lst [.int 2, .int 3, .int 5]) = H3 at s3 hlp
    refine ⟨a, c, lp, _, L + 1, rfl, drw_same d2 s3, by omega, hlp, lpa, (by decide), (by decide), fun i0 x H4 hx b4 d4 => ?_⟩
    obtain ⟨dense, rfl, dn1, dn2⟩ : ∃ dense : Int, x = .int dense ∧ 1 ≤ dense ∧ dense ≤ 1000 := by
      have m := List.mem_of_getElem? hx
      rcases List.mem_cons.mp m with rfl | m
      · exact ⟨2, rfl, by decide, by decide⟩
      rcases List.mem_cons.mp m with rfl | m
      · exact ⟨3, rfl, by decide, by decide⟩
      rcases List.mem_cons.mp m with rfl | m
      · exact ⟨5, rfl, by decide, by decide⟩
      · cases m
    have b5 : But a H H4 := but_trans b2 (but_trans (but_same s3) b4)
    have hSL4 := but_ne b4 SLa (s3 _ _ hSL)
    clear b1 d1 sS nSL hSL b2 d2 lpS hlp lpa s3 b4 hx nlp
    have nn : (1 : Int) + (n0 : Int) = ((n0 + 1 : Nat) : Int) := by omega
    obtain ⟨n, en⟩ : ∃ n : Nat, n = n0 + 1 := ⟨_, rfl⟩
    have n1 : 1 ≤ n := by omega
    have n24 : n ≤ 24 := by omega
    dsimp only
    rw [nn, ← en]
    clear nn r00 r01
    -- the strings
    refine ⟨_, rfl, (n : Int), rfl, by omega, by omega, ?_⟩
    refine for_range (lo := 0) (n := ((n : Nat) : Int).toNat) (fun i σ H5 => But a H H5 ∧ Drw H5 a c (L + 2 + 48 * i) ∧ (∃ es, PairsL H5 SL es ∧ Strs n es ∧ ∀ e ∈ es, e.1 < (i : Int)) ∧ ∃ o1 o2 : Option V, σ = [some (.ref a), some (.int most), some (.int (n : Int)), some (.ref SL), some (.int dense), o1, o2, none, none, none, none, none]) ?_ ?_ ?_
    · exact ⟨b5, drw_le d4 (by omega), ⟨[], ⟨[], hSL4, .nil⟩, strs_nil n, fun e he => (nomatch he)⟩, none, none, rfl⟩
    · rintro i σ H5 hi ⟨b5, d5, ⟨es, hes, S, before⟩, o1, o2, rfl⟩
      rw [Int.toNat_natCast] at hi
      refine ⟨_, rfl, _, _, rfl, rfl, _, rfl, _, _, rfl, ⟨by omega, by omega, by omega, by omega⟩, ?_⟩
      refine for_range (lo := 0 + (i : Int) + 1) (n := ((n : Int) - (0 + (i : Int) + 1)).toNat) (fun k σ H6 => But a H H6 ∧ Drw H6 a c (L + 2 + 48 * i + 2 * k) ∧ (∃ es, PairsL H6 SL es ∧ Strs n es ∧ ∀ e ∈ es, e.1 < (i : Int) ∨ (e.1 = (i : Int) ∧ e.2 < (i : Int) + 1 + (k : Int))) ∧ ∃ o2 : Option V, σ = [some (.ref a), some (.int most), some (.int (n : Int)), some (.ref SL), some (.int dense), some (.int (0 + (i : Int))), o2, none, none, none, none, none]) ?_ ?_ ?_
      · exact ⟨b5, drw_le d5 (by omega), ⟨es, hes, S, fun e he => .inl (before e he)⟩, _, rfl⟩
      · rintro k σ H6 hk ⟨b6, d6, ⟨es, hes, S, before⟩, o2, rfl⟩
        refine ⟨_, rfl, _, rfl, a, c, dense, _, rfl, d6, by omega, dn1, dn2, fun r H7 _ _ b7 d7 => ⟨rfl, _, rfl, ite2 (fun h => iteT ?app1) (fun h => ?_)⟩⟩
        case app1 =>
          have hes7 := prl_drw d6 b7 hes
          obtain ⟨ts, hts, prs⟩ := hes7
          refine ⟨_, rfl, .inl ⟨rfl, _, SqL.of hts⟩, _, rfl, _, rfl, (by show 2 ≤ sizeLine; decide), fun t nt => ⟨SL, ts.map V.ref, _, rfl, rfl, (by rw [upd_ne (ne_of_none hts nt)]; exact hts), ?_, ?_⟩⟩
          · rw [List.length_map, prs_len prs]
            exact sz_lt (by have := strs_few S n24; omega)
          · refine ⟨but_mut (but_mut (but_trans b6 b7) (drw_free (but_trans b6 b7) d d7 nt)) nSLH, drw_le (drw_upd (drw_upd d7 (drw_new d7 nt)) ⟨SLa, SLc⟩) (by omega), ⟨es ++ [(0 + (i : Int), 0 + (i : Int) + 1 + (k : Int))], prl_app (e := (0 + (i : Int), 0 + (i : Int) + 1 + (k : Int))) hts prs nt, strs_snoc S (by show 0 ≤ 0 + (i : Int); omega) (by show 0 + (i : Int) < 0 + (i : Int) + 1 + (k : Int); omega) (by show 0 + (i : Int) + 1 + (k : Int) < (n : Int); omega) fun f hf => ?_, fun e he => ?_⟩, _, rfl⟩
            · have := before f hf
              show f.1 < 0 + (i : Int) ∨ (f.1 = 0 + (i : Int) ∧ f.2 < 0 + (i : Int) + 1 + (k : Int))
              omega
            · rcases List.mem_append.mp he with z | z
              · have := before e z
                omega
              · rw [List.mem_singleton.mp z]
                show 0 + (i : Int) < (i : Int) ∨ (0 + (i : Int) = (i : Int) ∧ 0 + (i : Int) + 1 + (k : Int) < (i : Int) + 1 + ((k + 1 : Nat) : Int))
                omega
        refine ⟨_, rfl, _, rfl, _, _, rfl, rfl, rfl, _, rfl, ite2 (fun h2 => ?_) (fun h2 => iteF ?skip1)⟩
        case skip1 =>
          have hes7 := prl_drw d6 b7 hes
          refine ⟨but_trans b6 b7, drw_le d7 (by omega), ⟨es, hes7, S, fun e he => ?_⟩, _, rfl⟩
          have := before e he
          omega
        refine ⟨_, rfl, a, c, 2, _, rfl, d7, by omega, by decide, by decide, fun r2 H8 _ _ b8 d8 => ⟨rfl, _, rfl, ite2 (fun h3 => ?_) (fun h3 => ?_)⟩⟩
        · have hes7 := prl_drw d7 b8 (prl_drw d6 b7 hes)
          have b9 := but_trans b7 b8
          clear b7 d7
          revert H8
          intro H7 b8 d7 hes7 b7
          obtain ⟨ts, hts, prs⟩ := hes7
          refine ⟨_, rfl, .inl ⟨rfl, _, SqL.of hts⟩, _, rfl, _, rfl, (by show 2 ≤ sizeLine; decide), fun t nt => ⟨SL, ts.map V.ref, _, rfl, rfl, (by rw [upd_ne (ne_of_none hts nt)]; exact hts), ?_, ?_⟩⟩
          · rw [List.length_map, prs_len prs]
            exact sz_lt (by have := strs_few S n24; omega)
          · refine ⟨but_mut (but_mut (but_trans b6 b7) (drw_free (but_trans b6 b7) d d7 nt)) nSLH, drw_le (drw_upd (drw_upd d7 (drw_new d7 nt)) ⟨SLa, SLc⟩) (by omega), ⟨es ++ [(0 + (i : Int), 0 + (i : Int) + 1 + (k : Int))], prl_app (e := (0 + (i : Int), 0 + (i : Int) + 1 + (k : Int))) hts prs nt, strs_snoc S (by show 0 ≤ 0 + (i : Int); omega) (by show 0 + (i : Int) < 0 + (i : Int) + 1 + (k : Int); omega) (by show 0 + (i : Int) + 1 + (k : Int) < (n : Int); omega) fun f hf => ?_, fun e he => ?_⟩, _, rfl⟩
            · have := before f hf
              show f.1 < 0 + (i : Int) ∨ (f.1 = 0 + (i : Int) ∧ f.2 < 0 + (i : Int) + 1 + (k : Int))
              omega
            · rcases List.mem_append.mp he with z | z
              · have := before e z
                omega
              · rw [List.mem_singleton.mp z]
                show 0 + (i : Int) < (i : Int) ∨ (0 + (i : Int) = (i : Int) ∧ 0 + (i : Int) + 1 + (k : Int) < (i : Int) + 1 + ((k + 1 : Nat) : Int))
                omega
        · have hes7 := prl_drw d7 b8 (prl_drw d6 b7 hes)
          have b9 := but_trans b7 b8
          clear b7 d7
          revert H8
          intro H7 b8 d7 hes7 b7
          refine ⟨but_trans b6 b7, drw_le d7 (by omega), ⟨es, hes7, S, fun e he => ?_⟩, _, rfl⟩
          have := before e he
          omega
      · rintro σ H6 ⟨b6, d6, ⟨es, hes, S, before⟩, o2, rfl⟩
        refine ⟨b6, drw_le d6 (by omega), ⟨es, hes, S, fun e he => ?_⟩, _, _, rfl⟩
        have := before e he
        omega
    rintro σ H5 ⟨b5, d5, ⟨es, hes, S, before⟩, o1, o2, rfl⟩
    rw [Int.toNat_natCast] at d5
    have d5 := drw_le d5 (show L + 2 + 48 * n ≤ L + 1160 by omega)
    -- the given ones
    refine ⟨_, rfl, _, rfl, _, rfl, RgOk.of_le (by omega) (by omega) (by omega) (by omega), fun q1 nq1 => ?_⟩
    rw [rg_rng]
    have s6 : Same H5 (upd H5 q1 (.lst ((rng n).map V.int))) := same_new nq1
    have hq1 : upd H5 q1 (.lst ((rng n).map V.int)) q1 = some (.lst ((rng n).map V.int)) := upd_same
    generalize upd H5 q1 (.lst ((rng n).map V.int)) = H6 at s6 hq1
    refine ⟨a, c, q1, rng n, L + 1160, rfl, drw_same d5 s6, by omega, hq1, by rw [rng_len]; omega, fun p7 ms H7 pm b7 np7 hp7 d7 => ?_⟩
    rw [rng_len] at d7
    have d7 := drw_le d7 (show L + 1160 + n ≤ L + 1184 by omega)
    have hes7 := prl_drw (drw_same d5 s6) b7 (prl_same hes s6)
    have p7a := drw_ne d7 hp7
    have b07 : But a H H7 := but_trans b5 (but_trans (but_same s6) b7)
    refine ⟨_, rfl, _, rfl, _, rfl, _, _, rfl, rfl, _, _, rfl, a, c, _, L + 1184, rfl, d7, by omega, (min4 n).1, (min4 n).2, fun r H8 _ _ b8 d8 => ⟨r, rfl, p7, _, rfl, SqL.of (but_ne b8 p7a hp7), fun gl ngl => ?_⟩⟩
    obtain ⟨k1, ek1⟩ := cut_int ms (some r)
    rw [ek1]
    have lg : Lot n (ms.take k1) := (Lot.perm pm).take k1
    generalize ms.take k1 = gs at lg
    have s9 : Same H8 (upd H8 gl (.lst (gs.map V.int))) := same_new ngl
    have hgl : upd H8 gl (.lst (gs.map V.int)) gl = some (.lst (gs.map V.int)) := upd_same
    generalize upd H8 gl (.lst (gs.map V.int)) = H9 at s9 hgl
    have d9 := drw_same d8 s9
    have hes9 := prl_same (prl_drw d7 b8 hes7) s9
    have b09 : But a H H9 := but_trans b07 (but_trans b8 (but_same s9))
    -- the kept ones
    refine ⟨_, rfl, _, rfl, _, rfl, RgOk.of_le (by omega) (by omega) (by omega) (by omega), fun q2 nq2 => ?_⟩
    rw [rg_rng]
    have s10 : Same H9 (upd H9 q2 (.lst ((rng n).map V.int))) := same_new nq2
    have hq2 : upd H9 q2 (.lst ((rng n).map V.int)) q2 = some (.lst ((rng n).map V.int)) := upd_same
    generalize upd H9 q2 (.lst ((rng n).map V.int)) = Ha at s10 hq2
    refine ⟨a, c, q2, rng n, L + 1184 + 1, rfl, drw_same d9 s10, by omega, hq2, by rw [rng_len]; omega, fun p8 ms2 Hb pm2 bb np8 hp8 db => ?_⟩
    rw [rng_len] at db
    have db := drw_le db (show L + 1184 + 1 + n ≤ L + 1209 by omega)
    have hesb := prl_drw (drw_same d9 s10) bb (prl_same hes9 s10)
    have hglb := but_ne bb (drw_ne d9 hgl) (s10 _ _ hgl)
    have p8a := drw_ne db hp8
    refine ⟨_, rfl, _, rfl, _, _, rfl, rfl, _, _, rfl, a, c, _, L + 1209, rfl, db, by omega, (min4 n).1, (min4 n).2, fun r2 Hc _ _ bc dc => ⟨r2, rfl, p8, _, rfl, SqL.of (but_ne bc p8a hp8), fun kl nkl => ?_⟩⟩
    obtain ⟨k2, ek2⟩ := cut_int ms2 (some r2)
    rw [ek2]
    have lk : Lot n (ms2.take k2) := (Lot.perm pm2).take k2
    generalize ms2.take k2 = ks at lk
    have sd : Same Hc (upd Hc kl (.lst (ks.map V.int))) := same_new nkl
    have hkl : upd Hc kl (.lst (ks.map V.int)) kl = some (.lst (ks.map V.int)) := upd_same
    generalize upd Hc kl (.lst (ks.map V.int)) = Hd at sd hkl
    have dd := drw_same dc sd
    have hesd := prl_same (prl_drw db bc hesb) sd
    have hgld := sd _ _ (but_ne bc (drw_ne db hglb) hglb)
    have b0d : But a H Hd := but_trans b09 (but_trans (but_same s10) (but_trans bb (but_trans bc (but_same sd))))
    refine ⟨(by show 2 ≤ sizeLine; decide), fun tp ntp => ⟨tp, _, rfl, SqT.of upd_same, rfl, _, _, rfl, _, _, rfl, rfl, ?_⟩⟩
    have se : Same Hd (upd Hd tp (.tup [.ref gl, .ref kl])) := same_new ntp
    generalize upd Hd tp (.tup [.ref gl, .ref kl]) = He at se
    have de := drw_same dd se
    have hese := prl_same hesd se
    have hgle := se _ _ hgld
    have hkle := se _ _ hkl
    have b0e : But a H He := but_trans b0d (but_same se)
    clear hesd hgld hkl b0d dd sd hesb hglb db bb bc dc hes9 hes7 d9 d7 d8 s9 s10 b07 b09 b8 b7 hq1 hq2 hgl
    -- the turns
    refine ⟨_, rfl, (n : Int), rfl, by omega, by omega, fun D nD => ?_⟩
    have Da := drw_new de nD
    refine lc_range (lo := 0) (n := ((n : Nat) : Int).toNat) (fun i Hf => But a He Hf ∧ Drw Hf a c (L + 1209 + 1 + i) ∧ ∃ tes, PairsL Hf D tes ∧ tes.map (·.1) = (((rng n).take i).filter fun x => !decide (x ∈ ks)) ∧ ∀ e ∈ tes, 0 ≤ e.1 ∧ 0 ≤ e.2 ∧ e.2 ≤ 7) ?_ ?_ ?_
    · exact ⟨but_same (same_new nD), drw_upd de Da, [], ⟨[], upd_same, .nil⟩, rfl, fun e he => (nomatch he)⟩
    · rintro i Hf hi ⟨bf, df, tes, ⟨ts, hts, prs⟩, tf, tb⟩
      rw [Int.toNat_natCast] at hi
      have hx := rng0 hi
      have fl : ts.length ≤ 24 := by
        rw [prs_len prs, ← List.length_map (f := fun e : Sx => e.1), tf]
        refine Nat.le_trans (List.length_filter_le ..) ?_
        rw [List.length_take]
        omega
      refine ⟨rfl, _, rfl, _, rfl, kl, _, rfl, .inl (SqL.of (but_ne bf (drw_ne de hkle) hkle)), rfl, flatI ks, _, rfl, ?_⟩
      show if (!inV (.int (0 + (i : Int))) (ks.map V.int)) = true then _ else _
      rw [inI]
      refine ite2 (fun hq => ?_) (fun hq => ?_)
      · refine ⟨_, rfl, _, rfl, a, c, 8, _, rfl, df, by omega, by decide, by decide, fun r3 Hg r30 r31 bg dg => ⟨(by show 2 ≤ sizeLine; decide), fun t nt => ⟨ts.map V.ref, ?_, (by rw [List.length_map]; exact sz_lt (by omega)), ?_⟩⟩⟩
        · have z := but_ne bg Da.1 hts
          rw [upd_ne (ne_of_none z nt)]
          exact z
        · have z := but_ne bg Da.1 hts
          refine ⟨but_mut (but_mut (but_trans bf bg) (drw_free (but_trans bf bg) de dg nt)) nD, drw_le (drw_upd (drw_upd dg (drw_new dg nt)) Da) (by omega), tes ++ [(0 + (i : Int), r3)], prl_app (e := (0 + (i : Int), r3)) z (prt_drw df bg prs) nt, ?_, fun e he => ?_⟩
          · rw [List.map_append, tf, filter_take hx, if_pos hq]
            rfl
          · rcases List.mem_append.mp he with m | m
            · exact tb e m
            · rw [List.mem_singleton.mp m]
              exact ⟨by show 0 ≤ 0 + (i : Int); omega, r30, by show r3 ≤ 7; omega⟩
      · exact ⟨bf, drw_le df (by omega), tes, ⟨ts, hts, prs⟩, by rw [tf, filter_take hx, if_neg hq], tb⟩
    rintro Hf ⟨bf, df, tes, htes, tf, tb⟩
    rw [Int.toNat_natCast] at tf df
    rw [show (rng n).take n = rng n from List.take_of_length_le (by rw [rng_len]; exact Nat.le_refl n)] at tf
    refine ⟨_, rfl, _, rfl, _, rfl, _, rfl, _, rfl, (by show 5 ≤ sizeLine; decide), fun t5 nt5 => ?_⟩
    have st : Same Hf (upd Hf t5 (.tup [.int (n : Int), .ref SL, .ref gl, .ref kl, .ref D])) := same_new nt5
    have ht5 : upd Hf t5 (.tup [.int (n : Int), .ref SL, .ref gl, .ref kl, .ref D]) t5 = some (.tup [.int (n : Int), .ref SL, .ref gl, .ref kl, .ref D]) := upd_same
    refine q n es tes gs ks SL gl kl D t5 _ ⟨n1, n24, prl_same (prl_drw de bf hese) st, S, st _ _ (but_ne bf (drw_ne de hgle) hgle), lg, st _ _ (but_ne bf (drw_ne de hkle) hkle), lk, prl_same htes st, tf, tb⟩ ht5 (but_trans b0e (but_trans bf (but_same st))) (drw_le (drw_same df st) (by omega))
end
end K19
end
section
/-! _law_heap, _law_met, _law_lot. -/
namespace K19
open PySem PySem.Spec PyProof.Rows L2
theorem flt_other {e : Sx} {x : Int} (h : e.1 < e.2) (m : x = e.1 ∨ x = e.2) : ([e.1, e.2].filter fun y => !decide (V.int y = V.int x)) = [other x e] := by
  have d : ∀ y z : Int, decide (V.int y = V.int z) = decide (y = z) := fun y z => by
    by_cases c : y = z
    · rw [c, decide_eq_true rfl, decide_eq_true rfl]
    · rw [decide_eq_false c, decide_eq_false fun q => c (V.int.inj q)]
  unfold other
  rcases m with rfl | rfl
  · rw [List.filter_cons_of_neg (by rw [d, decide_eq_true rfl]; decide), List.filter_cons_of_pos (by rw [d, decide_eq_false (by omega)]; rfl), if_pos rfl]
    rfl
  · rw [List.filter_cons_of_pos (by rw [d, decide_eq_false (by omega)]; rfl), List.filter_cons_of_neg (by rw [d, decide_eq_true rfl]; decide), if_neg (by omega)]
    rfl
theorem count_take {es : List Sx} {k : Nat} {e : Sx} (p : Sx → Bool) (h : es[k]? = some e) : (es.take (k + 1)).countP p = (es.take k).countP p + if p e = true then 1 else 0 := by
  rw [take_snoc h, List.countP_append, List.countP_singleton]
def lotC (lot : List Int) (x : Int) (e : Sx) : Bool := (decide (x = e.1) || decide (x = e.2)) && decide (other x e ∈ lot)
section
variable {P : Program} {w : World} {K : PySem.W.Frag} {mg : Str → Option Value} {base : Heap}
/-! ### _law_heap -/
def spHeap (K : PySem.W.Frag) : Sp := fun vs H Q _ => ∃ (a : Addr) (ns : List Int), vs = [V.ref a] ∧ SqL K H a (ns.map V.int) ∧ ∀ p c H', Same H H' → Drw H' p c 0 → Q (.ref p) H'
theorem sc39 : FnScope ["_law_script", "_law_cell"] ["_law_script"] (defScope sHeap) := ⟨rfl, rfl, rfl, by decide +kernel, rfl, by decide +kernel, by decide +kernel⟩
theorem cut_some (ms : List Int) (lo hi : Option Int) : ∃ ns : List Int, cutV (ms.map V.int) lo hi = ns.map V.int := by
  unfold cutV
  rw [← List.map_drop, ← List.map_take]
  exact ⟨_, rfl⟩
theorem ok39 (W : World0 K mg) : Cl P w K mg base 1 "_law_heap" (spHeap K) := by
  refine cal_of (ps := ["_law_script"]) W.d39 (fun f fd F => F.ok sc39 (fun vs H Q E h => ?_) (fun cdv A outer s H vs Q E hr h => ?_)) (fun _ _ _ _ _ _ us hl => match us, hl with | [_], _ => rfl)
  · obtain ⟨a, ns, rfl, _⟩ := h
    rfl
  · obtain ⟨a, ns, rfl, seq, q⟩ := h
    refine ⟨_, pss_one (ps_ret (pe_lst (pa_cons
        (pe_lc (own := [("_law_cell", 1)]) (g := gName 1) (tt := tYes) rfl sc39.nd (pi_list (pe_slice sl_list (pv 0) po_none (po_some pe_int))) (blkOk_by (N := ["_law_script", "_law_cell"]) (sc := defScope sHeap) (by decide +kernel)) (fun _ _ _ _ _ => pg_name (i := 1) sc39.nd rfl (Or.inl rfl)) (fun _ _ _ _ _ => pts_nil)
          (fun _ _ _ _ _ => pe_callTy call_int1 (by rfl) W.t.int b_int (pa_cons (pv 1) pa_nil))) (pa_cons pe_int (pa_cons pe_int pa_nil))))), ?_⟩
    refine ⟨_, rfl, _, rfl, a, _, rfl, seq, fun p0 np0 => ?_⟩
    obtain ⟨ms, ems⟩ := cut_some ns none (some 60)
    rw [ems]
    have few : ms.length ≤ 60 := by
      have l := congrArg List.length ems
      rw [List.length_map] at l
      rw [← l]
      unfold cutV
      rw [HT.sIx_none, List.length_take]
      have z := HT.sIx_nat (ns.map V.int).length (ns.map V.int).length 60
      rw [show (((60 : Nat) : Int)) = (60 : Int) from rfl] at z
      rw [z]
      omega
    have s1 : Same H (upd H p0 (.lst (ms.map V.int))) := same_new np0
    have hp0 : upd H p0 (.lst (ms.map V.int)) p0 = some (.lst (ms.map V.int)) := upd_same
    generalize upd H p0 (.lst (ms.map V.int)) = H1 at s1 hp0
    refine ⟨p0, rfl, ⟨_, SqL.of hp0⟩, fun D nD => ?_⟩
    refine lc_list (K := K) (a := p0) (xs := ms.map V.int) (Grow H1 D fun i => (ms.take i).map V.int) (grow_new nD rfl) (fun i H2 _ p => SqL.of (p.1 _ _ hp0)) ?_ ?_
    · intro i x H2 hi pg
      obtain ⟨y, hy, rfl⟩ := map_get hi
      refine ⟨rfl, _, rfl, .inl ⟨_, rfl, ?_⟩⟩
      refine grow_step nD pg (.refl _) (by rw [take_snoc hy, List.map_append]; rfl) ?_
      rw [List.length_map]
      exact take_few (by omega)
    rintro H2 pg
    rw [List.length_map] at pg
    have pd := grow_at pg (ys := ms.map V.int) (by rw [List.take_length])
    refine ⟨(by show 3 ≤ sizeLine; decide), fun p np => ?_⟩
    have s3 : Same H2 (upd H2 p (.lst [.ref D, .int 0, .int 0])) := same_new np
    exact q p D _ (s1.trans (pg.1.trans s3)) ⟨ms, 0, 0, upd_same, s3 _ _ pd, ne_of_none pd np, by omega, by omega, by omega⟩
/-! ### _law_met -/
def spLMet : Sp := fun vs H Q _ => ∃ (n : Nat) (sl l : Addr) (es : List Sx) (lot : List Int), vs = [.int (n : Int), .ref sl, .ref l] ∧ PairsL H sl es ∧ Strs n es ∧ n ≤ 24 ∧ H l = some (.lst (lot.map V.int)) ∧ lot.Nodup ∧
  ∀ t H', Same H H' → H' t = some (.tup ((met n es lot).map V.int)) → Q (.ref t) H'
abbrev nLMet : List Str := ["_law_things", "_law_strings", "_law_lot_here", "_law_found", "_law_thing", "_law_many", "_law_pair", "_law_other"]
abbrev scPair : Scope := { kind := .function, names := [(".0", .local), ("_law_pair", .local), ("_law_lot_here", .cell), ("_law_thing", .cell)], isGenerator := false, isCoroutine := false }
theorem sc44 : FnScope nLMet ["_law_things", "_law_strings", "_law_lot_here"] (defScope sMet) := ⟨rfl, rfl, rfl, by decide +kernel, rfl, by decide +kernel, by decide +kernel⟩
theorem ok44 (W : World0 K mg) : Cl P w K mg base 1 "_law_met" spLMet := by
  refine cal_of (ps := ["_law_things", "_law_strings", "_law_lot_here"]) W.d44 (fun f fd F => F.ok sc44 (fun vs H Q E h => ?_) (fun cdv A outer s H vs Q E hr h => ?_)) (fun _ _ _ _ _ _ us hl => match us, hl with | [_, _, _], _ => rfl)
  · obtain ⟨n, sl, l, es, lot, rfl, _⟩ := h
    rfl
  · obtain ⟨n, sl, l, es, lot, rfl, ⟨ts, hsl, prs⟩, S, n24, hl, lnd, q⟩ := h
    refine ⟨_, pss_cons (ps_set (i := 3) sc44.nd rfl (Or.inl rfl) (pe_lst pa_nil))
      (pss_cons (ps_for PassesOwn.never rfl (pi_range1 (by rfl) W.t.range (pa_cons (pv 0) pa_nil)) (pg_name (i := 4) sc44.nd rfl (Or.inr rfl))
          (pss_cons (ps_set (i := 5) sc44.nd rfl (Or.inl rfl) (pe_callB call_len_seq (by rfl) W.t.len b_len (pa_cons
              (pe_lc (own := [("_law_pair", 6)]) (g := gName 6) rfl sc44.nd (pi_list (pv 1)) (blkOk_by (N := nLMet) (sc := defScope sMet) (by decide +kernel)) (fun _ _ _ _ _ => pg_name (i := 6) sc44.nd rfl (Or.inl rfl))
                (fun _ _ _ _ _ => pts_one (PW.pt (pw_and (pt_cmpR (r := rIn K false) op_in_seq (pv 4) (pv 6) rfl) (pw_and1 (pt_cmpR (r := rIn K false) op_in_seq
                    (pe_ix (r := rIxL K) ix_list (pe_lc (own := [("_law_other", 7)]) (g := gName 7) (wi := iTup K (tVar 6)) rfl sc44.nd (pi_tup (pv 6)) (blkOk_by (N := nLMet) (sc := scPair) (by decide +kernel)) (fun _ _ _ _ _ => pg_name (i := 7) sc44.nd rfl (Or.inl rfl))
                      (fun _ _ _ _ _ => pts_one (pt_cmpR op_ne (pv 7) (pv 4) (nomark _))) (fun _ _ _ _ _ => pv 7)) pe_int (fun _ _ => rfl)) (pv 2) rfl)))))
                (fun _ _ _ _ _ => pv 6)) pa_nil)))
          (pss_one (ps_if (pt_cmpR op_eq (pe_op op_mod (pe_callTy call_int1 (by rfl) W.t.int b_int (pa_cons (pv 5) pa_nil)) pe_int) pe_int (nomark _))
            (pss_one (ps_expr (pe_bm PySem.F.plainAttrs_list PySem.F.slot_list_append PySem.F.type_list_append mt_append (pv 3) (pa_cons (pv 4) pa_nil)))) pss_nil))))
      (pss_one (ps_ret (pe_callTy call_tuple_of (by rfl) W.t.tuple b_tuple (pa_cons (pv 3) pa_nil))))), ?_⟩
    refine ⟨(by show 0 ≤ sizeLine; decide), fun F nF => ?_⟩
    have s0 : Grow H F (fil (rng n) fun x => odd (cnt es lot x)) 0 (upd H F (.lst [])) := grow_new nF rfl
    generalize upd H F (.lst []) = H0 at s0
    refine ⟨_, rfl, (n : Int), rfl, by omega, by omega, ?_⟩
    refine for_range (lo := 0) (n := ((n : Nat) : Int).toNat) (fun i σ H1 => Grow H F (fil (rng n) fun x => odd (cnt es lot x)) i H1 ∧ ∃ o1 o2 : Option V, σ = [some (.int (n : Int)), some (.ref sl), some (.ref l), some (.ref F), o1, o2, none, none]) ?_ ?_ ?_
    · exact ⟨s0, none, none, rfl⟩
    · rintro i σ H1 hi ⟨g1, o1, o2, rfl⟩
      rw [Int.toNat_natCast] at hi
      have hx := rng0 hi
      generalize 0 + (i : Int) = x at hx
      have s1 := g1.1
      refine ⟨_, rfl, sl, rfl, ⟨_, SqL.of (s1 _ _ hsl)⟩, fun D nD => ?_⟩
      refine lc_list (K := K) (a := sl) (xs := ts.map V.ref) (fun k H2 => Same H1 H2 ∧ ∃ vs : List V, H2 D = some (.lst vs) ∧ vs.length = (es.take k).countP (lotC lot x)) ⟨same_new nD, [], upd_same, by rw [List.take_zero]; rfl⟩ (fun k H2 _ p => SqL.of (p.1 _ _ (s1 _ _ hsl))) ?_ ?_
      · rintro k v H2 hk ⟨s2, vs, hD, lv⟩
        obtain ⟨t, e, ht, he, rfl, tup⟩ := prs_get prs hk
        have ce := count_take (lotC lot x) he
        have tup2 := s2 _ _ (s1 _ _ tup)
        have fv : vs.length ≤ 300 := by
          rw [lv]
          refine Nat.le_trans (List.countP_le_length ..) ?_
          have := strs_few S n24
          rw [List.length_take]
          omega
        refine ⟨rfl, _, rfl, _, rfl, t, _, rfl, .inr (SqT.of tup2), rfl, rfl, _, rfl, ?_⟩
        show if inV (.int x) ([e.1, e.2].map V.int) = true then _ else _
        rw [inI]
        refine ite2 (fun h1 => ?_) (fun h1 => iteF ⟨s2, vs, hD, ?_⟩)
        · have m : x = e.1 ∨ x = e.2 := by
            have z := of_decide_eq_true h1
            simpa using z
          refine ⟨_, rfl, t, rfl, ⟨_, SqT.of tup2⟩, fun D2 nD2 => ?_⟩
          refine lc_tup (K := K) (a := t) (xs := [e.1, e.2].map V.int) (Grow H2 D2 (fil [e.1, e.2] fun y => !decide (V.int y = V.int x))) (grow_new nD2 rfl) (fun k3 H3 _ p => SqT.of (p.1 _ _ tup2)) ?_ ?_
          · intro k3 v3 H3 hk3 g3
            obtain ⟨y, hy, rfl⟩ := map_get hk3
            refine ⟨rfl, _, rfl, _, rfl, rfl, _, rfl, ?_⟩
            exact ite2 (fun hq => ⟨_, rfl, fil_add hy hq nD2 g3 (.refl _) (by show 2 < 100000; decide)⟩) (fun hq => fil_not hy hq g3 (.refl _))
          rintro H3 g3
          have pd := grow_at g3 (fil_all [e.1, e.2] _)
          rw [flt_other (S.lt e (List.mem_of_getElem? he)) m] at pd
          have s3 := s2.trans g3.1
          refine ⟨D2, _, 0, .int (other x e), rfl, rfl, SqL.of pd, rfl, _, rfl, l, _, rfl, .inl (SqL.of (s3 _ _ (s1 _ _ hl))), rfl, flatI lot, _, rfl, ?_⟩
          show if inV (.int (other x e)) (lot.map V.int) = true then _ else _
          rw [inI]
          have le : lotC lot x e = decide (other x e ∈ lot) := by
            unfold lotC
            rcases m with m | m
            · rw [decide_eq_true m, Bool.true_or, Bool.true_and]
            · rw [decide_eq_true m, Bool.or_true, Bool.true_and]
          rw [le] at ce
          refine ite2 (fun h2 => ?_) (fun h2 => ?_)
          · refine ⟨_, rfl, vs, g3.1 _ _ hD, sz_lt (by omega), same_mut s3 nD, vs ++ [.ref t], upd_same, ?_⟩
            rw [List.length_append, ce, if_pos h2, lv]
            rfl
          · refine ⟨s3, vs, g3.1 _ _ hD, ?_⟩
            rw [ce, if_neg h2, lv]
            rfl
        · rw [lv, ce]
          have m : ¬ (x = e.1 ∨ x = e.2) := fun z => h1 (decide_eq_true (by simpa using z))
          have le : lotC lot x e = false := by
            unfold lotC
            rw [decide_eq_false (fun z => m (.inl z)), decide_eq_false (fun z => m (.inr z))]
            rfl
          rw [le, if_neg Bool.false_ne_true]
          rfl
      rintro H2 ⟨s2, vs, hD, lv⟩
      rw [List.length_map, prs_len prs, List.take_length] at lv
      have many0 : vs.length = cnt es lot x := by
        rw [lv]
        exact many_eq S lnd x
      refine ⟨D, vs, rfl, .inl (SqL.of hD), ?_⟩
      rw [many0]
      refine ⟨_, rfl, .inl ⟨_, rfl, _, _, rfl, rfl, (by show (0 : Int) < 2; decide), rfl, _, rfl, ?_⟩⟩
      have od : decide (V.int (((cnt es lot x : Nat) : Int) % 2) = V.int 1) = odd (cnt es lot x) := by
        unfold odd
        by_cases c : cnt es lot x % 2 = 1
        · have z : ((cnt es lot x : Nat) : Int) % 2 = 1 := by omega
          rw [decide_eq_true c, z, decide_eq_true rfl]
        · have z : ¬ ((cnt es lot x : Nat) : Int) % 2 = 1 := by omega
          rw [decide_eq_false c, decide_eq_false fun q => z (V.int.inj q)]
      show if decide (V.int (((cnt es lot x : Nat) : Int) % 2) = V.int 1) = true then _ else _
      rw [od]
      have g1F := s2 _ _ g1.2
      refine ite2 (fun hq => ?_) (fun hq => ?_)
      · refine ⟨_, rfl, .inl ⟨rfl, _, SqL.of g1F⟩, _, rfl, F, _, _, rfl, rfl, g1F, ?_, ?_⟩
        · have := fil_len (rng n) (fun x => odd (cnt es lot x)) i
          rw [rng_len] at this
          exact sz_lt (by omega)
        · refine ⟨⟨same_mut (g1.1.trans s2) nF, ?_⟩, _, _, rfl⟩
          rw [upd_same]
          unfold fil
          rw [filter_take hx, if_pos hq, List.map_append]
          rfl
      · exact ⟨fil_not hx hq g1 s2, _, _, rfl⟩
    rintro σ H1 ⟨g1, o1, o2, rfl⟩
    rw [Int.toNat_natCast] at g1
    have pd := grow_at g1 (fil_rng n _)
    refine ⟨_, rfl, F, _, rfl, .inl ⟨SqL.of pd, fun t nt => ?_⟩⟩
    exact q t _ (same_mut g1.1 (g1.1.free nt)) upd_same
/-! ### _law_lot -/
def spLLot : Sp := fun vs H Q _ => ∃ (a c : Addr) (n L : Nat), vs = [.ref a, .int (n : Int)] ∧ Drw H a c L ∧ L + 60 ≤ 100000 ∧ n ≤ 24 ∧
  ∀ p lot H', Lot n lot → But a H H' → H p = none → H' p = some (.lst (lot.map V.int)) → Drw H' a c (L + 60) → Q (.ref p) H'
theorem sc45 : FnScope ["_law_heap_here", "_law_things", "_law_way", "_law_thing"] ["_law_heap_here", "_law_things"] (defScope sLawLot) := ⟨rfl, rfl, rfl, by decide +kernel, rfl, by decide +kernel, by decide +kernel⟩
theorem ok45 (W : World0 K mg) : Cl P w K mg base 3 "_law_lot" spLLot := by
  refine cal_of (ps := ["_law_heap_here", "_law_things"]) W.d45 (fun f fd F => F.ok sc45 (fun vs H Q E h => ?_) (fun cdv A outer s H vs Q E hr h => ?_)) (fun _ _ _ _ _ _ us hl => match us, hl with | [_, _], _ => rfl)
  · obtain ⟨a, c, n, L, rfl, _⟩ := h
    rfl
  · obtain ⟨a, c, n, L, rfl, d, hL, n24, q⟩ := h
    refine ⟨_, pss_cons (ps_set (i := 2) sc45.nd rfl (Or.inr rfl) (C8.pe_c (ok40 W) hr (by decide) (by rfl) (pa_cons (pv 0) (pa_cons pe_int pa_nil))))
      (pss_cons (ps_if (pt_cmpR op_eq (pv 2) pe_int (nomark _))
          (pss_one (ps_ret (pe_slice sl_list (C8.pe_c (ok42 W) hr (by decide) (by rfl) (pa_cons (pv 0) (pa_cons (pe_listRg rfl (by rfl) W.t.list (prg_1 (by rfl) W.t.range (pv 1))) pa_nil))) po_none
              (po_some (C8.pe_c (ok40 W) hr (by decide) (by rfl) (pa_cons (pv 0) (pa_cons pe_int pa_nil))))))) pss_nil)
      (pss_one (ps_ret (pe_lc (own := [("_law_thing", 3)]) (g := gName 3) rfl sc45.nd (pi_list (C8.pe_c (ok42 W) hr (by decide) (by rfl) (pa_cons (pv 0) (pa_cons (pe_listRg rfl (by rfl) W.t.list (prg_1 (by rfl) W.t.range (pv 1))) pa_nil))))
          (blkOk_by (N := ["_law_heap_here", "_law_things", "_law_way", "_law_thing"]) (sc := defScope sLawLot) (by decide +kernel)) (fun _ _ _ _ _ => pg_name (i := 3) sc45.nd rfl (Or.inl rfl))
          (fun _ _ _ _ _ => pts_one (PW.pt (pw_or (pt_cmpR op_eq (pv 2) pe_int (nomark _)) (pw_or1 (pt_cmpR op_eq (C8.pe_c (ok40 W) hr (by decide) (by rfl) (pa_cons (pv 0) (pa_cons (pv 2) pa_nil))) pe_int (nomark _))))))
          (fun _ _ _ _ _ => pv 3))))), ?_⟩
    refine ⟨_, rfl, a, c, 4, L, rfl, d, by omega, by decide, by decide, fun way H1 w0 w1 b1 d1 => ?_⟩
    refine ⟨_, rfl, rfl, _, rfl, ite2 (fun h => ?_) (fun h => ?_)⟩
    · refine ⟨_, rfl, _, rfl, _, rfl, RgOk.of_le (by omega) (by omega) (by omega) (by omega), fun q1 nq1 => ?_⟩
      rw [rg_rng]
      have s2 : Same H1 (upd H1 q1 (.lst ((rng n).map V.int))) := same_new nq1
      have hq1 : upd H1 q1 (.lst ((rng n).map V.int)) q1 = some (.lst ((rng n).map V.int)) := upd_same
      generalize upd H1 q1 (.lst ((rng n).map V.int)) = H2 at s2 hq1
      refine ⟨a, c, q1, rng n, L + 1, rfl, drw_same d1 s2, by omega, hq1, by rw [rng_len]; omega, fun p ms H3 pm b3 np hp d3 => ?_⟩
      rw [rng_len] at d3
      have pa := drw_ne d3 hp
      refine ⟨_, rfl, a, c, 3, L + 1 + n, rfl, d3, by omega, by decide, by decide, fun r H4 _ _ b4 d4 => ⟨r, rfl, p, _, rfl, SqL.of (but_ne b4 pa hp), fun g ng => ?_⟩⟩
      obtain ⟨k1, ek1⟩ := cut_int ms (some r)
      rw [ek1]
      have s5 : Same H4 (upd H4 g (.lst ((ms.take k1).map V.int))) := same_new ng
      have b04 : But a H H4 := but_trans b1 (but_trans (but_same s2) (but_trans b3 b4))
      exact q g (ms.take k1) _ ((Lot.perm pm).take k1) (but_trans b04 (but_same s5)) (drw_free b04 d d4 ng) upd_same (drw_le (drw_same d4 s5) (by omega))
    · have wy : 1 ≤ way := by
        have z : ¬ way = 0 := fun e => h (decide_eq_true (by rw [e]))
        omega
      refine ⟨_, rfl, _, rfl, _, rfl, RgOk.of_le (by omega) (by omega) (by omega) (by omega), fun q1 nq1 => ?_⟩
      rw [rg_rng]
      have s2 : Same H1 (upd H1 q1 (.lst ((rng n).map V.int))) := same_new nq1
      have hq1 : upd H1 q1 (.lst ((rng n).map V.int)) q1 = some (.lst ((rng n).map V.int)) := upd_same
      generalize upd H1 q1 (.lst ((rng n).map V.int)) = H2 at s2 hq1
      refine ⟨a, c, q1, rng n, L + 1, rfl, drw_same d1 s2, by omega, hq1, by rw [rng_len]; omega, fun p ms H3 pm b3 np hp d3 => ?_⟩
      rw [rng_len] at d3
      have pa := drw_ne d3 hp
      have b03 : But a H H3 := but_trans b1 (but_trans (but_same s2) b3)
      have ml : ms.length = n := by rw [pm.length_eq, rng_len]
      refine ⟨p, rfl, ⟨_, SqL.of hp⟩, fun D nD => ?_⟩
      have Da := drw_new d3 nD
      refine lc_list (K := K) (a := p) (xs := ms.map V.int) (fun k H4 => But a H3 H4 ∧ Drw H4 a c (L + 1 + n + k) ∧ ∃ ls : List Int, H4 D = some (.lst (ls.map V.int)) ∧ ls.Sublist (ms.take k)) ⟨but_same (same_new nD), drw_upd d3 Da, [], upd_same, List.nil_sublist _⟩ (fun k H4 _ z => SqL.of (but_ne z.1 pa hp)) ?_ ?_
      · rintro k v H4 hk ⟨b4, d4, ls, hD, sub⟩
        obtain ⟨y, hy, rfl⟩ := map_get hk
        have lk : k < ms.length := (List.getElem?_eq_some_iff.mp hy).1
        have ll : ls.length ≤ 24 := by
          have z := sub.length_le
          rw [List.length_take] at z
          omega
        have sub1 : (ls ++ [y]).Sublist (ms.take (k + 1)) := by
          rw [take_snoc hy]
          exact List.Sublist.append sub (List.Sublist.refl _)
        have sub0 : ls.Sublist (ms.take (k + 1)) := by
          rw [take_snoc hy]
          exact sub.trans (List.sublist_append_left _ _)
        refine ⟨rfl, _, rfl, rfl, _, rfl, ite2 (fun h1 => ?_) (fun h1 => ?_)⟩
        · refine iteT ⟨_, rfl, ls.map V.int, hD, (by rw [List.length_map]; exact sz_lt (by omega)), but_mut b4 nD, drw_le (drw_upd d4 Da) (by omega), ls ++ [y], by rw [upd_same, List.map_append]; rfl, sub1⟩
        · refine ⟨_, rfl, _, rfl, a, c, way, _, rfl, d4, by omega, wy, by omega, fun r H5 _ _ b5 d5 => ⟨rfl, _, rfl, ite2 (fun h2 => ?_) (fun h2 => ?_)⟩⟩
          · refine ⟨_, rfl, ls.map V.int, but_ne b5 Da.1 hD, (by rw [List.length_map]; exact sz_lt (by omega)), but_mut (but_trans b4 b5) nD, drw_le (drw_upd d5 Da) (by omega), ls ++ [y], by rw [upd_same, List.map_append]; rfl, sub1⟩
          · exact ⟨but_trans b4 b5, drw_le d5 (by omega), ls, but_ne b5 Da.1 hD, sub0⟩
      rintro H4 ⟨b4, d4, ls, hD, sub⟩
      rw [List.length_map] at d4
      have sub2 : ls.Sublist ms := sub.trans (List.take_sublist _ _)
      have lm := Lot.perm pm
      exact q D ls H4 ⟨lm.nd.sublist sub2, fun x hx => lm.bd x (sub2.subset hx)⟩ (but_trans b03 b4) (drw_free b03 d d3 nD) hD (drw_le d4 (by omega))
end
end K19
end
section
/-! Pairs as data, the length of a row's text. -/
namespace K19
open PySem PySem.Spec PyProof.Rows L2
def pd (e : Sx) : PyData := .tuple ([e.1, e.2].map PyData.int)
theorem dpPrs {K : PySem.W.Frag} {H : Hp} : ∀ {ts : List Addr} {es : List Sx}, PairsAt H ts es → DpAll K H (ts.map V.ref) (es.map pd)
  | _, _, .nil => .nil
  | _, _, .cons r q => .cons (dpT (ns := [_, _]) r) (dpPrs q)
theorem dpPL {K : PySem.W.Frag} {H : Hp} {l : Addr} {es : List Sx} (h : PairsL H l es) : Dp K H (.ref l) (.list (es.map pd)) := by
  obtain ⟨ts, hl, pr⟩ := h
  exact .lst (SqL.of hl) (dpPrs pr)
theorem pd_lay (e : Sx) : (pd e).canLay0 = true := SeqAt.canLay_of_shaped (shT [e.1, e.2])
theorem pd_depth (e : Sx) : (pd e).depth ≤ 2 := by
  have h := PySem.W.depthAll_ints [e.1, e.2]
  unfold pd
  simp only [PyData.depth]
  omega
theorem pds_lay : ∀ es : List Sx, PyData.canLayAll0 (es.map pd) = true
  | [] => by simp [PyData.canLayAll0]
  | e :: es => by
    rw [List.map_cons]
    simp only [PyData.canLayAll0, pd_lay, pds_lay es, Bool.and_self]
theorem pds_depth : ∀ es : List Sx, PyData.depthAll (es.map pd) ≤ 3
  | [] => by simp [PyData.depthAll]
  | e :: es => by
    have h1 := pds_depth es
    have h2 := pd_depth e
    simp only [List.map_cons, PyData.depthAll]
    omega
theorem pds_shaped (es : List Sx) : SeqAt.shaped (.list (es.map pd)) = true := by
  have h1 := pds_depth es
  have h2 : PyData.depth (.list (es.map pd)) ≤ 64 := by
    simp only [PyData.depth]
    omega
  show (PyData.canLay0 (.list (es.map pd)) && decide (PyData.depth (.list (es.map pd)) ≤ 64)) = true
  rw [Bool.and_eq_true]
  exact ⟨by simp only [PyData.canLay0]; exact pds_lay es, decide_eq_true h2⟩
theorem pds_any (x y : Int) : ∀ es : List Sx, ((es.map pd).any fun z => PyData.eqv z (.tuple ([x, y].map PyData.int))) = decide ((x, y) ∈ es)
  | [] => by simp
  | e :: es => by
    rw [List.map_cons, List.any_cons, pds_any x y es]
    unfold pd
    rw [eqvT]
    obtain ⟨a, b⟩ := e
    by_cases h : a = x ∧ b = y
    · obtain ⟨rfl, rfl⟩ := h
      simp
    · have h1 : ¬ [a, b] = [x, y] := fun q => h ⟨(List.cons.inj q).1, (List.cons.inj (List.cons.inj q).2).1⟩
      have h2 : ¬ (x, y) = (a, b) := fun q => h ⟨(Prod.mk.inj q).1.symm, (Prod.mk.inj q).2.symm⟩
      rw [decide_eq_false h1, Bool.false_or]
      by_cases m : (x, y) ∈ es
      · rw [decide_eq_true m, decide_eq_true (List.mem_cons.mpr (.inr m))]
      · rw [decide_eq_false m, decide_eq_false fun q => (List.mem_cons.mp q).elim h2 m]
/-! ### the text of a row -/
theorem int_short : ∀ k : Nat, k < 24 → (PyData.shown (.int (k : Int))).length ≤ 8 ∧ PyData.weight (.int (k : Int)) ≤ 6 := by decide +kernel
theorem rows_short : ∀ ns : List Int, (∀ x ∈ ns, x ∈ rng 24) → PyData.leavesShortAll 8 (ns.map PyData.int) = true ∧ PyData.weightAll (ns.map PyData.int) ≤ 7 * ns.length
  | [], _ => by simp [PyData.leavesShortAll, PyData.weightAll]
  | x :: ns, h => by
    have ih := rows_short ns fun y hy => h y (List.mem_cons.mpr (.inr hy))
    have hx := mem_rng.mp (h x (List.mem_cons.mpr (.inl rfl)))
    obtain ⟨k, rfl⟩ := Int.eq_ofNat_of_zero_le hx.1
    have s := int_short k (by omega)
    rw [List.map_cons]
    refine ⟨?_, ?_⟩
    · simp only [PyData.leavesShortAll, PyData.leavesShort, ih.1, decide_eq_true s.1, Bool.and_self]
    · simp only [PyData.weightAll, List.length_cons]
      omega
theorem row_fits {ns : List Int} (h : ∀ x ∈ ns, x ∈ rng 24) (few : ns.length ≤ 24) : (rowText ns).length ≤ sizeLine := by
  have s := rows_short ns h
  unfold rowText
  refine PyData.shown_fits (B := 8) (by decide) (by decide) (by simp only [PyData.leavesShort]; exact s.1) ?_
  simp only [PyData.weight]
  have e : (2 : Nat) ^ 20 = 1048576 := by decide
  omega
theorem row_small {ns : List Int} (h : ∀ x ∈ ns, x ∈ rng 24) : ∀ x ∈ ns, x.natAbs < 1000 := fun x hx => by
  have := mem_rng.mp (h x hx)
  omega
theorem rng_sub {n : Nat} (h : n ≤ 24) {x : Int} (hx : x ∈ rng n) : x ∈ rng 24 := by
  rw [mem_rng] at hx ⊢
  omega
/-- a filter of the range, as a row -/
theorem fil_row {n : Nat} (h : n ≤ 24) (p : Int → Bool) : ((rowText ((rng n).filter p)).length ≤ sizeLine) ∧ ∀ x ∈ (rng n).filter p, x.natAbs < 1000 := by
  have a : ∀ x ∈ (rng n).filter p, x ∈ rng 24 := fun x hx => rng_sub h (List.mem_filter.mp hx).1
  refine ⟨row_fits a ?_, row_small a⟩
  have := List.length_filter_le p (rng n)
  rw [rng_len] at this
  omega
end K19
end
section
/-! law. -/
namespace K19
open PySem PySem.Spec PyProof.Rows L2
theorem but_new {x : Addr} {H H1 H2 : Hp} (s : Same H H1) (nx : H x = none) (b : But x H1 H2) : Same H H2 := fun c o e => b c o (ne_of_none e nx) (s c o e)
theorem net_drw {C : Addr} {H H' : Hp} {a c x : Addr} {L n : Nat} {es : List Sx} (h : NetAt C H x n es) (d : Drw H a c L) (b : But a H H') : NetAt C H' x n es := by
  obtain ⟨dx, fs, t, h1, h2, h3, ts, h4, h5⟩ := h
  obtain ⟨_, _, _, ha, _⟩ := id d
  exact ⟨dx, fs, t, b x _ (fun z => (by rw [z, ha] at h1; cases h1)) h1, h2, h3, ts, b t _ (fun z => (by rw [z, ha] at h4; cases h4)) h4, prt_drw d b h5⟩
theorem nebl (b c : Bool) : (!decide (V.bl b = V.bl c)) = (b != c) := by
  cases b <;> cases c <;> simp
theorem four (x : V) (i0 : Nat) (h : ([V.int 4, V.int 9, V.int 24, V.int 6] : List V)[i0]? = some x) : ∃ m : Int, x = .int m ∧ 1 ≤ m ∧ m ≤ 24 := by
  have m := List.mem_of_getElem? h
  rcases List.mem_cons.mp m with rfl | m
  · exact ⟨4, rfl, by decide, by decide⟩
  rcases List.mem_cons.mp m with rfl | m
  · exact ⟨9, rfl, by decide, by decide⟩
  rcases List.mem_cons.mp m with rfl | m
  · exact ⟨24, rfl, by decide, by decide⟩
  rcases List.mem_cons.mp m with rfl | m
  · exact ⟨6, rfl, by decide, by decide⟩
  · cases m
section
variable {P : Program} {w : World} {K : PySem.W.Frag} {mg : Str → Option Value} {base : Heap}
def spLaw (K : PySem.W.Frag) : Sp := fun vs H Q _ => ∃ (a : Addr) (ns : List Int), vs = [V.ref a] ∧ SqL K H a (ns.map V.int) ∧ ∀ H', Q (.bl true) H'
abbrev nLaw : List Str := ["_law_script", "_law_heap_here", "_law_turn", "_law_things", "_law_strings", "_law_given", "_law_kept", "_law_turns", "_law_net", "_law_thing", "_law_other", "_law_due", "_law_lap", "_law_one", "_law_met_here", "_law_its", "_law_both", "_law_here", "_law_there"]
theorem sc46 : FnScope nLaw ["_law_script"] (defScope sLaw) := ⟨rfl, rfl, rfl, by decide +kernel, rfl, by decide +kernel, by decide +kernel⟩
theorem ok46 {C : Addr} (W : World0 K mg) (N : NetC K mg C) {f : Addr} {fd : FuncData} (F : Fun K "law" "law" sLaw f fd) : FnG P w K mg base 9 f fd ["_law_script"] (spLaw K) := by
  refine fn_go F sc46 (fun vs H Q E h => ?_) (fun cdv A outer s H vs Q gd hr h => ?_)
  · obtain ⟨a, ns, rfl, _⟩ := h
    rfl
  · obtain ⟨sa, ns, rfl, seq, q⟩ := h
    have hu := hr.units
    have hu8 : (A.deeper (envOfC "law" (defScope sLaw) s.heap.objs.size f cdv)).units + 8 < cLine := by omega
    have hu65 : (A.deeper (envOfC "law" (defScope sLaw) s.heap.objs.size f cdv)).units + 65 < cLine := by
      have := hr.un
      omega
    have gd2 : (A.deeper (envOfC "law" (defScope sLaw) s.heap.objs.size f cdv)).guards = some [] := gd
    refine ⟨_, pss_cons (ps_set (i := 1) sc46.nd rfl (Or.inl rfl) (C8.pe_c (ok39 W) hr (by decide) (by rfl) (pa_cons (pv 0) pa_nil)))
      (pss_cons (ps_for PassesOwn.never rfl (pi_range1 (by rfl) W.t.range (pa_cons pe_int pa_nil)) (pg_name (i := 2) sc46.nd rfl (Or.inl rfl))
        (pss_cons (ps_asg (C8.pe_c (ok43 W) hr (by decide) (by rfl) (pa_cons (pv 1) (pa_cons (C8.pe_c (ok41 W) hr (by decide) (by rfl) (pa_cons (pv 1) (pa_cons (pe_lst (pa_cons pe_int (pa_cons pe_int (pa_cons pe_int (pa_cons pe_int pa_nil))))) pa_nil))) pa_nil)))
            (pg_tup rfl (pgs_cons (pg_name (i := 3) sc46.nd rfl (Or.inl rfl)) (pgs_cons (pg_name (i := 4) sc46.nd rfl (Or.inr rfl)) (pgs_cons (pg_name (i := 5) sc46.nd rfl (Or.inl rfl)) (pgs_cons (pg_name (i := 6) sc46.nd rfl (Or.inl rfl)) (pgs_cons (pg_name (i := 7) sc46.nd rfl (Or.inl rfl)) pgs_nil)))))))
        (pss_cons (ps_set (i := 8) sc46.nd rfl (Or.inl rfl) (C8.pe_mk (ok32 W N) hr (by decide) (by rfl) (pa_cons (pv 3) (pa_cons (pv 4) (pa_cons (pv 5) (pa_cons (pv 6) (pa_cons (pv 7) pa_nil)))))))
        (pss_cons (ps_for PassesOwn.never rfl (pi_range1 (by rfl) W.t.range (pa_cons (pv 3) pa_nil)) (pg_name (i := 9) sc46.nd rfl (Or.inr rfl))
          (pss_cons (ps_set (i := 11) sc46.nd rfl (Or.inl rfl) (pe_callTy call_tuple_of (by rfl) W.t.tuple b_tuple (pa_cons
              (pe_lc (own := [("_law_other", 10)]) (g := gName 10) rfl sc46.nd (pi_range1 (by rfl) W.t.range (pa_cons (pv 3) pa_nil)) (blkOk_by (N := nLaw) (sc := defScope sLaw) (by decide +kernel)) (fun _ _ _ _ _ => pg_name (i := 10) sc46.nd rfl (Or.inl rfl))
                (fun _ _ _ _ _ => pts_one (PW.pt (pw_or (pt_cmpR (r := rInD K) (op_inD hu65) (pe_tup (pa_cons (pv 9) (pa_cons (pv 10) pa_nil))) (pv 4) rfl) (pw_or1 (pt_cmpR (r := rInD K) (op_inD hu65) (pe_tup (pa_cons (pv 10) (pa_cons (pv 9) pa_nil))) (pv 4) rfl)))))
                (fun _ _ _ _ _ => pv 10)) pa_nil)))
          (pss_one (ps_if (PW.pt (pw_or (pt_cmpR op_ne (pe_callB (cr_reprTI gd2 hu8) (by rfl) W.t.repr b_repr (pa_cons (C8.pe_c (ok36 W N) hr (by decide) (by rfl) (pa_cons (pv 8) (pa_cons (pv 9) pa_nil))) pa_nil)) (pe_callB (cr_reprTI gd2 hu8) (by rfl) W.t.repr b_repr (pa_cons (pv 11) pa_nil)) (nomark _))
              (pw_or1 (pt_cmpR (op_neD hu) (pe_k2 (kw36 W N) hr (by decide) (by rfl) (pk_cons (pv 9) (pk_cons (pv 8) pk_nil))) (pv 11) (nomark _))))) pss_never pss_nil))))
        (pss_one (ps_for PassesOwn.never rfl (pi_range1 (by rfl) W.t.range (pa_cons pe_int pa_nil)) (pg_name (i := 12) sc46.nd rfl (Or.inl rfl))
          (pss_cons (ps_asg (pe_tup (pa_cons (C8.pe_c (ok45 W) hr (by decide) (by rfl) (pa_cons (pv 1) (pa_cons (pv 3) pa_nil))) (pa_cons (C8.pe_c (ok45 W) hr (by decide) (by rfl) (pa_cons (pv 1) (pa_cons (pv 3) pa_nil))) pa_nil)))
              (pg_tup rfl (pgs_cons (pg_name (i := 13) sc46.nd rfl (Or.inr rfl)) (pgs_cons (pg_name (i := 10) sc46.nd rfl (Or.inr rfl)) pgs_nil))))
          (pss_cons (ps_asg (pe_tup (pa_cons (C8.pe_c (ok44 W) hr (by decide) (by rfl) (pa_cons (pv 3) (pa_cons (pv 4) (pa_cons (pv 13) pa_nil)))) (pa_cons (C8.pe_c (ok44 W) hr (by decide) (by rfl) (pa_cons (pv 3) (pa_cons (pv 4) (pa_cons (pv 10) pa_nil)))) pa_nil)))
              (pg_tup rfl (pgs_cons (pg_name (i := 14) sc46.nd rfl (Or.inr rfl)) (pgs_cons (pg_name (i := 15) sc46.nd rfl (Or.inr rfl)) pgs_nil))))
          (pss_cons (ps_if (PW.pt (pw_or (pt_cmpR op_ne (pe_callB (cr_reprTI gd2 hu8) (by rfl) W.t.repr b_repr (pa_cons (C8.pe_c (ok37 W N) hr (by decide) (by rfl) (pa_cons (pv 8) (pa_cons (pv 13) pa_nil))) pa_nil)) (pe_callB (cr_reprTI gd2 hu8) (by rfl) W.t.repr b_repr (pa_cons (pv 14) pa_nil)) (nomark _))
              (pw_or (pt_cmpR (op_neD hu) (pe_k2 (kw37 W N) hr (by decide) (by rfl) (pk_cons (pe_callTy call_tuple_of (by rfl) W.t.tuple b_tuple (pa_cons (pv 13) pa_nil)) (pk_cons (pv 8) pk_nil))) (pv 14) (nomark _))
              (pw_or1 (pt_cmpR op_ne (pe_callB (cr_reprTI gd2 hu8) (by rfl) W.t.repr b_repr (pa_cons (C8.pe_c (ok37 W N) hr (by decide) (by rfl) (pa_cons (pv 8) (pa_cons (pv 10) pa_nil))) pa_nil)) (pe_callB (cr_reprTI gd2 hu8) (by rfl) W.t.repr b_repr (pa_cons (pv 15) pa_nil)) (nomark _)))))) pss_never pss_nil)
          (pss_cons (ps_set (i := 16) sc46.nd rfl (Or.inl rfl) (pe_op op_cat
              (pe_lc (own := [("_law_thing", 9)]) (g := gName 9) rfl sc46.nd (pi_list (pv 13)) (blkOk_by (N := nLaw) (sc := defScope sLaw) (by decide +kernel)) (fun _ _ _ _ _ => pg_name (i := 9) sc46.nd rfl (Or.inl rfl)) (fun _ _ _ _ _ => pts_one (pt_cmpR (r := rIn K true) op_notIn_seq (pv 9) (pv 10) rfl)) (fun _ _ _ _ _ => pv 9))
              (pe_lc (own := [("_law_thing", 9)]) (g := gName 9) rfl sc46.nd (pi_list (pv 10)) (blkOk_by (N := nLaw) (sc := defScope sLaw) (by decide +kernel)) (fun _ _ _ _ _ => pg_name (i := 9) sc46.nd rfl (Or.inl rfl)) (fun _ _ _ _ _ => pts_one (pt_cmpR (r := rIn K true) op_notIn_seq (pv 9) (pv 13) rfl)) (fun _ _ _ _ _ => pv 9))))
          (pss_cons (ps_if (pt_cmpR (op_neD hu) (C8.pe_c (ok37 W N) hr (by decide) (by rfl) (pa_cons (pv 8) (pa_cons (pv 16) pa_nil))) (pe_callTy call_tuple_of (by rfl) W.t.tuple b_tuple (pa_cons (pe_callB cr_sortedI (by rfl) W.t.sorted b_sorted (pa_cons
              (pe_lc (own := [("_law_thing", 9)]) (g := gName 9) rfl sc46.nd (pi_range1 (by rfl) W.t.range (pa_cons (pv 3) pa_nil)) (blkOk_by (N := nLaw) (sc := defScope sLaw) (by decide +kernel)) (fun _ _ _ _ _ => pg_name (i := 9) sc46.nd rfl (Or.inl rfl))
                (fun _ _ _ _ _ => pts_one (pt_cmpR op_ne (pe_cmpR (r := rIn K false) op_in_seq (pv 9) (pv 14) rfl) (pe_cmpR (r := rIn K false) op_in_seq (pv 9) (pv 15) rfl) rfl)) (fun _ _ _ _ _ => pv 9)) pa_nil)) pa_nil)) (nomark _)) pss_never pss_nil)
          (pss_cons (ps_par (i := 17) (j := 18) rfl sc46.nd rfl rfl (by decide) rfl rfl (pa_cons
              (pe_lc (own := [("_law_thing", 9)]) (g := gName 9) rfl sc46.nd (pi_tup (C8.pe_c (ok37 W N) hr (by decide) (by rfl) (pa_cons (pv 8) (pa_cons (pv 13) pa_nil)))) (blkOk_by (N := nLaw) (sc := defScope sLaw) (by decide +kernel)) (fun _ _ _ _ _ => pg_name (i := 9) sc46.nd rfl (Or.inl rfl)) (fun _ _ _ _ _ => pts_one (pt_cmpR (r := rIn K false) op_in_seq (pv 9) (pv 10) rfl)) (fun _ _ _ _ _ => pv 9))
              (pa_cons (pe_lc (own := [("_law_thing", 9)]) (g := gName 9) rfl sc46.nd (pi_tup (C8.pe_c (ok37 W N) hr (by decide) (by rfl) (pa_cons (pv 8) (pa_cons (pv 10) pa_nil)))) (blkOk_by (N := nLaw) (sc := defScope sLaw) (by decide +kernel)) (fun _ _ _ _ _ => pg_name (i := 9) sc46.nd rfl (Or.inl rfl)) (fun _ _ _ _ _ => pts_one (pt_cmpR (r := rIn K false) op_in_seq (pv 9) (pv 13) rfl)) (fun _ _ _ _ _ => pv 9)) pa_nil)) rfl)
          (pss_one (ps_if (pt_cmpR op_ne (pe_op op_mod (pe_callTy call_int1 (by rfl) W.t.int b_int (pa_cons (pe_op op_add (pe_callB call_len_seq (by rfl) W.t.len b_len (pa_cons (pv 17) pa_nil)) (pe_callB call_len_seq (by rfl) W.t.len b_len (pa_cons (pv 18) pa_nil))) pa_nil)) pe_int) pe_int (nomark _)) pss_never pss_nil))))))))))))))
      (pss_one (ps_ret (pe_and (pe_cmpR (op_eqD hu) (C8.pe_c (ok37 W N) hr (by decide) (by rfl) (pa_cons (C8.pe_mk (ok32 W N) hr (by decide) (by rfl) (pa_cons pe_int (pa_cons (pe_lst pa_nil) (pa_cons (pe_lst pa_nil) (pa_cons (pe_lst (pa_cons pe_int pa_nil)) (pa_cons (pe_lst pa_nil) pa_nil)))))) (pa_cons (pe_lst pa_nil) pa_nil))) (pe_tup pa_nil) (nomark _))
        (pe_one (pe_cmpR (op_eqD hu) (C8.pe_c (ok36 W N) hr (by decide) (by rfl) (pa_cons (C8.pe_mk (ok32 W N) hr (by decide) (by rfl) (pa_cons pe_int (pa_cons (pe_lst pa_nil) (pa_cons (pe_lst pa_nil) (pa_cons (pe_lst (pa_cons pe_int pa_nil)) (pa_cons (pe_lst pa_nil) pa_nil)))))) (pa_cons pe_int pa_nil))) (pe_tup pa_nil) (nomark _))))))), ?_⟩
    refine ⟨_, rfl, sa, ns, rfl, seq, fun a c H1 s1 d1 => ?_⟩
    refine ⟨3, rfl, by decide, by decide, ?_⟩
    refine for_range (lo := 0) (n := (3 : Int).toNat) (fun i σ H2 => Drw H2 a c (2000 * i) ∧ ∃ o2 o3 o4 o5 o6 o7 o8 o9 o10 o11 o12 o13 o14 o15 o16 o17 o18 : Option V, σ = [some (.ref sa), some (.ref a), o2, o3, o4, o5, o6, o7, o8, o9, o10, o11, o12, o13, o14, o15, o16, o17, o18]) ?_ ?_ ?_
    · exact ⟨d1, _, _, _, _, _, _, _, _, _, _, _, _, _, _, _, _, _, rfl⟩
    · rintro i σ H2 hi ⟨d2, o2, o3, o4, o5, o6, o7, o8, o9, o10, o11, o12, o13, o14, o15, o16, o17, o18, rfl⟩
      have i3 : i < 3 := hi
      generalize 0 + (i : Int) = ti
      -- the drawn net
      refine ⟨_, rfl, _, rfl, (by show 4 ≤ sizeLine; decide), fun lp nlp => ?_⟩
      have s3 : Same H2 (upd H2 lp (.lst [.int 4, .int 9, .int 24, .int 6])) := same_new nlp
      have hlp : upd H2 lp (.lst [.int 4, .int 9, .int 24, .int 6]) lp = some (.lst [.int 4, .int 9, .int 24, .int 6]) := upd_same
      have lpa := (drw_new d2 nlp).1
      generalize upd H2 lp (.lst [.int 4, .int 9, .int 24, .int 6]) = H3 at s3 hlp
      refine ⟨a, c, lp, _, 2000 * i, rfl, drw_same d2 s3, by omega, hlp, lpa, by decide, by decide, fun i0 xm H4 hx b4 d4 => ?_⟩
      obtain ⟨most, rfl, m1, m2⟩ := four xm i0 hx
      refine ⟨a, c, most, 2000 * i + 1, rfl, d4, by omega, m1, m2, fun n es tes gs ks sl gl kl tl p5 H5 N5 hp5 b5 d5 => ?_⟩
      refine ⟨p5, _, rfl, SqT.of hp5, rfl, _, _, rfl, _, _, rfl, _, _, rfl, _, _, rfl, _, _, rfl, rfl, ?_⟩
      clear hlp lpa s3 d2 b4 d4 hx nlp b5
      obtain ⟨n1, n24, hsl, S, hgl, gL, hkl, kL, htl, tf, tb⟩ := N5
      have few := strs_few S n24
      have tfew : tes.length < 300 := by
        rw [← List.length_map (f := fun e : Sx => e.1), tf]
        refine Nat.lt_of_le_of_lt (List.length_filter_le ..) ?_
        rw [rng_len]
        omega
      -- the net
      refine ⟨_, rfl, _, rfl, _, rfl, _, rfl, _, rfl, fun x dx nx ndx ndxx => ?_⟩
      have sm : Same H5 (upd (upd H5 dx (.own x)) x (.ins C dx [])) := same_mut (same_new ndx) nx
      refine ⟨x, dx, sl, gl, kl, tl, n, es, tes, gs, ks, rfl, upd_same, n1, n24, prl_same hsl sm, S, few, ⟨sm _ _ hgl, gL.nd, gL.bd, by have := gL.few; omega⟩, ⟨sm _ _ hkl, kL.nd, kL.bd, by have := kL.few; omega⟩, ⟨prl_same htl sm, tf, tb, tfew⟩, fun H6 b6 net => ⟨rfl, ?_⟩⟩
      have s6 : Same H5 H6 := but_new sm nx b6
      have d6 := drw_same d5 s6
      have hsl6 := prl_same hsl s6
      clear b6 sm d5 hsl hgl hkl htl hp5
      -- each thing's neighbours
      refine ⟨_, rfl, (n : Int), rfl, by omega, by omega, ?_⟩
      refine for_range (lo := 0) (n := ((n : Nat) : Int).toNat) (fun k σ H7 => Same H6 H7 ∧ ∃ o9 o11 : Option V, σ = [some (.ref sa), some (.ref a), some (.int ti), some (.int (n : Int)), some (.ref sl), some (.ref gl), some (.ref kl), some (.ref tl), some (.ref x), o9, o10, o11, o12, o13, o14, o15, o16, o17, o18]) ?_ ?_ ?_
      · exact ⟨.refl _, _, _, rfl⟩
      · rintro k σ H7 hk ⟨s7, o9, o11, rfl⟩
        rw [Int.toNat_natCast] at hk
        have hx := rng0 hk
        generalize 0 + (k : Int) = y at hx
        have yr : y ∈ rng n := List.mem_of_getElem? hx
        have hsl7 := prl_same hsl6 s7
        have net7 := net_same net s7
        have nf := fil_row n24 fun z => adj es y z
        -- by own counting
        refine ⟨_, rfl, (n : Int), rfl, by omega, by omega, fun D nD => ?_⟩
        refine lc_range (lo := 0) (n := ((n : Nat) : Int).toNat) (Grow H7 D (fil (rng n) fun z => adj es y z)) (grow_new nD rfl) ?_ ?_
        · intro m H8 hm pg
          rw [Int.toNat_natCast] at hm
          have hz := rng0 hm
          generalize 0 + (m : Int) = z at hz
          refine ⟨rfl, _, rfl, _, rfl, (by show 2 ≤ sizeLine; decide), fun t nt => ⟨_, rfl, _, _, dpT (ns := [y, z]) upd_same, dpPL (prl_same hsl7 (pg.1.trans (same_new nt))), shT _, pds_shaped _, _, rfl, ?_⟩⟩
          rw [pds_any]
          refine ite2 (fun h1 => iteT ⟨_, rfl, fil_add hz (adj_iff.mpr (.inl (of_decide_eq_true h1))) nD pg (same_new nt) (by rw [rng_len]; omega)⟩) (fun h1 => ?_)
          refine ⟨_, rfl, _, rfl, (by show 2 ≤ sizeLine; decide), fun t2 nt2 => ⟨_, rfl, _, _, dpT (ns := [z, y]) upd_same, dpPL (prl_same hsl7 (pg.1.trans ((same_new nt).trans (same_new nt2)))), shT _, pds_shaped _, _, rfl, ?_⟩⟩
          rw [pds_any]
          refine ite2 (fun h2 => ⟨_, rfl, fil_add hz (adj_iff.mpr (.inr (of_decide_eq_true h2))) nD pg ((same_new nt).trans (same_new nt2)) (by rw [rng_len]; omega)⟩) (fun h2 => fil_not hz (fun q => ?_) pg ((same_new nt).trans (same_new nt2)))
          rcases adj_iff.mp q with m1 | m1
          · exact h1 (decide_eq_true m1)
          · exact h2 (decide_eq_true m1)
        rintro H8 pg
        rw [Int.toNat_natCast] at pg
        have pd := grow_at pg (fil_rng n _)
        refine ⟨D, _, rfl, .inl ⟨SqL.of pd, fun td ntd => ?_⟩⟩
        have s9 : Same H7 (upd H8 td (.tup (((rng n).filter fun z => adj es y z).map V.int))) := same_mut pg.1 (pg.1.free ntd)
        have htd : upd H8 td (.tup (((rng n).filter fun z => adj es y z).map V.int)) td = some (.tup (((rng n).filter fun z => adj es y z).map V.int)) := upd_same
        generalize upd H8 td (.tup (((rng n).filter fun z => adj es y z).map V.int)) = H9 at s9 htd
        -- asked of the net
        refine ⟨_, rfl, _, rfl, x, y, n, es, rfl, net_same net7 s9, n1, n24, S, few, yr, fun u Ha sa2 hu => ⟨u, _, rfl, SqT.of hu, nf.1, nf.2, ?_⟩⟩
        refine ⟨_, rfl, td, _, rfl, SqT.of (sa2 _ _ htd), nf.1, nf.2, rfl, _, rfl, iteNS rfl ?_⟩
        refine ⟨_, rfl, _, rfl, rfl, x, y, n, es, rfl, net_same net7 (s9.trans sa2), n1, n24, S, few, yr, fun u2 Hb sb hu2 => ⟨_, rfl, _, _, dpT hu2, dpT (sb _ _ (sa2 _ _ htd)), shT _, shT _, _, rfl, ?_⟩⟩
        rw [eqvT]
        exact iteNS rfl ⟨s7.trans (s9.trans (sa2.trans sb)), _, _, rfl⟩
      rintro σ H7 ⟨s7, o9, o11, rfl⟩
      have d7 := drw_same d6 s7
      have hsl7 := prl_same hsl6 s7
      have net7 := net_same net s7
      -- lots
      refine ⟨3, rfl, by decide, by decide, ?_⟩
      refine for_range (lo := 0) (n := (3 : Int).toNat) (fun j σ H8 => But a H7 H8 ∧ Drw H8 a c (2000 * i + 1 + 1300 + 120 * j) ∧ ∃ o10 o12 o13 o14 o15 o16 o17 o18 : Option V, σ = [some (.ref sa), some (.ref a), some (.int ti), some (.int (n : Int)), some (.ref sl), some (.ref gl), some (.ref kl), some (.ref tl), some (.ref x), o9, o10, o11, o12, o13, o14, o15, o16, o17, o18]) ?_ ?_ ?_
      · exact ⟨but_refl _ _, d7, _, _, _, _, _, _, _, _, rfl⟩
      · rintro j σ H8 hj ⟨b8, d8, o10, o12, o13, o14, o15, o16, o17, o18, rfl⟩
        have j3 : j < 3 := hj
        generalize 0 + (j : Int) = tj
        have lb : 2000 * i + 1 + 1300 + 120 * j + 120 ≤ 100000 := by omega
        generalize eL : 2000 * i + 1 + 1300 + 120 * j = Lj at d8 lb
        -- two lots
        refine ⟨_, rfl, _, rfl, a, c, n, Lj, rfl, d8, by omega, n24, fun p1 one H9 l1 b9 np1 hp1 d9 => ?_⟩
        refine ⟨_, rfl, _, rfl, a, c, n, Lj + 60, rfl, d9, by omega, n24, fun p2 two Ha l2 ba np2 hp2 da => ?_⟩
        have hp1a := but_ne ba (drw_ne d9 hp1) hp1
        have b7a : But a H7 Ha := but_trans b8 (but_trans b9 ba)
        have hsla := prl_drw d7 b7a hsl7
        have neta := net_drw net7 d7 b7a
        refine ⟨(by show 2 ≤ sizeLine; decide), fun tp ntp => ⟨tp, _, rfl, SqT.of upd_same, rfl, _, _, rfl, _, _, rfl, rfl, ?_⟩⟩
        have sb : Same Ha (upd Ha tp (.tup [.ref p1, .ref p2])) := same_new ntp
        generalize upd Ha tp (.tup [.ref p1, .ref p2]) = Hb at sb
        have r1 : ∀ z ∈ one, z ∈ rng n := fun z hz => mem_rng.mpr (l1.bd z hz)
        have r2 : ∀ z ∈ two, z ∈ rng n := fun z hz => mem_rng.mpr (l2.bd z hz)
        -- what they meet, by own counting
        refine ⟨_, rfl, _, rfl, _, rfl, n, sl, p1, es, one, rfl, prl_same hsla sb, S, n24, sb _ _ hp1a, l1.nd, fun t1 Hc sc ht1 => ?_⟩
        have sac := sb.trans sc
        refine ⟨_, rfl, _, rfl, _, rfl, n, sl, p2, es, two, rfl, prl_same hsla sac, S, n24, sac _ _ hp2, l2.nd, fun t2 Hd sd ht2 => ?_⟩
        have sad := sac.trans sd
        refine ⟨(by show 2 ≤ sizeLine; decide), fun tq ntq => ⟨tq, _, rfl, SqT.of upd_same, rfl, _, _, rfl, _, _, rfl, rfl, ?_⟩⟩
        have se := same_new (o := .tup [.ref t1, .ref t2]) ntq
        have ht1e := se _ _ (sd _ _ ht1)
        have ht2e := se _ _ ht2
        have sae := sad.trans se
        generalize upd Hd tq (.tup [.ref t1, .ref t2]) = He at se ht1e ht2e sae
        clear sb sac sd se sad ht1 ht2 sc
        have hp1e := sae _ _ hp1a
        have hp2e := sae _ _ hp2
        have nete := net_same neta sae
        have f1 := fil_row n24 fun z => odd (cnt es one z)
        have f2 := fil_row n24 fun z => odd (cnt es two z)
        -- asked of the net
        refine ⟨_, rfl, _, rfl, x, p1, n, es, one, rfl, nete, n1, n24, S, few, .inl hp1e, l1.nd, r1, fun u1 Hf sf hu1 => ⟨u1, _, rfl, SqT.of hu1, f1.1, f1.2, ?_⟩⟩
        refine ⟨_, rfl, t1, _, rfl, SqT.of (sf _ _ ht1e), f1.1, f1.2, rfl, _, rfl, iteNS rfl ?_⟩
        refine ⟨_, rfl, p1, _, rfl, .inl ⟨SqL.of (sf _ _ hp1e), fun tu ntu => ?_⟩⟩
        have sg := sf.trans (same_new (o := .tup (one.map V.int)) ntu)
        have htu : upd Hf tu (.tup (one.map V.int)) tu = some (.tup (one.map V.int)) := upd_same
        generalize upd Hf tu (.tup (one.map V.int)) = Hg at sg htu
        refine ⟨_, rfl, rfl, x, tu, n, es, one, rfl, net_same nete sg, n1, n24, S, few, .inr htu, l1.nd, r1, fun u2 Hh sh hu2 => ⟨_, rfl, _, _, dpT hu2, dpT (sh _ _ (sg _ _ ht1e)), shT _, shT _, _, rfl, ?_⟩⟩
        rw [eqvT]
        refine iteNS rfl ?_
        have sh2 := sg.trans sh
        refine ⟨_, rfl, _, rfl, x, p2, n, es, two, rfl, net_same nete sh2, n1, n24, S, few, .inl (sh2 _ _ hp2e), l2.nd, r2, fun u3 Hi si hu3 => ⟨u3, _, rfl, SqT.of hu3, f2.1, f2.2, ?_⟩⟩
        have sei := sh2.trans si
        refine ⟨_, rfl, t2, _, rfl, SqT.of (sei _ _ ht2e), f2.1, f2.2, rfl, _, rfl, iteNS rfl ?_⟩
        clear sf sg sh sh2 si htu hu1 hu2 hu3
        have sai := sae.trans sei
        have hp1i := sei _ _ hp1e
        have hp2i := sei _ _ hp2e
        have ht1i := sei _ _ ht1e
        have ht2i := sei _ _ ht2e
        have neti := net_same nete sei
        clear hp1e hp2e ht1e ht2e nete sei sae
        -- both without what lies in both
        refine ⟨_, rfl, p1, rfl, ⟨_, SqL.of hp1i⟩, fun D1 nD1 => ?_⟩
        refine lc_list (K := K) (a := p1) (xs := one.map V.int) (Grow Hi D1 (fil one fun z => !decide (z ∈ two))) (grow_new nD1 rfl) (fun k H' _ pg => SqL.of (pg.1 _ _ hp1i)) ?_ ?_
        · intro k v H' hk pg
          obtain ⟨y, hy, rfl⟩ := map_get hk
          refine ⟨rfl, _, rfl, _, rfl, p2, _, rfl, .inl (SqL.of (pg.1 _ _ hp2i)), rfl, flatI two, _, rfl, ?_⟩
          show if (!inV (.int y) (two.map V.int)) = true then _ else _
          rw [inI]
          exact ite2 (fun hq => ⟨_, rfl, fil_add hy hq nD1 pg (.refl _) (by have := l1.few; omega)⟩) (fun hq => fil_not hy hq pg (.refl _))
        rintro Hj pgj
        rw [List.length_map] at pgj
        have pdj := grow_at pgj (fil_all one _)
        refine ⟨_, rfl, p2, rfl, ⟨_, SqL.of (pgj.1 _ _ hp2i)⟩, fun D2 nD2 => ?_⟩
        refine lc_list (K := K) (a := p2) (xs := two.map V.int) (Grow Hj D2 (fil two fun z => !decide (z ∈ one))) (grow_new nD2 rfl) (fun k H' _ pg => SqL.of (pg.1 _ _ (pgj.1 _ _ hp2i))) ?_ ?_
        · intro k v H' hk pg
          obtain ⟨y, hy, rfl⟩ := map_get hk
          refine ⟨rfl, _, rfl, _, rfl, p1, _, rfl, .inl (SqL.of (pg.1 _ _ (pgj.1 _ _ hp1i))), rfl, flatI one, _, rfl, ?_⟩
          show if (!inV (.int y) (one.map V.int)) = true then _ else _
          rw [inI]
          exact ite2 (fun hq => ⟨_, rfl, fil_add hy hq nD2 pg (.refl _) (by have := l2.few; omega)⟩) (fun hq => fil_not hy hq pg (.refl _))
        rintro Hk pgk
        rw [List.length_map] at pgk
        have pdk := grow_at pgk (fil_all two _)
        have lf1 := List.length_filter_le (fun z => !decide (z ∈ two)) one
        have lf2 := List.length_filter_le (fun z => !decide (z ∈ one)) two
        have lw1 := l1.few
        have lw2 := l2.few
        refine ⟨D1, D2, _, _, rfl, rfl, pgk.1 _ _ pdj, pdk, ?_, fun r nr => ?_⟩
        · rw [List.length_map, List.length_map]
          exact sz_le (by omega)
        rw [← List.map_append]
        have sl1 : Same Hi (upd Hk r (.lst ((sym one two).map V.int))) := same_mut (pgj.1.trans pgk.1) ((pgj.1.trans pgk.1).free nr)
        have hr1 : upd Hk r (.lst ((sym one two).map V.int)) r = some (.lst ((sym one two).map V.int)) := upd_same
        change upd Hk r (.lst ((one.filter (fun z => !decide (z ∈ two)) ++ two.filter fun z => !decide (z ∈ one)).map V.int)) r = _ at hr1
        change Same Hi (upd Hk r (.lst ((one.filter (fun z => !decide (z ∈ two)) ++ two.filter fun z => !decide (z ∈ one)).map V.int))) at sl1
        generalize upd Hk r (.lst ((one.filter (fun z => !decide (z ∈ two)) ++ two.filter fun z => !decide (z ∈ one)).map V.int)) = Hl at sl1 hr1
        clear pgj pgk pdj pdk lf1 lf2 nr nD1 nD2
        have rs : ∀ z ∈ sym one two, z ∈ rng n := fun z hz => by
          unfold sym at hz
          rcases List.mem_append.mp hz with m | m
          · exact r1 z (List.mem_filter.mp m).1
          · exact r2 z (List.mem_filter.mp m).1
        refine ⟨_, rfl, _, rfl, x, r, n, es, sym one two, rfl, net_same neti sl1, n1, n24, S, few, .inl hr1, sym_nodup l1.nd l2.nd, rs, fun u4 Hm sm4 hu4 => ?_⟩
        have sim := sl1.trans sm4
        refine ⟨_, rfl, (n : Int), rfl, by omega, by omega, fun D3 nD3 => ?_⟩
        refine lc_range (lo := 0) (n := ((n : Nat) : Int).toNat) (Grow Hm D3 (fil (rng n) fun z => decide (z ∈ met n es one) != decide (z ∈ met n es two))) (grow_new nD3 rfl) ?_ ?_
        · intro k H' hk pg
          rw [Int.toNat_natCast] at hk
          have hz := rng0 hk
          generalize 0 + (k : Int) = z at hz
          refine ⟨rfl, _, rfl, _, rfl, t1, _, rfl, .inr (SqT.of (pg.1 _ _ (sim _ _ ht1i))), rfl, flatI _, _, rfl, _, rfl, t2, _, rfl, .inr (SqT.of (pg.1 _ _ (sim _ _ ht2i))), rfl, flatI _, rfl, _, rfl, ?_⟩
          show if (!decide (V.bl (inV (.int z) ((met n es one).map V.int)) = V.bl (inV (.int z) ((met n es two).map V.int)))) = true then _ else _
          rw [inI, inI, nebl]
          exact ite2 (fun hq => ⟨_, rfl, fil_add hz hq nD3 pg (.refl _) (by rw [rng_len]; omega)⟩) (fun hq => fil_not hz hq pg (.refl _))
        rintro Hn pgn
        rw [Int.toNat_natCast] at pgn
        have pdn := grow_at pgn (fil_rng n _)
        rw [← met_sym l1.nd l2.nd] at pdn
        refine ⟨D3, met n es (sym one two), rfl, SqL.of pdn, fun ms p6 pm srt np6 => ?_⟩
        obtain rfl := sorted_asc pm srt (met_asc n es (sym one two))
        refine ⟨p6, _, rfl, .inl ⟨SqL.of upd_same, fun t6 nt6 => ?_⟩⟩
        have s6a : Same Hm (upd Hn p6 (.lst ((met n es (sym one two)).map V.int))) := same_mut pgn.1 (pgn.1.free np6)
        have s6b := s6a.trans (same_new (o := .tup ((met n es (sym one two)).map V.int)) nt6)
        refine ⟨_, _, dpT (s6b _ _ hu4), dpT upd_same, shT _, shT _, _, rfl, ?_⟩
        rw [eqvT]
        refine iteNS rfl ?_
        have sip := sim.trans s6b
        generalize upd (upd Hn p6 (.lst ((met n es (sym one two)).map V.int))) t6 (.tup ((met n es (sym one two)).map V.int)) = Hp at sip
        clear s6a s6b pgn pdn sim sm4 hu4 hr1 sl1 nt6 np6 nD3
        have hp1p := sip _ _ hp1i
        have hp2p := sip _ _ hp2i
        have netp := net_same neti sip
        -- those of the other lot
        refine ⟨_, rfl, _, rfl, x, p1, n, es, one, rfl, netp, n1, n24, S, few, .inl hp1p, l1.nd, r1, fun u5 Hq sq hu5 => ⟨u5, rfl, ⟨_, SqT.of hu5⟩, fun D4 nD4 => ?_⟩⟩
        refine lc_tup (K := K) (a := u5) (xs := (met n es one).map V.int) (Grow Hq D4 (fil (met n es one) fun z => decide (z ∈ two))) (grow_new nD4 rfl) (fun k H' _ pg => SqT.of (pg.1 _ _ hu5)) ?_ ?_
        · intro k v H' hk pg
          obtain ⟨y, hy, rfl⟩ := map_get hk
          refine ⟨rfl, _, rfl, _, rfl, p2, _, rfl, .inl (SqL.of (pg.1 _ _ (sq _ _ hp2p))), rfl, flatI two, _, rfl, ?_⟩
          show if inV (.int y) (two.map V.int) = true then _ else _
          rw [inI]
          have ml := List.length_filter_le (fun z => odd (cnt es one z)) (rng n)
          rw [rng_len] at ml
          exact ite2 (fun hq => ⟨_, rfl, fil_add hy hq nD4 pg (.refl _) (by show (met n es one).length < 100000; unfold met; omega)⟩) (fun hq => fil_not hy hq pg (.refl _))
        rintro Hr pgr
        rw [List.length_map] at pgr
        have pdr := grow_at pgr (fil_all (met n es one) _)
        have spr := sq.trans pgr.1
        refine ⟨_, rfl, _, rfl, x, p2, n, es, two, rfl, net_same netp spr, n1, n24, S, few, .inl (spr _ _ hp2p), l2.nd, r2, fun u6 Hs ss hu6 => ⟨u6, rfl, ⟨_, SqT.of hu6⟩, fun D5 nD5 => ?_⟩⟩
        refine lc_tup (K := K) (a := u6) (xs := (met n es two).map V.int) (Grow Hs D5 (fil (met n es two) fun z => decide (z ∈ one))) (grow_new nD5 rfl) (fun k H' _ pg => SqT.of (pg.1 _ _ hu6)) ?_ ?_
        · intro k v H' hk pg
          obtain ⟨y, hy, rfl⟩ := map_get hk
          refine ⟨rfl, _, rfl, _, rfl, p1, _, rfl, .inl (SqL.of (pg.1 _ _ (ss _ _ (spr _ _ hp1p)))), rfl, flatI one, _, rfl, ?_⟩
          show if inV (.int y) (one.map V.int) = true then _ else _
          rw [inI]
          have ml := List.length_filter_le (fun z => odd (cnt es two z)) (rng n)
          rw [rng_len] at ml
          exact ite2 (fun hq => ⟨_, rfl, fil_add hy hq nD5 pg (.refl _) (by show (met n es two).length < 100000; unfold met; omega)⟩) (fun hq => fil_not hy hq pg (.refl _))
        rintro Ht pgt
        rw [List.length_map] at pgt
        have pdt := grow_at pgt (fil_all (met n es two) _)
        have spt := spr.trans (ss.trans pgt.1)
        refine ⟨_, _, rfl, ?_⟩
        refine ⟨_, rfl, D4, _, rfl, .inl (SqL.of (pgt.1 _ _ (ss _ _ pdr))), _, rfl, D5, _, rfl, .inl (SqL.of pdt), _, _, rfl, rfl, .inl ⟨_, rfl, _, _, rfl, rfl, (by show (0 : Int) < 2; decide), rfl, _, rfl, ?_⟩⟩
        have ev := even_both (n := n) (es := es) l1.nd l2.nd r1 r2
        refine iteNS (congrArg V.int ?_) ⟨?_, ?_, _, _, _, _, _, _, _, _, rfl⟩
        · show ((((met n es one).filter fun z => decide (z ∈ two)).map V.int).length + (((met n es two).filter fun z => decide (z ∈ one)).map V.int).length : Int) % 2 = 0
          rw [List.length_map, List.length_map]
          omega
        · exact but_trans b7a (but_same (sai.trans (sip.trans spt)))
        · exact drw_le (drw_same da (sai.trans (sip.trans spt))) (by omega)
      · rintro σ H8 ⟨b8, d8, o10, o12, o13, o14, o15, o16, o17, o18, rfl⟩
        exact ⟨drw_le d8 (by show 2000 * i + 1 + 1300 + 120 * 3 ≤ 2000 * (i + 1); omega), _, _, _, _, _, _, _, _, _, _, _, _, _, _, _, _, _, rfl⟩
    rintro σ H2 ⟨d2, o2, o3, o4, o5, o6, o7, o8, o9, o10, o11, o12, o13, o14, o15, o16, o17, o18, rfl⟩
    -- a net of one thing
    have one1 : ∀ {H : Hp} {e : Addr}, H e = some (.lst []) → PairsL H e [] := fun h => ⟨[], h, .nil⟩
    have m0 : decide (met 1 [] [] = []) = true := by decide
    have n0 : decide (nbr 1 [] 0 = []) = true := by decide
    have tf0 : ([] : List Sx).map (·.1) = ((rng 1).filter fun x => !decide (x ∈ ([0] : List Int))) := by decide
    have k01 : ∀ x ∈ ([0] : List Int), 0 ≤ x ∧ x < ((1 : Nat) : Int) := by decide
    refine ⟨(by show 0 ≤ sizeLine; decide), fun e1 ne1 => ⟨(by show 0 ≤ sizeLine; decide), fun e2 ne2 => ⟨(by show 1 ≤ sizeLine; decide), fun e3 ne3 => ⟨(by show 0 ≤ sizeLine; decide), fun e4 ne4 x dx nx ndx ndxx => ?_⟩⟩⟩⟩
    have q1 : upd H2 e1 (.lst []) e1 = some (.lst []) := upd_same
    generalize upd H2 e1 (.lst []) = H3 at q1 ne2 ne3 ne4 nx ndx ⊢
    have s2 := same_new (o := .lst []) ne2
    have q2 : upd H3 e2 (.lst []) e2 = some (.lst []) := upd_same
    generalize upd H3 e2 (.lst []) = H4 at s2 q2 ne3 ne4 nx ndx ⊢
    have s3 := same_new (o := .lst [.int 0]) ne3
    have q3 : upd H4 e3 (.lst [.int 0]) e3 = some (.lst [.int 0]) := upd_same
    generalize upd H4 e3 (.lst [.int 0]) = H5 at s3 q3 ne4 nx ndx ⊢
    have s4 := same_new (o := .lst []) ne4
    have q4 : upd H5 e4 (.lst []) e4 = some (.lst []) := upd_same
    generalize upd H5 e4 (.lst []) = H6 at s4 q4 nx ndx ⊢
    have sm : Same H6 (upd (upd H6 dx (.own x)) x (.ins C dx [])) := same_mut (same_new ndx) nx
    refine ⟨x, dx, e1, e2, e3, e4, 1, [], [], [], [0], rfl, upd_same, by decide, by decide, one1 (sm _ _ (s4 _ _ (s3 _ _ (s2 _ _ q1)))), strs_nil 1, by decide, ⟨sm _ _ (s4 _ _ (s3 _ _ q2)), List.nodup_nil, fun _ h => (nomatch h), by decide⟩, ⟨sm _ _ (s4 _ _ q3), by decide, k01, by decide⟩, ⟨one1 (sm _ _ q4), tf0, fun _ h => (nomatch h), by decide⟩, fun H7 b7 net => ⟨rfl, ?_⟩⟩
    refine ⟨(by show 0 ≤ sizeLine; decide), fun e5 ne5 => ?_⟩
    refine ⟨x, e5, 1, [], [], rfl, net_same net (same_new ne5), by decide, by decide, strs_nil 1, by decide, .inl upd_same, List.nodup_nil, fun _ h => (nomatch h), fun u H8 s8 hu => ?_⟩
    refine ⟨(by show 0 ≤ sizeLine; decide), fun t nt => ⟨_, _, dpT (same_new (o := .tup []) nt _ _ hu), dpT (ns := []) upd_same, shT _, shT _, _, rfl, ?_⟩⟩
    rw [eqvT, m0]
    refine iteT ?_
    generalize upd H8 t (.tup []) = H9
    clear ne1 ne2 ne3 ne4 nx ndx q1 q2 q3 q4 s2 s3 s4 sm b7 net ne5 s8 hu nt
    refine ⟨(by show 0 ≤ sizeLine; decide), fun e1 ne1 => ⟨(by show 0 ≤ sizeLine; decide), fun e2 ne2 => ⟨(by show 1 ≤ sizeLine; decide), fun e3 ne3 => ⟨(by show 0 ≤ sizeLine; decide), fun e4 ne4 x dx nx ndx ndxx => ?_⟩⟩⟩⟩
    have q1 : upd H9 e1 (.lst []) e1 = some (.lst []) := upd_same
    generalize upd H9 e1 (.lst []) = H3 at q1 ne2 ne3 ne4 nx ndx ⊢
    have s2 := same_new (o := .lst []) ne2
    have q2 : upd H3 e2 (.lst []) e2 = some (.lst []) := upd_same
    generalize upd H3 e2 (.lst []) = H4 at s2 q2 ne3 ne4 nx ndx ⊢
    have s3 := same_new (o := .lst [.int 0]) ne3
    have q3 : upd H4 e3 (.lst [.int 0]) e3 = some (.lst [.int 0]) := upd_same
    generalize upd H4 e3 (.lst [.int 0]) = H5 at s3 q3 ne4 nx ndx ⊢
    have s4 := same_new (o := .lst []) ne4
    have q4 : upd H5 e4 (.lst []) e4 = some (.lst []) := upd_same
    generalize upd H5 e4 (.lst []) = H6 at s4 q4 nx ndx ⊢
    have sm : Same H6 (upd (upd H6 dx (.own x)) x (.ins C dx [])) := same_mut (same_new ndx) nx
    refine ⟨x, dx, e1, e2, e3, e4, 1, [], [], [], [0], rfl, upd_same, by decide, by decide, one1 (sm _ _ (s4 _ _ (s3 _ _ (s2 _ _ q1)))), strs_nil 1, by decide, ⟨sm _ _ (s4 _ _ (s3 _ _ q2)), List.nodup_nil, fun _ h => (nomatch h), by decide⟩, ⟨sm _ _ (s4 _ _ q3), by decide, k01, by decide⟩, ⟨one1 (sm _ _ q4), tf0, fun _ h => (nomatch h), by decide⟩, fun H7 b7 net => ⟨rfl, ?_⟩⟩
    refine ⟨x, 0, 1, [], rfl, net, by decide, by decide, strs_nil 1, by decide, by decide, fun u H8 s8 hu => ?_⟩
    refine ⟨(by show 0 ≤ sizeLine; decide), fun t nt => ⟨_, _, dpT (same_new (o := .tup []) nt _ _ hu), dpT (ns := []) upd_same, shT _, shT _, ?_⟩⟩
    rw [eqvT, n0]
    exact q _
end
end K19
end
section
open PySem PySem.W PyProof.Rows
namespace K19
open_top hd for PySem.Challenge.rw_lookmade_k19_whole_who_meets_whom_oddly
end K19
end
namespace K19
open PySem PySem.Spec PyProof.Rows L2
theorem spLaw_go {w : World} {P : Program} {K : PySem.W.Frag} {mg : Str → Option Value} {fa : Addr} (W : World0 K mg) (at_ : mg "law" = some (.ref fa)) :
    ∃ fd : FuncData, (∀ (s : Shared) (u : Value), BindsTo s fd ⟨[u], []⟩ [("_law_script", u)]) ∧ ∀ b : Heap, K.In b → b.Ns mainGlobals mg → FnG P w K mg b 9 fa fd ["_law_script"] (spLaw K) := by
  obtain ⟨f, fd, F, m⟩ := W.d46.ex
  obtain rfl : f = fa := by
    have e := m.symm.trans at_
    exact Value.ref.inj (Option.some.inj e)
  obtain ⟨C, N⟩ := W.net
  refine ⟨fd, fun s u => ?_, fun b _ _ => ok46 W N F⟩
  obtain ⟨oc, od, kV, doc, pm, an, cdv, ct, osl, rfl, lk, hcd⟩ := F.ex
  exact .of_eq rfl
end K19
open PySem PySem.W PyProof.Rows in
theorem PySem.Challenge.cw_lookmade_k19_whole_who_meets_whom_oddly_holds : PySem.Challenge.rw_lookmade_k19_whole_who_meets_whom_oddly.Holds := by
  refine K19.hd ?_
  k_fill
  refine K19.walk_go (l := PySem.Challenge.rw_lookmade_k19_whole_who_meets_whom_oddly) (k := 9) (sp := K19.spLaw) (x := "_law_script") rfl (by decide) rfl ⟨by rfl, by decide, by decide⟩ (fun w h Y => PySem.W.kIn_of Y) ?F (fun K H a ns len seq => ⟨a, ns, rfl, seq, fun H' => rfl⟩)
  case F =>
    intro w mg fa h KX G at_
    refine K19.spLaw_go (w := w) ?W at_
    case W =>
      refine' ⟨⟨K19.mk_none KX G ?z_abs, K19.mk_none KX G ?z_all, K19.mk_none KX G ?z_bool, K19.mk_none KX G ?z_dict, K19.mk_none KX G ?z_int, K19.mk_none KX G ?z_isinstance, K19.mk_none KX G ?z_len, K19.mk_none KX G ?z_list, K19.mk_none KX G ?z_min, K19.mk_none KX G ?z_range, K19.mk_none KX G ?z_repr, K19.mk_none KX G ?z_set, K19.mk_none KX G ?z_sorted, K19.mk_none KX G ?z_tuple, K19.mk_int KX G ?z_TURNS ?e_TURNS, K19.mk_int KX G ?z_MOST_THINGS ?e_MOST_THINGS⟩,
        ⟨_, K19.mk_net KX G ?n_a ?n_i ?n_fn ?n_l ?n_c ?n_k ?n_pg ?n_hd ?n_po ?n_sa ?n_mk ?n_kc ?n_ha ?n_hn ?n_htk ?n_hm ?n_nT ?n_nS ?n_nG ?n_nK ?n_nL ?n_nU⟩,
        K19.mk_def KX G ?a8 ?l8 ?c8 ?k8,
        K19.mk_def KX G ?a9 ?l9 ?c9 ?k9,
        K19.mk_def KX G ?a10 ?l10 ?c10 ?k10,
        K19.mk_def KX G ?a11 ?l11 ?c11 ?k11,
        K19.mk_def KX G ?a12 ?l12 ?c12 ?k12,
        K19.mk_def KX G ?a13 ?l13 ?c13 ?k13,
        K19.mk_def KX G ?a24 ?l24 ?c24 ?k24,
        K19.mk_def KX G ?a25 ?l25 ?c25 ?k25,
        K19.mk_def KX G ?a26 ?l26 ?c26 ?k26,
        K19.mk_def KX G ?a27 ?l27 ?c27 ?k27,
        K19.mk_def KX G ?a28 ?l28 ?c28 ?k28,
        K19.mk_defD KX G ?a33 ?l33 ?c33 ?k33 ?t33 ?td33,
        K19.mk_def KX G ?a34 ?l34 ?c34 ?k34,
        K19.mk_def KX G ?a35 ?l35 ?c35 ?k35,
        K19.mk_def KX G ?a36 ?l36 ?c36 ?k36,
        K19.mk_def KX G ?a37 ?l37 ?c37 ?k37,
        K19.mk_def KX G ?a39 ?l39 ?c39 ?k39,
        K19.mk_def KX G ?a40 ?l40 ?c40 ?k40,
        K19.mk_def KX G ?a41 ?l41 ?c41 ?k41,
        K19.mk_def KX G ?a42 ?l42 ?c42 ?k42,
        K19.mk_def KX G ?a43 ?l43 ?c43 ?k43,
        K19.mk_def KX G ?a44 ?l44 ?c44 ?k44,
        K19.mk_def KX G ?a45 ?l45 ?c45 ?k45,
        K19.mk_def KX G ?a46 ?l46 ?c46 ?k46⟩
      (case z_abs => k_is)
      (case z_all => k_is)
      (case z_bool => k_is)
      (case z_dict => k_is)
      (case z_int => k_is)
      (case z_isinstance => k_is)
      (case z_len => k_is)
      (case z_list => k_is)
      (case z_min => k_is)
      (case z_range => k_is)
      (case z_repr => k_is)
      (case z_set => k_is)
      (case z_sorted => k_is)
      (case z_tuple => k_is)
      (case z_TURNS => k_is)
      (case e_TURNS => exact ⟨_, rfl⟩)
      (case z_MOST_THINGS => k_is)
      (case e_MOST_THINGS => exact ⟨_, rfl⟩)
      (case n_a => k_is)
      (case n_i => k_is)
      (case n_fn => k_is)
      (case n_l => k_is)
      (case n_c => k_is)
      (case n_k => k_is)
      (case n_pg => k_is)
      (case n_hd => k_is)
      (case n_po => k_is)
      (case n_sa => k_is)
      (case n_mk => k_is)
      (case n_kc => k_is)
      (case n_ha => k_is)
      (case n_hn => k_is)
      (case n_htk => k_is)
      (case n_hm => k_is)
      (case n_nT => k_is)
      (case n_nS => k_is)
      (case n_nG => k_is)
      (case n_nK => k_is)
      (case n_nL => k_is)
      (case n_nU => k_is)
      (case a8 => k_is)
      (case l8 => k_is)
      (case c8 => k_is)
      (case k8 => k_is)
      (case a9 => k_is)
      (case l9 => k_is)
      (case c9 => k_is)
      (case k9 => k_is)
      (case a10 => k_is)
      (case l10 => k_is)
      (case c10 => k_is)
      (case k10 => k_is)
      (case a11 => k_is)
      (case l11 => k_is)
      (case c11 => k_is)
      (case k11 => k_is)
      (case a12 => k_is)
      (case l12 => k_is)
      (case c12 => k_is)
      (case k12 => k_is)
      (case a13 => k_is)
      (case l13 => k_is)
      (case c13 => k_is)
      (case k13 => k_is)
      (case a24 => k_is)
      (case l24 => k_is)
      (case c24 => k_is)
      (case k24 => k_is)
      (case a25 => k_is)
      (case l25 => k_is)
      (case c25 => k_is)
      (case k25 => k_is)
      (case a26 => k_is)
      (case l26 => k_is)
      (case c26 => k_is)
      (case k26 => k_is)
      (case a27 => k_is)
      (case l27 => k_is)
      (case c27 => k_is)
      (case k27 => k_is)
      (case a28 => k_is)
      (case l28 => k_is)
      (case c28 => k_is)
      (case k28 => k_is)
      (case a33 => k_is)
      (case l33 => k_is)
      (case c33 => k_is)
      (case k33 => k_is)
      (case t33 => k_is)
      (case td33 => rfl)
      (case a34 => k_is)
      (case l34 => k_is)
      (case c34 => k_is)
      (case k34 => k_is)
      (case a35 => k_is)
      (case l35 => k_is)
      (case c35 => k_is)
      (case k35 => k_is)
      (case a36 => k_is)
      (case l36 => k_is)
      (case c36 => k_is)
      (case k36 => k_is)
      (case a37 => k_is)
      (case l37 => k_is)
      (case c37 => k_is)
      (case k37 => k_is)
      (case a39 => k_is)
      (case l39 => k_is)
      (case c39 => k_is)
      (case k39 => k_is)
      (case a40 => k_is)
      (case l40 => k_is)
      (case c40 => k_is)
      (case k40 => k_is)
      (case a41 => k_is)
      (case l41 => k_is)
      (case c41 => k_is)
      (case k41 => k_is)
      (case a42 => k_is)
      (case l42 => k_is)
      (case c42 => k_is)
      (case k42 => k_is)
      (case a43 => k_is)
      (case l43 => k_is)
      (case c43 => k_is)
      (case k43 => k_is)
      (case a44 => k_is)
      (case l44 => k_is)
      (case c44 => k_is)
      (case k44 => k_is)
      (case a45 => k_is)
      (case l45 => k_is)
      (case c45 => k_is)
      (case k45 => k_is)
      (case a46 => k_is)
      (case l46 => k_is)
      (case c46 => k_is)
      (case k46 => k_is)
