import PyProof.Rows.All
import Wide.All
import OpenK.AllK
import Wide.FinOn
import PyProof.EqAt
import PyProof.EqKinds
import PyProof.TupleCall
import Open.SpecLaws
import KE.OsGo
import HandS.ForMost
import HandS.ForSpec
import HandS.Zip
import HandS.ExcInit
import PySem.Challenge.RW_chordkeys_s01_answers
import HandS.ExcField
import HandS.CallRecv
set_option Elab.async false
set_option linter.all false
set_option maxRecDepth 100000
set_option maxHeartbeats 2000000
/-! chordkeys: the program answers just what the specification tells. The plain law first (lists and numbers alone), then the walk, a promise for each def, then the end. -/
namespace CK
open Cp09
/-! ### lists -/
theorem getD_lt {l : List Nat} {i : Nat} (h : i < l.length) : l.getD i 0 = l[i] := by
  rw [List.getD_eq_getElem?_getD, List.getElem?_eq_getElem h]; rfl
theorem getD_ge {l : List Nat} {i : Nat} (h : l.length ≤ i) : l.getD i 0 = 0 := by
  rw [List.getD_eq_getElem?_getD, List.getElem?_eq_none h]; rfl
theorem ext_getD {a b : List Nat} (h : a.length = b.length) (e : ∀ i, i < a.length → a.getD i 0 = b.getD i 0) : a = b := by
  refine List.ext_getElem h fun i h1 h2 => ?_
  rw [← getD_lt h1, ← getD_lt h2]; exact e i h1
theorem len_none : none_.length = 150 := by unfold none_ BOUND; rw [List.length_replicate]
theorem getD_none (i : Nat) : none_.getD i 0 = 0 := by
  unfold none_ BOUND
  rw [List.getD_eq_getElem?_getD, List.getElem?_replicate]
  split <;> rfl
theorem len_dearer {p : Nat} {w : Ways} (h : w.length = 150) : (dearer p w).length = 150 := by
  unfold dearer BOUND
  rw [List.length_take, List.length_append, List.length_replicate]; omega
theorem getD_dearer {p : Nat} {w : Ways} (i : Nat) (hi : i < 150) : (dearer p w).getD i 0 = if i < p then 0 else w.getD (i - p) 0 := by
  unfold dearer BOUND
  rw [List.getD_eq_getElem?_getD, List.getElem?_take, if_pos hi]
  by_cases h : i < p
  · rw [if_pos h, List.getElem?_append_left (by rw [List.length_replicate]; exact h), List.getElem?_replicate, if_pos h]; rfl
  · rw [if_neg h, List.getElem?_append_right (by rw [List.length_replicate]; omega), List.length_replicate, List.getD_eq_getElem?_getD]
theorem len_added {a b : Ways} (h : a.length = 150) (h' : b.length = 150) : (added a b).length = 150 := by
  unfold added
  rw [List.length_map, List.length_zip, h, h']; rfl
theorem getD_added {a b : Ways} (h : a.length = 150) (h' : b.length = 150) (i : Nat) : (added a b).getD i 0 = a.getD i 0 + b.getD i 0 := by
  by_cases hi : i < 150
  · have hl : i < (added a b).length := by rw [len_added h h']; exact hi
    rw [getD_lt hl, getD_lt (show i < a.length by omega), getD_lt (show i < b.length by omega)]
    simp [added]
  · rw [getD_ge (by rw [len_added h h']; omega), getD_ge (by omega), getD_ge (by omega)]
theorem len_fold {α : Type} {f : α → Ways} (hf : ∀ x, (f x).length = 150) : ∀ (l : List α) (m : Ways), m.length = 150 → (l.foldl (fun m x => added m (f x)) m).length = 150
  | [], _, h => h
  | x :: r, m, h => len_fold hf r _ (len_added h (hf x))
theorem getD_fold {α : Type} {f : α → Ways} (hf : ∀ x, (f x).length = 150) (i : Nat) : ∀ (l : List α) (m : Ways), m.length = 150 → (l.foldl (fun m x => added m (f x)) m).getD i 0 = m.getD i 0 + (l.map fun x => (f x).getD i 0).sum
  | [], _, _ => by simp
  | x :: r, m, h => by
    rw [List.foldl_cons, getD_fold hf i r _ (len_added h (hf x)), getD_added h (hf x), List.map_cons, List.sum_cons]; omega
theorem dearer_zero {w : Ways} (h : w.length = 150) : dearer 0 w = w := by
  unfold dearer BOUND
  rw [List.replicate_zero, List.nil_append, ← h, List.take_length]
theorem sum_filter {α : Type} (p : α → Bool) (g : α → Nat) : ∀ (l : List α), (∀ x ∈ l, p x = false → g x = 0) → ((l.filter p).map g).sum = (l.map g).sum
  | [], _ => rfl
  | x :: r, h => by
    have ih := sum_filter p g r fun y hy => h y (List.mem_cons_of_mem _ hy)
    cases e : p x with
    | true => rw [List.filter_cons_of_pos e, List.map_cons, List.map_cons, List.sum_cons, List.sum_cons, ih]
    | false => rw [List.filter_cons_of_neg (by simp [e]), List.map_cons, List.sum_cons, ih, h x List.mem_cons_self e]; omega
/-! ### keys -/
theorem mem_keys {k : Key} (h : k ∈ keys) : k.tonic < 12 ∧ k.mode < 2 := by
  have e : keys.all (fun k => decide (k.tonic < 12 ∧ k.mode < 2)) = true := by decide +kernel
  exact of_decide_eq_true (List.all_eq_true.mp e k h)
theorem keys_mem {k : Key} (h : k.tonic < 12) (h' : k.mode < 2) : k ∈ keys := by
  obtain ⟨t, m⟩ := k
  have e : ∀ m < 2, ∀ t < 12, (⟨t, m⟩ : Key) ∈ keys := by decide +kernel
  exact e m h' t h
/-! ### the counts of a chord and all behind it, in a key -/
/-- the end's price: the last two chords and their keys -/
def endP (q : Table) (c d : Chord) (k x : Key) : Nat := if k = x ∧ cadence x c d = true then 0 else q.open_
def stepP (q : Table) (c d : Chord) (last : Bool) (k x : Key) : Nat := going q k x + if last = true then endP q c d k x else 0
def one (p : Nat) : Ways := (List.range 150).map fun h => if h = p then 1 else 0
def W (q : Table) : List Chord → Key → Ways
  | [], _ => none_
  | [c], k => if own q k c < 100 then one (own q k c) else none_
  | c :: d :: r, k => if own q k c < 100 then dearer (own q k c) (keys.foldl (fun m x => added m (dearer (stepP q c d r.isEmpty k x) (W q (d :: r) x))) none_) else none_
theorem len_one (p : Nat) : (one p).length = 150 := by unfold one; rw [List.length_map, List.length_range]
theorem getD_one (p i : Nat) (hi : i < 150) : (one p).getD i 0 = if i = p then 1 else 0 := by
  rw [getD_lt (by rw [len_one]; exact hi)]
  unfold one
  rw [List.getElem_map, List.getElem_range]
theorem len_nothing : nothing.length = 150 := by unfold nothing BOUND; rw [List.length_cons, List.length_replicate]
theorem getD_nothing (i : Nat) : nothing.getD i 0 = if i = 0 then 1 else 0 := by
  unfold nothing BOUND
  cases i with
  | zero => rfl
  | succ i =>
    rw [List.getD_cons_succ, List.getD_eq_getElem?_getD, List.getElem?_replicate, if_neg (Nat.succ_ne_zero i)]
    split <;> rfl
theorem one_eq (p : Nat) : one p = dearer p nothing := by
  refine ext_getD (by rw [len_one, len_dearer len_nothing]) fun i hi => ?_
  rw [len_one] at hi
  rw [getD_one p i hi, getD_dearer i hi, getD_nothing]
  by_cases h : i < p
  · rw [if_pos h, if_neg (by omega)]
  · rw [if_neg h]
    by_cases h2 : i = p
    · rw [if_pos h2, if_pos (by omega)]
    · rw [if_neg h2, if_neg (by omega)]
theorem len_W (q : Table) : ∀ (l : List Chord) (k : Key), (W q l k).length = 150
  | [], _ => len_none
  | [c], k => by
    unfold W
    split
    · exact len_one _
    · exact len_none
  | c :: d :: r, k => by
    unfold W
    split
    · exact len_dearer (len_fold (fun x => len_dearer (len_W q (d :: r) x)) _ _ len_none)
    · exact len_none
theorem W_not {q : Table} {c : Chord} {r : List Chord} {k : Key} (h : ¬ own q k c < 100) : W q (c :: r) k = none_ := by
  cases r with
  | nil => unfold W; rw [if_neg h]
  | cons d r => unfold W; rw [if_neg h]
def okK (q : Table) (c : Chord) (k : Key) : Bool := decide (own q k c < NO)
/-- a fold over the keys that can be is one over all -/
theorem fold_ok {q : Table} {c : Chord} {f : Key → Ways} (hf : ∀ x, (f x).length = 150) (h0 : ∀ x, ¬ own q x c < 100 → f x = none_) :
    (keys.filter (okK q c)).foldl (fun m x => added m (f x)) none_ = keys.foldl (fun m x => added m (f x)) none_ := by
  refine ext_getD (by rw [len_fold hf _ _ len_none, len_fold hf _ _ len_none]) fun i _ => ?_
  rw [getD_fold hf i _ _ len_none, getD_fold hf i _ _ len_none, sum_filter]
  intro x _ hx
  rw [h0 x (of_decide_eq_false hx), getD_none]
theorem dearer_none (p : Nat) : dearer p none_ = none_ := by
  refine ext_getD (by rw [len_dearer len_none, len_none]) fun i hi => ?_
  rw [len_dearer len_none] at hi
  rw [getD_dearer i hi, getD_none, getD_none]; split <;> rfl
/-- the specification's rows -/
theorem rows_head (q : Table) : ∀ (c : Chord) (r : List Chord), rows q (c :: r) = ((keys.filter (okK q c)).map fun k => (k, W q (c :: r) k)) :: rows q r
  | c, [] => by
    rw [rows, rows]
    refine congrArg (fun z => [z]) ?_
    refine List.map_congr_left fun k hk => ?_
    have h : own q k c < 100 := of_decide_eq_true (List.mem_filter.mp hk).2
    rw [← one_eq]
    rw [W, if_pos h]
  | c, d :: r => by
    have ih := rows_head q d r
    rw [rows]
    refine congrArg (fun z => z :: rows q (d :: r)) ?_
    refine List.map_congr_left fun k hk => ?_
    have h : own q k c < 100 := of_decide_eq_true (List.mem_filter.mp hk).2
    refine congrArg (fun z => (k, z)) ?_
    rw [W, if_pos h]
    refine congrArg (dearer (own q k c)) ?_
    rw [ih, List.headD_cons, List.foldl_map]
    refine Eq.trans ?_ (fold_ok (q := q) (c := d) (f := fun x => dearer (stepP q c d r.isEmpty k x) (W q (d :: r) x)) (fun x => len_dearer (len_W q _ x)) (fun x hx => ?_))
    · refine congrArg (fun f => List.foldl f none_ (keys.filter (okK q d))) ?_
      funext m x
      refine congrArg (fun p => added m (dearer p (W q (d :: r) x))) ?_
      unfold stepP endP
      refine congrArg (fun z => going q k x + z) ?_
      cases hr : r.isEmpty with
      | false => simp
      | true =>
        by_cases hk : k = x
        · subst hk; by_cases hc : cadence k c d = true <;> simp [hc]
        · simp [hk]
    · rw [W_not hx, dearer_none]
/-- the counts of all readings -/
def firstP (q : Table) (l : List Chord) : Nat := if l.length = 1 then q.open_ else 0
def total (q : Table) (l : List Chord) : Ways := dearer (firstP q l) (keys.foldl (fun m x => added m (W q l x)) none_)
theorem dearer_fold {p : Nat} {f : Key → Ways} (hf : ∀ x, (f x).length = 150) (l : List Key) : l.foldl (fun m x => added m (dearer p (f x))) none_ = dearer p (l.foldl (fun m x => added m (f x)) none_) := by
  have hd : ∀ x, (dearer p (f x)).length = 150 := fun x => len_dearer (hf x)
  refine ext_getD (by rw [len_fold hd _ _ len_none, len_dearer (len_fold hf _ _ len_none)]) fun i hi => ?_
  rw [len_fold hd _ _ len_none] at hi
  rw [getD_fold hd i _ _ len_none, getD_dearer i hi, getD_none, Nat.zero_add]
  by_cases h : i < p
  · rw [if_pos h]
    have e : (l.map fun x => (dearer p (f x)).getD i 0) = l.map fun _ => 0 := List.map_congr_left fun x _ => by rw [getD_dearer i hi, if_pos h]
    rw [e]
    clear e
    induction l with
    | nil => rfl
    | cons a l ih => rw [List.map_cons, List.sum_cons, ih]
  · rw [if_neg h, getD_fold hf _ _ _ len_none, getD_none, Nat.zero_add]
    congr 1
    exact List.map_congr_left fun x _ => by rw [getD_dearer i hi, if_neg h]
theorem counts_eq (q : Table) (c : Chord) (r : List Chord) : counts q (c :: r) = total q (c :: r) := by
  have hW : ∀ x, (W q (c :: r) x).length = 150 := len_W q _
  have z : ∀ x, ¬ own q x c < 100 → W q (c :: r) x = none_ := fun x h => W_not h
  unfold total firstP counts
  rw [rows_head]
  cases r with
  | nil =>
    show List.foldl _ _ _ = _
    rw [List.foldl_map, if_pos (show [c].length = 1 from rfl), ← dearer_fold hW]
    exact fold_ok (f := fun x => dearer q.open_ (W q [c] x)) (fun x => len_dearer (hW x)) fun x h => by rw [z x h, dearer_none]
  | cons d r =>
    show List.foldl _ _ _ = _
    rw [List.foldl_map, if_neg (by rw [List.length_cons, List.length_cons]; omega), dearer_zero (len_fold hW _ _ len_none)]
    exact fold_ok hW z
theorem len_total (q : Table) (l : List Chord) : (total q l).length = 150 := len_dearer (len_fold (len_W q l) _ _ len_none)
end CK
namespace CK
open Cp09
/-! ### the reading of a number -/
/-- what is paid ahead of a chord c in a key k, the one ahead (y, d) -/
def spent (q : Table) (b : Option (Key × Chord)) (c : Chord) (cs : List Chord) (k : Key) : Nat := match b with
  | none => if cs.isEmpty = true then q.open_ else 0
  | some (y, d) => own q y d + stepP q d c cs.isEmpty y k
def many (q : Table) (b : Option (Key × Chord)) (c : Chord) (cs : List Chord) (p : Nat) (k : Key) : Nat :=
  if p < spent q b c cs k then 0 else (W q (c :: cs) k).getD (p - spent q b c cs k) 0
/-- the loop over the keys: passed so far -/
def nextKey (f : Key → Nat) (n : Nat) : List Key → Nat → Option (Key × Nat)
  | [], _ => none
  | k :: r, passed => if n < passed + f k then some (k, passed) else nextKey f n r (passed + f k)
def reading (q : Table) : List Chord → Option (Key × Chord) → Nat → Nat → List Key
  | [], _, _, _ => []
  | c :: cs, b, p, n => match nextKey (many q b c cs p) n keys 0 with
    | none => []
    | some (k, passed) => k :: reading q cs (some (k, c)) (p - spent q b c cs k) (n - passed)
theorem nextKey_some {f : Key → Nat} {n : Nat} : ∀ {l : List Key} {s : Nat} {k : Key} {t : Nat}, s ≤ n → nextKey f n l s = some (k, t) → k ∈ l ∧ t ≤ n ∧ n < t + f k
  | [], _, _, _, _, h => by cases h
  | a :: r, s, k, t, hs, h => by
    unfold nextKey at h
    by_cases c : n < s + f a
    · rw [if_pos c] at h
      cases h
      exact ⟨List.mem_cons_self, hs, c⟩
    · rw [if_neg c] at h
      obtain ⟨h1, h2⟩ := nextKey_some (by omega) h
      exact ⟨List.mem_cons_of_mem _ h1, h2⟩
theorem nextKey_is {f : Key → Nat} {n : Nat} : ∀ {l : List Key} {s : Nat}, n < s + (l.map f).sum → s ≤ n → ∃ k t, nextKey f n l s = some (k, t)
  | [], s, h, hs => by simp at h; omega
  | a :: r, s, h, hs => by
    unfold nextKey
    by_cases c : n < s + f a
    · rw [if_pos c]; exact ⟨a, s, rfl⟩
    · rw [if_neg c]
      rw [List.map_cons, List.sum_cons] at h
      exact nextKey_is (by omega) (by omega)
/-- the specification picks the same -/
theorem pick_is {g : Key → Option (Nat × (Key × Nat))} {f : Key → Nat} {e : Key → Nat} {n : Nat} : ∀ {l : List Key} {s : Nat}, s ≤ n → (∀ k ∈ l, (g k = none ∧ f k = 0) ∨ g k = some (f k, (k, e k))) →
    pick (l.filterMap g) (n - s) = (nextKey f n l s).map fun x => ((x.1, e x.1), n - x.2)
  | [], _, _, _ => rfl
  | a :: r, s, hs, h => by
    have hr := fun k hk => h k (List.mem_cons_of_mem _ hk)
    rcases h a List.mem_cons_self with ⟨h1, h2⟩ | h1
    · rw [List.filterMap_cons_none h1]
      unfold nextKey
      rw [if_neg (by omega), h2]
      exact pick_is hs hr
    · rw [List.filterMap_cons_some h1]
      unfold nextKey pick
      by_cases c : n < s + f a
      · rw [if_pos c, if_pos (by show n - s < f a; omega)]; rfl
      · rw [if_neg c, if_neg (by show ¬ n - s < f a; omega)]
        show pick (r.filterMap g) (n - s - f a) = _
        rw [Nat.sub_sub]
        exact pick_is (by omega) hr
theorem filterMap_filter' {α β : Type} (p : α → Bool) (g : α → Option β) (l : List α) : (l.filter p).filterMap g = l.filterMap fun x => if p x = true then g x else none := by
  induction l with
  | nil => rfl
  | cons a r ih =>
    cases e : p a with
    | true => rw [List.filter_cons_of_pos e, List.filterMap_cons, List.filterMap_cons, ih]; simp [e]
    | false => rw [List.filter_cons_of_neg (by simp [e]), List.filterMap_cons, ih]; simp [e]
/-- the specification's price ahead: without the own price of the one ahead -/
def ahead (q : Table) (b : Option (Key × Chord)) (c : Chord) (cs : List Chord) (k : Key) : Nat := match b with
  | none => if cs.isEmpty = true then q.open_ else 0
  | some (y, d) => stepP q d c cs.isEmpty y k
def ownB (q : Table) (b : Option (Key × Chord)) : Nat := match b with
  | none => 0
  | some (y, d) => own q y d
theorem spent_is (q : Table) (b : Option (Key × Chord)) (c : Chord) (cs : List Chord) (k : Key) : spent q b c cs k = ownB q b + ahead q b c cs k := by
  cases b with
  | none => unfold spent ownB ahead; simp
  | some x => rfl
theorem step_spec (q : Table) (d c : Chord) (last : Bool) (a k : Key) : (going q a k + if last = true ∧ ¬(a = k ∧ cadence a d c = true) then q.open_ else 0) = stepP q d c last a k := by
  unfold stepP endP
  refine congrArg (fun z => going q a k + z) ?_
  cases last with
  | false => simp
  | true =>
    by_cases hk : a = k
    · subst hk; by_cases hc : cadence a d c = true <;> simp [hc]
    · simp [hk]
theorem nthFrom_cons (q : Table) (c : Chord) (cs : List Chord) (r : Row) (rs : List Row) (b : Option (Key × Chord)) (p n : Nat) : nthFrom q (c :: cs) (r :: rs) b p n =
    match pick (r.filterMap fun x => if p < ahead q b c cs x.1 then none else some (x.2.getD (p - ahead q b c cs x.1) 0, (x.1, p - ahead q b c cs x.1))) n with
    | none => []
    | some x => x.1.1 :: nthFrom q cs rs (some (x.1.1, c)) (x.1.2 - own q x.1.1 c) x.2 := by
  rw [nthFrom]
  cases b with
  | none => rfl
  | some y =>
    simp only [step_spec]
    rfl
/-- where there is such a reading: the ways from here on are more than its number -/
def Enough (q : Table) : List Chord → Option (Key × Chord) → Nat → Nat → Prop
  | [], _, _, _ => True
  | c :: cs, b, p, n => n < (keys.map (many q b c cs p)).sum
theorem enough_next {q : Table} {c : Chord} {cs : List Chord} {b : Option (Key × Chord)} {p n : Nat} {k : Key} {t : Nat} (hp : p < 150) (ht : t ≤ n) (h : n < t + many q b c cs p k) :
    own q k c < 100 ∧ spent q b c cs k ≤ p ∧ own q k c ≤ p - spent q b c cs k ∧ Enough q cs (some (k, c)) (p - spent q b c cs k) (n - t) := by
  unfold many at h
  by_cases h1 : p < spent q b c cs k
  · rw [if_pos h1] at h; omega
  · rw [if_neg h1] at h
    by_cases h2 : own q k c < 100
    · cases cs with
      | nil =>
        rw [W, if_pos h2, getD_one _ _ (by omega)] at h
        refine ⟨h2, by omega, ?_, trivial⟩
        split at h <;> omega
      | cons d r =>
        rw [W, if_pos h2, getD_dearer _ (by omega)] at h
        by_cases h3 : p - spent q b c (d :: r) k < own q k c
        · rw [if_pos h3] at h; omega
        · rw [if_neg h3, getD_fold (fun x => len_dearer (len_W q _ x)) _ _ _ len_none, getD_none, Nat.zero_add] at h
          refine ⟨h2, by omega, by omega, ?_⟩
          show n - t < _
          have e : (keys.map fun x => (dearer (stepP q c d r.isEmpty k x) (W q (d :: r) x)).getD (p - spent q b c (d :: r) k - own q k c) 0) = keys.map (many q (some (k, c)) d r (p - spent q b c (d :: r) k)) := by
            refine List.map_congr_left fun x _ => ?_
            rw [getD_dearer _ (by omega)]
            unfold many
            show _ = if _ < own q k c + stepP q c d r.isEmpty k x then 0 else (W q (d :: r) x).getD (_ - (own q k c + stepP q c d r.isEmpty k x)) 0
            by_cases h4 : p - spent q b c (d :: r) k - own q k c < stepP q c d r.isEmpty k x
            · rw [if_pos h4, if_pos (by omega)]
            · rw [if_neg h4, if_neg (by omega), Nat.sub_sub]
          rw [← e]; omega
    · rw [W_not h2, getD_none] at h; omega
theorem reading_spec (q : Table) : ∀ (cs : List Chord) (b : Option (Key × Chord)) (p n : Nat), p < 150 → ownB q b ≤ p → Enough q cs b p n →
    nthFrom q cs (rows q cs) b (p - ownB q b) n = reading q cs b p n
  | [], _, _, _, _, _, _ => by rw [nthFrom]; · rfl
                               · intro _ _ _ _ h; cases h
  | c :: cs, b, p, n, hp, ho, he => by
    rw [rows_head, nthFrom_cons, reading]
    have hg : ∀ k ∈ keys, ((fun k => if okK q c k = true then (if p - ownB q b < ahead q b c cs k then none else some ((W q (c :: cs) k).getD (p - ownB q b - ahead q b c cs k) 0, (k, p - ownB q b - ahead q b c cs k))) else none) k = none ∧ many q b c cs p k = 0) ∨
        (fun k => if okK q c k = true then (if p - ownB q b < ahead q b c cs k then none else some ((W q (c :: cs) k).getD (p - ownB q b - ahead q b c cs k) 0, (k, p - ownB q b - ahead q b c cs k))) else none) k = some (many q b c cs p k, (k, p - spent q b c cs k)) := by
      intro k _
      have hs := spent_is q b c cs k
      unfold many
      by_cases h1 : okK q c k = true
      · simp only [if_pos h1]
        by_cases h2 : p - ownB q b < ahead q b c cs k
        · left; rw [if_pos h2, if_pos (by omega)]; first | exact ⟨trivial, trivial⟩ | exact ⟨rfl, trivial⟩ | exact ⟨trivial, rfl⟩ | exact ⟨rfl, rfl⟩
        · right; rw [if_neg h2, if_neg (by omega), Nat.sub_sub, ← hs]
      · left
        simp only [if_neg h1]
        first | refine ⟨rfl, ?_⟩ | refine ⟨trivial, ?_⟩
        have h2 : ¬ own q k c < 100 := by
          intro z; exact h1 (decide_eq_true z)
        rw [W_not h2, getD_none]; split <;> rfl
    have P := pick_is (n := n) (Nat.zero_le n) hg
    rw [List.filterMap_map, filterMap_filter']
    rw [Nat.sub_zero] at P
    have P' : pick (keys.filterMap fun x => if okK q c x = true then ((fun x : Key × Ways => if p - ownB q b < ahead q b c cs x.1 then none else some (x.2.getD (p - ownB q b - ahead q b c cs x.1) 0, (x.1, p - ownB q b - ahead q b c cs x.1))) ∘ fun k => (k, W q (c :: cs) k)) x else none) n = _ := P
    obtain ⟨k, t, hk⟩ := nextKey_is (f := many q b c cs p) (n := n) (l := keys) (s := 0) (by rw [Nat.zero_add]; exact he) (Nat.zero_le _)
    rw [hk] at P'
    rw [P', hk]
    obtain ⟨_, ht, hlt⟩ := nextKey_some (Nat.zero_le _) hk
    obtain ⟨h1, h2, h3, h4⟩ := enough_next hp ht hlt
    show k :: _ = k :: _
    refine congrArg (fun z => k :: z) ?_
    exact reading_spec q cs (some (k, c)) (p - spent q b c cs k) (n - t) (by omega) h3 h4
/-- the loop over the counts: what is left -/
def nthAt : List Nat → Nat → Nat → Option (Nat × Nat)
  | [], _, _ => none
  | m :: r, i, left => if left < m then some (i, left) else nthAt r (i + 1) (left - m)
theorem pick_nthAt : ∀ (l : List Nat) (i n : Nat), pick (l.zipIdx i) n = nthAt l i n
  | [], _, _ => rfl
  | m :: r, i, n => by
    rw [List.zipIdx_cons]
    unfold pick nthAt
    by_cases h : n < m
    · rw [if_pos h, if_pos h]
    · rw [if_neg h, if_neg h]; exact pick_nthAt r (i + 1) (n - m)
theorem nthAt_some : ∀ {l : List Nat} {i n j m : Nat}, nthAt l i n = some (j, m) → ∃ d, j = i + d ∧ d < l.length ∧ m < l.getD d 0
  | [], _, _, _, _, h => by cases h
  | a :: r, i, n, j, m, h => by
    unfold nthAt at h
    by_cases c : n < a
    · rw [if_pos c] at h; cases h
      exact ⟨0, rfl, by rw [List.length_cons]; omega, c⟩
    · rw [if_neg c] at h
      obtain ⟨d, e, hl, hm⟩ := nthAt_some h
      exact ⟨d + 1, by omega, by rw [List.length_cons]; omega, by rw [List.getD_cons_succ]; exact hm⟩
theorem enough_first {q : Table} {c : Chord} {cs : List Chord} {p m : Nat} (hp : p < 150) (h : m < (total q (c :: cs)).getD p 0) : Enough q (c :: cs) none p m := by
  unfold total firstP at h
  rw [getD_dearer p hp] at h
  show m < (keys.map (many q none c cs p)).sum
  have hs : ∀ k, spent q none c cs k = if (c :: cs).length = 1 then q.open_ else 0 := fun k => by
    unfold spent
    cases cs with
    | nil => rfl
    | cons d r => simp
  by_cases h1 : p < if (c :: cs).length = 1 then q.open_ else 0
  · rw [if_pos h1] at h; omega
  · rw [if_neg h1, getD_fold (len_W q _) _ _ _ len_none, getD_none, Nat.zero_add] at h
    have e : keys.map (many q none c cs p) = keys.map fun x => (W q (c :: cs) x).getD (p - if (c :: cs).length = 1 then q.open_ else 0) 0 := by
      refine List.map_congr_left fun x _ => ?_
      unfold many
      rw [hs, if_neg h1]
    rw [e]; exact h
theorem nth_eq (q : Table) (c : Chord) (cs : List Chord) (n : Nat) : nth q (c :: cs) n = (nthAt (total q (c :: cs)) 0 n).map fun x => (x.1, reading q (c :: cs) none x.1 x.2) := by
  unfold nth
  rw [counts_eq, pick_nthAt]
  cases h : nthAt (total q (c :: cs)) 0 n with
  | none => rfl
  | some x =>
    obtain ⟨j, m⟩ := x
    obtain ⟨d, e, hl, hm⟩ := nthAt_some h
    rw [len_total] at hl
    have hj : j < 150 := by omega
    have e' : j = d := by omega
    subst e'
    show some (j, _) = some (j, _)
    exact congrArg (fun z => some (j, z)) (reading_spec q (c :: cs) none j m hj (Nat.zero_le _) (enough_first hj hm))
end CK
namespace CK
open Cp09
/-! ### what is read: chords, keys -/
theorem isIn_iff {a b z : Int} : isIn a b z = true ↔ a ≤ z ∧ z ≤ b := by
  unfold isIn
  rw [Bool.and_eq_true, decide_eq_true_iff, decide_eq_true_iff]
/-- two by two; none, where one is left over -/
def pairs : List Int → Option (List (Int × Int))
  | [] => some []
  | a :: b :: r => (pairs r).map fun l => (a, b) :: l
  | _ => none
theorem pairs_even : ∀ (l : List Int), l.length % 2 = 0 → ∃ ps, pairs l = some ps ∧ ps.length = l.length / 2 ∧ ∀ i p, ps[i]? = some p → l[2 * i]? = some p.1 ∧ l[2 * i + 1]? = some p.2
  | [], _ => ⟨[], rfl, rfl, fun i p h => by simp at h⟩
  | [a], h => by simp at h
  | a :: b :: r, h => by
    have h' : r.length % 2 = 0 := by simp only [List.length_cons] at h; omega
    obtain ⟨ps, e, hl, hi⟩ := pairs_even r h'
    refine ⟨(a, b) :: ps, by unfold pairs; rw [e]; rfl, by simp only [List.length_cons]; omega, fun i p hp => ?_⟩
    cases i with
    | zero =>
      have e2 : (a, b) = p := by simpa using hp
      subst e2
      exact ⟨rfl, rfl⟩
    | succ i =>
      rw [List.getElem?_cons_succ] at hp
      obtain ⟨h1, h2⟩ := hi i p hp
      exact ⟨h1, h2⟩
theorem pairs_odd : ∀ (l : List Int), l.length % 2 = 1 → pairs l = none
  | [], h => by simp at h
  | [a], _ => rfl
  | a :: b :: r, h => by
    have h' : r.length % 2 = 1 := by simp only [List.length_cons] at h; omega
    unfold pairs
    rw [pairs_odd r h']; rfl
def okC (p : Int × Int) : Bool := isIn 0 11 p.1 && isIn 0 3 p.2
def okY (p : Int × Int) : Bool := isIn 0 11 p.1 && isIn 0 1 p.2
def toC (p : Int × Int) : Chord := ⟨p.1.toNat, p.2.toNat⟩
def toY (p : Int × Int) : Key := ⟨p.1.toNat, p.2.toNat⟩
theorem chordsOf_odd : ∀ (l : List Int), l.length % 2 = 1 → chordsOf l = none
  | [], h => by simp at h
  | [a], _ => rfl
  | a :: b :: r, h => by
    have h' : r.length % 2 = 1 := by simp only [List.length_cons] at h; omega
    unfold chordsOf
    rw [chordsOf_odd r h']
    split <;> rfl
theorem chordsOf_pairs : ∀ (l : List Int) (ps : List (Int × Int)), pairs l = some ps → chordsOf l = if ps.all okC = true then some (ps.map toC) else none
  | [], ps, h => by cases h; rfl
  | [a], ps, h => by cases h
  | a :: b :: r, ps, h => by
    unfold pairs at h
    cases e : pairs r with
    | none => rw [e] at h; cases h
    | some qs =>
      rw [e] at h
      cases h
      unfold chordsOf
      rw [chordsOf_pairs r qs e, List.all_cons]
      by_cases c : okC (a, b) = true
      · have c' : (isIn 0 11 a && isIn 0 3 b) = true := c
        rw [if_pos c', c, Bool.true_and]
        by_cases d : qs.all okC = true
        · rw [if_pos d, if_pos d]; rfl
        · rw [if_neg d, if_neg d]; rfl
      · have c' : ¬ (isIn 0 11 a && isIn 0 3 b) = true := c
        rw [if_neg c', Bool.eq_false_iff.mpr c, Bool.false_and, if_neg Bool.false_ne_true]
theorem keysOf_odd : ∀ (l : List Int), l.length % 2 = 1 → keysOf l = none
  | [], h => by simp at h
  | [a], _ => rfl
  | a :: b :: r, h => by
    have h' : r.length % 2 = 1 := by simp only [List.length_cons] at h; omega
    unfold keysOf
    rw [keysOf_odd r h']
    split <;> rfl
theorem keysOf_pairs : ∀ (l : List Int) (ps : List (Int × Int)), pairs l = some ps → keysOf l = if ps.all okY = true then some (ps.map toY) else none
  | [], ps, h => by cases h; rfl
  | [a], ps, h => by cases h
  | a :: b :: r, ps, h => by
    unfold pairs at h
    cases e : pairs r with
    | none => rw [e] at h; cases h
    | some qs =>
      rw [e] at h
      cases h
      unfold keysOf
      rw [keysOf_pairs r qs e, List.all_cons]
      by_cases c : okY (a, b) = true
      · have c' : (isIn 0 11 a && isIn 0 1 b) = true := c
        rw [if_pos c', c, Bool.true_and]
        by_cases d : qs.all okY = true
        · rw [if_pos d, if_pos d]; rfl
        · rw [if_neg d, if_neg d]; rfl
      · have c' : ¬ (isIn 0 11 a && isIn 0 1 b) = true := c
        rw [if_neg c', Bool.eq_false_iff.mpr c, Bool.false_and, if_neg Bool.false_ne_true]
def ChordOk (c : Chord) : Prop := c.root < 12 ∧ c.kind < 4
def KeyOk (k : Key) : Prop := k.tonic < 12 ∧ k.mode < 2
theorem toC_ok {p : Int × Int} (h : okC p = true) : ChordOk (toC p) ∧ ((toC p).root : Int) = p.1 ∧ ((toC p).kind : Int) = p.2 := by
  unfold okC at h
  rw [Bool.and_eq_true, isIn_iff, isIn_iff] at h
  unfold toC ChordOk
  dsimp only
  omega
theorem toY_ok {p : Int × Int} (h : okY p = true) : KeyOk (toY p) ∧ ((toY p).tonic : Int) = p.1 ∧ ((toY p).mode : Int) = p.2 := by
  unfold okY at h
  rw [Bool.and_eq_true, isIn_iff, isIn_iff] at h
  unfold toY KeyOk
  dsimp only
  omega
/-! ### degree, distance -/
theorem degree_int {k : Key} {c : Chord} (hc : ChordOk c) (hk : KeyOk k) : ((c.root : Int) - k.tonic) % 12 = (degree k c : Int) := by
  obtain ⟨h1, _⟩ := hc
  obtain ⟨h2, _⟩ := hk
  unfold degree
  omega
theorem degree_lt (k : Key) (c : Chord) : degree k c < 12 := by unfold degree; omega
theorem far_int {a b : Nat} (ha : a < 12) (hb : b < 12) : (if 12 - (7 * ((b : Int) - a)) % 12 < (7 * ((b : Int) - a)) % 12 then 12 - (7 * ((b : Int) - a)) % 12 else (7 * ((b : Int) - a)) % 12) = (far a b : Int) := by
  have h : ∀ a : Nat, a < 12 → ∀ b : Nat, b < 12 → (if 12 - (7 * ((b : Int) - a)) % 12 < (7 * ((b : Int) - a)) % 12 then 12 - (7 * ((b : Int) - a)) % 12 else (7 * ((b : Int) - a)) % 12) = (far a b : Int) := by decide +kernel
  exact h a ha b hb
theorem far_le (a b : Nat) : far a b ≤ 12 := by unfold far; dsimp only; omega
/-! ### what a reading costs -/
def sumOwn (q : Table) (cs : List Chord) (ks : List Key) : Nat := ((cs.zip ks).map fun x => own q x.2 x.1).sum
def sumGo (q : Table) (ks : List Key) : Nat := ((ks.zip (ks.drop 1)).map fun x => going q x.1 x.2).sum
/-- the end's price, by the last two chords and keys (or fewer) -/
def endOf (q : Table) (cs : List Chord) (ks : List Key) : Nat := match cs, ks with
  | [c, d], [k, x] => endP q c d k x
  | _, _ => q.open_
def lastTwo {α : Type} (l : List α) : List α := l.drop (l.length - 2)
theorem lastTwo_cons {α : Type} (a b c : α) (l : List α) : lastTwo (a :: b :: c :: l) = lastTwo (b :: c :: l) := by
  unfold lastTwo
  have e : (a :: b :: c :: l).length - 2 = (b :: c :: l).length - 2 + 1 := by simp only [List.length_cons]; omega
  rw [e, List.drop_succ_cons]
def canBe (q : Table) (cs : List Chord) (ks : List Key) : Bool := (cs.zip ks).all fun x => decide (own q x.2 x.1 < 100)
theorem cost_eq (q : Table) : ∀ (cs : List Chord) (ks : List Key), cs ≠ [] → ks.length = cs.length →
    cost q cs ks = if canBe q cs ks = true then some (sumOwn q cs ks + sumGo q ks + endOf q (lastTwo cs) (lastTwo ks)) else none
  | [], _, h, _ => absurd rfl h
  | [c], ks, _, hl => by
    match ks, hl with
    | [k], _ =>
      rw [cost]
      by_cases h : own q k c < 100
      · rw [if_pos (show own q k c < NO from h), if_pos (show canBe q [c] [k] = true by simp [canBe, h])]
        simp [sumOwn, sumGo, lastTwo, endOf]
      · rw [if_neg (show ¬ own q k c < NO from h), if_neg (show ¬ canBe q [c] [k] = true from fun z => h (by simpa [canBe] using z))]
  | [c, d], ks, _, hl => by
    match ks, hl with
    | [k, x], _ =>
      rw [cost]
      by_cases h : own q k c < 100 ∧ own q x d < 100
      · rw [if_pos (show own q k c < NO ∧ own q x d < NO from h), if_pos (show canBe q [c, d] [k, x] = true by simp [canBe, h.1, h.2])]
        have e : endOf q (lastTwo [c, d]) (lastTwo [k, x]) = if k = x ∧ cadence k c d = true then 0 else q.open_ := by
          show endP q c d k x = _
          unfold endP
          by_cases hk : k = x
          · subst hk; rfl
          · rw [if_neg (fun z => hk z.1), if_neg (fun z => hk z.1)]
        rw [e]
        have e1 : sumOwn q [c, d] [k, x] = own q k c + own q x d := by simp [sumOwn]
        have e2 : sumGo q [k, x] = going q k x := by simp [sumGo]
        rw [e1, e2]
        refine congrArg some ?_
        omega
      · rw [if_neg (show ¬ (own q k c < NO ∧ own q x d < NO) from h), if_neg (show ¬ canBe q [c, d] [k, x] = true from fun z => h (by simpa [canBe] using z))]
  | c :: d :: e :: r, ks, _, hl => by
    match ks, hl with
    | k :: l :: m :: s, hl =>
      have ih := cost_eq q (d :: e :: r) (l :: m :: s) (by simp) (by simp only [List.length_cons] at hl ⊢; omega)
      rw [cost]
      · rw [ih, lastTwo_cons, lastTwo_cons]
        by_cases h : own q k c < 100
        · rw [if_pos (show own q k c < NO from h)]
          have e1 : canBe q (c :: d :: e :: r) (k :: l :: m :: s) = canBe q (d :: e :: r) (l :: m :: s) := by
            simp [canBe, h]
          rw [e1]
          split
          · simp only [sumOwn, sumGo, List.zip_cons_cons, List.drop_succ_cons, List.drop_zero, List.map_cons, List.sum_cons, Option.map_some]
            refine congrArg some ?_
            omega
          · rfl
        · rw [if_neg (show ¬ own q k c < NO from h)]
          have e1 : canBe q (c :: d :: e :: r) (k :: l :: m :: s) = false := by
            simp [canBe, h]
          rw [e1, if_neg Bool.false_ne_true]
/-! ### cadences -/
def cadAt (cs : List Chord) (ks : List Key) (i : Nat) : Bool := match cs[i]?, cs[i + 1]?, ks[i]?, ks[i + 1]? with
  | some c, some d, some k, some x => decide (k = x) && cadence x c d
  | _, _, _, _ => false
/-- the places, as the loop finds them: the first n -/
def cadTo (cs : List Chord) (ks : List Key) (n : Nat) : List Nat := ((List.range n).filter (cadAt cs ks)).map (· + 1)
theorem cadTo_succ (cs : List Chord) (ks : List Key) (n : Nat) : cadTo cs ks (n + 1) = cadTo cs ks n ++ if cadAt cs ks n = true then [n + 1] else [] := by
  unfold cadTo
  rw [List.range_succ, List.filter_append, List.map_append]
  congr 1
  by_cases h : cadAt cs ks n = true
  · rw [if_pos h, List.filter_cons_of_pos h]; rfl
  · rw [if_neg h, List.filter_cons_of_neg h]; rfl
theorem zipIdx_filter_range {α : Type} (p : α → Bool) : ∀ (l : List α) (i : Nat), (l.zipIdx i).filterMap (fun x => if p x.1 = true then some (x.2 + 1) else none) = ((List.range' i l.length).filter fun j => match l[j - i]? with | some a => p a | none => false).map (· + 1)
  | [], _ => rfl
  | a :: r, i => by
    have ih := zipIdx_filter_range p r (i + 1)
    have e : ((List.range' (i + 1) r.length).filter fun j => match (a :: r)[j - i]? with | some a => p a | none => false) = ((List.range' (i + 1) r.length).filter fun j => match r[j - (i + 1)]? with | some a => p a | none => false) := by
      refine List.filter_congr fun j hj => ?_
      have hj' : i + 1 ≤ j := (List.mem_range'_1.mp hj).1
      obtain ⟨d, rfl⟩ : ∃ d, j = i + 1 + d := ⟨j - (i + 1), by omega⟩
      rw [show i + 1 + d - i = d + 1 by omega, show i + 1 + d - (i + 1) = d by omega, List.getElem?_cons_succ]
    rw [List.zipIdx_cons, List.length_cons, List.range'_succ]
    have hh : (match (a :: r)[i - i]? with | some a => p a | none => false) = p a := by rw [Nat.sub_self]; rfl
    by_cases h : p a = true
    · rw [List.filterMap_cons_some (by simp only [if_pos h]; rfl), ih, List.filter_cons_of_pos (by rw [hh]; exact h), List.map_cons, e]
    · rw [List.filterMap_cons_none (by simp only [if_neg h]), ih, List.filter_cons_of_neg (by rw [hh]; exact h), e]
def cadZ (y : (Chord × Key) × Chord × Key) : Bool := y.1.2 == y.2.2 && cadence y.1.2 y.1.1 y.2.1
theorem filter_map_is {α : Type} (p : α → Bool) : ∀ (l : List (α × Nat)), (l.filter fun x => p x.1).map (fun x => x.2 + 1) = l.filterMap fun x => if p x.1 = true then some (x.2 + 1) else none
  | [] => rfl
  | a :: r => by
    have ih := filter_map_is p r
    by_cases h : p a.1 = true
    · rw [List.filter_cons_of_pos (p := fun x : α × Nat => p x.1) h, List.map_cons, ih, List.filterMap_cons_some (by simp only [if_pos h]; rfl)]
    · rw [List.filter_cons_of_neg (p := fun x : α × Nat => p x.1) h, ih, List.filterMap_cons_none (by simp only [if_neg h])]
theorem cadences_eq (cs : List Chord) (ks : List Key) (hl : ks.length = cs.length) : cadences cs ks = cadTo cs ks (cs.length - 1) := by
  show ((((cs.zip ks).zip ((cs.zip ks).drop 1)).zipIdx.filter fun x => cadZ x.1).map fun x => x.2 + 1) = _
  rw [filter_map_is, zipIdx_filter_range]
  unfold cadTo
  have hn : ((cs.zip ks).zip ((cs.zip ks).drop 1)).length = cs.length - 1 := by
    rw [List.length_zip, List.length_drop, List.length_zip, hl, Nat.min_self]; omega
  rw [hn, List.range_eq_range']
  refine congrArg (List.map (· + 1)) ?_
  refine List.filter_congr fun j hj => ?_
  have hj' : j < cs.length - 1 := by
    have := (List.mem_range'_1.mp hj).2; omega
  have h1 : j < cs.length := by omega
  have h2 : j + 1 < cs.length := by omega
  have g : ((cs.zip ks).zip ((cs.zip ks).drop 1))[j - 0]? = some ((cs[j], ks[j]), (cs[j + 1], ks[j + 1])) := by
    rw [Nat.sub_zero, List.getElem?_eq_getElem (by rw [hn]; omega)]
    simp [List.getElem_zip, List.getElem_drop, Nat.add_comm 1 j]
  rw [g]
  unfold cadAt cadZ
  rw [List.getElem?_eq_getElem h1, List.getElem?_eq_getElem h2, List.getElem?_eq_getElem (show j < ks.length by omega), List.getElem?_eq_getElem (show j + 1 < ks.length by omega)]
  dsimp only
  by_cases hk : ks[j] = ks[j + 1]
  · rw [hk]; simp
  · rw [show (ks[j] == ks[j + 1]) = false by simpa using hk]; simp [hk]
end CK
namespace CK
/-! ### the calls, as they are read -/
def shp : Int → Option (Nat × Nat) := PyCp09.shape
/-- what a call asks, by its number, its numbers and its row -/
def Reads (p : Int) (nums row : List Int) (q : Cp09.Call) : Prop := match q with
  | .chords l => p = 1 ∧ nums = [] ∧ row = l
  | .prices a b c e => p = 2 ∧ nums = [a, b, c, e]
  | .know m a k r => p = 3 ∧ nums = [m, a, k, r]
  | .move n => p = 4 ∧ nums = [n]
  | .degrees t m => p = 5 ∧ nums = [t, m]
  | .count c => p = 6 ∧ nums = [c]
  | .counts => p = 7 ∧ nums = []
  | .nth n => p = 8 ∧ nums = [n]
  | .cost l => p = 9 ∧ nums = [] ∧ row = l
/-- how many numbers a call has -/
def numbers (p : Int) : Nat := if p = 2 then 4 else if p = 3 then 4 else if p = 4 then 1 else if p = 5 then 2 else if p = 6 then 1 else if p = 8 then 1 else 0
/-- one call at a place of the list: what it asks, where the next one stands -/
structure At (l : List Int) (i : Nat) (q : Cp09.Call) (j : Nat) : Prop where
  ex : ∃ (p : Int) (nums row : List Int), l[i]? = some p ∧ 1 ≤ p ∧ p ≤ 9 ∧ i + 1 + numbers p ≤ l.length ∧ nums = (l.drop (i + 1)).take (numbers p) ∧ Reads p nums row q ∧
    (((p = 1 ∨ p = 9) ∧ ∃ m : Nat, l[i + 1 + numbers p]? = some (m : Int) ∧ i + 1 + numbers p + 1 + m ≤ l.length ∧ row = (l.drop (i + 1 + numbers p + 1)).take m ∧ j = i + 1 + numbers p + 1 + m) ∨
      (¬ (p = 1 ∨ p = 9) ∧ row = [] ∧ j = i + 1 + numbers p))
theorem take4 {r : List Int} (h : 4 ≤ r.length) : ∃ a b c e, r.take 4 = [a, b, c, e] := by
  match r, h with
  | a :: b :: c :: e :: _, _ => exact ⟨a, b, c, e, rfl⟩
theorem take2 {r : List Int} (h : 2 ≤ r.length) : ∃ a b, r.take 2 = [a, b] := by
  match r, h with
  | a :: b :: _, _ => exact ⟨a, b, rfl⟩
theorem take1 {r : List Int} (h : 1 ≤ r.length) : ∃ a, r.take 1 = [a] := by
  match r, h with
  | a :: _, _ => exact ⟨a, rfl⟩
theorem shape_cases {p : Int} {n k : Nat} (h : PyCp09.shape p = some (n, k)) : 1 ≤ p ∧ p ≤ 9 ∧ n = numbers p ∧ ((k = 1 ∧ (p = 1 ∨ p = 9)) ∨ (k = 0 ∧ ¬ (p = 1 ∨ p = 9))) := by
  unfold PyCp09.shape at h
  by_cases h1 : p = 1
  · subst h1; cases h; decide
  rw [if_neg h1] at h
  by_cases h2 : p = 2
  · subst h2; cases h; decide
  rw [if_neg h2] at h
  by_cases h3 : p = 3
  · subst h3; cases h; decide
  rw [if_neg h3] at h
  by_cases h4 : p = 4
  · subst h4; cases h; decide
  rw [if_neg h4] at h
  by_cases h5 : p = 5
  · subst h5; cases h; decide
  rw [if_neg h5] at h
  by_cases h6 : p = 6
  · subst h6; cases h; decide
  rw [if_neg h6] at h
  by_cases h7 : p = 7
  · subst h7; cases h; decide
  rw [if_neg h7] at h
  by_cases h8 : p = 8
  · subst h8; cases h; decide
  rw [if_neg h8] at h
  by_cases h9 : p = 9
  · subst h9; cases h; decide
  rw [if_neg h9] at h
  cases h
/-- the document's call of a raw one -/
def Means (c : List (List Int)) (q : Cp09.Call) : Prop := Cp09Neutral.callOf ((PyCp09.whole c).headD []) = some q
theorem step_means {c : List (List Int)} {q : Cp09.Call} (h : Means c q) (s : Cp09.Desk) : Cp09Neutral.step s (PyCp09.whole c) = ((Cp09.step s q).1, (Cp09.step s q).2.v :: (Cp09.step s q).2.l) := by
  unfold Cp09Neutral.step
  rw [h]
theorem call_at {l : List Int} {i : Nat} {p : Int} {r : List Int} (hl : l.drop i = p :: r) {c : List (List Int)} {t : List Int} (h : PyFlat.call PyCp09.shape (p :: r) = some (c, t)) :
    ∃ q j, At l i q j ∧ l.drop j = t ∧ i < j ∧ Means c q := by
  have hi : i < l.length := by
    by_cases z : i < l.length
    · exact z
    · rw [List.drop_of_length_le (by omega)] at hl; cases hl
  have hp : l[i]? = some p := by
    have z : (l.drop i)[0]? = some p := by rw [hl]; rfl
    rw [List.getElem?_drop, Nat.add_zero] at z; exact z
  have hr : l.drop (i + 1) = r := by
    have z := List.drop_eq_getElem_cons hi
    rw [hl] at z
    exact (List.cons.inj z).2.symm
  have hrl : r.length = l.length - (i + 1) := by rw [← hr, List.length_drop]
  unfold PyFlat.call at h
  dsimp only at h
  cases hs : PyCp09.shape p with
  | none => rw [hs] at h; cases h
  | some nk =>
    obtain ⟨n, k⟩ := nk
    rw [hs] at h
    dsimp only at h
    obtain ⟨p1, p9, hn, hk⟩ := shape_cases hs
    by_cases hlt : r.length < n
    · rw [if_pos hlt] at h; cases h
    rw [if_neg hlt] at h
    rcases hk with ⟨rfl, hpp⟩ | ⟨rfl, hpp⟩
    · have n0 : n = 0 := by rw [hn]; rcases hpp with rfl | rfl <;> rfl
      subst n0
      rw [List.drop_zero, List.take_zero] at h
      unfold PyFlat.rows PyFlat.rows at h
      cases hrow : PyFlat.row r with
      | none => rw [hrow] at h; cases h
      | some xs =>
        obtain ⟨x, s⟩ := xs
        rw [hrow] at h
        dsimp only at h
        cases h
        cases r with
        | nil => cases hrow
        | cons m r' =>
          unfold PyFlat.row at hrow
          dsimp only at hrow
          by_cases hm : 0 ≤ m ∧ m.toNat ≤ r'.length
          · rw [if_pos hm] at hrow
            cases hrow
            obtain ⟨m, rfl⟩ : ∃ k : Nat, m = (k : Int) := ⟨m.toNat, by omega⟩
            rw [Int.toNat_natCast] at hm ⊢
            have hd2 : l.drop (i + 1 + 1) = r' := by
              have z : l.drop (i + 1 + 1) = (l.drop (i + 1)).drop 1 := by rw [List.drop_drop]
              rw [z, hr]; rfl
            have hl2 : r'.length + 1 = l.length - (i + 1) := by rw [← hrl]; rfl
            have hg : l[i + 1]? = some (m : Int) := by
              have z : (l.drop (i + 1))[0]? = some (m : Int) := by rw [hr]; rfl
              rw [List.getElem?_drop, Nat.add_zero] at z; exact z
            have hq : ∃ q, Reads p [] (r'.take m) q ∧ Means [[p], r'.take m] q := by
              rcases hpp with rfl | rfl
              · exact ⟨.chords (r'.take m), ⟨rfl, rfl, rfl⟩, rfl⟩
              · exact ⟨.cost (r'.take m), ⟨rfl, rfl, rfl⟩, rfl⟩
            obtain ⟨q, hq1, hq2⟩ := hq
            refine ⟨q, i + 1 + 1 + m, ⟨p, [], r'.take m, hp, p1, p9, by rw [← hn]; omega, by rw [← hn]; rfl, hq1, .inl ⟨hpp, m, by rw [← hn]; exact hg, by rw [← hn]; omega, by rw [← hn]; show _ = (l.drop (i + 1 + 1)).take m; rw [hd2], by rw [← hn]⟩⟩, ?_, by omega, hq2⟩
            rw [← List.drop_drop, hd2]
          · rw [if_neg hm] at hrow; cases hrow
    · unfold PyFlat.rows at h
      cases h
      have hq : ∃ q, Reads p (r.take n) [] q ∧ Means [p :: r.take n] q := by
        have hle : n ≤ r.length := by omega
        have cs : p = 2 ∨ p = 3 ∨ p = 4 ∨ p = 5 ∨ p = 6 ∨ p = 7 ∨ p = 8 := by omega
        rcases cs with rfl | rfl | rfl | rfl | rfl | rfl | rfl
        · have n4 : n = 4 := hn
          subst n4
          obtain ⟨a, b, c, e, z⟩ := take4 hle
          rw [z]; exact ⟨.prices a b c e, ⟨rfl, rfl⟩, rfl⟩
        · have n4 : n = 4 := hn
          subst n4
          obtain ⟨a, b, c, e, z⟩ := take4 hle
          rw [z]; exact ⟨.know a b c e, ⟨rfl, rfl⟩, rfl⟩
        · have n4 : n = 1 := hn
          subst n4
          obtain ⟨a, z⟩ := take1 hle
          rw [z]; exact ⟨.move a, ⟨rfl, rfl⟩, rfl⟩
        · have n4 : n = 2 := hn
          subst n4
          obtain ⟨a, b, z⟩ := take2 hle
          rw [z]; exact ⟨.degrees a b, ⟨rfl, rfl⟩, rfl⟩
        · have n4 : n = 1 := hn
          subst n4
          obtain ⟨a, z⟩ := take1 hle
          rw [z]; exact ⟨.count a, ⟨rfl, rfl⟩, rfl⟩
        · have n4 : n = 0 := hn
          subst n4
          exact ⟨.counts, ⟨rfl, rfl⟩, rfl⟩
        · have n4 : n = 1 := hn
          subst n4
          obtain ⟨a, z⟩ := take1 hle
          rw [z]; exact ⟨.nth a, ⟨rfl, rfl⟩, rfl⟩
      obtain ⟨q, hq1, hq2⟩ := hq
      refine ⟨q, i + 1 + n, ⟨p, r.take n, [], hp, p1, p9, by rw [← hn]; omega, by rw [← hn, hr], hq1, .inr ⟨hpp, rfl, by rw [← hn]⟩⟩, ?_, by omega, hq2⟩
      rw [← List.drop_drop, hr]
/-! ### what is left to be answered -/
theorem told_cons (s : Cp09.Desk) (c : List (List Int)) (r : List (List (List Int))) : PyFlat.told (PyFlat.played Cp09Neutral.step s (c :: r)) =
    (((Cp09Neutral.step s c).2.length : Int) :: (Cp09Neutral.step s c).2) ++ PyFlat.told (PyFlat.played Cp09Neutral.step (Cp09Neutral.step s c).1 r) := rfl
/-- from a place and a state on: the calls that are left, their answers -/
structure Left (l : List Int) (i : Nat) (s : Cp09.Desk) (out : List Int) (rest : List (List (List Int))) : Prop where
  fuel : ∃ f, PyFlat.calls PyCp09.shape f (l.drop i) = some rest
  ok : ∀ c ∈ rest, Cp09Neutral.asked1 (PyCp09.whole c) = true
  all : out ++ PyFlat.told (PyFlat.played Cp09Neutral.step s (rest.map PyCp09.whole)) = PyCp09.answers l
theorem left_start {l : List Int} (h : PyCp09.answers_asked l = true) : ∃ rest, Left l 0 Cp09.start [] rest ∧ rest.length ≤ 60 ∧ (PyCp09.answers l).length ≤ 10000000 := by
  unfold PyCp09.answers_asked at h
  cases e : PyFlat.calls PyCp09.shape l.length l with
  | none => rw [e] at h; cases h
  | some raw =>
    rw [e] at h
    simp only [Bool.and_eq_true] at h
    obtain ⟨⟨⟨⟨h1, h2⟩, h3⟩, h4⟩, h5⟩ := h
    unfold PyFlat.atMost at h2
    unfold PyFlat.short at h5
    unfold Cp09Neutral.asked at h4
    rw [Bool.and_eq_true, List.all_map, List.all_eq_true] at h4
    refine ⟨raw, ⟨⟨l.length, by rw [List.drop_zero]; exact e⟩, fun c hc => h4.1 c hc, ?_⟩, of_decide_eq_true h2, of_decide_eq_true h5⟩
    rw [List.nil_append]
    unfold PyCp09.answers PyCp09.calls
    rw [e]; rfl
theorem left_end {l : List Int} {i : Nat} {s : Cp09.Desk} {out : List Int} {rest : List (List (List Int))} (h : Left l i s out rest) (hi : l.length ≤ i) : out = PyCp09.answers l := by
  obtain ⟨⟨f, hf⟩, _, ha⟩ := h
  rw [List.drop_of_length_le hi] at hf
  have e : rest = [] := by
    cases f with
    | zero => unfold PyFlat.calls at hf; cases hf; rfl
    | succ f => unfold PyFlat.calls at hf; cases hf; rfl
  rw [e] at ha
  rw [← ha]; exact (List.append_nil out).symm
theorem left_turn {l : List Int} {i : Nat} {s : Cp09.Desk} {out : List Int} {rest : List (List (List Int))} (h : Left l i s out rest) (hi : i < l.length) :
    ∃ q j rest', At l i q j ∧ i < j ∧ rest'.length + 1 = rest.length ∧ (∀ m, q = .chords m ∨ q = .cost m → m.length ≤ 39) ∧
      Left l j (Cp09.step s q).1 (out ++ ((((Cp09.step s q).2.v :: (Cp09.step s q).2.l).length : Int) :: ((Cp09.step s q).2.v :: (Cp09.step s q).2.l))) rest' := by
  obtain ⟨⟨f, hf⟩, hok, ha⟩ := h
  have hd : l.drop i = l[i] :: l.drop (i + 1) := List.drop_eq_getElem_cons hi
  rw [hd] at hf
  cases f with
  | zero => unfold PyFlat.calls at hf; cases hf
  | succ f =>
    unfold PyFlat.calls at hf
    cases hc : PyFlat.call PyCp09.shape (l[i] :: l.drop (i + 1)) with
    | none => rw [hc] at hf; cases hf
    | some ct =>
      obtain ⟨c, t⟩ := ct
      rw [hc] at hf
      dsimp only at hf
      cases hcs : PyFlat.calls PyCp09.shape f t with
      | none => rw [hcs] at hf; cases hf
      | some cs =>
        rw [hcs] at hf
        cases hf
        obtain ⟨q, j, hat, hj, hij, hm⟩ := call_at hd hc
        refine ⟨q, j, cs, hat, hij, rfl, fun m hq => ?_, ⟨f, by rw [hj]; exact hcs⟩, fun c hc => hok c (List.mem_cons_of_mem _ hc), ?_⟩
        · have k := hok c List.mem_cons_self
          unfold Cp09Neutral.asked1 at k
          simp only [Bool.and_eq_true] at k
          have k2 := k.2.2.1
          unfold Cp09Neutral.listed at k2
          have k3 := of_decide_eq_true k2
          unfold Means at hm
          generalize (PyCp09.whole c).headD [] = w at hm k3
          have e : w = 1 :: m ∨ w = 9 :: m := by
            unfold Cp09Neutral.callOf at hm
            split at hm
            all_goals first
              | (cases hm; rcases hq with z | z <;> cases z <;> first | exact .inl rfl | exact .inr rfl)
              | (exfalso; cases hm; rcases hq with z | z <;> cases z)
              | cases hm
          rcases e with e | e <;> (rw [e, List.length_cons] at k3; omega)
        · rw [← ha, List.map_cons]
          rw [told_cons, step_means hm, List.append_assoc]
end CK
namespace CK
open PySem PySem.Spec PyProof.Rows L2
open PySem.W (Codec)
abbrev Ch := Cp09.Chord
abbrev Ky := Cp09.Key
abbrev Tb := Cp09.Table
/-! ### the text -/
def top (i : Nat) : Stmt := PySem.Challenge.pw_chordkeys_s01_answers.main.body.getD i (.Pass ⟨0, 0, 0, 0⟩)
/-! ### defs as they are called -/
structure DefOk (P : Program) (w : World) (K : PySem.W.Frag) (mg : Str → Option Value) (base : Heap) (CX : CXT) (k : Nat) (x : Str) (ps : List Str) (sp : Sp) : Prop where
  ex : ∃ (f : Addr) (fd : FuncData), FnOk P w K mg base CX k f fd ps sp ∧ mg x = some (.ref f) ∧ PySem.W.keepIn K (.ref f) = true ∧ Binds K fd ps []
structure MethOk (P : Program) (w : World) (K : PySem.W.Frag) (mg : Str → Option Value) (base : Heap) (CX : CXT) (k : Nat) (C : Addr) (m : Str) (ps : List Str) (sp : Sp) : Prop where
  ex : ∃ (f : Addr) (fd : FuncData), FnOk P w K mg base CX k f fd ps sp ∧ Meth K C m f ∧ Binds K fd ps []
structure MakeOk (P : Program) (w : World) (K : PySem.W.Frag) (mg : Str → Option Value) (base : Heap) (CX : CXT) (k : Nat) (x : Str) (C : Addr) (ps : List Str) (sp : Sp) : Prop where
  ex : ∃ (f : Addr) (fd : FuncData), FnOk P w K mg base CX k f fd ps sp ∧ Mk K C f ∧ mg x = some (.ref C) ∧ Binds K fd ps []
section
variable {X : Cx} {CX : CXT} {k : Nat} {x m : Str} {C : Addr} {ps : List Str} {sp : Sp} {E : XK} {p pos apos : Pos} {o e : Expr} {es : List Expr} {ta : TE} {t : TA}
theorem pe_d (D : DefOk X.prog X.w X.K X.mg X.base CX k x ps sp) (hr : Room k X.A) (hx : Passes CX X E) (ha : PA X (e :: es) t) (hg : Gl X x := by rfl)
    (hdb : (x == ("__debug__" : Str)) = false := by decide) (he : starEach (e :: es) X.env = (false, eval e X.env) :: starEach es X.env := by rfl) (hpl : (backTo pos (starEach es X.env)).any (·.1) = false := by rfl) :
    PE X (.Call (.Name x p) (e :: es) [] pos) (tCall sp [] E t) := by
  obtain ⟨f, fd, F, hm, hk, hb⟩ := D.ex
  exact pe_call F hr hg hm hk hb .nil hx ha hdb he hpl
theorem pe_d0 (D : DefOk X.prog X.w X.K X.mg X.base CX k x ps sp) (hr : Room k X.A) (hx : Passes CX X E) (hg : Gl X x := by rfl)
    (hdb : (x == ("__debug__" : Str)) = false := by decide) : PE X (.Call (.Name x p) [] [] pos) (tCall sp [] E tNil) := by
  obtain ⟨f, fd, F, hm, hk, hb⟩ := D.ex
  exact pe_call0 F hr hg hm hk hb .nil hx hdb
theorem pe_m {pl : Sem Bool} (he : PE X o ta) (c : Cls X.K C) (D : MethOk X.prog X.w X.K X.mg X.base CX k C m ps sp) (hr : Room k X.A) (hx : Passes CX X E) (ha : PA X (e :: es) t)
    (hst : starEach (e :: es) X.env = (false, eval e X.env) :: starEach es X.env := by rfl) (hpl : (backTo pos (starEach es X.env)).any (·.1) = false := by rfl)
    (ht : eval (.Call (.Attribute o m apos) (e :: es) [] pos) X.env = (do
      let ov ← eval o X.env
      standAt apos.atName
      let (f, first) ← holding [ov] (getMethod ov m pl)
      callWith pos f first (backTo pos (starEach (e :: es) X.env)) (backToKw pos (keywordEach [] X.env))) := by rfl) :
    PE X (.Call (.Attribute o m apos) (e :: es) [] pos) (tMeth C m sp [] E ta t) := by
  obtain ⟨f, fd, F, hm, hb⟩ := D.ex
  exact pe_meth he c hm F hr hb .nil hx ha hst hpl ht
theorem pe_m0 {pl : Sem Bool} (he : PE X o ta) (c : Cls X.K C) (D : MethOk X.prog X.w X.K X.mg X.base CX k C m ps sp) (hr : Room k X.A) (hx : Passes CX X E)
    (ht : eval (.Call (.Attribute o m apos) [] [] pos) X.env = (do
      let ov ← eval o X.env
      standAt apos.atName
      let (f, first) ← holding [ov] (getMethod ov m pl)
      callWith pos f first (backTo pos (starEach [] X.env)) (backToKw pos (keywordEach [] X.env))) := by rfl) :
    PE X (.Call (.Attribute o m apos) [] [] pos) (tMeth C m sp [] E ta tNil) := by
  obtain ⟨f, fd, F, hm, hb⟩ := D.ex
  exact pe_meth0 he c hm F hr hb .nil hx ht
theorem pe_k (D : MakeOk X.prog X.w X.K X.mg X.base CX k x C ps sp) (hr : Room (k + 1) X.A) (hx : Passes CX X E) (ha : PA X (e :: es) t) (hg : Gl X x := by rfl)
    (hdb : (x == ("__debug__" : Str)) = false := by decide) (he : starEach (e :: es) X.env = (false, eval e X.env) :: starEach es X.env := by rfl) (hpl : (backTo pos (starEach es X.env)).any (·.1) = false := by rfl) :
    PE X (.Call (.Name x p) (e :: es) [] pos) (tMake C sp [] E t) := by
  obtain ⟨f, fd, F, M, hm, hb⟩ := D.ex
  exact pe_make M F hr hg hm hb .nil hx ha hdb he hpl
theorem pe_k0 (D : MakeOk X.prog X.w X.K X.mg X.base CX k x C ps sp) (hr : Room (k + 1) X.A) (hx : Passes CX X E) (hg : Gl X x := by rfl)
    (hdb : (x == ("__debug__" : Str)) = false := by decide) : PE X (.Call (.Name x p) [] [] pos) (tMake C sp [] E tNil) := by
  obtain ⟨f, fd, F, M, hm, hb⟩ := D.ex
  exact pe_make0 M F hr hg hm hb .nil hx hdb
/-- a whole number of the module -/
def GI (mg : Str → Option Value) (x : Str) (i : Int) : Prop := ∃ t, mg x = some (.int i t)
theorem pe_gi {i : Int} (h : GI X.mg x i) (hg : Gl X x := by rfl) (hd : (x == ("__debug__" : Str)) = false := by decide) : PE X (.Name x p) (tC (.int i)) := by
  obtain ⟨t, ht⟩ := h
  exact pe_glob hg ht ⟨t, rfl⟩ hd
end
/-! ### what the top has written -/
/-- a written tuple -/
def KT (K : PySem.W.Frag) (a : Addr) (xs : List V) : Prop := ∃ (o : Obj) (its : Array Value) (n : Nat), K.lookup a = some o ∧ o.cls = .type "tuple" ∧ o.data = .seq its n ∧ its.size ≤ sizeLine ∧ Vals xs its.toList
theorem KT.seq {K : PySem.W.Frag} {a : Addr} {xs : List V} (h : KT K a xs) (H : Hp) : SqT K H a xs := .inr h
structure Tx (K : PySem.W.Frag) (mg : Str → Option Value) (CP CW CR CD : Addr) : Prop where
  iTWELVE : GI mg "TWELVE" 12
  iFIFTH : GI mg "FIFTH_STEP" 7
  iMAJOR : GI mg "MAJOR" 0
  iSEVENTH : GI mg "WITH_SEVENTH" 3
  iKINDS : GI mg "KINDS" 4
  iMODES : GI mg "MODES" 2
  iDOMINANT : GI mg "DOMINANT" 7
  iCANT : GI mg "CANT_BE" 100
  iCHANGE : GI mg "FIRST_CHANGE" 4
  iFFIFTH : GI mg "FIRST_FIFTH" 1
  iFMODE : GI mg "FIRST_MODE" 2
  iFEND : GI mg "FIRST_END" 3
  iBOUND : GI mg "BOUND" 150
  iBAD : GI mg "BAD" (-1)
  iNOTAS : GI mg "NOT_AS_MANY" (-2)
  iNONE : GI mg "NONE_SUCH" (-3)
  iTOO : GI mg "TOO_MANY" (-5)
  iNOCH : GI mg "NO_CHORDS" (-7)
  iMOSTC : GI mg "MOST_CHORDS" 16
  iMOSTP : GI mg "MOST_PRICE" 20
  iCHORDS : GI mg "CHORDS" 1
  iCOST : GI mg "COST" 9
  fLen : mg "len" = none
  fRange : mg "range" = none
  fAll : mg "all" = none
  fSum : mg "sum" = none
  fZip : mg "zip" = none
  fEnum : mg "enumerate" = none
  fInt : mg "int" = none
  fMin : mg "min" = none
  fVE : mg "ValueError" = none
  cP : Cls K CP
  cW : Cls K CW
  cD : Cls K CD
  nP : ∀ f, f ∈ (["change", "fifth", "other_mode", "end", "told"] : List Str) → NoAttr K CP f
  nW : ∀ f, f ∈ (["row", "prices", "every_key", "rows"] : List Str) → NoAttr K CW f
  nD : ∀ f, f ∈ (["row", "prices"] : List Str) → NoAttr K CD f
  gD : mg "Desk" = some (.ref CD)
  ne : CP ≠ CD
  told : ∃ a, mg "FIRST_TOLD" = some (.ref a) ∧ ∃ ts : List Addr, KT K a (ts.map V.ref) ∧ ts.length = (Cp09.major ++ Cp09.minor).length ∧ ∀ (i : Nat) (t : Addr) (x : Cp09.Known), ts[i]? = some t → (Cp09.major ++ Cp09.minor)[i]? = some x → KT K t [.int (x.mode : Int), .int (x.at_ : Int), .int (x.kind : Int), .int (x.price : Int)]
  nums : ∃ a, mg "NUMBERS" = some (.ref a) ∧ KT K a [.int 0, .int 0, .int 4, .int 4, .int 1, .int 2, .int 1, .int 0, .int 1, .int 0]
/-! ### objects -/
def chO (c : Ch) : HO := .tup [.int c.root, .int c.kind]
def kyO (k : Ky) : HO := .tup [.int k.mode, .int k.tonic]
/-- at the addresses ps stand the xs -/
def Each {α : Type} (o : α → HO) (H : Hp) (ps : List Addr) (xs : List α) : Prop := ps.length = xs.length ∧ ∀ (i : Nat) (p : Addr) (x : α), ps[i]? = some p → xs[i]? = some x → H p = some (o x)
/-- at a a list of such -/
def Sq {α : Type} (o : α → HO) (H : Hp) (a : Addr) (xs : List α) : Prop := ∃ ps : List Addr, H a = some (.lst (ps.map V.ref)) ∧ Each o H ps xs
section
variable {α : Type} {o : α → HO} {H H' : Hp} {a : Addr} {ps : List Addr} {xs : List α}
theorem Each.same (e : Each o H ps xs) (s : Same H H') : Each o H' ps xs := ⟨e.1, fun i p x h1 h2 => s _ _ (e.2 i p x h1 h2)⟩
theorem Sq.same (e : Sq o H a xs) (s : Same H H') : Sq o H' a xs := by
  obtain ⟨ps, h, e⟩ := e
  exact ⟨ps, s _ _ h, e.same s⟩
theorem Each.nil : Each o H [] ([] : List α) := ⟨rfl, fun i p x h => by simp at h⟩
theorem Each.snoc {p : Addr} {x : α} (e : Each o H ps xs) (h : H p = some (o x)) : Each o H (ps ++ [p]) (xs ++ [x]) := by
  refine ⟨by rw [List.length_append, List.length_append, e.1]; rfl, fun i q y h1 h2 => ?_⟩
  by_cases hi : i < ps.length
  · rw [List.getElem?_append_left hi] at h1
    rw [List.getElem?_append_left (by rw [← e.1]; exact hi)] at h2
    exact e.2 i q y h1 h2
  · rw [List.getElem?_append_right (by omega)] at h1
    rw [List.getElem?_append_right (by rw [← e.1]; omega), ← e.1] at h2
    have z : i - ps.length = 0 := by
      have := (List.getElem?_eq_some_iff.mp h1).1
      simp at this; omega
    rw [z] at h1 h2
    cases h1; cases h2
    exact h
theorem Each.cons {p : Addr} {x : α} (h : H p = some (o x)) (e : Each o H ps xs) : Each o H (p :: ps) (x :: xs) := by
  refine ⟨by rw [List.length_cons, List.length_cons, e.1], fun i q y h1 h2 => ?_⟩
  cases i with
  | zero => cases h1; cases h2; exact h
  | succ i => exact e.2 i q y h1 h2
theorem Each.append {qs : List Addr} {ys : List α} (e : Each o H ps xs) (e' : Each o H qs ys) : Each o H (ps ++ qs) (xs ++ ys) := by
  refine ⟨by rw [List.length_append, List.length_append, e.1, e'.1], fun i q y h1 h2 => ?_⟩
  by_cases hi : i < ps.length
  · rw [List.getElem?_append_left hi] at h1
    rw [List.getElem?_append_left (by rw [← e.1]; exact hi)] at h2
    exact e.2 i q y h1 h2
  · rw [List.getElem?_append_right (by omega)] at h1
    rw [List.getElem?_append_right (by rw [← e.1]; omega), ← e.1] at h2
    exact e'.2 _ q y h1 h2
theorem Each.drop (e : Each o H ps xs) (n : Nat) : Each o H (ps.drop n) (xs.drop n) :=
  ⟨by rw [List.length_drop, List.length_drop, e.1], fun i q y h1 h2 => e.2 (n + i) q y (by rw [List.getElem?_drop] at h1; exact h1) (by rw [List.getElem?_drop] at h2; exact h2)⟩
theorem Each.get (e : Each o H ps xs) {i : Nat} {x : α} (h : xs[i]? = some x) : ∃ p, ps[i]? = some p ∧ H p = some (o x) := by
  have hi := (List.getElem?_eq_some_iff.mp h).1
  rw [← e.1] at hi
  exact ⟨ps[i], List.getElem?_eq_getElem hi, e.2 i _ x (List.getElem?_eq_getElem hi) h⟩
theorem Each.get' (e : Each o H ps xs) {i : Nat} {p : Addr} (h : ps[i]? = some p) : ∃ x, xs[i]? = some x ∧ H p = some (o x) := by
  have hi := (List.getElem?_eq_some_iff.mp h).1
  rw [e.1] at hi
  exact ⟨xs[i], List.getElem?_eq_getElem hi, e.2 i p _ h (List.getElem?_eq_getElem hi)⟩
theorem map_get {ps : List Addr} {i : Nat} {v : V} (h : (ps.map V.ref)[i]? = some v) : ∃ p, ps[i]? = some p ∧ v = .ref p := by
  rw [List.getElem?_map] at h
  cases e : ps[i]? with
  | none => rw [e] at h; cases h
  | some p => rw [e] at h; exact ⟨p, rfl, (Option.some.inj h).symm⟩
theorem get_map {ps : List Addr} {i : Nat} {p : Addr} (h : ps[i]? = some p) : (ps.map V.ref)[i]? = some (.ref p) := by
  rw [List.getElem?_map, h]; rfl
end
theorem same_upd {H : Hp} {p : Addr} {o : HO} (h : H p = none) : Same H (upd H p o) := fun b x e => by
  rw [upd_ne (ne_of_none e h)]; exact e
/-- a list of whole numbers from 0 on -/
abbrev ns (l : List Nat) : List V := l.map fun (n : Nat) => V.int (n : Int)
theorem if_true_of {c : Bool} {A B : Prop} (hc : c = true) (h : A) : if c = true then A else B := by
  rw [if_pos hc]
  exact h
theorem if_false_of {c : Bool} {A B : Prop} (hc : c = false) (h : B) : if c = true then A else B := by
  rw [hc, if_neg Bool.false_ne_true]
  exact h
end CK
namespace CK
open PySem PySem.Spec PyProof.Rows L2
open PySem.W (Codec)
abbrev sBelow : Stmt := top 9
abbrev sDegree : Stmt := top 13
abbrev sDist : Stmt := top 14
abbrev sCad : Stmt := top 15
abbrev sMoved : Stmt := top 16
theorem scBelow : FnScope ["number", "bound"] ["number", "bound"] (defScope sBelow) := ⟨rfl, rfl, rfl, by decide +kernel, rfl, by decide +kernel, by decide +kernel⟩
theorem scDegree : FnScope ["chord", "key"] ["chord", "key"] (defScope sDegree) := ⟨rfl, rfl, rfl, by decide +kernel, rfl, by decide +kernel, by decide +kernel⟩
theorem scDist : FnScope ["one", "other", "steps"] ["one", "other"] (defScope sDist) := ⟨rfl, rfl, rfl, by decide +kernel, rfl, by decide +kernel, by decide +kernel⟩
theorem scCad : FnScope ["first", "second", "key"] ["first", "second", "key"] (defScope sCad) := ⟨rfl, rfl, rfl, by decide +kernel, rfl, by decide +kernel, by decide +kernel⟩
theorem scMoved : FnScope ["chord", "many"] ["chord", "many"] (defScope sMoved) := ⟨rfl, rfl, rfl, by decide +kernel, rfl, by decide +kernel, by decide +kernel⟩
def spBelow : Sp := fun vs H Q _ => ∃ i j : Int, vs = [.int i, .int j] ∧ Q (.bl (decide (0 ≤ i) && decide (i < j))) H
def spDegree : Sp := fun vs H Q _ => ∃ (a b : Addr) (c : Ch) (k : Ky), vs = [.ref a, .ref b] ∧ H a = some (chO c) ∧ H b = some (kyO k) ∧ ChordOk c ∧ KeyOk k ∧ Q (.int (Cp09.degree k c : Int)) H
def spDist : Sp := fun vs H Q _ => ∃ (a b : Nat), vs = [.int a, .int b] ∧ a < 12 ∧ b < 12 ∧ Q (.int (Cp09.far a b : Int)) H
def spCad : Sp := fun vs H Q _ => ∃ (a b z : Addr) (c d : Ch) (k : Ky), vs = [.ref a, .ref b, .ref z] ∧ H a = some (chO c) ∧ H b = some (chO d) ∧ H z = some (kyO k) ∧ ChordOk c ∧ ChordOk d ∧ KeyOk k ∧
  ∀ H', Same H H' → Q (.bl (Cp09.cadence k c d)) H'
def mvC (n : Nat) (c : Ch) : Ch := ⟨(c.root + n) % 12, c.kind⟩
def spMoved : Sp := fun vs H Q _ => ∃ (a : Addr) (c : Ch) (n : Nat), vs = [.ref a, .int n] ∧ H a = some (chO c) ∧
  ∀ p, H p = none → Q (.ref p) (upd H p (chO (mvC n c)))
section
variable {P : Program} {w : World} {K : PySem.W.Frag} {mg : Str → Option Value} {base : Heap} {CP CW CR CD : Addr} {f : Addr} {fd : FuncData}
theorem ok_below (T : Tx K mg CP CW CR CD) (F : Fun K "is_below" "is_below" sBelow f fd) : FnOk P w K mg base CX0 1 f fd ["number", "bound"] spBelow := by
  refine F.ok scBelow (fun vs H Q E h => ?_) (fun cdv A outer s H vs Q E hr h => ?_)
  · obtain ⟨i, j, rfl, _⟩ := h; rfl
  · obtain ⟨i, j, rfl, q⟩ := h
    refine ⟨_, pss_one (ps_ret (pe_and (pe_cmp (pc_le pe_int (pv 0)) rfl) (pe_one (pe_cmp (pc_lt (pv 0) (pv 1)) rfl)))), ?_⟩
    refine ⟨_, rfl, _, _, rfl, rfl, _, rfl, ite2 (fun c => ?_) (fun c => ?_)⟩
    · refine ⟨_, rfl, _, rfl, _, _, rfl, rfl, ?_⟩
      have c' : decide (0 ≤ i) = true := c
      rw [c', Bool.true_and] at q
      exact q
    · have c' : decide (0 ≤ i) = false := Bool.eq_false_iff.mpr c
      rw [c', Bool.false_and] at q
      exact q
theorem ok_degree (T : Tx K mg CP CW CR CD) (F : Fun K "degree_of" "degree_of" sDegree f fd) : FnOk P w K mg base CX0 1 f fd ["chord", "key"] spDegree := by
  refine F.ok scDegree (fun vs H Q E h => ?_) (fun cdv A outer s H vs Q E hr h => ?_)
  · obtain ⟨a, b, c, k, rfl, _⟩ := h; rfl
  · obtain ⟨a, b, c, k, rfl, ha, hb, hc, hk, q⟩ := h
    refine ⟨_, pss_one (ps_ret (pe_op op_mod (pe_op op_sub (pe_ix ix_tup (pv 0) pe_int (fun _ _ => rfl)) (pe_ix ix_tup (pv 1) pe_int (fun _ _ => rfl))) (pe_gi T.iTWELVE))), ?_⟩
    refine ⟨_, rfl, _, _, _, _, rfl, rfl, SqT.of ha, atI_nat (j := 0) rfl, _, rfl, _, _, _, _, rfl, rfl, SqT.of hb, atI_nat (j := 1) rfl, _, _, rfl, rfl, _, _, rfl, rfl, (by show (0 : Int) < 12; decide), ?_⟩
    rw [← degree_int hc hk] at q
    exact q
theorem ok_dist (T : Tx K mg CP CW CR CD) (F : Fun K "distance" "distance" sDist f fd) : FnOk P w K mg base CX0 1 f fd ["one", "other"] spDist := by
  refine F.ok scDist (fun vs H Q E h => ?_) (fun cdv A outer s H vs Q E hr h => ?_)
  · obtain ⟨a, b, rfl, _⟩ := h; rfl
  · obtain ⟨a, b, rfl, ha, hb, q⟩ := h
    refine ⟨_, pss_cons (ps_set (i := 2) scDist.nd rfl (Or.inl rfl) (pe_op op_mod (pe_op op_mul (pe_gi T.iFIFTH) (pe_op op_sub (pv 1) (pv 0))) (pe_gi T.iTWELVE)))
      (pss_one (ps_ret (pe_callB (call_min2 rfl) (by rfl) T.fMin (by decide +kernel) (pa_cons (pv 2) (pa_cons (pe_op op_sub (pe_gi T.iTWELVE) (pv 2)) pa_nil))))), ?_⟩
    refine ⟨_, rfl, _, rfl, _, _, rfl, rfl, _, _, rfl, rfl, .inl ⟨by decide, by decide⟩, _, _, rfl, rfl, (by show (0 : Int) < 12; decide), ?_⟩
    refine ⟨_, rfl, _, rfl, _, _, rfl, rfl, _, _, rfl, ?_⟩
    rw [← far_int ha hb] at q
    exact q
theorem ok_moved (T : Tx K mg CP CW CR CD) (F : Fun K "moved" "moved" sMoved f fd) : FnOk P w K mg base CX0 1 f fd ["chord", "many"] spMoved := by
  refine F.ok scMoved (fun vs H Q E h => ?_) (fun cdv A outer s H vs Q E hr h => ?_)
  · obtain ⟨a, c, n, rfl, _⟩ := h; rfl
  · obtain ⟨a, c, n, rfl, ha, q⟩ := h
    refine ⟨_, pss_one (ps_ret (pe_tup (pa_cons (pe_op op_mod (pe_op op_add (pe_ix ix_tup (pv 0) pe_int (fun _ _ => rfl)) (pv 1)) (pe_gi T.iTWELVE)) (pa_cons (pe_ix ix_tup (pv 0) pe_int (fun _ _ => rfl)) pa_nil)))), ?_⟩
    refine ⟨_, rfl, _, _, _, _, rfl, rfl, SqT.of ha, atI_nat (j := 0) rfl, _, rfl, _, _, rfl, rfl, _, _, rfl, rfl, (by show (0 : Int) < 12; decide), _, rfl, _, _, _, _, rfl, rfl, SqT.of ha, atI_nat (j := 1) rfl, (by show 2 ≤ sizeLine; decide), fun p hp => ?_⟩
    have e : ((c.root : Int) + n) % 12 = (((c.root + n) % 12 : Nat) : Int) := by omega
    have q' := q p hp
    unfold chO mvC at q'
    rw [← e] at q'
    exact q'
theorem ok_cad (T : Tx K mg CP CW CR CD) (D : DefOk P w K mg base CX0 1 "degree_of" ["chord", "key"] spDegree) (F : Fun K "is_cadence" "is_cadence" sCad f fd) : FnOk P w K mg base CX0 2 f fd ["first", "second", "key"] spCad := by
  refine F.ok scCad (fun vs H Q E h => ?_) (fun cdv A outer s H vs Q E hr h => ?_)
  · obtain ⟨a, b, z, c, d, k, rfl, _⟩ := h; rfl
  · obtain ⟨a, b, z, c, d, k, rfl, ha, hb, hz, hc, hd, hk, q⟩ := h
    refine ⟨_, pss_cons (ps_if (PW.pt (pw_or (pt_cmpR op_ne (pe_d D hr pass0 (pa_cons (pv 0) (pa_cons (pv 2) pa_nil))) (pe_gi T.iDOMINANT) (nomark _))
        (pw_or1 (pt_cmpR op_notIn_seq (pe_ix ix_tup (pv 0) pe_int (fun _ _ => rfl)) (pe_tup (pa_cons (pe_gi T.iMAJOR) (pa_cons (pe_gi T.iSEVENTH) pa_nil))) rfl))))
        (pss_one (ps_ret pe_bl)) pss_nil)
      (pss_one (ps_ret (pe_and (pe_cmpR op_eq (pe_d D hr pass0 (pa_cons (pv 1) (pa_cons (pv 2) pa_nil))) pe_int (nomark _)) (pe_one (pe_cmpR op_eq (pe_ix ix_tup (pv 1) pe_int (fun _ _ => rfl)) (pe_ix ix_tup (pv 2) pe_int (fun _ _ => rfl)) (nomark _)))))), ?_⟩
    refine ⟨_, rfl, _, rfl, a, z, c, k, rfl, ha, hz, hc, hk, rfl, _, rfl, ite2 (fun e => ?_) (fun e => ?_)⟩
    · refine iteT ?_
      have e' : ¬ Cp09.degree k c = 7 := fun y => by
        rw [y] at e
        exact absurd e (by decide)
      have e2 : Cp09.cadence k c d = false := by unfold Cp09.cadence; rw [show (Cp09.degree k c == 7) = false by simpa using e', Bool.false_and]
      have q' := q H (Same.refl H)
      rw [e2] at q'
      exact q'
    · have e' : Cp09.degree k c = 7 := by
        by_cases y : Cp09.degree k c = 7
        · exact y
        · exfalso
          refine e ?_
          have : ¬ (V.int (Cp09.degree k c : Int) = V.int 7) := fun z => y (by injection z with z; omega)
          show (!decide (V.int (Cp09.degree k c : Int) = V.int 7)) = true
          rw [decide_eq_false this]; rfl
      refine ⟨_, rfl, _, _, _, _, rfl, rfl, SqT.of ha, atI_nat (j := 1) rfl, (by show 2 ≤ sizeLine; decide), fun p hp => ?_⟩
      have s1 : Same H (upd H p (.tup [.int 0, .int 3])) := same_upd hp
      refine ⟨p, _, rfl, .inr (SqT.of upd_same), rfl, rfl, _, rfl, ?_⟩
      have e3 : inV (.int (c.kind : Int)) [.int 0, .int 3] = (c.kind == 0 || c.kind == 3) := by
        have := hc.2
        have h4 : c.kind = 0 ∨ c.kind = 1 ∨ c.kind = 2 ∨ c.kind = 3 := by omega
        rcases h4 with h | h | h | h <;> rw [h] <;> decide
      show if (!inV (.int (c.kind : Int)) [.int 0, .int 3]) = true then _ else _
      rw [e3]
      have q' := q _ s1
      unfold Cp09.cadence at q'
      rw [show (Cp09.degree k c == 7) = true by simpa using e', Bool.true_and] at q'
      cases e4 : (c.kind == 0 || c.kind == 3) with
      | false =>
        rw [e4, Bool.false_and] at q'
        refine if_true_of rfl ?_
        exact q'
      | true =>
        rw [e4, Bool.true_and] at q'
        refine if_false_of rfl ?_
        refine ⟨_, rfl, _, rfl, b, z, d, k, rfl, s1 _ _ hb, s1 _ _ hz, hd, hk, rfl, _, rfl, ite2 (fun e5 => ?_) (fun e5 => ?_)⟩
        · have e6 : Cp09.degree k d = 0 := by
            have z := V.int.inj (of_decide_eq_true e5)
            omega
          refine ⟨_, rfl, _, _, _, _, rfl, rfl, SqT.of (s1 _ _ hb), atI_nat (j := 1) rfl, _, rfl, _, _, _, _, rfl, rfl, SqT.of (s1 _ _ hz), atI_nat (j := 0) rfl, rfl, ?_⟩
          rw [show (Cp09.degree k d == 0) = true by simpa using e6, Bool.true_and] at q'
          have e7 : decide (V.int (d.kind : Int) = V.int (k.mode : Int)) = (d.kind == k.mode) := by
            by_cases y : d.kind = k.mode
            · rw [y]; simp
            · have : ¬ V.int (d.kind : Int) = V.int (k.mode : Int) := fun z => y (by injection z with z; omega)
              rw [decide_eq_false this]
              simpa using y
          rw [← e7] at q'
          exact q'
        · have e6 : ¬ Cp09.degree k d = 0 := fun y => e5 (by rw [y]; rfl)
          rw [show (Cp09.degree k d == 0) = false by simpa using e6, Bool.false_and] at q'
          exact q'
end
end CK
namespace CK
open PySem PySem.Spec PyProof.Rows L2
/-! ### comprehensions: over anything, no test -/
section
variable {J : It} {n : Nat} {g : TG} {te : TE} {vs : List Nat} {σ : L2.St} {H1 : Hp} {D : Addr} {Qd : Hp → Prop}
theorem lc_gen (Pv : Nat → Hp → Prop) (h0 : Pv 0 (upd H1 D (.lst []))) (go : ∀ i H, i < n → Pv i H → J.go i H) (stop : ∀ H, Pv n H → J.stop n H)
    (hs : ∀ i H x H', i < n → Pv i H → J.yld i H x H' → g x (wipe σ vs) H' fun σ2 H2 => wipe σ2 vs = wipe σ vs ∧ te σ2 H2 fun y H4 => ∃ acc, H4 D = some (.lst acc) ∧ acc.length < sizeLine ∧ Pv (i + 1) (upd H4 D (.lst (acc ++ [y]))))
    (hd : ∀ H, Pv n H → Qd H) :
    ∃ W : Nat → Nat → Hp → Prop, (∃ m, W 0 m (upd H1 D (.lst []))) ∧ ∀ i m H, W i m H →
      (J.stop i H ∧ Qd H) ∨ (J.go i H ∧ ∃ Nx : Hp → Prop, (∀ H', Nx H' → ∃ m', m' < m ∧ W (i + 1) m' H') ∧ ∀ x H', J.yld i H x H' → g x (wipe σ vs) H' fun σ2 H2 => wipe σ2 vs = wipe σ vs ∧ tYes σ2 H2 fun b H3 =>
        if b = true then te σ2 H3 fun y H4 => ∃ acc, H4 D = some (.lst acc) ∧ acc.length < sizeLine ∧ Nx (upd H4 D (.lst (acc ++ [y]))) else Nx H3) := by
  refine ⟨fun i m H => m = n - i ∧ i ≤ n ∧ Pv i H, ⟨n, by simp, Nat.zero_le _, h0⟩, ?_⟩
  rintro i m H ⟨rfl, hi, p⟩
  by_cases hlt : i < n
  · refine .inr ⟨go i H hlt p, Pv (i + 1), fun H' p' => ⟨n - (i + 1), by omega, rfl, hlt, p'⟩, fun x H' y => ?_⟩
    exact hs i H x H' hlt p y
  · have e : i = n := by omega
    subst e
    exact .inl ⟨stop H p, hd H p⟩
/-- the list that is made holds the values ys -/
theorem lc_v (ys : List V) (hlen : ys.length < sizeLine) (hD : H1 D = none)
    (go : ∀ i H, i < ys.length → Same H1 H → J.go i H) (stop : ∀ H, Same H1 H → J.stop ys.length H)
    (hs : ∀ i y H (Q : VK) v H', ys[i]? = some y → Same H1 H → J.yld i H v H' → (∀ H4, Same H H4 → Q y H4) → g v (wipe σ vs) H' fun σ2 H2 => wipe σ2 vs = wipe σ vs ∧ te σ2 H2 Q)
    (hd : ∀ H, Same H1 H → H D = some (.lst ys) → Qd H) :
    ∃ W : Nat → Nat → Hp → Prop, (∃ m, W 0 m (upd H1 D (.lst []))) ∧ ∀ i m H, W i m H →
      (J.stop i H ∧ Qd H) ∨ (J.go i H ∧ ∃ Nx : Hp → Prop, (∀ H', Nx H' → ∃ m', m' < m ∧ W (i + 1) m' H') ∧ ∀ x H', J.yld i H x H' → g x (wipe σ vs) H' fun σ2 H2 => wipe σ2 vs = wipe σ vs ∧ tYes σ2 H2 fun b H3 =>
        if b = true then te σ2 H3 fun y H4 => ∃ acc, H4 D = some (.lst acc) ∧ acc.length < sizeLine ∧ Nx (upd H4 D (.lst (acc ++ [y]))) else Nx H3) := by
  refine lc_gen (n := ys.length) (fun i H => Same H1 H ∧ H D = some (.lst (ys.take i))) ⟨same_upd hD, by rw [upd_same, List.take_zero]⟩ (fun i H hi p => go i H hi p.1) (fun H p => stop H p.1) ?_ ?_
  · intro i H v H' hi ⟨p1, p2⟩ hy
    have hyi : ys[i]? = some ys[i] := List.getElem?_eq_getElem hi
    refine hs i ys[i] H _ v H' hyi p1 hy fun H4 s4 => ?_
    refine ⟨ys.take i, s4 _ _ p2, by rw [List.length_take]; omega, fun b o e => ?_, ?_⟩
    · rw [upd_ne (ne_of_none e hD)]; exact s4 _ _ (p1 _ _ e)
    · rw [upd_same, List.take_add_one, hyi]; rfl
  · intro H ⟨p1, p2⟩
    rw [List.take_length] at p2
    exact hd H p1 p2
/-- the list that is made holds new objects -/
theorem lc_e {α : Type} {o : α → HO} (no : ∀ x l, o x ≠ .lst l) (xs : List α) (hlen : xs.length < sizeLine) (hD : H1 D = none)
    (go : ∀ i H, i < xs.length → Same H1 H → J.go i H) (stop : ∀ H, Same H1 H → J.stop xs.length H)
    (hs : ∀ i x H (Q : VK) v H', xs[i]? = some x → Same H1 H → J.yld i H v H' → (∀ p H4, Same H H4 → H4 p = some (o x) → Q (.ref p) H4) → g v (wipe σ vs) H' fun σ2 H2 => wipe σ2 vs = wipe σ vs ∧ te σ2 H2 Q)
    (hd : ∀ H ps, Same H1 H → H D = some (.lst (ps.map V.ref)) → Each o H ps xs → Qd H) :
    ∃ W : Nat → Nat → Hp → Prop, (∃ m, W 0 m (upd H1 D (.lst []))) ∧ ∀ i m H, W i m H →
      (J.stop i H ∧ Qd H) ∨ (J.go i H ∧ ∃ Nx : Hp → Prop, (∀ H', Nx H' → ∃ m', m' < m ∧ W (i + 1) m' H') ∧ ∀ x H', J.yld i H x H' → g x (wipe σ vs) H' fun σ2 H2 => wipe σ2 vs = wipe σ vs ∧ tYes σ2 H2 fun b H3 =>
        if b = true then te σ2 H3 fun y H4 => ∃ acc, H4 D = some (.lst acc) ∧ acc.length < sizeLine ∧ Nx (upd H4 D (.lst (acc ++ [y]))) else Nx H3) := by
  refine lc_gen (n := xs.length) (fun i H => Same H1 H ∧ ∃ ps : List Addr, H D = some (.lst (ps.map V.ref)) ∧ Each o H ps (xs.take i)) ⟨same_upd hD, [], upd_same, by rw [List.take_zero]; exact Each.nil⟩ (fun i H hi p => go i H hi p.1) (fun H p => stop H p.1) ?_ ?_
  · intro i H v H' hi ⟨p1, ps, p2, p3⟩ hy
    have hyi : xs[i]? = some xs[i] := List.getElem?_eq_getElem hi
    refine hs i xs[i] H _ v H' hyi p1 hy fun p H4 s4 hp => ?_
    have hpl : ps.length = i := by rw [p3.1, List.length_take]; omega
    have up : ∀ b x, H4 b = some (o x) → upd H4 D (.lst (ps.map V.ref ++ [V.ref p])) b = some (o x) := fun b x e => by
      have nb : b ≠ D := ne_of e (s4 _ _ p2) (no x _)
      rw [upd_ne nb]; exact e
    refine ⟨ps.map V.ref, s4 _ _ p2, by rw [List.length_map]; omega, fun b u e => ?_, ps ++ [p], ?_, ?_⟩
    · rw [upd_ne (ne_of_none e hD)]; exact s4 _ _ (p1 _ _ e)
    · rw [upd_same, List.map_append]; rfl
    · rw [List.take_add_one, hyi]
      refine Each.snoc ⟨p3.1, fun j q y h1 h2 => up q y (s4 _ _ (p3.2 j q y h1 h2))⟩ (up p _ hp)
  · intro H ⟨p1, ps, p2, p3⟩
    rw [List.take_length] at p3
    exact hd H ps p1 p2 p3
end
/-! ### what is walked -/
theorem go_list {K : PySem.W.Frag} {H : Hp} {a : Addr} {xs : List V} {i : Nat} (h : SqL K H a xs) (hi : i < xs.length) : (Itl K a).go i H := ⟨xs, xs[i], h, List.getElem?_eq_getElem hi⟩
theorem stop_list {K : PySem.W.Frag} {H : Hp} {a : Addr} {xs : List V} (h : SqL K H a xs) : (Itl K a).stop xs.length H := ⟨xs, h, Nat.le_refl _⟩
theorem go_zip {K : PySem.W.Frag} {H : Hp} {a b : Addr} {xs ys : List V} {i : Nat} (h : SqL K H a xs) (h' : SqL K H b ys) (hi : i < xs.length) (hi' : i < ys.length) : (Itz K a b).go i H := ⟨xs, ys, xs[i], ys[i], h, h', List.getElem?_eq_getElem hi, List.getElem?_eq_getElem hi'⟩
theorem stop_zip {K : PySem.W.Frag} {H : Hp} {a b : Addr} {xs ys : List V} {n : Nat} (h : SqL K H a xs) (h' : SqL K H b ys) (hn : xs.length ≤ n ∨ ys.length ≤ n) : (Itz K a b).stop n H := ⟨xs, ys, h, h', hn⟩
theorem wipe_set1 (σ : L2.St) (i : Nat) (v : Option V) : wipe ((wipe σ [i]).set i v) [i] = wipe σ [i] := by
  show (((σ.set i none).set i v).set i none) = σ.set i none
  rw [List.set_set, List.set_set]
/-- a range by steps of two -/
theorem rgc_two (n : Nat) (h : n < 100) : RgC 0 n 2 ((n + 1) / 2) :=
  ⟨by decide, by decide, (by decide +kernel : ∀ n : Nat, n < 100 → Builtin.Range.small 0 (n : Int) 2 = true) n h, (by decide +kernel : ∀ n : Nat, n < 100 → Builtin.Range.rangeSize 0 (n : Int) 2 = (((n + 1) / 2 : Nat) : Int)) n h⟩
end CK
namespace CK
open PySem PySem.Spec PyProof.Rows L2
/-! ### the written part by its name (within a comprehension its place is not the def's) -/
theorem ixL {X : Cx} (K : PySem.W.Frag) (h : X.K = K := by rfl) : IxR X (rIxL K) := by subst h; exact ix_list
theorem ixT {X : Cx} (K : PySem.W.Frag) (h : X.K = K := by rfl) : IxR X (rIxT K) := by subst h; exact ix_tup
theorem pgT {X : Cx} (K : PySem.W.Frag) {es : List Expr} {k : Nat} {t : TGs} {n : Nat} {pos : Pos} (hc : X.calm = true) (h : PGs X es t) (hk : X.K = K := by rfl)
    (hn : (assignEach es X.env).length = n := by rfl) (hst : (assignEach es X.env).findIdx? (·.1) = none := by rfl) : PG X (.Tuple es k pos) (gTup K n t) := by
  subst hk; exact pg_tup hc h hn hst
theorem pe_fldK {X : Cx} (K : PySem.W.Frag) {e : Expr} {f : Str} {pos : Pos} {te : TE} (he : PE X e te) (hk : X.K = K := by rfl) (hb : attributeBase e f X.env (eval e X.env) = eval e X.env := by rfl) : PE X (.Attribute e f pos) (tFld K te f) := by
  subst hk; exact pe_fld he hb
end CK
namespace CK
open PySem PySem.Spec PyProof.Rows L2
abbrev sAll : Stmt := top 8
abbrev sPairs : Stmt := top 10
abbrev sReadC : Stmt := top 11
abbrev sReadK : Stmt := top 12
theorem scAll : FnScope ["found", "mode", "tonic"] [] (defScope sAll) := ⟨rfl, rfl, rfl, by decide +kernel, rfl, by decide +kernel, by decide +kernel⟩
theorem scPairs : FnScope ["row", "at"] ["row"] (defScope sPairs) := ⟨rfl, rfl, rfl, by decide +kernel, rfl, by decide +kernel, by decide +kernel⟩
theorem scReadC : FnScope ["row", "pairs", "root", "kind"] ["row"] (defScope sReadC) := ⟨rfl, rfl, rfl, by decide +kernel, rfl, by decide +kernel, by decide +kernel⟩
theorem scReadK : FnScope ["row", "pairs", "tonic", "mode"] ["row"] (defScope sReadK) := ⟨rfl, rfl, rfl, by decide +kernel, rfl, by decide +kernel, by decide +kernel⟩
def prO (x : Int × Int) : HO := .tup [.int x.1, .int x.2]
theorem prO_no (x : Int × Int) (l : List V) : prO x ≠ .lst l := fun z => by cases z
theorem kyO_no (x : Ky) (l : List V) : kyO x ≠ .lst l := fun z => by cases z
theorem chO_no (x : Ch) (l : List V) : chO x ≠ .lst l := fun z => by cases z
def spAll : Sp := fun vs H Q _ => vs = [] ∧ ∀ H' p, Same H H' → H p = none → Sq kyO H' p Cp09.keys → Q (.ref p) H'
def spPairs (K : PySem.W.Frag) : Sp := fun vs H Q _ => ∃ (a : Addr) (l : List Int), vs = [.ref a] ∧ SqL K H a (l.map V.int) ∧ l.length < 100 ∧
  (pairs l = none → Q .non H) ∧ ∀ ps H' p, pairs l = some ps → Same H H' → H p = none → Sq prO H' p ps → Q (.ref p) H'
def spReadC (K : PySem.W.Frag) : Sp := fun vs H Q _ => ∃ (a : Addr) (l : List Int), vs = [.ref a] ∧ SqL K H a (l.map V.int) ∧ l.length < 100 ∧
  (∀ H', Same H H' → Cp09.chordsOf l = none → Q .non H') ∧ ∀ cs H' p, Same H H' → Cp09.chordsOf l = some cs → (∀ c ∈ cs, ChordOk c) → cs.length ≤ 50 → H p = none → Sq chO H' p cs → Q (.ref p) H'
def spReadK (K : PySem.W.Frag) : Sp := fun vs H Q _ => ∃ (a : Addr) (l : List Int), vs = [.ref a] ∧ SqL K H a (l.map V.int) ∧ l.length < 100 ∧
  (∀ H', Same H H' → Cp09.keysOf l = none → Q .non H') ∧ ∀ ks H' p, Same H H' → Cp09.keysOf l = some ks → (∀ k ∈ ks, KeyOk k) → ks.length ≤ 50 → H p = none → Sq kyO H' p ks → Q (.ref p) H'
theorem keys_take (i : Nat) (h : i < 2) : Cp09.keys.take (12 * (i + 1)) = Cp09.keys.take (12 * i) ++ (List.range 12).map fun t => (⟨t, i⟩ : Ky) := by
  have k : ∀ i < 2, Cp09.keys.take (12 * (i + 1)) = Cp09.keys.take (12 * i) ++ (List.range 12).map fun t => (⟨t, i⟩ : Ky) := by decide +kernel
  exact k i h
section
variable {P : Program} {w : World} {K : PySem.W.Frag} {mg : Str → Option Value} {base : Heap} {CP CW CR CD : Addr} {f : Addr} {fd : FuncData}
theorem ok_all (T : Tx K mg CP CW CR CD) (F : Fun K "all_keys" "all_keys" sAll f fd) : FnOk P w K mg base CX0 1 f fd [] spAll := by
  refine F.ok scAll (fun vs H Q E h => ?_) (fun cdv A outer s H vs Q E hr h => ?_)
  · obtain ⟨rfl, _⟩ := h; rfl
  · obtain ⟨rfl, q⟩ := h
    refine ⟨_, pss_cons (ps_set (i := 0) scAll.nd rfl (.inl rfl) (pe_lst pa_nil))
      (pss_cons (ps_for PassesOwn.never rfl (pi_range1 rfl T.fRange (pa_cons (pe_gi T.iMODES) pa_nil)) (pg_name (i := 1) scAll.nd rfl (Or.inr rfl))
        (pss_one (ps_expr (pe_bm PySem.F.plainAttrs_list PySem.F.slot_list_extend PySem.F.type_list_extend mt_extend (pv 0)
          (pa_cons (pe_lc (own := [("tonic", 2)]) (g := gName 2) (tt := tYes) rfl scAll.nd (pi_range1 rfl T.fRange (pa_cons (pe_gi T.iTWELVE) pa_nil)) (blkOk_by (own := [("tonic", 2)]) (N := ["found", "mode", "tonic"]) (sc := defScope sAll) (by decide +kernel))
            (fun _ _ _ _ _ => pg_name (i := 2) scAll.nd rfl (Or.inl rfl)) (fun _ _ _ _ _ => pts_nil) (fun _ _ _ _ _ => pe_tup (pa_cons (pv 1) (pa_cons (pv 2) pa_nil)))) pa_nil)))))
      (pss_one (ps_ret (pv 0)))), ?_⟩
    refine ⟨Nat.zero_le _, fun o no => ?_⟩
    have s1 : Same H (upd H o (.lst [])) := same_upd no
    refine ⟨2, rfl, by decide, by decide, for_range (n := 2) (fun i σ H' => ∃ v2 v3, σ = [some (.ref o), v2, v3] ∧ Same H H' ∧ Sq kyO H' o (Cp09.keys.take (12 * i)))
      ⟨none, none, rfl, s1, [], upd_same, Each.nil⟩ ?_ ?_⟩
    · rintro i σ H2 hi ⟨v2, v3, rfl, s2, ps, h2, e2⟩
      refine ⟨_, rfl, .inl ⟨rfl, _, SqL.of h2⟩, 12, rfl, by decide, by decide, fun D hD => lc_e (o := kyO) (xs := (List.range 12).map fun t => (⟨t, i⟩ : Ky)) kyO_no (by rw [List.length_map, List.length_range]; decide) hD
        (fun j H3 hj _ => by simpa [Itr] using hj) (fun H3 _ => by show (12 : Int).toNat ≤ ((List.range 12).map fun t => (⟨t, i⟩ : Ky)).length; rw [List.length_map, List.length_range]; decide) (fun j x H3 Q3 v H4 hx s3 hy hQ => ?_) (fun H3 qs s3 h3 e3 => ?_)⟩
      · obtain ⟨rfl, rfl⟩ := hy
        rw [List.getElem?_map] at hx
        have hj : j < 12 := by
          by_cases c : j < 12
          · exact c
          · rw [List.getElem?_eq_none (by rw [List.length_range]; omega)] at hx; cases hx
        rw [List.getElem?_range hj] at hx
        cases hx
        refine ⟨rfl, .int (0 + (i : Int)), rfl, .int (0 + (j : Int)), rfl, by show 2 ≤ sizeLine; decide, fun p hp => ?_⟩
        refine hQ p _ (same_upd hp) ?_
        rw [upd_same]
        show some (HO.tup [V.int (0 + (i : Int)), V.int (0 + (j : Int))]) = some (HO.tup [V.int (i : Int), V.int (j : Int)])
        rw [Int.zero_add, Int.zero_add]
      · refine ⟨o, D, _, _, rfl, rfl, s3 _ _ h2, h3, ?_, ?_⟩
        · rw [List.length_map, List.length_map, e2.1, e3.1, List.length_take, List.length_map, List.length_range]
          have : Cp09.keys.length = 24 := by decide
          have : 24 + 12 ≤ sizeLine := by decide
          omega
        · refine ⟨_, _, rfl, fun b u e => ?_, ps ++ qs, ?_, ?_⟩
          · have nb : b ≠ o := ne_of_none e no
            rw [upd_ne nb]
            exact s3 _ _ (s2 _ _ e)
          · rw [upd_same, List.map_append]
          · have up : ∀ b x, H3 b = some (kyO x) → upd H3 o (.lst (ps.map V.ref ++ qs.map V.ref)) b = some (kyO x) := fun b x e => by
              rw [upd_ne (ne_of e (s3 _ _ h2) (kyO_no x _))]; exact e
            rw [keys_take i hi]
            exact Each.append ⟨e2.1, fun j p x a b => up p x (s3 _ _ (e2.2 j p x a b))⟩ ⟨e3.1, fun j p x a b => up p x (e3.2 j p x a b)⟩
    · rintro σ H2 ⟨v2, v3, rfl, s2, ps, h2, e2⟩
      have z : Cp09.keys.take (12 * 2) = Cp09.keys := by decide +kernel
      rw [z] at e2
      exact ⟨_, rfl, q H2 o s2 no ⟨ps, h2, e2⟩⟩
theorem ok_pairs (T : Tx K mg CP CW CR CD) (F : Fun K "pairs_of" "pairs_of" sPairs f fd) : FnOk P w K mg base CX0 1 f fd ["row"] (spPairs K) := by
  refine F.ok scPairs (fun vs H Q E h => ?_) (fun cdv A outer s H vs Q E hr h => ?_)
  · obtain ⟨a, l, rfl, _⟩ := h; rfl
  · obtain ⟨a, l, rfl, hS, hl, qN, qS⟩ := h
    refine ⟨_, pss_cons (ps_if (pt_cmpR op_eq (pe_op op_mod (pe_callB call_len_seq (by rfl) T.fLen PySem.boot_len (pa_cons (pv 0) pa_nil)) pe_int) pe_int (nomark _)) (pss_one (ps_ret pe_non)) pss_nil)
      (pss_one (ps_ret (pe_lc (own := [("at", 1)]) (g := gName 1) (tt := tYes) rfl scPairs.nd
        (pi_range3 rfl T.fRange (pa_cons pe_int (pa_cons (pe_callB call_len_seq (by rfl) T.fLen PySem.boot_len (pa_cons (pv 0) pa_nil)) (pa_cons pe_int pa_nil))))
        (blkOk_by (own := [("at", 1)]) (N := ["row", "at"]) (sc := defScope sPairs) (by decide +kernel))
        (fun _ _ _ _ _ => pg_name (i := 1) scPairs.nd rfl (Or.inl rfl)) (fun _ _ _ _ _ => pts_nil)
        (fun _ _ _ _ _ => pe_tup (pa_cons (pe_ix (ixL K) (pv 0) (pv 1) (fun _ _ => rfl)) (pa_cons (pe_ix (ixL K) (pv 0) (pe_op op_add (pv 1) pe_int) (fun _ _ => rfl)) pa_nil)))))), ?_⟩
    refine ⟨_, rfl, _, _, rfl, .inl hS, _, _, rfl, rfl, (by show (0 : Int) < 2; decide), rfl, _, rfl, ite2 (fun c => ?_) (fun c => ?_)⟩
    · have c' := V.int.inj (of_decide_eq_true c)
      rw [List.length_map] at c'
      have c2 : l.length % 2 = 1 := by
        have : ((l.length : Int)) % 2 = 1 := c'
        omega
      exact qN (pairs_odd l c2)
    · have c2 : l.length % 2 = 0 := by
        have : ¬ ((l.length : Int)) % 2 = 1 := fun z => c (by
          show decide (V.int (((l.map V.int).length : Int) % 2) = V.int 1) = true
          rw [List.length_map, z]; rfl)
        omega
      obtain ⟨ps, e, el, ei⟩ := pairs_even l c2
      have hps : ps.length = (l.length + 1) / 2 := by omega
      refine ⟨_, rfl, _, _, rfl, .inl hS, 0, ((l.map V.int).length : Int), 2, (l.length + 1) / 2, rfl, by rw [List.length_map]; exact rgc_two l.length hl, fun D hD => lc_e (o := prO) (xs := ps) prO_no (by rw [hps]; exact small1000 (by omega)) hD
        (fun j H3 hj _ => by show j < (l.length + 1) / 2; omega) (fun H3 _ => by show (l.length + 1) / 2 ≤ ps.length; omega) (fun j x H3 Q3 v H4 hx s3 hy hQ => ?_) (fun H3 qs s3 h3 e3 => qS ps H3 D e s3 hD ⟨qs, h3, e3⟩)⟩
      obtain ⟨rfl, rfl⟩ := hy
      obtain ⟨g1, g2⟩ := ei j x hx
      have h1 : (l.map V.int)[2 * j]? = some (.int x.1) := by rw [List.getElem?_map, g1]; rfl
      have h2 : (l.map V.int)[2 * j + 1]? = some (.int x.2) := by rw [List.getElem?_map, g2]; rfl
      refine ⟨rfl, _, rfl, _, rfl, _, _, _, _, rfl, rfl, s3.seq hS, at_of (by show (0 : Int) + (j : Int) * 2 = ((2 * j : Nat) : Int); omega) h1,
        _, rfl, _, rfl, _, _, rfl, rfl, _, _, _, _, rfl, rfl, s3.seq hS, at_of (by show (0 : Int) + (j : Int) * 2 + 1 = ((2 * j + 1 : Nat) : Int); omega) h2, by show 2 ≤ sizeLine; decide, fun p hp => ?_⟩
      exact hQ p _ (same_upd hp) upd_same
theorem below12 (i : Int) : (decide (0 ≤ i) && decide (i < 12)) = Cp09.isIn 0 11 i := by
  rw [Bool.eq_iff_iff, isIn_iff, Bool.and_eq_true, decide_eq_true_iff, decide_eq_true_iff]; omega
theorem below4 (i : Int) : (decide (0 ≤ i) && decide (i < 4)) = Cp09.isIn 0 3 i := by
  rw [Bool.eq_iff_iff, isIn_iff, Bool.and_eq_true, decide_eq_true_iff, decide_eq_true_iff]; omega
theorem below2 (i : Int) : (decide (0 ≤ i) && decide (i < 2)) = Cp09.isIn 0 1 i := by
  rw [Bool.eq_iff_iff, isIn_iff, Bool.and_eq_true, decide_eq_true_iff, decide_eq_true_iff]; omega
theorem sq_toC {H : Hp} {a : Addr} {ps : List (Int × Int)} (h : Sq prO H a ps) (ok : ps.all okC = true) : Sq chO H a (ps.map toC) := by
  obtain ⟨qs, h1, h2⟩ := h
  refine ⟨qs, h1, by rw [List.length_map]; exact h2.1, fun i p x e1 e2 => ?_⟩
  rw [List.getElem?_map] at e2
  cases e : ps[i]? with
  | none => rw [e] at e2; cases e2
  | some y =>
    rw [e] at e2
    cases e2
    have k := toC_ok (List.all_eq_true.mp ok y (List.mem_of_getElem? e))
    rw [h2.2 i p y e1 e]
    show some (HO.tup [V.int y.1, V.int y.2]) = some (HO.tup [V.int ((toC y).root : Int), V.int ((toC y).kind : Int)])
    rw [k.2.1, k.2.2]
theorem ok_readC (T : Tx K mg CP CW CR CD) (DB : DefOk P w K mg base CX0 1 "is_below" ["number", "bound"] spBelow) (DP : DefOk P w K mg base CX0 1 "pairs_of" ["row"] (spPairs K)) (F : Fun K "read_chords" "read_chords" sReadC f fd) :
    FnOk P w K mg base CX0 2 f fd ["row"] (spReadC K) := by
  refine F.ok scReadC (fun vs H Q E h => ?_) (fun cdv A outer s H vs Q E hr h => ?_)
  · obtain ⟨a, l, rfl, _⟩ := h; rfl
  · obtain ⟨a, l, rfl, hS, hl, qN, qS⟩ := h
    refine ⟨_, pss_cons (ps_set (i := 1) scReadC.nd rfl (.inl rfl) (pe_d DP hr pass0 (pa_cons (pv 0) pa_nil)))
      (pss_cons (ps_if (PW.pt (pw_or (pt_cmpR op_isN (pv 1) pe_non (nomark _)) (pw_or1 (pt_not (pt_val (pe_callB (cr_all rfl) (by rfl) T.fAll (by decide +kernel) (pa_cons
        (pe_lc (own := [("root", 2), ("kind", 3)]) (g := gTup K 2 (gCons (gName 2) (gCons (gName 3) gNil))) (tt := tYes) rfl scReadC.nd (pi_list (pv 1)) (blkOk_by (own := [("root", 2), ("kind", 3)]) (N := ["row", "pairs", "root", "kind"]) (sc := defScope sReadC) (by decide +kernel))
          (fun _ _ _ _ _ => pgT K rfl (pgs_cons (pg_name (i := 2) scReadC.nd rfl (Or.inl rfl)) (pgs_cons (pg_name (i := 3) scReadC.nd rfl (Or.inl rfl)) pgs_nil))) (fun _ _ _ _ _ => pts_nil)
          (fun _ _ _ _ _ => pe_and (pe_d DB hr pass0 (pa_cons (pv 2) (pa_cons (pe_gi T.iTWELVE) pa_nil))) (pe_one (pe_d DB hr pass0 (pa_cons (pv 3) (pa_cons (pe_gi T.iKINDS) pa_nil)))))) pa_nil)))))))
        (pss_one (ps_ret pe_non)) pss_nil)
      (pss_one (ps_ret (pv 1)))), ?_⟩
    refine ⟨_, rfl, a, l, rfl, hS, hl, fun e => ?_, fun ps H2 p e s2 hp e2 => ?_⟩
    · refine ⟨_, rfl, rfl, _, rfl, ite2 (fun c => ?_) (fun c => absurd rfl c)⟩
      refine iteT ?_
      refine qN H (Same.refl H) ?_
      by_cases c2 : l.length % 2 = 1
      · exact chordsOf_odd l c2
      · obtain ⟨ps, e', _⟩ := pairs_even l (by omega)
        rw [e] at e'; cases e'
    · obtain ⟨qs, h2, e2'⟩ := e2
      have hlen : ps.length ≤ 50 := by
        by_cases c2 : l.length % 2 = 1
        · rw [pairs_odd l c2] at e; cases e
        · obtain ⟨ps', e', el, _⟩ := pairs_even l (by omega)
          rw [e] at e'; cases e'; omega
      refine ⟨_, rfl, rfl, _, rfl, ite2 (fun c => by cases c) (fun c => ?_)⟩
      refine ⟨_, rfl, p, rfl, ⟨_, SqL.of h2⟩, fun D hD => lc_v (ys := (ps.map okC).map V.bl) (by rw [List.length_map, List.length_map]; exact small1000 (by omega)) hD
        (fun j H3 hj s3 => go_list (s3.seq (SqL.of h2)) (by rw [List.length_map, List.length_map] at hj; rw [List.length_map, e2'.1]; exact hj))
        (fun H3 s3 => by rw [List.length_map, List.length_map, ← e2'.1, ← List.length_map (f := V.ref)]; exact stop_list (s3.seq (SqL.of h2)))
        (fun j y H3 Q3 v H4 hy s3 hv hQ => ?_) (fun H3 s3 h3 => ?_)⟩
      · obtain ⟨rfl, hv⟩ := hv
        obtain ⟨x, hx, rfl⟩ : ∃ x, ps[j]? = some x ∧ y = V.bl (okC x) := by
          rw [List.getElem?_map, List.getElem?_map] at hy
          cases e : ps[j]? with
          | none => rw [e] at hy; cases hy
          | some x => rw [e] at hy; exact ⟨x, rfl, (Option.some.inj hy).symm⟩
        obtain ⟨b, hb, eb⟩ := e2'.get hx
        have ev : v = .ref b := Option.some.inj ((hv _ (s3.seq (SqL.of h2))).symm.trans (get_map hb))
        subst ev
        refine ⟨b, _, rfl, SqT.of (s3 _ _ eb), rfl, _, _, rfl, _, _, rfl, rfl, rfl, ?_⟩
        refine ⟨_, rfl, _, _, rfl, _, rfl, ite2 (fun c1 => ?_) (fun c1 => ?_)⟩
        · refine ⟨_, rfl, _, _, rfl, ?_⟩
          have k := hQ _ (Same.refl _)
          unfold okC at k
          rw [← below12, c1, Bool.true_and, ← below4] at k
          exact k
        · have k := hQ _ (Same.refl _)
          unfold okC at k
          rw [← below12, Bool.eq_false_iff.mpr c1, Bool.false_and] at k
          exact k
      · refine ⟨D, ps.map okC, rfl, SqL.of h3, _, rfl, ?_⟩
        have ea : (ps.map okC).all id = ps.all okC := by rw [List.all_map]; rfl
        rw [ea]
        have ec := chordsOf_pairs l ps e
        cases eo : ps.all okC with
        | true =>
          rw [eo, if_pos rfl] at ec
          refine if_false_of rfl ?_
          refine ⟨_, rfl, qS (ps.map toC) H3 p (s2.trans s3) ec (fun c hc => ?_) (by rw [List.length_map]; omega) hp ((sq_toC ⟨qs, h2, e2'⟩ eo).same s3)⟩
          obtain ⟨x, hx, rfl⟩ := List.mem_map.mp hc
          exact (toC_ok (List.all_eq_true.mp eo x hx)).1
        | false =>
          rw [eo, if_neg Bool.false_ne_true] at ec
          refine if_true_of rfl ?_
          exact qN H3 (s2.trans s3) ec
theorem ok_readK (T : Tx K mg CP CW CR CD) (DB : DefOk P w K mg base CX0 1 "is_below" ["number", "bound"] spBelow) (DP : DefOk P w K mg base CX0 1 "pairs_of" ["row"] (spPairs K)) (F : Fun K "read_keys" "read_keys" sReadK f fd) :
    FnOk P w K mg base CX0 2 f fd ["row"] (spReadK K) := by
  refine F.ok scReadK (fun vs H Q E h => ?_) (fun cdv A outer s H vs Q E hr h => ?_)
  · obtain ⟨a, l, rfl, _⟩ := h; rfl
  · obtain ⟨a, l, rfl, hS, hl, qN, qS⟩ := h
    refine ⟨_, pss_cons (ps_set (i := 1) scReadK.nd rfl (.inl rfl) (pe_d DP hr pass0 (pa_cons (pv 0) pa_nil)))
      (pss_cons (ps_if (PW.pt (pw_or (pt_cmpR op_isN (pv 1) pe_non (nomark _)) (pw_or1 (pt_not (pt_val (pe_callB (cr_all rfl) (by rfl) T.fAll (by decide +kernel) (pa_cons
        (pe_lc (own := [("tonic", 2), ("mode", 3)]) (g := gTup K 2 (gCons (gName 2) (gCons (gName 3) gNil))) (tt := tYes) rfl scReadK.nd (pi_list (pv 1)) (blkOk_by (own := [("tonic", 2), ("mode", 3)]) (N := ["row", "pairs", "tonic", "mode"]) (sc := defScope sReadK) (by decide +kernel))
          (fun _ _ _ _ _ => pgT K rfl (pgs_cons (pg_name (i := 2) scReadK.nd rfl (Or.inl rfl)) (pgs_cons (pg_name (i := 3) scReadK.nd rfl (Or.inl rfl)) pgs_nil))) (fun _ _ _ _ _ => pts_nil)
          (fun _ _ _ _ _ => pe_and (pe_d DB hr pass0 (pa_cons (pv 2) (pa_cons (pe_gi T.iTWELVE) pa_nil))) (pe_one (pe_d DB hr pass0 (pa_cons (pv 3) (pa_cons (pe_gi T.iMODES) pa_nil)))))) pa_nil)))))))
        (pss_one (ps_ret pe_non)) pss_nil)
      (pss_one (ps_ret (pe_lc (own := [("tonic", 2), ("mode", 3)]) (g := gTup K 2 (gCons (gName 2) (gCons (gName 3) gNil))) (tt := tYes) rfl scReadK.nd (pi_list (pv 1)) (blkOk_by (own := [("tonic", 2), ("mode", 3)]) (N := ["row", "pairs", "tonic", "mode"]) (sc := defScope sReadK) (by decide +kernel))
          (fun _ _ _ _ _ => pgT K rfl (pgs_cons (pg_name (i := 2) scReadK.nd rfl (Or.inl rfl)) (pgs_cons (pg_name (i := 3) scReadK.nd rfl (Or.inl rfl)) pgs_nil))) (fun _ _ _ _ _ => pts_nil)
          (fun _ _ _ _ _ => pe_tup (pa_cons (pv 3) (pa_cons (pv 2) pa_nil))))))), ?_⟩
    refine ⟨_, rfl, a, l, rfl, hS, hl, fun e => ?_, fun ps H2 p e s2 hp e2 => ?_⟩
    · refine ⟨_, rfl, rfl, _, rfl, ite2 (fun c => ?_) (fun c => absurd rfl c)⟩
      refine iteT ?_
      refine qN H (Same.refl H) ?_
      by_cases c2 : l.length % 2 = 1
      · exact keysOf_odd l c2
      · obtain ⟨ps, e', _⟩ := pairs_even l (by omega)
        rw [e] at e'; cases e'
    · obtain ⟨qs, h2, e2'⟩ := e2
      have hlen : ps.length ≤ 50 := by
        by_cases c2 : l.length % 2 = 1
        · rw [pairs_odd l c2] at e; cases e
        · obtain ⟨ps', e', el, _⟩ := pairs_even l (by omega)
          rw [e] at e'; cases e'; omega
      have goL : ∀ j H3, Same H2 H3 → j < ps.length → (Itl K p).go j H3 := fun j H3 s3 hj => go_list (s3.seq (SqL.of h2)) (by rw [List.length_map, e2'.1]; exact hj)
      have stL : ∀ H3, Same H2 H3 → (Itl K p).stop ps.length H3 := fun H3 s3 => by rw [← e2'.1, ← List.length_map (f := V.ref)]; exact stop_list (s3.seq (SqL.of h2))
      refine ⟨_, rfl, rfl, _, rfl, ite2 (fun c => by cases c) (fun c => ?_)⟩
      refine ⟨_, rfl, p, rfl, ⟨_, SqL.of h2⟩, fun D hD => lc_v (ys := (ps.map okY).map V.bl) (by rw [List.length_map, List.length_map]; exact small1000 (by omega)) hD
        (fun j H3 hj s3 => goL j H3 s3 (by rw [List.length_map, List.length_map] at hj; exact hj))
        (fun H3 s3 => by rw [List.length_map, List.length_map]; exact stL H3 s3)
        (fun j y H3 Q3 v H4 hy s3 hv hQ => ?_) (fun H3 s3 h3 => ?_)⟩
      · obtain ⟨rfl, hv⟩ := hv
        obtain ⟨x, hx, rfl⟩ : ∃ x, ps[j]? = some x ∧ y = V.bl (okY x) := by
          rw [List.getElem?_map, List.getElem?_map] at hy
          cases e : ps[j]? with
          | none => rw [e] at hy; cases hy
          | some x => rw [e] at hy; exact ⟨x, rfl, (Option.some.inj hy).symm⟩
        obtain ⟨b, hb, eb⟩ := e2'.get hx
        have ev : v = .ref b := Option.some.inj ((hv _ (s3.seq (SqL.of h2))).symm.trans (get_map hb))
        subst ev
        refine ⟨b, _, rfl, SqT.of (s3 _ _ eb), rfl, _, _, rfl, _, _, rfl, rfl, rfl, ?_⟩
        refine ⟨_, rfl, _, _, rfl, _, rfl, ite2 (fun c1 => ?_) (fun c1 => ?_)⟩
        · refine ⟨_, rfl, _, _, rfl, ?_⟩
          have k := hQ _ (Same.refl _)
          unfold okY at k
          rw [← below12, c1, Bool.true_and, ← below2] at k
          exact k
        · have k := hQ _ (Same.refl _)
          unfold okY at k
          rw [← below12, Bool.eq_false_iff.mpr c1, Bool.false_and] at k
          exact k
      · refine ⟨D, ps.map okY, rfl, SqL.of h3, _, rfl, ?_⟩
        have ea : (ps.map okY).all id = ps.all okY := by rw [List.all_map]; rfl
        rw [ea]
        have ec := keysOf_pairs l ps e
        cases eo : ps.all okY with
        | true =>
          rw [eo, if_pos rfl] at ec
          refine if_false_of rfl ?_
          refine ⟨_, rfl, p, rfl, ⟨_, s3.seq (SqL.of h2)⟩, fun D2 hD2 => lc_e (o := kyO) (xs := ps.map toY) kyO_no (by rw [List.length_map]; exact small1000 (by omega)) hD2
            (fun j H4 hj s4 => goL j H4 (s3.trans s4) (by rw [List.length_map] at hj; exact hj)) (fun H4 s4 => by rw [List.length_map]; exact stL H4 (s3.trans s4)) (fun j x H4 Q4 v H5 hx s4 hv hQ => ?_) (fun H4 rs s4 h4 e4 => ?_)⟩
          · obtain ⟨rfl, hv⟩ := hv
            rw [List.getElem?_map] at hx
            obtain ⟨y, hy, rfl⟩ : ∃ y, ps[j]? = some y ∧ x = toY y := by
              cases e : ps[j]? with
              | none => rw [e] at hx; cases hx
              | some y => rw [e] at hx; exact ⟨y, rfl, (Option.some.inj hx).symm⟩
            obtain ⟨b, hb, eb⟩ := e2'.get hy
            have ev : v = .ref b := Option.some.inj ((hv _ ((s3.trans s4).seq (SqL.of h2))).symm.trans (get_map hb))
            subst ev
            refine ⟨b, _, rfl, SqT.of (s4 _ _ (s3 _ _ eb)), rfl, _, _, rfl, _, _, rfl, rfl, rfl, _, rfl, _, rfl, by show 2 ≤ sizeLine; decide, fun t ht => ?_⟩
            refine hQ t _ (same_upd ht) ?_
            rw [upd_same]
            have k := toY_ok (List.all_eq_true.mp eo y (List.mem_of_getElem? hy))
            show some (HO.tup [V.int y.2, V.int y.1]) = some (HO.tup [V.int ((toY y).mode : Int), V.int ((toY y).tonic : Int)])
            rw [k.2.1, k.2.2]
          · have n3 : H3 D2 = none := hD2
            refine qS (ps.map toY) H4 D2 (s2.trans (s3.trans s4)) ec (fun c hc => ?_) (by rw [List.length_map]; omega) ((s2.trans s3).free n3) ⟨rs, h4, e4⟩
            obtain ⟨x, hx, rfl⟩ := List.mem_map.mp hc
            exact (toY_ok (List.all_eq_true.mp eo x hx)).1
        | false =>
          rw [eo, if_neg Bool.false_ne_true] at ec
          refine if_true_of rfl ?_
          exact qN H3 (s2.trans s3) ec
end
end CK
namespace CK
open PySem PySem.Spec PyProof.Rows L2
abbrev cPr : Stmt := top 24
abbrev sPInit : Stmt := inClass cPr 0
abbrev sPut : Stmt := inClass cPr 1
abbrev sKnow : Stmt := inClass cPr 2
abbrev sOfC : Stmt := inClass cPr 3
abbrev sOfS : Stmt := inClass cPr 4
abbrev sOfE : Stmt := inClass cPr 5
theorem scPInit : FnScope ["self", "mode", "degree", "kind", "price"] ["self"] (defScope sPInit) := ⟨rfl, rfl, rfl, by decide +kernel, rfl, by decide +kernel, by decide +kernel⟩
theorem scPut : FnScope ["self", "change", "fifth", "other_mode", "end"] ["self", "change", "fifth", "other_mode", "end"] (defScope sPut) := ⟨rfl, rfl, rfl, by decide +kernel, rfl, by decide +kernel, by decide +kernel⟩
theorem scKnow : FnScope ["self", "mode", "degree", "kind", "price", "elder"] ["self", "mode", "degree", "kind", "price"] (defScope sKnow) := ⟨rfl, rfl, rfl, by decide +kernel, rfl, by decide +kernel, by decide +kernel⟩
theorem scOfC : FnScope ["self", "chord", "key"] ["self", "chord", "key"] (defScope sOfC) := ⟨rfl, rfl, rfl, by decide +kernel, rfl, by decide +kernel, by decide +kernel⟩
theorem scOfS : FnScope ["self", "one", "other", "found"] ["self", "one", "other"] (defScope sOfS) := ⟨rfl, rfl, rfl, by decide +kernel, rfl, by decide +kernel, by decide +kernel⟩
theorem scOfE : FnScope ["self", "chords", "keys"] ["self", "chords", "keys"] (defScope sOfE) := ⟨rfl, rfl, rfl, by decide +kernel, rfl, by decide +kernel, by decide +kernel⟩
/-! ### fields -/
theorem lk_here {k : Str} {v : V} {r : List (Str × V)} : List.lookup k ((k, v) :: r) = some v := by
  have e : (k == k) = true := beq_self_eq_true k
  simp only [List.lookup, e]
theorem lk_past {k g : Str} {v : V} {r : List (Str × V)} (h : (k == g) = false) : List.lookup k ((g, v) :: r) = List.lookup k r := by
  simp only [List.lookup, h]
theorem put_here {f : Str} {v x : V} {r : List (Str × V)} : putF f v ((f, x) :: r) = (f, v) :: r := if_pos rfl
theorem put_past {f g : Str} {v x : V} {r : List (Str × V)} (h : ¬ g = f) : putF f v ((g, x) :: r) = (g, x) :: putF f v r := if_neg h
theorem put_nil {f : Str} {v : V} : putF f v [] = [(f, v)] := rfl
/-! ### the table -/
def prF (a b c e : Int) (d : Addr) : List (Str × V) := [("change", .int a), ("fifth", .int b), ("other_mode", .int c), ("end", .int e), ("told", .ref d)]
abbrev prQ (q : Tb) (d : Addr) : List (Str × V) := prF q.change q.fifth q.mode q.open_ d
theorem prF_change {a b c e z : Int} {d : Addr} : putF "change" (.int z) (prF a b c e d) = prF z b c e d := put_here
theorem prF_fifth {a b c e z : Int} {d : Addr} : putF "fifth" (.int z) (prF a b c e d) = prF a z c e d := (put_past (by decide +kernel)).trans (congrArg _ put_here)
theorem prF_mode {a b c e z : Int} {d : Addr} : putF "other_mode" (.int z) (prF a b c e d) = prF a b z e d := (put_past (by decide +kernel)).trans (congrArg _ ((put_past (by decide +kernel)).trans (congrArg _ put_here)))
theorem prF_end {a b c e z : Int} {d : Addr} : putF "end" (.int z) (prF a b c e d) = prF a b c z d := (put_past (by decide +kernel)).trans (congrArg _ ((put_past (by decide +kernel)).trans (congrArg _ ((put_past (by decide +kernel)).trans (congrArg _ put_here)))))
theorem lkP_change {a b c e : Int} {d : Addr} : (prF a b c e d).lookup ("change" : Str) = some (.int a) := lk_here
theorem lkP_fifth {a b c e : Int} {d : Addr} : (prF a b c e d).lookup ("fifth" : Str) = some (.int b) := (lk_past (by decide +kernel)).trans lk_here
theorem lkP_mode {a b c e : Int} {d : Addr} : (prF a b c e d).lookup ("other_mode" : Str) = some (.int c) := (lk_past (by decide +kernel)).trans ((lk_past (by decide +kernel)).trans lk_here)
theorem lkP_end {a b c e : Int} {d : Addr} : (prF a b c e d).lookup ("end" : Str) = some (.int e) := (lk_past (by decide +kernel)).trans ((lk_past (by decide +kernel)).trans ((lk_past (by decide +kernel)).trans lk_here))
theorem lkP_told {a b c e : Int} {d : Addr} : (prF a b c e d).lookup ("told" : Str) = some (.ref d) := (lk_past (by decide +kernel)).trans ((lk_past (by decide +kernel)).trans ((lk_past (by decide +kernel)).trans ((lk_past (by decide +kernel)).trans lk_here)))
/-- a method's name is none of the attributes -/
theorem lkP_none {a b c e : Int} {d : Addr} {m : Str} (h : (m == "change" || m == "fifth" || m == "other_mode" || m == "end" || m == "told") = false) : (prF a b c e d).lookup m = none := by
  simp only [Bool.or_eq_false_iff] at h
  obtain ⟨⟨⟨⟨h1, h2⟩, h3⟩, h4⟩, h5⟩ := h
  exact (lk_past h1).trans ((lk_past h2).trans ((lk_past h3).trans ((lk_past h4).trans ((lk_past h5).trans rfl))))
def ky3 (m a k : Nat) : List L2.Key := [.inl (m : Int), .inl (a : Int), .inl (k : Int)]
def Tells (kvs : List (List L2.Key × V)) (l : List Cp09.Known) : Prop := ∀ m a k : Nat, valV kvs (ky3 m a k) = (l.find? fun x => x.mode == m && (x.at_ == a && x.kind == k)).map fun x => V.int (x.price : Int)
structure PrAt (CP : Addr) (H : Hp) (p d : Addr) (q : Tb) (n : Nat) : Prop where
  obj : ∃ dx, H p = some (.ins CP dx (prQ q d))
  dict : ∃ kvs, H d = some (.dT kvs) ∧ Tells kvs q.known ∧ kvs.length ≤ n
theorem PrAt.same {CP : Addr} {H H' : Hp} {p d : Addr} {q : Tb} {n : Nat} (h : PrAt CP H p d q n) (s : Same H H') : PrAt CP H' p d q n := by
  obtain ⟨⟨dx, h1⟩, ⟨kvs, h2, h3⟩⟩ := h
  exact ⟨⟨dx, s _ _ h1⟩, ⟨kvs, s _ _ h2, h3⟩⟩
structure TbOk (q : Tb) : Prop where
  ch : q.change ≤ 20
  fi : q.fifth ≤ 20
  mo : q.mode ≤ 20
  op : q.open_ ≤ 20
  kn : ∀ x ∈ q.known, x.price ≤ 100
theorem TbOk.own {q : Tb} (h : TbOk q) (k : Ky) (c : Ch) : Cp09.own q k c ≤ 100 := by
  unfold Cp09.own
  cases e : q.known.find? (fun x => x.mode == k.mode && (x.at_ == Cp09.degree k c && x.kind == c.kind)) with
  | none => exact Nat.le_refl _
  | some x => exact h.kn x (List.mem_of_find?_eq_some e)
theorem TbOk.going {q : Tb} (h : TbOk q) (k x : Ky) : Cp09.going q k x ≤ 280 := by
  unfold Cp09.going
  have := far_le k.tonic x.tonic
  have := h.ch; have := h.fi; have := h.mo
  have : q.fifth * Cp09.far k.tonic x.tonic ≤ 20 * 12 := Nat.mul_le_mul (by assumption) (by assumption)
  split
  · omega
  · split <;> omega
theorem ky3_inj {m a k m' a' k' : Nat} (h : ky3 m a k = ky3 m' a' k') : m = m' ∧ a = a' ∧ k = k' := by
  unfold ky3 at h
  injection h with h1 h2
  injection h2 with h2 h3
  injection h3 with h3 _
  injection h1 with h1; injection h2 with h2; injection h3 with h3
  omega
theorem Tells.map : ∀ (l : List Cp09.Known), Tells (l.map fun x => (ky3 x.mode x.at_ x.kind, V.int (x.price : Int))) l
  | [], _, _, _ => rfl
  | x :: r, m, a, k => by
    have ih := Tells.map r m a k
    rw [List.map_cons]
    by_cases h : ky3 x.mode x.at_ x.kind = ky3 m a k
    · rw [valV_pos (p := (ky3 x.mode x.at_ x.kind, V.int (x.price : Int))) h]
      obtain ⟨h1, h2, h3⟩ := ky3_inj h
      rw [List.find?_cons_of_pos (by simp [h1, h2, h3])]; rfl
    · rw [valV_neg (p := (ky3 x.mode x.at_ x.kind, V.int (x.price : Int))) h, ih, List.find?_cons_of_neg]
      intro z
      simp at z
      exact h (by rw [z.1, z.2.1, z.2.2])
theorem find_filter {l : List Cp09.Known} (p s : Cp09.Known → Bool) : (l.filter p).find? s = l.find? fun x => p x && s x := by
  induction l with
  | nil => rfl
  | cons a r ih =>
    cases e : p a with
    | true =>
      rw [List.filter_cons_of_pos e]
      by_cases h : s a = true
      · rw [List.find?_cons_of_pos h, List.find?_cons_of_pos (by rw [e, h]; rfl)]
      · rw [List.find?_cons_of_neg h, List.find?_cons_of_neg (by rw [e]; simpa using h), ih]
    | false => rw [List.filter_cons_of_neg (by simp [e]), List.find?_cons_of_neg (by simp [e]), ih]
theorem find_congr {l : List Cp09.Known} {p s : Cp09.Known → Bool} (h : ∀ x, p x = s x) : l.find? p = l.find? s := by
  have : p = s := funext h
  rw [this]
theorem Tells.put {kvs : List (List L2.Key × V)} {l : List Cp09.Known} (h : Tells kvs l) (m a k p : Nat) :
    Tells (putK kvs (ky3 m a k) (.int (p : Int))) (l.filter (fun y => !(y.mode == m && (y.at_ == a && y.kind == k))) ++ [⟨m, a, k, p⟩]) := by
  intro m' a' k'
  rw [valV_put, List.find?_append, find_filter]
  by_cases e : ky3 m' a' k' = ky3 m a k
  · obtain ⟨rfl, rfl, rfl⟩ := ky3_inj e
    rw [if_pos rfl]
    have z : (l.find? fun x => (!(x.mode == m' && (x.at_ == a' && x.kind == k'))) && (x.mode == m' && (x.at_ == a' && x.kind == k'))) = none := by
      rw [List.find?_eq_none]
      intro x _
      cases (x.mode == m' && (x.at_ == a' && x.kind == k')) <;> simp
    rw [z]
    simp [List.find?]
  · rw [if_neg e, h m' a' k']
    have ne : ¬ (m = m' ∧ a = a' ∧ k = k') := fun z => e (by rw [z.1, z.2.1, z.2.2])
    have z : (l.find? fun x => (!(x.mode == m && (x.at_ == a && x.kind == k))) && (x.mode == m' && (x.at_ == a' && x.kind == k'))) = l.find? fun x => x.mode == m' && (x.at_ == a' && x.kind == k') := by
      refine find_congr fun x => ?_
      by_cases c : x.mode = m' ∧ x.at_ = a' ∧ x.kind = k'
      · have : ¬ (x.mode = m ∧ x.at_ = a ∧ x.kind = k) := fun y => ne ⟨y.1.symm.trans c.1, y.2.1.symm.trans c.2.1, y.2.2.symm.trans c.2.2⟩
        have h1 : (x.mode == m && (x.at_ == a && x.kind == k)) = false := by
          rw [Bool.eq_false_iff]; intro y; simp at y; exact this y
        rw [h1]; rfl
      · have h1 : (x.mode == m' && (x.at_ == a' && x.kind == k')) = false := by
          rw [Bool.eq_false_iff]; intro y; simp at y; exact c y
        rw [h1, Bool.and_false]
    rw [z]
    have y : ([⟨m, a, k, p⟩] : List Cp09.Known).find? (fun x => x.mode == m' && (x.at_ == a' && x.kind == k')) = none := by
      rw [List.find?_cons_of_neg]
      · rfl
      · intro y; simp at y; exact ne y
    rw [y, Option.or_none]
theorem put_len (kvs : List (List L2.Key × V)) (k : List L2.Key) (v : V) : (putK kvs k v).length ≤ kvs.length + 1 := by
  unfold putK
  split
  · rw [List.length_map]; omega
  · rw [List.length_append]; exact Nat.le_refl _
/-! ### promises -/
def spPInit (CP : Addr) : Sp := fun vs H Q _ => ∃ p dx, vs = [.ref p] ∧ H p = some (.ins CP dx []) ∧
  ∀ H' d, PrAt CP H' p d Cp09.table0 17 → H d = none → (∀ b o, H b = some o → b ≠ p → H' b = some o) → Q .non H'
def spPut (CP : Addr) : Sp := fun vs H Q _ => ∃ (p d : Addr) (q : Tb) (n : Nat) (a b c e : Nat), vs = [.ref p, .int a, .int b, .int c, .int e] ∧ PrAt CP H p d q n ∧
  ∀ H', PrAt CP H' p d { q with change := a, fifth := b, mode := c, open_ := e } n → (∀ b o, H b = some o → b ≠ p → H' b = some o) → Q .non H'
def knowT (q : Tb) (m a k p : Nat) : Tb := { q with known := q.known.filter (fun y => !(y.mode == m && (y.at_ == a && y.kind == k))) ++ [⟨m, a, k, p⟩] }
def spKnow (CP : Addr) : Sp := fun vs H Q _ => ∃ (p d : Addr) (q : Tb) (n : Nat) (m a k r : Nat), vs = [.ref p, .int m, .int a, .int k, .int r] ∧ PrAt CP H p d q n ∧ n < 1000 ∧
  ∀ H', PrAt CP H' p d (knowT q m a k r) (n + 1) → (∀ b o, H b = some o → b ≠ d → H' b = some o) →
    Q (.int ((((q.known.find? fun y => y.mode == m && (y.at_ == a && y.kind == k)).map fun y => y.price).getD Cp09.NO : Nat) : Int)) H'
def spOfC (CP : Addr) : Sp := fun vs H Q _ => ∃ (p d a b : Addr) (q : Tb) (n : Nat) (c : Ch) (k : Ky), vs = [.ref p, .ref a, .ref b] ∧ PrAt CP H p d q n ∧ H a = some (chO c) ∧ H b = some (kyO k) ∧ ChordOk c ∧ KeyOk k ∧
  ∀ H', Same H H' → Q (.int (Cp09.own q k c : Int)) H'
def spOfS (CP : Addr) : Sp := fun vs H Q _ => ∃ (p d a b : Addr) (q : Tb) (n : Nat) (k x : Ky), vs = [.ref p, .ref a, .ref b] ∧ PrAt CP H p d q n ∧ TbOk q ∧ H a = some (kyO k) ∧ H b = some (kyO x) ∧ KeyOk k ∧ KeyOk x ∧
  ∀ H', Same H H' → Q (.int (Cp09.going q k x : Int)) H'
def spOfE (CP : Addr) : Sp := fun vs H Q _ => ∃ (p d a b : Addr) (q : Tb) (n : Nat) (cs : List Ch) (ks : List Ky), vs = [.ref p, .ref a, .ref b] ∧ PrAt CP H p d q n ∧ Sq chO H a cs ∧ Sq kyO H b ks ∧ (∀ c ∈ cs, ChordOk c) ∧ (∀ k ∈ ks, KeyOk k) ∧ cs.length ≤ 2 ∧ (1 < cs.length → ks.length = 2) ∧
  ∀ H', Same H H' → Q (.int (endOf q cs ks : Int)) H'
section
variable {P : Program} {w : World} {K : PySem.W.Frag} {mg : Str → Option Value} {base : Heap} {CP CW CR CD : Addr} {f : Addr} {fd : FuncData}
theorem ok_put (T : Tx K mg CP CW CR CD) (F : Fun K "put" "Prices.put" sPut f fd) : FnOk P w K mg base CX0 1 f fd ["self", "change", "fifth", "other_mode", "end"] (spPut CP) := by
  refine F.ok scPut (fun vs H Q E h => ?_) (fun cdv A outer s H vs Q E hr h => ?_)
  · obtain ⟨p, d, q, n, a, b, c, e, rfl, _⟩ := h; rfl
  · obtain ⟨p, d, q, n, a, b, c, e, rfl, ⟨⟨dx, h1⟩, kvs, h2, h3⟩, hq⟩ := h
    refine ⟨_, pss_cons (ps_fld (pv 0) (pv 1) rfl) (pss_cons (ps_fld (pv 0) (pv 2) rfl) (pss_cons (ps_fld (pv 0) (pv 3) rfl) (pss_one (ps_fld (pv 0) (pv 4) rfl)))), ?_⟩
    have up : ∀ {H : Hp} {fs gs : List (Str × V)}, fs = gs → upd H p (.ins CP dx fs) p = some (.ins CP dx gs) := fun e => by rw [upd_same, e]
    refine ⟨_, rfl, _, rfl, p, CP, dx, _, rfl, h1, T.cP, T.nP _ (by decide +kernel), (by show 5 < 1000; decide), ?_⟩
    refine ⟨_, rfl, _, rfl, p, CP, dx, _, rfl, up prF_change, T.cP, T.nP _ (by decide +kernel), (by show 5 < 1000; decide), ?_⟩
    refine ⟨_, rfl, _, rfl, p, CP, dx, _, rfl, up prF_fifth, T.cP, T.nP _ (by decide +kernel), (by show 5 < 1000; decide), ?_⟩
    refine ⟨_, rfl, _, rfl, p, CP, dx, _, rfl, up prF_mode, T.cP, T.nP _ (by decide +kernel), (by show 5 < 1000; decide), ?_⟩
    have nd : d ≠ p := ne_of h2 h1 (fun z => by cases z)
    refine hq _ ⟨⟨dx, up prF_end⟩, kvs, ?_, h3⟩ fun b o e hb => ?_
    · rw [upd_ne nd, upd_ne nd, upd_ne nd, upd_ne nd]; exact h2
    · rw [upd_ne hb, upd_ne hb, upd_ne hb, upd_ne hb]; exact e
theorem ok_ofC (T : Tx K mg CP CW CR CD) (DD : DefOk P w K mg base CX0 1 "degree_of" ["chord", "key"] spDegree) (F : Fun K "of_chord" "Prices.of_chord" sOfC f fd) : FnOk P w K mg base CX0 2 f fd ["self", "chord", "key"] (spOfC CP) := by
  refine F.ok scOfC (fun vs H Q E h => ?_) (fun cdv A outer s H vs Q E hr h => ?_)
  · obtain ⟨p, d, a, b, q, n, c, k, rfl, _⟩ := h; rfl
  · obtain ⟨p, d, a, b, q, n, c, k, rfl, ⟨⟨dx, h1⟩, kvs, h2, h3, h4⟩, ha, hb, hc, hk, hq⟩ := h
    refine ⟨_, pss_one (ps_ret (pe_dget2 (hu_of hr) (pe_fld (pv 0) rfl) (pe_tup (pa_cons (pe_ix ix_tup (pv 2) pe_int (fun _ _ => rfl)) (pa_cons (pe_d DD hr pass0 (pa_cons (pv 1) (pa_cons (pv 2) pa_nil))) (pa_cons (pe_ix ix_tup (pv 1) pe_int (fun _ _ => rfl)) pa_nil)))) (pe_gi T.iCANT) ⟨rfl, rfl, rfl, rfl⟩)), ?_⟩
    refine ⟨_, rfl, p, CP, dx, _, _, rfl, h1, T.cP, T.nP _ (by decide +kernel), lkP_told, d, rfl, .inr ⟨_, .inl h2⟩, ?_⟩
    refine ⟨_, rfl, _, _, _, _, rfl, rfl, SqT.of hb, atI_nat (j := 0) rfl, _, rfl, _, rfl, a, b, c, k, rfl, ha, hb, hc, hk, _, rfl, _, _, _, _, rfl, rfl, SqT.of ha, atI_nat (j := 1) rfl, (by show 3 ≤ sizeLine; decide), fun t ht => ?_⟩
    have s1 : Same H (upd H t (.tup [.int (k.mode : Int), .int (Cp09.degree k c : Int), .int (c.kind : Int)])) := same_upd ht
    refine ⟨_, DGet.t (k := ky3 k.mode (Cp09.degree k c) c.kind) (s1 _ _ h2) upd_same, ?_⟩
    rw [h3]
    have k2 := hq _ s1
    unfold Cp09.own at k2
    cases e : q.known.find? (fun x => x.mode == k.mode && (x.at_ == Cp09.degree k c && x.kind == c.kind)) with
    | none => rw [e] at k2; exact k2
    | some x => rw [e] at k2; exact k2
theorem ok_know (T : Tx K mg CP CW CR CD) (F : Fun K "know" "Prices.know" sKnow f fd) : FnOk P w K mg base CX0 1 f fd ["self", "mode", "degree", "kind", "price"] (spKnow CP) := by
  refine F.ok scKnow (fun vs H Q E h => ?_) (fun cdv A outer s H vs Q E hr h => ?_)
  · obtain ⟨p, d, q, n, m, a, k, r, rfl, _⟩ := h; rfl
  · obtain ⟨p, d, q, n, m, a, k, r, rfl, ⟨⟨dx, h1⟩, kvs, h2, h3, h4⟩, hn, hq⟩ := h
    refine ⟨_, pss_cons (ps_set (i := 5) scKnow.nd rfl (Or.inl rfl) (pe_dget2 (hu_of hr) (pe_fld (pv 0) rfl) (pe_tup (pa_cons (pv 1) (pa_cons (pv 2) (pa_cons (pv 3) pa_nil)))) (pe_gi T.iCANT) ⟨rfl, rfl, rfl, rfl⟩))
      (pss_cons (ps_dput (hu_of hr) (pe_fld (pv 0) rfl) (pe_tup (pa_cons (pv 1) (pa_cons (pv 2) (pa_cons (pv 3) pa_nil)))) (pv 4) rfl)
      (pss_one (ps_ret (pv 5)))), ?_⟩
    refine ⟨_, rfl, p, CP, dx, _, _, rfl, h1, T.cP, T.nP _ (by decide +kernel), lkP_told, d, rfl, .inr ⟨_, .inl h2⟩, ?_⟩
    refine ⟨_, rfl, _, rfl, _, rfl, (by show 3 ≤ sizeLine; decide), fun t ht => ?_⟩
    have s1 : Same H (upd H t (.tup [.int (m : Int), .int (a : Int), .int (k : Int)])) := same_upd ht
    refine ⟨_, DGet.t (k := ky3 m a k) (s1 _ _ h2) upd_same, ?_⟩
    refine ⟨_, rfl, _, rfl, p, CP, dx, _, _, rfl, s1 _ _ h1, T.cP, T.nP _ (by decide +kernel), lkP_told, ?_⟩
    refine ⟨_, rfl, _, rfl, _, rfl, (by show 3 ≤ sizeLine; decide), fun t2 ht2 => ?_⟩
    have s2 := same_upd (o := .tup [.int (m : Int), .int (a : Int), .int (k : Int)]) ht2
    refine ⟨d, _, rfl, DPut.t (k := ky3 m a k) (s2 _ _ (s1 _ _ h2)) upd_same (small1000 (by omega)), _, rfl, ?_⟩
    have npd : p ≠ d := ne_of h1 h2 (fun z => by cases z)
    have k2 := hq _ (⟨⟨dx, by rw [upd_ne npd]; exact s2 _ _ (s1 _ _ h1)⟩, _, upd_same, Tells.put h3 m a k r, Nat.le_trans (put_len _ _ _) (by omega)⟩ : PrAt CP (upd (upd (upd H t _) t2 _) d (.dT (putK kvs (ky3 m a k) (.int (r : Int))))) p d (knowT q m a k r) (n + 1))
      (fun b o e hb => by rw [upd_ne hb]; exact s2 _ _ (s1 _ _ e))
    rw [h3]
    cases e : q.known.find? (fun x => x.mode == m && (x.at_ == a && x.kind == k)) with
    | none => rw [e] at k2; exact k2
    | some x => rw [e] at k2; exact k2
theorem eq_keys (k x : Ky) : PyData.eqv (.tuple [.int (k.mode : Int), .int (k.tonic : Int)]) (.tuple [.int (x.mode : Int), .int (x.tonic : Int)]) = decide (k = x) := by
  have e : PyData.eqv (.tuple [.int (k.mode : Int), .int (k.tonic : Int)]) (.tuple [.int (x.mode : Int), .int (x.tonic : Int)]) = ((k.mode : Int) == (x.mode : Int) && ((k.tonic : Int) == (x.tonic : Int) && true)) := rfl
  rw [e, Bool.and_true]
  obtain ⟨t, m⟩ := k
  obtain ⟨t', m'⟩ := x
  rw [Bool.eq_iff_iff, Bool.and_eq_true, beq_iff_eq, beq_iff_eq, decide_eq_true_iff, Cp09.Key.mk.injEq]
  dsimp only
  omega
theorem dp_key {H : Hp} {a : Addr} {k : Ky} (h : H a = some (kyO k)) : Dp K H (.ref a) (.tuple [.int (k.mode : Int), .int (k.tonic : Int)]) := .tup (SqT.of h) (.cons (.int _) (.cons (.int _) .nil))
theorem ok_ofS (T : Tx K mg CP CW CR CD) (DD : DefOk P w K mg base CX0 1 "distance" ["one", "other"] spDist) (F : Fun K "of_step" "Prices.of_step" sOfS f fd) : FnOk P w K mg base CX0 2 f fd ["self", "one", "other"] (spOfS CP) := by
  refine F.ok scOfS (fun vs H Q E h => ?_) (fun cdv A outer s H vs Q E hr h => ?_)
  · obtain ⟨p, d, a, b, q, n, k, x, rfl, _⟩ := h; rfl
  · obtain ⟨p, d, a, b, q, n, k, x, rfl, ⟨⟨dx, h1⟩, kvs, h2, h3, h4⟩, tb, ha, hb, hk, hx, hq⟩ := h
    refine ⟨_, pss_cons (ps_if (pt_cmpR (op_eqD hr.units) (pv 1) (pv 2) (nomark _)) (pss_one (ps_ret pe_int)) pss_nil)
      (pss_cons (ps_set (i := 3) scOfS.nd rfl (Or.inl rfl) (pe_op op_add (pe_fld (pv 0) rfl) (pe_op op_mul (pe_fld (pv 0) rfl) (pe_d DD hr pass0 (pa_cons (pe_ix ix_tup (pv 1) pe_int (fun _ _ => rfl)) (pa_cons (pe_ix ix_tup (pv 2) pe_int (fun _ _ => rfl)) pa_nil))))))
      (pss_cons (ps_if (pt_cmpR op_ne (pe_ix ix_tup (pv 1) pe_int (fun _ _ => rfl)) (pe_ix ix_tup (pv 2) pe_int (fun _ _ => rfl)) (nomark _))
        (pss_one (ps_set (i := 3) scOfS.nd rfl (Or.inl rfl) (pe_op op_add (pv 3) (pe_fld (pv 0) rfl)))) pss_nil)
      (pss_one (ps_ret (pv 3))))), ?_⟩
    have q0 := hq H (Same.refl H)
    unfold Cp09.going at q0
    refine ⟨_, rfl, _, rfl, _, _, dp_key ha, dp_key hb, rfl, rfl, _, rfl, ?_⟩
    rw [eq_keys]
    refine ite2 (fun c => ?_) (fun c => ?_)
    · rw [if_pos (of_decide_eq_true c)] at q0
      exact q0
    · rw [if_neg (fun z => c (decide_eq_true z))] at q0
      refine ⟨_, rfl, p, CP, dx, _, _, rfl, h1, T.cP, T.nP _ (by decide +kernel), lkP_change, _, rfl, p, CP, dx, _, _, rfl, h1, T.cP, T.nP _ (by decide +kernel), lkP_fifth, ?_⟩
      refine ⟨_, rfl, _, _, _, _, rfl, rfl, SqT.of ha, atI_nat (j := 1) rfl, _, rfl, _, _, _, _, rfl, rfl, SqT.of hb, atI_nat (j := 1) rfl, k.tonic, x.tonic, rfl, hk.1, hx.1, ?_⟩
      refine ⟨_, _, rfl, rfl, .inl ⟨by have := tb.fi; omega, by have := tb.fi; omega⟩, _, _, rfl, rfl, ?_⟩
      refine ⟨_, rfl, _, _, _, _, rfl, rfl, SqT.of ha, atI_nat (j := 0) rfl, _, rfl, _, _, _, _, rfl, rfl, SqT.of hb, atI_nat (j := 0) rfl, rfl, _, rfl, ite2 (fun c2 => ?_) (fun c2 => ?_)⟩
      · have c3 : ¬ k.mode = x.mode := fun z => by
          rw [z] at c2
          simp at c2
        rw [if_neg c3] at q0
        refine ⟨_, rfl, _, rfl, p, CP, dx, _, _, rfl, h1, T.cP, T.nP _ (by decide +kernel), lkP_mode, _, _, rfl, rfl, _, rfl, ?_⟩
        rw [Int.natCast_add, Int.natCast_add, Int.natCast_mul] at q0
        exact q0
      · have c3 : k.mode = x.mode := by
          by_cases z : k.mode = x.mode
          · exact z
          · exfalso
            refine c2 ?_
            have : ¬ V.int (k.mode : Int) = V.int (x.mode : Int) := fun y => z (by injection y with y; omega)
            show (!decide (V.int (k.mode : Int) = V.int (x.mode : Int))) = true
            rw [decide_eq_false this]; rfl
        rw [if_pos c3, Nat.add_zero, Int.natCast_add, Int.natCast_mul] at q0
        exact ⟨_, rfl, q0⟩
theorem ok_ofE (T : Tx K mg CP CW CR CD) (DD : DefOk P w K mg base CX0 2 "is_cadence" ["first", "second", "key"] spCad) (F : Fun K "of_end" "Prices.of_end" sOfE f fd) : FnOk P w K mg base CX0 3 f fd ["self", "chords", "keys"] (spOfE CP) := by
  refine F.ok scOfE (fun vs H Q E h => ?_) (fun cdv A outer s H vs Q E hr h => ?_)
  · obtain ⟨p, d, a, b, q, n, cs, ks, rfl, _⟩ := h; rfl
  · obtain ⟨p, d, a, b, q, n, cs, ks, rfl, ⟨⟨dx, h1⟩, kvs, h2, h3, h4⟩, ⟨ps, ha, ea⟩, ⟨qs, hb, eb⟩, hcs, hks, hl2, hl, hq⟩ := h
    refine ⟨_, pss_cons (ps_if (PW.pt (pw_and (pt_cmpR op_gt (pe_callB call_len_seq (by rfl) T.fLen PySem.boot_len (pa_cons (pv 1) pa_nil)) pe_int (nomark _))
        (pw_and (pt_cmpR (op_eqD hr.units) (pe_ix ix_list (pv 2) pe_int (fun _ _ => rfl)) (pe_ix ix_list (pv 2) pe_int (fun _ _ => rfl)) (nomark _))
        (pw_and1 (pt_val (pe_d DD hr pass0 (pa_cons (pe_ix ix_list (pv 1) pe_int (fun _ _ => rfl)) (pa_cons (pe_ix ix_list (pv 1) pe_int (fun _ _ => rfl)) (pa_cons (pe_ix ix_list (pv 2) pe_int (fun _ _ => rfl)) pa_nil)))))))))
        (pss_one (ps_ret pe_int)) pss_nil)
      (pss_one (ps_ret (pe_fld (pv 0) rfl))), ?_⟩
    have fin : ∀ H', Same H H' → endOf q cs ks = q.open_ → ∃ v, (L2.start (["self", "chords", "keys"] : List Str) [V.ref p, V.ref a, V.ref b])[0]? = some (some v) ∧ ∃ a C dx fs v', v = .ref a ∧ H' a = some (.ins C dx fs) ∧ Cls K C ∧ NoAttr K C "end" ∧ fs.lookup ("end" : Str) = some v' ∧ Q v' H' := fun H' s' e => by
      have k := hq H' s'
      rw [e] at k
      exact ⟨_, rfl, p, CP, dx, _, _, rfl, s' _ _ h1, T.cP, T.nP _ (by decide +kernel), lkP_end, k⟩
    refine ⟨_, rfl, _, _, rfl, .inl (SqL.of ha), _, _, rfl, rfl, _, rfl, ite2 (fun c => ?_) (fun c => ?_)⟩
    · have c' : 1 < cs.length := by
        have z := of_decide_eq_true c
        rw [List.length_map, ea.1] at z
        omega
      have hk2 := hl c'
      obtain ⟨c1, c2, rfl⟩ : ∃ c1 c2, cs = [c1, c2] := by
        match cs, hl2, c' with
        | [x, y], _, _ => exact ⟨x, y, rfl⟩
      obtain ⟨k1, k2, rfl⟩ : ∃ k1 k2, ks = [k1, k2] := by
        match ks, hk2 with
        | [x, y], _ => exact ⟨x, y, rfl⟩
      obtain ⟨p1, g1, e1⟩ := ea.get (i := 0) rfl
      obtain ⟨p2, g2, e2⟩ := ea.get (i := 1) rfl
      obtain ⟨q1, f1, e3⟩ := eb.get (i := 0) rfl
      obtain ⟨q2, f2, e4⟩ := eb.get (i := 1) rfl
      refine ⟨_, rfl, _, _, _, _, rfl, rfl, SqL.of hb, atI_nat (j := 0) (get_map f1), _, rfl, _, _, _, _, rfl, rfl, SqL.of hb, atI_nat (j := 1) (get_map f2), _, _, dp_key e3, dp_key e4, rfl, rfl, _, rfl, ?_⟩
      rw [eq_keys]
      refine ite2 (fun c3 => ?_) (fun c3 => ?_)
      · have c4 := of_decide_eq_true c3
        refine ⟨_, rfl, _, _, _, _, rfl, rfl, SqL.of ha, atI_nat (j := 0) (get_map g1), _, rfl, _, _, _, _, rfl, rfl, SqL.of ha, atI_nat (j := 1) (get_map g2), _, rfl, _, _, _, _, rfl, rfl, SqL.of hb, atI_nat (j := 1) (get_map f2),
          p1, p2, q2, c1, c2, k2, rfl, e1, e2, e4, hcs _ (by simp), hcs _ (by simp), hks _ (by simp), fun H' s' => ⟨_, rfl, ite2 (fun c5 => ?_) (fun c5 => ?_)⟩⟩
        · have k := hq H' s'
          rw [show endOf q [c1, c2] [k1, k2] = 0 from if_pos ⟨c4, c5⟩] at k
          exact k
        · exact fin H' s' (if_neg fun z => c5 z.2)
      · exact fin H (Same.refl H) (if_neg fun z => c3 (decide_eq_true z.1))
    · have c' : ¬ 1 < cs.length := fun z => c (by
        refine decide_eq_true ?_
        rw [List.length_map, ea.1]
        omega)
      refine fin H (Same.refl H) ?_
      match cs, c' with
      | [], _ => rfl
      | [x], _ => rfl
      | x :: y :: r, h => exact absurd (by simp) h
def tellsOf (l : List Cp09.Known) : List (List L2.Key × V) := l.foldl (fun kvs x => putK kvs (ky3 x.mode x.at_ x.kind) (.int (x.price : Int))) []
theorem tells_first : tellsOf (Cp09.major ++ Cp09.minor) = (Cp09.major ++ Cp09.minor).map fun x => (ky3 x.mode x.at_ x.kind, V.int (x.price : Int)) := by decide +kernel
theorem prF_init (d : Addr) : putF "told" (.ref d) (putF "end" (.int 3) (putF "other_mode" (.int 2) (putF "fifth" (.int 1) (putF "change" (.int 4) [])))) = prF 4 1 2 3 d := by
  repeat (first | rw [put_nil] | rw [put_past (by decide +kernel)])
  rfl
theorem ok_pinit (T : Tx K mg CP CW CR CD) (F : Fun K "__init__" "Prices.__init__" sPInit f fd) : FnOk P w K mg base CX0 1 f fd ["self"] (spPInit CP) := by
  refine F.ok scPInit (fun vs H Q E h => ?_) (fun cdv A outer s H vs Q E hr h => ?_)
  · obtain ⟨p, dx, rfl, _⟩ := h; rfl
  · obtain ⟨p, dx, rfl, h1, hq⟩ := h
    obtain ⟨aT, gT, ts, kT, lT, iT⟩ := T.told
    refine ⟨_, pss_cons (ps_fld (pv 0) (pe_gi T.iCHANGE) rfl) (pss_cons (ps_fld (pv 0) (pe_gi T.iFFIFTH) rfl) (pss_cons (ps_fld (pv 0) (pe_gi T.iFMODE) rfl) (pss_cons (ps_fld (pv 0) (pe_gi T.iFEND) rfl)
      (pss_cons (ps_fld (pv 0) pe_dnewT rfl)
      (pss_one (ps_for PassesOwn.never rfl (pi_tup (pe_glob (v := .ref aT) rfl gT rfl))
        (pg_tup rfl (pgs_cons (pg_name (i := 1) scPInit.nd rfl (Or.inl rfl)) (pgs_cons (pg_name (i := 2) scPInit.nd rfl (Or.inl rfl)) (pgs_cons (pg_name (i := 3) scPInit.nd rfl (Or.inl rfl)) (pgs_cons (pg_name (i := 4) scPInit.nd rfl (Or.inl rfl)) pgs_nil)))))
        (pss_one (ps_dput (hu_of hr) (pe_fld (pv 0) rfl) (pe_tup (pa_cons (pv 1) (pa_cons (pv 2) (pa_cons (pv 3) pa_nil)))) (pv 4) rfl)))))))), ?_⟩
    refine ⟨_, rfl, p, CP, dx, _, rfl, h1, T.cP, T.nP _ (by decide +kernel), (by show 0 < 1000; decide), ?_⟩
    refine ⟨_, rfl, p, CP, dx, _, rfl, upd_same, T.cP, T.nP _ (by decide +kernel), (by show 1 < 1000; decide), ?_⟩
    refine ⟨_, rfl, p, CP, dx, _, rfl, upd_same, T.cP, T.nP _ (by decide +kernel), (by show 2 < 1000; decide), ?_⟩
    refine ⟨_, rfl, p, CP, dx, _, rfl, upd_same, T.cP, T.nP _ (by decide +kernel), (by show 3 < 1000; decide), fun d hd => ?_⟩
    have ndp : d ≠ p := fun z => by
      rw [z, upd_same] at hd; cases hd
    refine ⟨_, rfl, p, CP, dx, _, rfl, by rw [upd_ne (Ne.symm ndp), upd_same], T.cP, T.nP _ (by decide +kernel), (by show 4 < 1000; decide), ?_⟩
    have hd0 : H d = none := by
      rw [upd_ne ndp, upd_ne ndp, upd_ne ndp, upd_ne ndp] at hd; exact hd
    refine ⟨aT, rfl, ⟨_, kT.seq _⟩, for_tup (K := K) (a := aT) (xs := ts.map V.ref) (fun i σ H' => (∃ v1 v2 v3 v4, σ = [some (.ref p), v1, v2, v3, v4]) ∧ H' p = some (.ins CP dx (prF 4 1 2 3 d)) ∧ H' d = some (.dT (tellsOf ((Cp09.major ++ Cp09.minor).take i))) ∧ (∀ b o, H b = some o → b ≠ p → H' b = some o))
      ⟨⟨none, none, none, none, rfl⟩, by rw [upd_same, prF_init], by rw [upd_ne ndp, upd_same]; rfl, fun b o e hb => ?_⟩ (fun i σ H' _ _ => kT.seq _) ?_ ?_⟩
    · have nbd : b ≠ d := ne_of_none e hd0
      rw [upd_ne hb, upd_ne nbd, upd_ne hb, upd_ne hb, upd_ne hb, upd_ne hb]; exact e
    · rintro i v σ H2 hi ⟨⟨v1, v2, v3, v4, rfl⟩, g1, g2, g3⟩
      obtain ⟨t, ht, rfl⟩ := map_get hi
      have hil : i < (Cp09.major ++ Cp09.minor).length := by rw [← lT]; exact (List.getElem?_eq_some_iff.mp ht).1
      obtain ⟨x, hx⟩ : ∃ x, (Cp09.major ++ Cp09.minor)[i]? = some x := ⟨_, List.getElem?_eq_getElem hil⟩
      refine ⟨t, _, rfl, (iT i t x ht hx).seq _, rfl, _, _, rfl, _, _, rfl, _, _, rfl, _, _, rfl, rfl, ?_⟩
      refine ⟨_, rfl, _, rfl, p, CP, dx, _, _, rfl, g1, T.cP, T.nP _ (by decide +kernel), lkP_told, ?_⟩
      refine ⟨_, rfl, _, rfl, _, rfl, (by show 3 ≤ sizeLine; decide), fun t2 ht2 => ?_⟩
      have s2 := same_upd (o := .tup [.int (x.mode : Int), .int (x.at_ : Int), .int (x.kind : Int)]) ht2
      have tl : (tellsOf ((Cp09.major ++ Cp09.minor).take i)).length ≤ i := by
        have k : ∀ i < 17, (tellsOf ((Cp09.major ++ Cp09.minor).take i)).length ≤ i := by decide +kernel
        exact k i hil
      have nl : (Cp09.major ++ Cp09.minor).length = 17 := rfl
      refine ⟨d, _, rfl, DPut.t (k := ky3 x.mode x.at_ x.kind) (s2 _ _ g2) upd_same (small1000 (by omega)), ⟨_, _, _, _, rfl⟩, ?_, ?_, fun b o e hb => ?_⟩
      · rw [upd_ne (Ne.symm ndp)]; exact s2 _ _ g1
      · rw [upd_same, List.take_add_one, hx]
        unfold tellsOf
        rw [List.foldl_append]; rfl
      · have nbd : b ≠ d := ne_of_none e hd0
        rw [upd_ne nbd]; exact s2 _ _ (g3 b o e hb)
    · rintro σ H2 ⟨_, g1, g2, g3⟩
      rw [List.length_map, lT, List.take_length, tells_first] at g2
      refine hq H2 d ⟨⟨dx, g1⟩, _, g2, Tells.map _, by rw [List.length_map]; exact Nat.le_refl _⟩ hd0 g3
end
end CK
namespace CK
open PySem PySem.Spec PyProof.Rows L2
abbrev sOne : Stmt := top 27
abbrev sNoC : Stmt := top 28
abbrev sDear : Stmt := top 29
abbrev sTog : Stmt := top 30
theorem scOne : FnScope ["cost", "here"] ["cost"] (defScope sOne) := ⟨rfl, rfl, rfl, by decide +kernel, rfl, by decide +kernel, by decide +kernel⟩
theorem scNoC : FnScope [] [] (defScope sNoC) := ⟨rfl, rfl, rfl, by decide +kernel, rfl, by decide +kernel, by decide +kernel⟩
theorem scDear : FnScope ["counts", "by"] ["counts", "by"] (defScope sDear) := ⟨rfl, rfl, rfl, by decide +kernel, rfl, by decide +kernel, by decide +kernel⟩
theorem scTog : FnScope ["one", "other", "here", "there"] ["one", "other"] (defScope sTog) := ⟨rfl, rfl, rfl, by decide +kernel, rfl, by decide +kernel, by decide +kernel⟩
theorem cut_to (xs : List V) (n : Nat) (h : n < 1000) : cutV xs none (some (n : Int)) = xs.take n := by
  unfold cutV
  rw [show HT.sIx xs.length xs.length (some (n : Int)) = min n xs.length from HT.sIx_nat xs.length xs.length n, HT.sIx_none, Nat.sub_zero, List.drop_zero]
  rw [Nat.min_comm, List.take_eq_take_iff]
  omega
theorem cut_from (xs : List V) (n : Nat) (h : n ≤ xs.length) : cutV xs (some (n : Int)) none = xs.drop n := by
  unfold cutV
  rw [show HT.sIx xs.length 0 (some (n : Int)) = min n xs.length from HT.sIx_nat xs.length 0 n, HT.sIx_none, Nat.min_eq_left h]
  exact List.take_of_length_le (by rw [List.length_drop]; exact Nat.le_refl _)
def spOne : Sp := fun vs H Q _ => ∃ p : Nat, vs = [.int p] ∧ ∀ H' l, Same H H' → H l = none → H' l = some (.lst (ns (one p))) → Q (.ref l) H'
def spNoC : Sp := fun vs H Q _ => vs = [] ∧ ∀ H' l, Same H H' → H l = none → H' l = some (.lst (ns Cp09.none_)) → Q (.ref l) H'
def spDear : Sp := fun vs H Q _ => ∃ (a : Addr) (ws : List Nat) (p : Nat), vs = [.ref a, .int p] ∧ H a = some (.lst (ns ws)) ∧ ws.length = 150 ∧ p ≤ 1000 ∧
  ∀ H' l, Same H H' → H l = none → H' l = some (.lst (ns (Cp09.dearer p ws))) → Q (.ref l) H'
def spTog : Sp := fun vs H Q _ => ∃ (a b : Addr) (us ws : List Nat), vs = [.ref a, .ref b] ∧ H a = some (.lst (ns us)) ∧ H b = some (.lst (ns ws)) ∧ us.length = 150 ∧ ws.length = 150 ∧
  ∀ H' l, Same H H' → H l = none → H' l = some (.lst (ns (Cp09.added us ws))) → Q (.ref l) H'
theorem flat_one (n : Nat) (v : V) : (List.replicate n [v]).flatten = List.replicate n v := by
  induction n with
  | zero => rfl
  | succ n ih => rw [List.replicate_succ, List.flatten_cons, ih]; rfl
theorem ns_rep (n : Nat) : List.replicate n (V.int 0) = ns (List.replicate n 0) := by
  unfold ns
  rw [List.map_replicate]; rfl
section
variable {P : Program} {w : World} {K : PySem.W.Frag} {mg : Str → Option Value} {base : Heap} {CP CW CR CD : Addr} {f : Addr} {fd : FuncData}
theorem ok_noC (T : Tx K mg CP CW CR CD) (F : Fun K "no_counts" "no_counts" sNoC f fd) : FnOk P w K mg base CX0 1 f fd [] spNoC := by
  refine F.ok scNoC (fun vs H Q E h => ?_) (fun cdv A outer s H vs Q E hr h => ?_)
  · obtain ⟨rfl, _⟩ := h; rfl
  · obtain ⟨rfl, q⟩ := h
    refine ⟨_, pss_one (ps_ret (pe_op op_rep (pe_lst (pa_cons pe_int pa_nil)) (pe_gi T.iBOUND))), ?_⟩
    refine ⟨by show 1 ≤ sizeLine; decide, fun l hl => ⟨l, 150, _, rfl, rfl, upd_same, by decide, by decide, by show 1 * 150 ≤ sizeLine; decide, fun p hp => ?_⟩⟩
    have s1 := same_upd (o := .lst [.int 0]) hl
    refine q _ p (s1.trans (same_upd hp)) (s1.free hp) ?_
    rw [upd_same, flat_one]
    show some (HO.lst (List.replicate 150 (V.int 0))) = _
    rw [ns_rep]; rfl
theorem ok_one (T : Tx K mg CP CW CR CD) (F : Fun K "counts_of_one" "counts_of_one" sOne f fd) : FnOk P w K mg base CX0 1 f fd ["cost"] spOne := by
  refine F.ok scOne (fun vs H Q E h => ?_) (fun cdv A outer s H vs Q E hr h => ?_)
  · obtain ⟨p, rfl, _⟩ := h; rfl
  · obtain ⟨p, rfl, q⟩ := h
    refine ⟨_, pss_one (ps_ret (pe_lc (own := [("here", 1)]) (g := gName 1) (tt := tYes) rfl scOne.nd (pi_range1 rfl T.fRange (pa_cons (pe_gi T.iBOUND) pa_nil)) (blkOk_by (own := [("here", 1)]) (N := ["cost", "here"]) (sc := defScope sOne) (by decide +kernel))
      (fun _ _ _ _ _ => pg_name (i := 1) scOne.nd rfl (Or.inl rfl)) (fun _ _ _ _ _ => pts_nil) (fun _ _ _ _ _ => pe_callTy call_int1 (by rfl) T.fInt (by decide +kernel) (pa_cons (pe_cmpR op_eq (pv 1) (pv 0) (nomark _)) pa_nil)))), ?_⟩
    have ln : (ns (one p)).length = 150 := by rw [List.length_map, len_one]
    refine ⟨150, rfl, by decide, by decide, fun D hD => lc_v (ys := ns (one p)) (by rw [ln]; decide) hD
      (fun j H3 hj _ => by rw [ln] at hj; exact hj) (fun H3 _ => by rw [ln]; exact Nat.le_refl _) (fun j y H3 Q3 v H4 hy s3 hv hQ => ?_) (fun H3 s3 h3 => q H3 D s3 hD h3)⟩
    obtain ⟨rfl, rfl⟩ := hv
    have hj : j < 150 := by rw [← ln]; exact (List.getElem?_eq_some_iff.mp hy).1
    have ey : y = .int (if j = p then 1 else 0) := by
      unfold ns at hy
      rw [List.getElem?_map, List.getElem?_eq_getElem (by rw [len_one]; exact hj)] at hy
      have e := getD_one p j hj
      rw [getD_lt (by rw [len_one]; exact hj)] at e
      rw [e] at hy
      rw [← Option.some.inj hy]
      by_cases c : j = p
      · rw [if_pos c, if_pos c]; rfl
      · rw [if_neg c, if_neg c]; rfl
    subst ey
    refine ⟨rfl, _, rfl, _, rfl, rfl, .inr ⟨_, rfl, ?_⟩⟩
    have e : decide (V.int (0 + (j : Int)) = V.int (p : Int)) = decide (j = p) := by
      by_cases c : j = p
      · subst c; simp
      · have : ¬ V.int (0 + (j : Int)) = V.int (p : Int) := fun z => c (by injection z with z; omega)
        rw [decide_eq_false this, decide_eq_false c]
    have k := hQ _ (Same.refl _)
    show Q3 (.int (if decide (V.int (0 + (j : Int)) = V.int (p : Int)) = true then 1 else 0)) H4
    rw [e]
    by_cases c : j = p
    · rw [if_pos c] at k
      rw [decide_eq_true c, if_pos rfl]; exact k
    · rw [if_neg c] at k
      rw [decide_eq_false c, if_neg Bool.false_ne_true]; exact k
theorem ok_dear (T : Tx K mg CP CW CR CD) (F : Fun K "dearer" "dearer" sDear f fd) : FnOk P w K mg base CX0 1 f fd ["counts", "by"] spDear := by
  refine F.ok scDear (fun vs H Q E h => ?_) (fun cdv A outer s H vs Q E hr h => ?_)
  · obtain ⟨a, ws, p, rfl, _⟩ := h; rfl
  · obtain ⟨a, ws, p, rfl, ha, hw, hp, q⟩ := h
    refine ⟨_, pss_one (ps_ret (pe_slice sl_list (pe_op op_cat (pe_op op_rep (pe_lst (pa_cons pe_int pa_nil)) (pv 1)) (pv 0)) po_none (po_some (pe_gi T.iBOUND)))), ?_⟩
    have sz : 1000 + 150 ≤ sizeLine := by decide
    refine ⟨by show 1 ≤ sizeLine; decide, fun l hl => ⟨_, rfl, l, (p : Int), _, rfl, rfl, upd_same, by omega, by omega, by show 1 * (p : Int).toNat ≤ sizeLine; omega, fun r hr' => ?_⟩⟩
    have s1 := same_upd (o := .lst [.int 0]) hl
    have s2 := same_upd (o := .lst (List.replicate (p : Int).toNat [V.int 0]).flatten) hr'
    have e0 : (List.replicate (p : Int).toNat [V.int 0]).flatten = ns (List.replicate p 0) := by
      rw [flat_one, ns_rep, Int.toNat_natCast]
    refine ⟨_, rfl, r, a, _, _, rfl, rfl, upd_same, s2 _ _ (s1 _ _ ha), ?_, fun c hc => ?_⟩
    · rw [e0, List.length_map, List.length_replicate, List.length_map, hw]; omega
    · have s3 := same_upd (o := .lst ((List.replicate (p : Int).toNat [V.int 0]).flatten ++ ns ws)) hc
      refine ⟨150, rfl, c, _, rfl, SqL.of upd_same, fun t ht => ?_⟩
      have s123 := (s1.trans s2).trans s3
      refine q _ t (s123.trans (same_upd ht)) (s123.free ht) ?_
      rw [upd_same, e0]
      have e1 := cut_to (ns (List.replicate p 0) ++ ns ws) 150 (by decide)
      have e2 : cutV (ns (List.replicate p 0) ++ ns ws) none (some 150) = (ns (List.replicate p 0) ++ ns ws).take 150 := e1
      rw [e2]
      unfold Cp09.dearer Cp09.BOUND ns
      rw [List.map_take, List.map_append]
theorem ok_tog (T : Tx K mg CP CW CR CD) (F : Fun K "together" "together" sTog f fd) : FnOk P w K mg base CX0 1 f fd ["one", "other"] spTog := by
  refine F.ok scTog (fun vs H Q E h => ?_) (fun cdv A outer s H vs Q E hr h => ?_)
  · obtain ⟨a, b, us, ws, rfl, _⟩ := h; rfl
  · obtain ⟨a, b, us, ws, rfl, ha, hb, hu, hw, q⟩ := h
    refine ⟨_, pss_one (ps_ret (pe_lc (own := [("here", 2), ("there", 3)]) (g := gTup K 2 (gCons (gName 2) (gCons (gName 3) gNil))) (tt := tYes) rfl scTog.nd (pi_zip (by rfl) T.fZip (pa_cons (pv 0) (pa_cons (pv 1) pa_nil)))
      (blkOk_by (own := [("here", 2), ("there", 3)]) (N := ["one", "other", "here", "there"]) (sc := defScope sTog) (by decide +kernel))
      (fun _ _ _ _ _ => pgT K rfl (pgs_cons (pg_name (i := 2) scTog.nd rfl (Or.inl rfl)) (pgs_cons (pg_name (i := 3) scTog.nd rfl (Or.inl rfl)) pgs_nil))) (fun _ _ _ _ _ => pts_nil) (fun _ _ _ _ _ => pe_op op_add (pv 2) (pv 3)))), ?_⟩
    have ln : (ns (Cp09.added us ws)).length = 150 := by rw [List.length_map, len_added hu hw]
    refine ⟨_, rfl, _, rfl, a, b, _, _, rfl, SqL.of ha, SqL.of hb, fun D hD => lc_v (ys := ns (Cp09.added us ws)) (by rw [ln]; decide) hD
      (fun j H3 hj s3 => go_zip (s3.seq (SqL.of ha)) (s3.seq (SqL.of hb)) (by rw [ln] at hj; rw [List.length_map, hu]; exact hj) (by rw [ln] at hj; rw [List.length_map, hw]; exact hj))
      (fun H3 s3 => stop_zip (s3.seq (SqL.of ha)) (s3.seq (SqL.of hb)) (.inl (by rw [ln, List.length_map, hu]; exact Nat.le_refl _))) (fun j y H3 Q3 v H4 hy s3 hv hQ => ?_) (fun H3 s3 h3 => q H3 D s3 hD h3)⟩
    have hj : j < 150 := by rw [← ln]; exact (List.getElem?_eq_some_iff.mp hy).1
    obtain ⟨t, x1, x2, rfl, ht, rfl, f1, f2⟩ := hv
    have e1 := f1 _ (s3.seq (SqL.of ha))
    have e2 := f2 _ (s3.seq (SqL.of hb))
    unfold ns at e1 e2 hy
    rw [List.getElem?_map, List.getElem?_eq_getElem (by rw [hu]; exact hj)] at e1
    rw [List.getElem?_map, List.getElem?_eq_getElem (by rw [hw]; exact hj)] at e2
    rw [List.getElem?_map, List.getElem?_eq_getElem (by rw [len_added hu hw]; exact hj)] at hy
    have e3 := getD_added hu hw j
    rw [getD_lt (by rw [len_added hu hw]; exact hj), getD_lt (by rw [hu]; exact hj), getD_lt (by rw [hw]; exact hj)] at e3
    rw [e3] at hy
    cases e1; cases e2; cases hy
    refine ⟨t, _, rfl, SqT.of upd_same, rfl, _, _, rfl, _, _, rfl, rfl, rfl, _, rfl, _, rfl, _, _, rfl, rfl, ?_⟩
    have k := hQ _ (same_upd (o := .tup [V.int ((us[j]'(by rw [hu]; exact hj) : Nat) : Int), V.int ((ws[j]'(by rw [hw]; exact hj) : Nat) : Int)]) ht)
    have k' : Q3 (V.int (((us[j]'(by rw [hu]; exact hj) + ws[j]'(by rw [hw]; exact hj) : Nat)) : Int)) (upd H3 t (HO.tup [V.int ((us[j]'(by rw [hu]; exact hj) : Nat) : Int), V.int ((ws[j]'(by rw [hw]; exact hj) : Nat) : Int)])) := k
    rw [Int.natCast_add] at k'
    exact k'
end
end CK
namespace CK
open PySem PySem.Spec PyProof.Rows L2
abbrev cWy : Stmt := top 31
abbrev sWInit : Stmt := inClass cWy 0
abbrev sPrA : Stmt := inClass cWy 1
abbrev sStP : Stmt := inClass cWy 2
abbrev sCoA : Stmt := inClass cWy 3
abbrev sFiP : Stmt := inClass cWy 4
abbrev sCou : Stmt := inClass cWy 5
abbrev sSpe : Stmt := inClass cWy 6
abbrev sMan : Stmt := inClass cWy 7
abbrev sNex : Stmt := inClass cWy 8
abbrev sRea : Stmt := inClass cWy 9
theorem scWInit : FnScope ["self", "chords", "prices", "chord", "place", "key"] ["self", "chords", "prices"] (defScope sWInit) := ⟨rfl, rfl, rfl, by decide +kernel, rfl, by decide +kernel, by decide +kernel⟩
theorem scPrA : FnScope ["self", "place", "key"] ["self", "place", "key"] (defScope sPrA) := ⟨rfl, rfl, rfl, by decide +kernel, rfl, by decide +kernel, by decide +kernel⟩
theorem scStP : FnScope ["self", "place", "key", "other", "found"] ["self", "place", "key", "other"] (defScope sStP) := ⟨rfl, rfl, rfl, by decide +kernel, rfl, by decide +kernel, by decide +kernel⟩
theorem scCoA : FnScope ["self", "place", "key", "price", "found", "other"] ["self", "place", "key"] (defScope sCoA) := ⟨rfl, rfl, rfl, by decide +kernel, rfl, by decide +kernel, by decide +kernel⟩
theorem scFiP : FnScope ["self"] ["self"] (defScope sFiP) := ⟨rfl, rfl, rfl, by decide +kernel, rfl, by decide +kernel, by decide +kernel⟩
theorem scCou : FnScope ["self", "found", "key"] ["self"] (defScope sCou) := ⟨rfl, rfl, rfl, by decide +kernel, rfl, by decide +kernel, by decide +kernel⟩
theorem scSpe : FnScope ["self", "place", "key", "behind"] ["self", "place", "key", "behind"] (defScope sSpe) := ⟨rfl, rfl, rfl, by decide +kernel, rfl, by decide +kernel, by decide +kernel⟩
theorem scMan : FnScope ["self", "place", "key", "behind", "cost", "left"] ["self", "place", "key", "behind", "cost"] (defScope sMan) := ⟨rfl, rfl, rfl, by decide +kernel, rfl, by decide +kernel, by decide +kernel⟩
theorem scNex : FnScope ["self", "place", "behind", "cost", "number", "passed", "key", "many"] ["self", "place", "behind", "cost", "number"] (defScope sNex) := ⟨rfl, rfl, rfl, by decide +kernel, rfl, by decide +kernel, by decide +kernel⟩
theorem scRea : FnScope ["self", "cost", "number", "found", "behind", "place", "key", "passed"] ["self", "cost", "number"] (defScope sRea) := ⟨rfl, rfl, rfl, by decide +kernel, rfl, by decide +kernel, by decide +kernel⟩
/-! ### the object -/
def wF (r p e rs : Addr) : List (Str × V) := [("row", .ref r), ("prices", .ref p), ("every_key", .ref e), ("rows", .ref rs)]
theorem lkW_row {r p e rs : Addr} : (wF r p e rs).lookup ("row" : Str) = some (.ref r) := lk_here
theorem lkW_prices {r p e rs : Addr} : (wF r p e rs).lookup ("prices" : Str) = some (.ref p) := (lk_past (by decide +kernel)).trans lk_here
theorem lkW_keys {r p e rs : Addr} : (wF r p e rs).lookup ("every_key" : Str) = some (.ref e) := (lk_past (by decide +kernel)).trans ((lk_past (by decide +kernel)).trans lk_here)
theorem lkW_rows {r p e rs : Addr} : (wF r p e rs).lookup ("rows" : Str) = some (.ref rs) := (lk_past (by decide +kernel)).trans ((lk_past (by decide +kernel)).trans ((lk_past (by decide +kernel)).trans lk_here))
theorem lkW_none {r p e rs : Addr} {m : Str} (h : (m == "row" || m == "prices" || m == "every_key" || m == "rows") = false) : (wF r p e rs).lookup m = none := by
  simp only [Bool.or_eq_false_iff] at h
  obtain ⟨⟨⟨h1, h2⟩, h3⟩, h4⟩ := h
  exact (lk_past h1).trans ((lk_past h2).trans ((lk_past h3).trans ((lk_past h4).trans rfl)))
structure Wy where
  a : Addr
  r : Addr
  p : Addr
  d : Addr
  e : Addr
  rs : Addr
  q : Tb
  n : Nat
  cs : List Ch
  ks : List Addr
  ds : List Addr
structure WyAt (CP CW : Addr) (H : Hp) (y : Wy) : Prop where
  obj : ∃ dx, H y.a = some (.ins CW dx (wF y.r y.p y.e y.rs))
  row : Sq chO H y.r y.cs
  pr : PrAt CP H y.p y.d y.q y.n
  keys : H y.e = some (.lst (y.ks.map V.ref))
  each : Each kyO H y.ks Cp09.keys
  rows : H y.rs = some (.lst (y.ds.map V.ref))
  dlen : y.ds.length = y.cs.length
  tb : TbOk y.q
  cok : ∀ c ∈ y.cs, ChordOk c
  clen : y.cs.length ≤ 16
theorem WyAt.same {CP CW : Addr} {H H' : Hp} {y : Wy} (h : WyAt CP CW H y) (s : Same H H') : WyAt CP CW H' y := by
  obtain ⟨⟨dx, h1⟩, h2, h3, h4, h5, h6, h7, h8, h9, h10⟩ := h
  exact ⟨⟨dx, s _ _ h1⟩, h2.same s, h3.same s, s _ _ h4, h5.same s, s _ _ h6, h7, h8, h9, h10⟩
def ky2 (k : Ky) : List L2.Key := [.inl (k.mode : Int), .inl (k.tonic : Int)]
/-- the dict of a chord, filled -/
def Full (H : Hp) (da : Addr) (q : Tb) (suf : List Ch) : Prop := ∃ kvs, H da = some (.dT kvs) ∧ ∀ k ∈ Cp09.keys, ∃ l, valV kvs (ky2 k) = some (.ref l) ∧ H l = some (.lst (ns (W q suf k)))
theorem Full.same {H H' : Hp} {da : Addr} {q : Tb} {suf : List Ch} (h : Full H da q suf) (s : Same H H') : Full H' da q suf := by
  obtain ⟨kvs, h1, h2⟩ := h
  exact ⟨kvs, s _ _ h1, fun k hk => by
    obtain ⟨l, e1, e2⟩ := h2 k hk
    exact ⟨l, e1, s _ _ e2⟩⟩
theorem Full.get {H : Hp} {da b : Addr} {q : Tb} {suf : List Ch} {k : Ky} (h : Full H da q suf) (hb : H b = some (kyO k)) (hk : KeyOk k) : ∃ l, DGet H da (.ref b) (some (.ref l)) ∧ H l = some (.lst (ns (W q suf k))) := by
  obtain ⟨kvs, h1, h2⟩ := h
  obtain ⟨l, e1, e2⟩ := h2 k (keys_mem hk.1 hk.2)
  refine ⟨l, ?_, e2⟩
  rw [← e1]
  exact DGet.t (k := ky2 k) h1 hb
theorem drop_at {α : Type} {l : List α} {i : Nat} {x : α} (h : l[i]? = some x) : l.drop i = x :: l.drop (i + 1) := by
  obtain ⟨hi, e⟩ := List.getElem?_eq_some_iff.mp h
  rw [List.drop_eq_getElem_cons hi, e]
/-! ### promises -/
section
variable (CP CW : Addr)
def spPrA : Sp := fun vs H Q _ => ∃ (y : Wy) (i : Nat) (b : Addr) (c : Ch) (k : Ky), vs = [.ref y.a, .int i, .ref b] ∧ WyAt CP CW H y ∧ y.cs[i]? = some c ∧ H b = some (kyO k) ∧ KeyOk k ∧
  ∀ H', Same H H' → Q (.int (Cp09.own y.q k c : Int)) H'
def spStP : Sp := fun vs H Q _ => ∃ (y : Wy) (i : Nat) (b b' : Addr) (c d : Ch) (k x : Ky), vs = [.ref y.a, .int i, .ref b, .ref b'] ∧ WyAt CP CW H y ∧ y.cs[i]? = some c ∧ y.cs[i + 1]? = some d ∧ H b = some (kyO k) ∧ KeyOk k ∧ H b' = some (kyO x) ∧ KeyOk x ∧
  ∀ H', Same H H' → Q (.int (stepP y.q c d (y.cs.drop (i + 2)).isEmpty k x : Int)) H'
def spCoA : Sp := fun vs H Q _ => ∃ (y : Wy) (i : Nat) (b : Addr) (c : Ch) (k : Ky), vs = [.ref y.a, .int i, .ref b] ∧ WyAt CP CW H y ∧ y.cs[i]? = some c ∧ H b = some (kyO k) ∧ KeyOk k ∧
  (∀ da, y.ds[i + 1]? = some da → Full H da y.q (y.cs.drop (i + 1))) ∧
  ∀ H' l, Same H H' → H l = none → H' l = some (.lst (ns (W y.q (y.cs.drop i) k))) → Q (.ref l) H'
end
theorem step_le {q : Tb} (h : TbOk q) (c d : Ch) (l : Bool) (k x : Ky) : stepP q c d l k x ≤ 300 := by
  unfold stepP endP
  have := h.going k x
  have := h.op
  split
  · split <;> omega
  · omega
theorem isEmpty_drop {α : Type} (l : List α) (i : Nat) (h : i ≤ l.length) : (l.drop i).isEmpty = decide (i = l.length) := by
  rw [Bool.eq_iff_iff, List.isEmpty_iff, decide_eq_true_iff, List.drop_eq_nil_iff]
  omega
section
variable {P : Program} {w : World} {K : PySem.W.Frag} {mg : Str → Option Value} {base : Heap} {CP CW CR CD : Addr} {f : Addr} {fd : FuncData}
theorem ok_prA (T : Tx K mg CP CW CR CD) (D : MethOk P w K mg base CX0 2 CP "of_chord" ["self", "chord", "key"] (spOfC CP)) (F : Fun K "price_at" "Ways.price_at" sPrA f fd) : FnOk P w K mg base CX0 3 f fd ["self", "place", "key"] (spPrA CP CW) := by
  refine F.ok scPrA (fun vs H Q E h => ?_) (fun cdv A outer s H vs Q E hr h => ?_)
  · obtain ⟨y, i, b, c, k, rfl, _⟩ := h; rfl
  · obtain ⟨y, i, b, c, k, rfl, Y, hc, hb, hk, q⟩ := h
    obtain ⟨dx, h1⟩ := Y.obj
    obtain ⟨dp, h2⟩ := Y.pr.obj
    obtain ⟨ps, h3, h4⟩ := Y.row
    obtain ⟨a, g1, g2⟩ := h4.get hc
    refine ⟨_, pss_one (ps_ret (pe_m (pe_fld (pv 0) rfl) T.cP D hr pass0 (pa_cons (pe_ix ix_list (pe_fld (pv 0) rfl) (pv 1) (fun _ _ => rfl)) (pa_cons (pv 2) pa_nil)))), ?_⟩
    refine ⟨_, rfl, y.a, CW, dx, _, _, rfl, h1, T.cW, T.nW _ (by decide +kernel), lkW_prices, y.p, dp, _, rfl, h2, lkP_none (by decide +kernel), ?_⟩
    refine ⟨_, rfl, y.a, CW, dx, _, _, rfl, h1, T.cW, T.nW _ (by decide +kernel), lkW_row, _, rfl, _, _, _, _, rfl, rfl, SqL.of h3, atI_nat (get_map g1), _, rfl, ?_⟩
    exact ⟨y.p, y.d, a, b, y.q, y.n, c, k, rfl, Y.pr, g2, hb, Y.cok c (List.mem_of_getElem? hc), hk, q⟩
theorem ok_stP (T : Tx K mg CP CW CR CD) (DS : MethOk P w K mg base CX0 2 CP "of_step" ["self", "one", "other"] (spOfS CP)) (DE : MethOk P w K mg base CX0 3 CP "of_end" ["self", "chords", "keys"] (spOfE CP)) (F : Fun K "step_price" "Ways.step_price" sStP f fd) :
    FnOk P w K mg base CX0 4 f fd ["self", "place", "key", "other"] (spStP CP CW) := by
  refine F.ok scStP (fun vs H Q E h => ?_) (fun cdv A outer s H vs Q E hr h => ?_)
  · obtain ⟨y, i, b, b', c, d, k, x, rfl, _⟩ := h; rfl
  · obtain ⟨y, i, b, b', c, d, k, x, rfl, Y, hc, hd, hb, hk, hb', hx, q⟩ := h
    obtain ⟨dx, h1⟩ := Y.obj
    obtain ⟨dp, h2⟩ := Y.pr.obj
    obtain ⟨ps, h3, h4⟩ := Y.row
    refine ⟨_, pss_cons (ps_set (i := 4) scStP.nd rfl (Or.inl rfl) (pe_m (pe_fld (pv 0) rfl) T.cP DS (hr.mono (by decide)) pass0 (pa_cons (pv 2) (pa_cons (pv 3) pa_nil))))
      (pss_cons (ps_if (pt_cmpR op_eq (pe_op op_add (pv 1) pe_int) (pe_callB call_len_seq (by rfl) T.fLen PySem.boot_len (pa_cons (pe_fld (pv 0) rfl) pa_nil)) (nomark _))
        (pss_one (ps_set (i := 4) scStP.nd rfl (Or.inl rfl) (pe_op op_add (pv 4) (pe_m (pe_fld (pv 0) rfl) T.cP DE hr pass0 (pa_cons (pe_slice sl_list (pe_fld (pv 0) rfl) (po_some (pv 1)) po_none) (pa_cons (pe_lst (pa_cons (pv 2) (pa_cons (pv 3) pa_nil))) pa_nil)))))) pss_nil)
      (pss_one (ps_ret (pv 4)))), ?_⟩
    have hi1 : i + 1 < y.cs.length := (List.getElem?_eq_some_iff.mp hd).1
    refine ⟨_, rfl, y.a, CW, dx, _, _, rfl, h1, T.cW, T.nW _ (by decide +kernel), lkW_prices, y.p, dp, _, rfl, h2, lkP_none (by decide +kernel), _, rfl, _, rfl, ?_⟩
    refine ⟨y.p, y.d, b, b', y.q, y.n, k, x, rfl, Y.pr, Y.tb, hb, hb', hk, hx, fun H2 s2 => ?_⟩
    have Y2 := Y.same s2
    refine ⟨_, rfl, _, _, rfl, rfl, _, rfl, y.a, CW, dx, _, _, rfl, s2 _ _ h1, T.cW, T.nW _ (by decide +kernel), lkW_row, _, _, rfl, .inl (SqL.of (s2 _ _ h3)), rfl, _, rfl, ite2 (fun e => ?_) (fun e => ?_)⟩
    · have e' : i + 2 = y.cs.length := by
        have z := V.int.inj (of_decide_eq_true e)
        rw [List.length_map, h4.1] at z
        omega
      refine ⟨_, rfl, _, rfl, y.a, CW, dx, _, _, rfl, s2 _ _ h1, T.cW, T.nW _ (by decide +kernel), lkW_prices, y.p, dp, _, rfl, s2 _ _ h2, lkP_none (by decide +kernel), ?_⟩
      refine ⟨_, rfl, y.a, CW, dx, _, _, rfl, s2 _ _ h1, T.cW, T.nW _ (by decide +kernel), lkW_row, _, rfl, (i : Int), rfl, _, _, rfl, SqL.of (s2 _ _ h3), fun t ht => ?_⟩
      have s3 := same_upd (o := .lst (cutV (ps.map V.ref) (some (i : Int)) none)) ht
      refine ⟨_, rfl, _, rfl, (by show 2 ≤ sizeLine; decide), fun u hu => ?_⟩
      have s4 := same_upd (o := .lst [V.ref b, V.ref b']) hu
      have s24 := (s2.trans s3).trans s4
      have ec : y.cs.drop i = [c, d] := by
        rw [drop_at hc, drop_at hd, List.drop_of_length_le (by omega)]
      refine ⟨y.p, y.d, t, u, y.q, y.n, [c, d], [k, x], rfl, Y.pr.same s24, ⟨ps.drop i, ?_, ?_⟩, ⟨[b, b'], upd_same, Each.cons (s24 _ _ hb) (Each.cons (s24 _ _ hb') Each.nil)⟩, fun z hz => ?_, fun z hz => ?_, Nat.le_refl _, fun _ => rfl, fun H5 s5 => ?_⟩
      · refine s4 _ _ ?_
        rw [upd_same, cut_from _ _ (by rw [List.length_map, h4.1]; omega), List.map_drop]
      · rw [← ec]; exact (h4.drop i).same s24
      · rcases List.mem_cons.mp hz with rfl | hz
        · exact Y.cok _ (List.mem_of_getElem? hc)
        · rcases List.mem_cons.mp hz with rfl | hz
          · exact Y.cok _ (List.mem_of_getElem? hd)
          · cases hz
      · rcases List.mem_cons.mp hz with rfl | hz
        · exact hk
        · rcases List.mem_cons.mp hz with rfl | hz
          · exact hx
          · cases hz
      · refine ⟨_, _, rfl, rfl, _, rfl, ?_⟩
        have k2 := q H5 (s24.trans s5)
        rw [isEmpty_drop _ _ (by omega), decide_eq_true e'] at k2
        unfold stepP at k2
        rw [if_pos rfl, Int.natCast_add] at k2
        exact k2
    · have e' : ¬ i + 2 = y.cs.length := fun z => e (by
        refine decide_eq_true ?_
        rw [List.length_map, h4.1, ← z]; rfl)
      have k2 := q H2 s2
      rw [isEmpty_drop _ _ (by omega), decide_eq_false e'] at k2
      unfold stepP at k2
      rw [if_neg Bool.false_ne_true, Nat.add_zero] at k2
      exact ⟨_, rfl, k2⟩
theorem ok_coA (T : Tx K mg CP CW CR CD) (DP : MethOk P w K mg base CX0 3 CW "price_at" ["self", "place", "key"] (spPrA CP CW)) (DS : MethOk P w K mg base CX0 4 CW "step_price" ["self", "place", "key", "other"] (spStP CP CW))
    (D1 : DefOk P w K mg base CX0 1 "no_counts" [] spNoC) (D2 : DefOk P w K mg base CX0 1 "counts_of_one" ["cost"] spOne) (D3 : DefOk P w K mg base CX0 1 "dearer" ["counts", "by"] spDear) (D4 : DefOk P w K mg base CX0 1 "together" ["one", "other"] spTog)
    (F : Fun K "counts_at" "Ways.counts_at" sCoA f fd) : FnOk P w K mg base CX0 5 f fd ["self", "place", "key"] (spCoA CP CW) := by
  refine F.ok scCoA (fun vs H Q E h => ?_) (fun cdv A outer s H vs Q E hr h => ?_)
  · obtain ⟨y, i, b, c, k, rfl, _⟩ := h; rfl
  · obtain ⟨y, i, b, c, k, rfl, Y, hc, hb, hk, hf, q⟩ := h
    obtain ⟨dx, h1⟩ := Y.obj
    obtain ⟨ps, h3, h4⟩ := Y.row
    have hr1 : Room 1 _ := hr.mono (by decide)
    refine ⟨_, pss_cons (ps_set (i := 3) scCoA.nd rfl (Or.inl rfl) (pe_m (pv 0) T.cW DP (hr.mono (by decide)) pass0 (pa_cons (pv 1) (pa_cons (pv 2) pa_nil))))
      (pss_cons (ps_if (pt_cmpR op_ge (pv 3) (pe_gi T.iCANT) (nomark _)) (pss_one (ps_ret (pe_d0 D1 hr1 pass0))) pss_nil)
      (pss_cons (ps_if (pt_cmpR op_eq (pe_op op_add (pv 1) pe_int) (pe_callB call_len_seq (by rfl) T.fLen PySem.boot_len (pa_cons (pe_fld (pv 0) rfl) pa_nil)) (nomark _)) (pss_one (ps_ret (pe_d D2 hr1 pass0 (pa_cons (pv 3) pa_nil)))) pss_nil)
      (pss_cons (ps_set (i := 4) scCoA.nd rfl (Or.inl rfl) (pe_d0 D1 hr1 pass0))
      (pss_cons (ps_for PassesOwn.never rfl (pi_list (pe_fld (pv 0) rfl)) (pg_name (i := 5) scCoA.nd rfl (Or.inl rfl))
        (pss_one (ps_set (i := 4) scCoA.nd rfl (Or.inl rfl) (pe_d D4 hr1 pass0 (pa_cons (pv 4) (pa_cons (pe_d D3 hr1 pass0 (pa_cons
          (pe_dget (hu_of hr) (pe_ix ix_list (pe_fld (pv 0) rfl) (pe_op op_add (pv 1) pe_int) (fun _ _ => rfl)) (pv 5) (fun _ _ => rfl))
          (pa_cons (pe_m (pv 0) T.cW DS hr pass0 (pa_cons (pv 1) (pa_cons (pv 2) (pa_cons (pv 5) pa_nil)))) pa_nil))) pa_nil))))))
      (pss_one (ps_ret (pe_d D3 hr1 pass0 (pa_cons (pv 4) (pa_cons (pv 3) pa_nil))))))))), ?_⟩
    refine ⟨_, rfl, y.a, dx, _, rfl, h1, lkW_none (by decide +kernel), _, rfl, _, rfl, y, i, b, c, k, rfl, Y, hc, hb, hk, fun H2 s2 => ?_⟩
    have hd0 := drop_at hc
    refine ⟨_, rfl, _, _, rfl, rfl, _, rfl, ite2 (fun e => ?_) (fun e => ?_)⟩
    · have e' : ¬ Cp09.own y.q k c < 100 := by
        have z := of_decide_eq_true e
        omega
      rw [hd0, W_not e'] at q
      exact ⟨rfl, fun H3 l s3 nl h => q H3 l (s2.trans s3) (s2.free nl) h⟩
    · have e' : Cp09.own y.q k c < 100 := by
        by_cases z : Cp09.own y.q k c < 100
        · exact z
        · exact absurd (decide_eq_true (show (100 : Int) ≤ (Cp09.own y.q k c : Int) by omega)) e
      refine ⟨_, rfl, _, _, rfl, rfl, _, rfl, y.a, CW, dx, _, _, rfl, s2 _ _ h1, T.cW, T.nW _ (by decide +kernel), lkW_row, _, _, rfl, .inl (SqL.of (s2 _ _ h3)), rfl, _, rfl, ite2 (fun e2 => ?_) (fun e2 => ?_)⟩
      · have e3 : i + 1 = y.cs.length := by
          have z := V.int.inj (of_decide_eq_true e2)
          rw [List.length_map, h4.1] at z
          omega
        rw [hd0, List.drop_of_length_le (show y.cs.length ≤ i + 1 by omega), W, if_pos e'] at q
        exact ⟨_, rfl, _, rfl, fun H3 l s3 nl h => q H3 l (s2.trans s3) (s2.free nl) h⟩
      · have e3 : ¬ i + 1 = y.cs.length := fun z => e2 (by
          refine decide_eq_true ?_
          rw [List.length_map, h4.1, ← z]; rfl)
        have hi := (List.getElem?_eq_some_iff.mp hc).1
        have hi1 : i + 1 < y.cs.length := by omega
        obtain ⟨d, hd⟩ : ∃ d, y.cs[i + 1]? = some d := ⟨_, List.getElem?_eq_getElem hi1⟩
        have hd1 := drop_at hd
        obtain ⟨da, hda⟩ : ∃ da, y.ds[i + 1]? = some da := ⟨_, List.getElem?_eq_getElem (by rw [Y.dlen]; exact hi1)⟩
        have hfull := hf da hda
        rw [hd0, hd1, W, if_pos e', ← hd1] at q
        refine ⟨rfl, fun H3 l s3 nl hl => ?_⟩
        let G := fun (x : Ky) => Cp09.dearer (stepP y.q c d (y.cs.drop (i + 2)).isEmpty k x) (W y.q (y.cs.drop (i + 1)) x)
        have lG : ∀ x, (G x).length = 150 := fun x => len_dearer (len_W _ _ _)
        have s23 := s2.trans s3
        refine ⟨_, rfl, y.a, CW, dx, _, _, rfl, s23 _ _ h1, T.cW, T.nW _ (by decide +kernel), lkW_keys, _, rfl, ⟨_, SqL.of (s23 _ _ Y.keys)⟩, for_list (K := K) (a := y.e) (xs := y.ks.map V.ref)
          (fun j σ H' => ∃ l v5, σ = [some (.ref y.a), some (.int (i : Int)), some (.ref b), some (.int (Cp09.own y.q k c : Int)), some (.ref l), v5] ∧ Same H H' ∧ H l = none ∧ H' l = some (.lst (ns ((Cp09.keys.take j).foldl (fun m x => Cp09.added m (G x)) Cp09.none_))))
          ⟨l, none, rfl, s23, s2.free nl, by rw [List.take_zero]; exact hl⟩ (fun j σ H' _ hP => ?_) ?_ ?_⟩
        · obtain ⟨_, _, _, s', _⟩ := hP
          exact s'.seq (SqL.of Y.keys)
        · rintro j v σ H4 hj ⟨l4, v5, rfl, s4, nl4, hl4⟩
          obtain ⟨b5, g5, rfl⟩ := map_get hj
          obtain ⟨x, hx, ex⟩ := Y.each.get' g5
          have hxk : KeyOk x := mem_keys (List.mem_of_getElem? hx)
          obtain ⟨lw, hw1, hw2⟩ := (hfull.same s4).get (s4 _ _ ex) hxk
          refine ⟨_, rfl, ?_⟩
          refine ⟨_, rfl, y.a, CW, dx, _, _, rfl, s4 _ _ h1, T.cW, T.nW _ (by decide +kernel), lkW_rows, _, rfl, _, _, rfl, rfl, _, _, _, _, rfl, rfl, SqL.of (s4 _ _ Y.rows), at_of (by show (i : Int) + 1 = ((i + 1 : Nat) : Int); omega) (get_map hda), _, rfl, da, _, rfl, hw1, ?_⟩
          refine ⟨_, rfl, y.a, dx, _, rfl, s4 _ _ h1, lkW_none (by decide +kernel), _, rfl, _, rfl, _, rfl, ?_⟩
          refine ⟨y, i, b, b5, c, d, k, x, rfl, Y.same s4, hc, hd, s4 _ _ hb, hk, s4 _ _ ex, hxk, fun H5 s5 => ?_⟩
          refine ⟨lw, _, _, rfl, s5 _ _ hw2, len_W _ _ _, Nat.le_trans (step_le Y.tb _ _ _ _ _) (by decide), fun H6 l6 s6 nl6 hl6 => ?_⟩
          refine ⟨l4, l6, _, _, rfl, s6 _ _ (s5 _ _ hl4), hl6, len_fold lG _ _ len_none, lG x, fun H7 l7 s7 nl7 hl7 => ?_⟩
          refine ⟨l7, _, rfl, s4.trans (s5.trans (s6.trans s7)), (s4.trans (s5.trans s6)).free nl7, ?_⟩
          rw [hl7, List.take_add_one, hx]
          show _ = some (HO.lst (ns ((Cp09.keys.take j ++ [x]).foldl (fun m x => Cp09.added m (G x)) Cp09.none_)))
          rw [List.foldl_append]; rfl
        · rintro σ H4 ⟨l4, v5, rfl, s4, nl4, hl4⟩
          rw [List.length_map, Y.each.1, List.take_length] at hl4
          exact ⟨_, rfl, _, rfl, l4, _, _, rfl, hl4, len_fold lG _ _ len_none, by omega, fun H5 l5 s5 nl5 hl5 => q H5 l5 (s4.trans s5) (s4.free nl5) hl5⟩
end
end CK
namespace CK
open PySem PySem.Spec PyProof.Rows L2
/-- the key ahead, and its chord -/
def Beh (H : Hp) (cs : List Ch) (i : Nat) (v : V) (b : Option (Ky × Ch)) : Prop := (v = .non ∧ b = none ∧ i = 0) ∨ ∃ j a x d, v = .ref a ∧ H a = some (kyO x) ∧ KeyOk x ∧ i = j + 1 ∧ cs[j]? = some d ∧ b = some (x, d)
theorem Beh.same {H H' : Hp} {cs : List Ch} {i : Nat} {v : V} {b : Option (Ky × Ch)} (h : Beh H cs i v b) (s : Same H H') : Beh H' cs i v b := by
  rcases h with h | ⟨j, a, x, d, h1, h2, h3⟩
  · exact .inl h
  · exact .inr ⟨j, a, x, d, h1, s _ _ h2, h3⟩
/-- all dicts are filled -/
def Fulls (H : Hp) (y : Wy) : Prop := ∀ (j : Nat) (da : Addr), y.ds[j]? = some da → Full H da y.q (y.cs.drop j)
theorem Fulls.same {H H' : Hp} {y : Wy} (h : Fulls H y) (s : Same H H') : Fulls H' y := fun j da e => (h j da e).same s
section
variable (CP CW : Addr)
def spFiP : Sp := fun vs H Q _ => ∃ (y : Wy), vs = [.ref y.a] ∧ WyAt CP CW H y ∧ ∀ H', Same H H' → Q (.int (firstP y.q y.cs : Int)) H'
def spCou : Sp := fun vs H Q _ => ∃ (y : Wy), vs = [.ref y.a] ∧ WyAt CP CW H y ∧ Fulls H y ∧ y.cs ≠ [] ∧ ∀ H' l, Same H H' → H l = none → H' l = some (.lst (ns (total y.q y.cs))) → Q (.ref l) H'
def spSpe : Sp := fun vs H Q _ => ∃ (y : Wy) (i : Nat) (kb : Addr) (v : V) (b : Option (Ky × Ch)) (c : Ch) (k : Ky), vs = [.ref y.a, .int i, .ref kb, v] ∧ WyAt CP CW H y ∧ y.cs[i]? = some c ∧ H kb = some (kyO k) ∧ KeyOk k ∧ Beh H y.cs i v b ∧
  ∀ H', Same H H' → Q (.int (spent y.q b c (y.cs.drop (i + 1)) k : Int)) H'
def spMan : Sp := fun vs H Q _ => ∃ (y : Wy) (i : Nat) (kb : Addr) (v : V) (b : Option (Ky × Ch)) (c : Ch) (k : Ky) (p : Nat), vs = [.ref y.a, .int i, .ref kb, v, .int p] ∧ WyAt CP CW H y ∧ Fulls H y ∧ y.cs[i]? = some c ∧ H kb = some (kyO k) ∧ KeyOk k ∧ Beh H y.cs i v b ∧ p < 150 ∧
  ∀ H', Same H H' → Q (.int (many y.q b c (y.cs.drop (i + 1)) p k : Int)) H'
def spNex : Sp := fun vs H Q _ => ∃ (y : Wy) (i : Nat) (v : V) (b : Option (Ky × Ch)) (c : Ch) (p n : Nat) (k : Ky) (t : Nat), vs = [.ref y.a, .int i, v, .int p, .int n] ∧ WyAt CP CW H y ∧ Fulls H y ∧ y.cs[i]? = some c ∧ Beh H y.cs i v b ∧ p < 150 ∧
  nextKey (many y.q b c (y.cs.drop (i + 1)) p) n Cp09.keys 0 = some (k, t) ∧ ∀ H' u kb, Same H H' → H' u = some (.tup [.ref kb, .int (t : Int)]) → H' kb = some (kyO k) → Q (.ref u) H'
def spRea : Sp := fun vs H Q _ => ∃ (y : Wy) (p n : Nat), vs = [.ref y.a, .int p, .int n] ∧ WyAt CP CW H y ∧ Fulls H y ∧ p < 150 ∧ Enough y.q y.cs none p n ∧
  ∀ H' l, Same H H' → H l = none → Sq kyO H' l (reading y.q y.cs none p n) → Q (.ref l) H'
end
section
variable {P : Program} {w : World} {K : PySem.W.Frag} {mg : Str → Option Value} {base : Heap} {CP CW CR CD : Addr} {f : Addr} {fd : FuncData}
theorem ok_fiP (T : Tx K mg CP CW CR CD) (DE : MethOk P w K mg base CX0 3 CP "of_end" ["self", "chords", "keys"] (spOfE CP)) (F : Fun K "first_price" "Ways.first_price" sFiP f fd) : FnOk P w K mg base CX0 4 f fd ["self"] (spFiP CP CW) := by
  refine F.ok scFiP (fun vs H Q E h => ?_) (fun cdv A outer s H vs Q E hr h => ?_)
  · obtain ⟨y, rfl, _⟩ := h; rfl
  · obtain ⟨y, rfl, Y, q⟩ := h
    obtain ⟨dx, h1⟩ := Y.obj
    obtain ⟨dp, h2⟩ := Y.pr.obj
    obtain ⟨ps, h3, h4⟩ := Y.row
    refine ⟨_, pss_cons (ps_if (pt_cmpR op_eq (pe_callB call_len_seq (by rfl) T.fLen PySem.boot_len (pa_cons (pe_fld (pv 0) rfl) pa_nil)) pe_int (nomark _))
        (pss_one (ps_ret (pe_m (pe_fld (pv 0) rfl) T.cP DE hr pass0 (pa_cons (pe_fld (pv 0) rfl) (pa_cons (pe_lst pa_nil) pa_nil))))) pss_nil)
      (pss_one (ps_ret pe_int)), ?_⟩
    refine ⟨_, rfl, y.a, CW, dx, _, _, rfl, h1, T.cW, T.nW _ (by decide +kernel), lkW_row, _, _, rfl, .inl (SqL.of h3), rfl, _, rfl, ite2 (fun e => ?_) (fun e => ?_)⟩
    · have e' : y.cs.length = 1 := by
        have z := V.int.inj (of_decide_eq_true e)
        rw [List.length_map, h4.1] at z
        omega
      refine ⟨_, rfl, y.a, CW, dx, _, _, rfl, h1, T.cW, T.nW _ (by decide +kernel), lkW_prices, y.p, dp, _, rfl, h2, lkP_none (by decide +kernel), ?_⟩
      refine ⟨_, rfl, y.a, CW, dx, _, _, rfl, h1, T.cW, T.nW _ (by decide +kernel), lkW_row, Nat.zero_le _, fun l hl => ?_⟩
      have s2 := same_upd (o := .lst []) hl
      refine ⟨y.p, y.d, y.r, l, y.q, y.n, y.cs, [], rfl, Y.pr.same s2, Y.row.same s2, ⟨[], upd_same, Each.nil⟩, Y.cok, (fun _ hz => by cases hz), by omega, fun z => by omega, fun H3 s3 => ?_⟩
      have k := q H3 (s2.trans s3)
      unfold firstP at k
      rw [if_pos e'] at k
      have e2 : endOf y.q y.cs [] = y.q.open_ := by
        match y.cs, e' with
        | [x], _ => rfl
      rw [e2]; exact k
    · have e' : ¬ y.cs.length = 1 := fun z => e (by
        refine decide_eq_true ?_
        rw [List.length_map, h4.1, z]; rfl)
      have k := q H (Same.refl H)
      unfold firstP at k
      rw [if_neg e'] at k
      exact k
theorem ok_cou (T : Tx K mg CP CW CR CD) (DF : MethOk P w K mg base CX0 4 CW "first_price" ["self"] (spFiP CP CW))
    (D1 : DefOk P w K mg base CX0 1 "no_counts" [] spNoC) (D3 : DefOk P w K mg base CX0 1 "dearer" ["counts", "by"] spDear) (D4 : DefOk P w K mg base CX0 1 "together" ["one", "other"] spTog)
    (F : Fun K "counts" "Ways.counts" sCou f fd) : FnOk P w K mg base CX0 5 f fd ["self"] (spCou CP CW) := by
  refine F.ok scCou (fun vs H Q E h => ?_) (fun cdv A outer s H vs Q E hr h => ?_)
  · obtain ⟨y, rfl, _⟩ := h; rfl
  · obtain ⟨y, rfl, Y, hf, hne, q⟩ := h
    obtain ⟨dx, h1⟩ := Y.obj
    have hr1 : Room 1 _ := hr.mono (by decide)
    refine ⟨_, pss_cons (ps_set (i := 1) scCou.nd rfl (Or.inl rfl) (pe_d0 D1 hr1 pass0))
      (pss_cons (ps_for PassesOwn.never rfl (pi_list (pe_fld (pv 0) rfl)) (pg_name (i := 2) scCou.nd rfl (Or.inl rfl))
        (pss_one (ps_set (i := 1) scCou.nd rfl (Or.inl rfl) (pe_d D4 hr1 pass0 (pa_cons (pv 1) (pa_cons (pe_dget (hu_of hr) (pe_ix ix_list (pe_fld (pv 0) rfl) pe_int (fun _ _ => rfl)) (pv 2) (fun _ _ => rfl)) pa_nil))))))
      (pss_one (ps_ret (pe_d D3 hr1 pass0 (pa_cons (pv 1) (pa_cons (pe_m0 (pv 0) T.cW DF hr pass0) pa_nil)))))), ?_⟩
    refine ⟨rfl, fun H3 l s23 nl hl => ?_⟩
    obtain ⟨da, hda⟩ : ∃ da, y.ds[0]? = some da := ⟨_, List.getElem?_eq_getElem (by rw [Y.dlen]; exact List.length_pos_iff.mpr hne)⟩
    have hfull := hf 0 da hda
    rw [List.drop_zero] at hfull
    have lG : ∀ x, (W y.q y.cs x).length = 150 := fun x => len_W _ _ _
    refine ⟨_, rfl, y.a, CW, dx, _, _, rfl, s23 _ _ h1, T.cW, T.nW _ (by decide +kernel), lkW_keys, _, rfl, ⟨_, SqL.of (s23 _ _ Y.keys)⟩, for_list (K := K) (a := y.e) (xs := y.ks.map V.ref)
      (fun j σ H' => ∃ l v5, σ = [some (.ref y.a), some (.ref l), v5] ∧ Same H H' ∧ H l = none ∧ H' l = some (.lst (ns ((Cp09.keys.take j).foldl (fun m x => Cp09.added m (W y.q y.cs x)) Cp09.none_))))
      ⟨l, none, rfl, s23, nl, by rw [List.take_zero]; exact hl⟩ (fun j σ H' _ hP => ?_) ?_ ?_⟩
    · obtain ⟨_, _, _, s', _⟩ := hP
      exact s'.seq (SqL.of Y.keys)
    · rintro j v σ H4 hj ⟨l4, v5, rfl, s4, nl4, hl4⟩
      obtain ⟨b5, g5, rfl⟩ := map_get hj
      obtain ⟨x, hx, ex⟩ := Y.each.get' g5
      have hxk : KeyOk x := mem_keys (List.mem_of_getElem? hx)
      obtain ⟨lw, hw1, hw2⟩ := (hfull.same s4).get (s4 _ _ ex) hxk
      refine ⟨_, rfl, _, rfl, y.a, CW, dx, _, _, rfl, s4 _ _ h1, T.cW, T.nW _ (by decide +kernel), lkW_rows, _, _, _, _, rfl, rfl, SqL.of (s4 _ _ Y.rows), atI_nat (j := 0) (get_map hda), _, rfl, da, _, rfl, hw1, ?_⟩
      refine ⟨l4, lw, _, _, rfl, hl4, hw2, len_fold lG _ _ len_none, lG x, fun H7 l7 s7 nl7 hl7 => ?_⟩
      refine ⟨l7, _, rfl, s4.trans s7, s4.free nl7, ?_⟩
      rw [hl7, List.take_add_one, hx]
      show _ = some (HO.lst (ns ((Cp09.keys.take j ++ [x]).foldl (fun m x => Cp09.added m (W y.q y.cs x)) Cp09.none_)))
      rw [List.foldl_append]; rfl
    · rintro σ H4 ⟨l4, v5, rfl, s4, nl4, hl4⟩
      rw [List.length_map, Y.each.1, List.take_length] at hl4
      have fl : firstP y.q y.cs ≤ 1000 := by
        unfold firstP
        have := Y.tb.op
        split <;> omega
      refine ⟨_, rfl, _, rfl, y.a, dx, _, rfl, s4 _ _ h1, lkW_none (by decide +kernel), y, rfl, Y.same s4, fun H5 s5 => ?_⟩
      exact ⟨l4, _, _, rfl, s5 _ _ hl4, len_fold lG _ _ len_none, fl, fun H6 l6 s6 nl6 hl6 => q H6 l6 ((s4.trans s5).trans s6) ((s4.trans s5).free nl6) hl6⟩
theorem ok_spe (T : Tx K mg CP CW CR CD) (DF : MethOk P w K mg base CX0 4 CW "first_price" ["self"] (spFiP CP CW)) (DP : MethOk P w K mg base CX0 3 CW "price_at" ["self", "place", "key"] (spPrA CP CW)) (DS : MethOk P w K mg base CX0 4 CW "step_price" ["self", "place", "key", "other"] (spStP CP CW))
    (F : Fun K "spent" "Ways.spent" sSpe f fd) : FnOk P w K mg base CX0 5 f fd ["self", "place", "key", "behind"] (spSpe CP CW) := by
  refine F.ok scSpe (fun vs H Q E h => ?_) (fun cdv A outer s H vs Q E hr h => ?_)
  · obtain ⟨y, i, kb, v, b, c, k, rfl, _⟩ := h; rfl
  · obtain ⟨y, i, kb, v, b, c, k, rfl, Y, hc, hb, hk, hB, q⟩ := h
    obtain ⟨dx, h1⟩ := Y.obj
    refine ⟨_, pss_cons (ps_if (pt_cmpR op_isN (pv 3) pe_non (nomark _)) (pss_one (ps_ret (pe_m0 (pv 0) T.cW DF hr pass0))) pss_nil)
      (pss_one (ps_ret (pe_op op_add (pe_m (pv 0) T.cW DP (hr.mono (by decide)) pass0 (pa_cons (pe_op op_sub (pv 1) pe_int) (pa_cons (pv 3) pa_nil)))
        (pe_m (pv 0) T.cW DS hr pass0 (pa_cons (pe_op op_sub (pv 1) pe_int) (pa_cons (pv 3) (pa_cons (pv 2) pa_nil))))))), ?_⟩
    rcases hB with ⟨rfl, rfl, rfl⟩ | ⟨j, a, x, d, rfl, ha, hx, rfl, hd, rfl⟩
    · refine ⟨_, rfl, rfl, _, rfl, ite2 (fun e => ?_) (fun e => absurd rfl e)⟩
      refine ⟨_, rfl, y.a, dx, _, rfl, h1, lkW_none (by decide +kernel), y, rfl, Y, fun H2 s2 => ?_⟩
      have k2 := q H2 s2
      have e2 : spent y.q none c (y.cs.drop (0 + 1)) k = firstP y.q y.cs := by
        have hd := drop_at hc
        rw [List.drop_zero] at hd
        unfold spent firstP
        have hl : y.cs.length = (y.cs.drop (0 + 1)).length + 1 := by
          have z := congrArg List.length hd
          rw [List.length_cons] at z
          exact z
        rw [hl]
        cases y.cs.drop (0 + 1) with
        | nil => rfl
        | cons u r => simp
      rw [e2] at k2
      exact k2
    · refine ⟨_, rfl, rfl, _, rfl, ite2 (fun e => by cases e) (fun e => ?_)⟩
      have ej : ((j + 1 : Nat) : Int) - 1 = (j : Int) := by omega
      refine ⟨_, rfl, y.a, dx, _, rfl, h1, lkW_none (by decide +kernel), _, rfl, _, _, rfl, rfl, _, rfl, ?_⟩
      refine ⟨y, j, a, d, x, by show [V.ref y.a, V.int (((j + 1 : Nat) : Int) - 1), V.ref a] = _; rw [ej], Y, hd, ha, hx, fun H2 s2 => ?_⟩
      refine ⟨_, rfl, y.a, dx, _, rfl, s2 _ _ h1, lkW_none (by decide +kernel), _, rfl, _, _, rfl, rfl, _, rfl, _, rfl, ?_⟩
      refine ⟨y, j, a, kb, d, c, x, k, by show [V.ref y.a, V.int (((j + 1 : Nat) : Int) - 1), V.ref a, V.ref kb] = _; rw [ej], Y.same s2, hd, hc, s2 _ _ ha, hx, s2 _ _ hb, hk, fun H3 s3 => ?_⟩
      refine ⟨_, _, rfl, rfl, ?_⟩
      have k2 := q H3 (s2.trans s3)
      unfold spent at k2
      have k3 : Q (.int ((Cp09.own y.q x d + stepP y.q d c (y.cs.drop (j + 1 + 1)).isEmpty x k : Nat) : Int)) H3 := k2
      rw [Int.natCast_add] at k3
      exact k3
theorem ok_man (T : Tx K mg CP CW CR CD) (DS : MethOk P w K mg base CX0 5 CW "spent" ["self", "place", "key", "behind"] (spSpe CP CW)) (F : Fun K "many_at" "Ways.many_at" sMan f fd) : FnOk P w K mg base CX0 6 f fd ["self", "place", "key", "behind", "cost"] (spMan CP CW) := by
  refine F.ok scMan (fun vs H Q E h => ?_) (fun cdv A outer s H vs Q E hr h => ?_)
  · obtain ⟨y, i, kb, v, b, c, k, p, rfl, _⟩ := h; rfl
  · obtain ⟨y, i, kb, v, b, c, k, p, rfl, Y, hf, hc, hb, hk, hB, hp, q⟩ := h
    obtain ⟨dx, h1⟩ := Y.obj
    refine ⟨_, pss_cons (ps_set (i := 5) scMan.nd rfl (Or.inl rfl) (pe_op op_sub (pv 4) (pe_m (pv 0) T.cW DS hr pass0 (pa_cons (pv 1) (pa_cons (pv 2) (pa_cons (pv 3) pa_nil))))))
      (pss_cons (ps_if (pt_cmpR op_lt (pv 5) pe_int (nomark _)) (pss_one (ps_ret pe_int)) pss_nil)
      (pss_one (ps_ret (pe_ix ix_list (pe_dget (hu_of hr) (pe_ix ix_list (pe_fld (pv 0) rfl) (pv 1) (fun _ _ => rfl)) (pv 2) (fun _ _ => rfl)) (pv 5) (fun _ _ => rfl))))), ?_⟩
    refine ⟨_, rfl, _, rfl, y.a, dx, _, rfl, h1, lkW_none (by decide +kernel), _, rfl, _, rfl, _, rfl, y, i, kb, v, b, c, k, rfl, Y, hc, hb, hk, hB, fun H2 s2 => ?_⟩
    have k2 := q H2 s2
    unfold many at k2
    refine ⟨_, _, rfl, rfl, _, rfl, _, _, rfl, rfl, _, rfl, ite2 (fun e => ?_) (fun e => ?_)⟩
    · have e' : p < spent y.q b c (y.cs.drop (i + 1)) k := by
        have z := of_decide_eq_true e
        omega
      rw [if_pos e'] at k2
      exact k2
    · have e' : ¬ p < spent y.q b c (y.cs.drop (i + 1)) k := fun z => e (decide_eq_true (by omega))
      rw [if_neg e'] at k2
      obtain ⟨da, hda⟩ : ∃ da, y.ds[i]? = some da := ⟨_, List.getElem?_eq_getElem (by rw [Y.dlen]; exact (List.getElem?_eq_some_iff.mp hc).1)⟩
      have hfull := hf i da hda
      rw [drop_at hc] at hfull
      obtain ⟨lw, hw1, hw2⟩ := (hfull.same s2).get (s2 _ _ hb) hk
      have hlt : p - spent y.q b c (y.cs.drop (i + 1)) k < (W y.q (c :: y.cs.drop (i + 1)) k).length := by rw [len_W]; omega
      refine ⟨_, rfl, y.a, CW, dx, _, _, rfl, s2 _ _ h1, T.cW, T.nW _ (by decide +kernel), lkW_rows, _, rfl, _, _, _, _, rfl, rfl, SqL.of (s2 _ _ Y.rows), atI_nat (get_map hda), _, rfl, da, _, rfl, hw1, _, rfl, lw, _, _, _, rfl, rfl, SqL.of hw2,
        at_of (j := p - spent y.q b c (y.cs.drop (i + 1)) k) (by show (p : Int) - (spent y.q b c (y.cs.drop (i + 1)) k : Int) = _; omega) (by rw [List.getElem?_map, List.getElem?_eq_getElem hlt]; rfl), ?_⟩
      rw [getD_lt hlt] at k2
      exact k2
end
end CK
namespace CK
open PySem PySem.Spec PyProof.Rows L2
theorem nextKey_drop {f : Ky → Nat} {n : Nat} : ∀ (l : List Ky) (i s : Nat) (x : Ky), l[i]? = some x → nextKey f n (l.drop i) s = if n < s + f x then some (x, s) else nextKey f n (l.drop (i + 1)) (s + f x) := fun l i s x h => by
  rw [drop_at h]; rfl
def spWInit (CP CW : Addr) : Sp := fun vs H Q _ => ∃ (a r p d : Addr) (q : Tb) (n : Nat) (cs : List Ch), vs = [.ref a, .ref r, .ref p] ∧ (∃ dx, H a = some (.ins CW dx [])) ∧ Sq chO H r cs ∧ PrAt CP H p d q n ∧ TbOk q ∧ (∀ c ∈ cs, ChordOk c) ∧ cs.length ≤ 16 ∧
  ∀ H' y, y.a = a → y.q = q → y.cs = cs → WyAt CP CW H' y → Fulls H' y → (∀ b o, H b = some o → b ≠ a → H' b = some o) → Q .non H'
theorem wF_init (r p e rs : Addr) : putF "rows" (.ref rs) (putF "every_key" (.ref e) (putF "prices" (.ref p) (putF "row" (.ref r) []))) = wF r p e rs := by
  repeat (first | rw [put_nil] | rw [put_past (by decide +kernel)])
  rfl
/-- a dict of a chord changes: the rest of the object stands -/
theorem WyAt.updD {CP CW : Addr} {H : Hp} {y : Wy} {da : Addr} {k0 k1 : List (List L2.Key × V)} (h : WyAt CP CW H y) (hd : H da = some (.dT k0)) (ne : da ≠ y.d) : WyAt CP CW (upd H da (.dT k1)) y := by
  obtain ⟨⟨dx, h1⟩, ⟨ps, h2, h2'⟩, ⟨⟨dp, h3⟩, kvs, h3', h3''⟩, h4, h5, h6, h7, h8, h9, h10⟩ := h
  have up : ∀ {b o}, H b = some o → (∀ k, o ≠ .dT k) → upd H da (.dT k1) b = some o := fun {b o} e n => by
    rw [upd_ne (ne_of e hd (n k0))]; exact e
  refine ⟨⟨dx, up h1 (fun k z => by cases z)⟩, ⟨ps, up h2 (fun k z => by cases z), h2'.1, fun i p x e1 e2 => up (h2'.2 i p x e1 e2) (fun k z => by cases z)⟩, ⟨⟨dp, up h3 (fun k z => by cases z)⟩, kvs, ?_, h3''⟩, up h4 (fun k z => by cases z), ⟨h5.1, fun i p x e1 e2 => up (h5.2 i p x e1 e2) (fun k z => by cases z)⟩, up h6 (fun k z => by cases z), h7, h8, h9, h10⟩
  rw [upd_ne (Ne.symm ne)]; exact h3'
theorem Full.updD {H : Hp} {da db : Addr} {q : Tb} {suf : List Ch} {k0 k1 : List (List L2.Key × V)} (h : Full H db q suf) (hd : H da = some (.dT k0)) (ne : db ≠ da) : Full (upd H da (.dT k1)) db q suf := by
  obtain ⟨kvs, h1, h2⟩ := h
  refine ⟨kvs, by rw [upd_ne ne]; exact h1, fun k hk => ?_⟩
  obtain ⟨l, e1, e2⟩ := h2 k hk
  exact ⟨l, e1, by rw [upd_ne (ne_of e2 hd (fun z => by cases z))]; exact e2⟩
theorem ky2_inj {k x : Ky} (h : ky2 k = ky2 x) : k = x := by
  unfold ky2 at h
  injection h with h1 h2
  injection h2 with h2 _
  injection h1 with h1; injection h2 with h2
  obtain ⟨t, m⟩ := k
  obtain ⟨t', m'⟩ := x
  have : t = t' := by dsimp only at h2; omega
  have : m = m' := by dsimp only at h1; omega
  subst t m; rfl
section
variable {P : Program} {w : World} {K : PySem.W.Frag} {mg : Str → Option Value} {base : Heap} {CP CW CR CD : Addr} {f : Addr} {fd : FuncData}
theorem ok_nex (T : Tx K mg CP CW CR CD) (DM : MethOk P w K mg base CX0 6 CW "many_at" ["self", "place", "key", "behind", "cost"] (spMan CP CW)) (F : Fun K "next_key" "Ways.next_key" sNex f fd) : FnOk P w K mg base CX0 7 f fd ["self", "place", "behind", "cost", "number"] (spNex CP CW) := by
  refine F.ok scNex (fun vs H Q E h => ?_) (fun cdv A outer s H vs Q E hr h => ?_)
  · obtain ⟨y, i, v, b, c, p, n, k, t, rfl, _⟩ := h; rfl
  · obtain ⟨y, i, v, b, c, p, n, k, t, rfl, Y, hf, hc, hB, hp, hn, q⟩ := h
    obtain ⟨dx, h1⟩ := Y.obj
    refine ⟨_, pss_cons (ps_set (i := 5) scNex.nd rfl (Or.inl rfl) pe_int)
      (pss_cons (ps_for PassesOwn.never rfl (pi_list (pe_fld (pv 0) rfl)) (pg_name (i := 6) scNex.nd rfl (Or.inl rfl))
        (pss_cons (ps_set (i := 7) scNex.nd rfl (Or.inl rfl) (pe_m (pv 0) T.cW DM hr pass0 (pa_cons (pv 1) (pa_cons (pv 6) (pa_cons (pv 2) (pa_cons (pv 3) pa_nil))))))
        (pss_cons (ps_if (pt_cmpR op_lt (pv 4) (pe_op op_add (pv 5) (pv 7)) (nomark _)) (pss_one (ps_ret (pe_tup (pa_cons (pv 6) (pa_cons (pv 5) pa_nil))))) pss_nil)
        (pss_one (ps_set (i := 5) scNex.nd rfl (Or.inl rfl) (pe_op op_add (pv 5) (pv 7)))))))
      (pss_one (ps_ret (pe_tup (pa_cons (pe_ix ix_list (pe_fld (pv 0) rfl) pe_int (fun _ _ => rfl)) (pa_cons (pv 5) pa_nil)))))), ?_⟩
    refine ⟨_, rfl, y.a, CW, dx, _, _, rfl, h1, T.cW, T.nW _ (by decide +kernel), lkW_keys, _, rfl, ⟨_, SqL.of Y.keys⟩, for_list (K := K) (a := y.e) (xs := y.ks.map V.ref)
      (fun j σ H' => ∃ (s : Nat) (v6 v7 : Option V), σ = [some (.ref y.a), some (.int (i : Int)), some v, some (.int (p : Int)), some (.int (n : Int)), some (.int (s : Int)), v6, v7] ∧ Same H H' ∧ nextKey (many y.q b c (y.cs.drop (i + 1)) p) n (Cp09.keys.drop j) s = some (k, t))
      ⟨0, none, none, rfl, Same.refl H, hn⟩ (fun j σ H' _ hP => ?_) ?_ ?_⟩
    · obtain ⟨_, _, _, _, s', _⟩ := hP
      exact s'.seq (SqL.of Y.keys)
    · rintro j v0 σ H4 hj ⟨s4, v6, v7, rfl, sm, hnk⟩
      obtain ⟨b5, g5, rfl⟩ := map_get hj
      obtain ⟨x, hx, ex⟩ := Y.each.get' g5
      have hxk : KeyOk x := mem_keys (List.mem_of_getElem? hx)
      rw [nextKey_drop _ _ _ _ hx] at hnk
      refine ⟨_, rfl, y.a, dx, _, rfl, sm _ _ h1, lkW_none (by decide +kernel), _, rfl, _, rfl, _, rfl, _, rfl, ?_⟩
      refine ⟨y, i, b5, v, b, c, x, p, rfl, Y.same sm, hf.same sm, hc, sm _ _ ex, hxk, hB.same sm, hp, fun H5 s5 => ?_⟩
      refine ⟨_, rfl, _, rfl, _, rfl, _, _, rfl, rfl, _, _, rfl, rfl, _, rfl, ite2 (fun e => ?_) (fun e => ?_)⟩
      · have e' : n < s4 + many y.q b c (y.cs.drop (i + 1)) p x := by
          have z := of_decide_eq_true e
          omega
        rw [if_pos e'] at hnk
        have hnk' := Option.some.inj hnk
        have ek : x = k := congrArg Prod.fst hnk'
        have et : s4 = t := congrArg Prod.snd hnk'
        rw [ek] at ex
        rw [← et] at q
        refine ⟨_, rfl, _, rfl, (by show 2 ≤ sizeLine; decide), fun u hu => ?_⟩
        have s6 := same_upd (o := .tup [V.ref b5, V.int (s4 : Int)]) hu
        exact q _ u b5 ((sm.trans s5).trans s6) upd_same (s6 _ _ (s5 _ _ (sm _ _ ex)))
      · have e' : ¬ n < s4 + many y.q b c (y.cs.drop (i + 1)) p x := fun z => e (decide_eq_true (by omega))
        rw [if_neg e'] at hnk
        exact ⟨_, rfl, _, rfl, _, _, rfl, rfl, s4 + many y.q b c (y.cs.drop (i + 1)) p x, _, _, by show _ = [_, _, _, _, _, some (V.int ((s4 + many y.q b c (y.cs.drop (i + 1)) p x : Nat) : Int)), _, _]; rw [Int.natCast_add]; rfl, sm.trans s5, hnk⟩
    · rintro σ H4 ⟨s4, v6, v7, rfl, sm, hnk⟩
      rw [List.length_map, Y.each.1, List.drop_length] at hnk
      cases hnk
theorem ok_rea (T : Tx K mg CP CW CR CD) (DN : MethOk P w K mg base CX0 7 CW "next_key" ["self", "place", "behind", "cost", "number"] (spNex CP CW)) (DS : MethOk P w K mg base CX0 5 CW "spent" ["self", "place", "key", "behind"] (spSpe CP CW)) (F : Fun K "reading" "Ways.reading" sRea f fd) : FnOk P w K mg base CX0 8 f fd ["self", "cost", "number"] (spRea CP CW) := by
  refine F.ok scRea (fun vs H Q E h => ?_) (fun cdv A outer s H vs Q E hr h => ?_)
  · obtain ⟨y, p, n, rfl, _⟩ := h; rfl
  · obtain ⟨y, p, n, rfl, Y, hf, hp, he, q⟩ := h
    obtain ⟨dx, h1⟩ := Y.obj
    obtain ⟨ps, h3, h4⟩ := Y.row
    refine ⟨_, pss_cons (ps_set (i := 3) scRea.nd rfl (Or.inl rfl) (pe_lst pa_nil))
      (pss_cons (ps_set (i := 4) scRea.nd rfl (Or.inl rfl) pe_non)
      (pss_cons (ps_for PassesOwn.never rfl (pi_range1 rfl T.fRange (pa_cons (pe_callB call_len_seq (by rfl) T.fLen PySem.boot_len (pa_cons (pe_fld (pv 0) rfl) pa_nil)) pa_nil)) (pg_name (i := 5) scRea.nd rfl (Or.inl rfl))
        (pss_cons (ps_asg (pe_m (pv 0) T.cW DN hr pass0 (pa_cons (pv 5) (pa_cons (pv 4) (pa_cons (pv 1) (pa_cons (pv 2) pa_nil))))) (pg_tup (by rfl) (pgs_cons (pg_name (i := 6) scRea.nd rfl (Or.inl rfl)) (pgs_cons (pg_name (i := 7) scRea.nd rfl (Or.inl rfl)) pgs_nil))))
        (pss_cons (ps_set (i := 2) scRea.nd rfl (Or.inl rfl) (pe_op op_sub (pv 2) (pv 7)))
        (pss_cons (ps_set (i := 1) scRea.nd rfl (Or.inl rfl) (pe_op op_sub (pv 1) (pe_m (pv 0) T.cW DS (hr.mono (by decide)) pass0 (pa_cons (pv 5) (pa_cons (pv 6) (pa_cons (pv 4) pa_nil))))))
        (pss_cons (ps_set (i := 4) scRea.nd rfl (Or.inl rfl) (pv 6))
        (pss_one (ps_expr (pe_bm PySem.F.plainAttrs_list PySem.F.slot_list_append PySem.F.type_list_append mt_append (pv 3) (pa_cons (pv 6) pa_nil)))))))))
      (pss_one (ps_ret (pv 3))))), ?_⟩
    refine ⟨Nat.zero_le _, fun l hl => ?_⟩
    have s1 := same_upd (o := .lst []) hl
    refine ⟨_, rfl, y.a, CW, dx, _, _, rfl, s1 _ _ h1, T.cW, T.nW _ (by decide +kernel), lkW_row, _, _, rfl, .inl (SqL.of (s1 _ _ h3)), ((ps.map V.ref).length : Int), rfl, by omega, ?_, ?_⟩
    · have := Y.clen
      rw [List.length_map, h4.1]; omega
    refine for_range (n := ((ps.map V.ref).length : Int).toNat) (fun i σ H' => ∃ (pi ni : Nat) (v : V) (b : Option (Ky × Ch)) (v5 v6 v7 : Option V) (ks : List Ky), σ = [some (.ref y.a), some (.int (pi : Int)), some (.int (ni : Int)), some (.ref l), some v, v5, v6, v7] ∧ Same H H' ∧ Sq kyO H' l ks ∧
        Beh H' y.cs i v b ∧ pi < 150 ∧ Enough y.q (y.cs.drop i) b pi ni ∧ ks ++ reading y.q (y.cs.drop i) b pi ni = reading y.q y.cs none p n ∧ ks.length = i)
      ⟨p, n, .non, none, none, none, none, [], rfl, s1, ⟨[], upd_same, Each.nil⟩, .inl ⟨rfl, rfl, rfl⟩, hp, he, rfl, rfl⟩ ?_ ?_
    · rintro i σ H2 hi ⟨pi, ni, v, b, v5, v6, v7, ks, rfl, s2, ⟨qs, hqs, eqs⟩, hB, hpi, hE, hR, hkl⟩
      have hi' : i < y.cs.length := by
        rw [List.length_map, h4.1] at hi
        omega
      obtain ⟨c, hc⟩ : ∃ c, y.cs[i]? = some c := ⟨_, List.getElem?_eq_getElem hi'⟩
      have hd := drop_at hc
      rw [hd] at hE hR
      obtain ⟨k, t, hk⟩ := nextKey_is (f := many y.q b c (y.cs.drop (i + 1)) pi) (n := ni) (l := Cp09.keys) (s := 0) (by rw [Nat.zero_add]; exact hE) (Nat.zero_le _)
      obtain ⟨hkm, ht, hlt⟩ := nextKey_some (Nat.zero_le _) hk
      obtain ⟨g1, g2, g3, g4⟩ := enough_next hpi ht hlt
      have e0 : (0 : Int) + (i : Int) = (i : Int) := Int.zero_add _
      refine ⟨_, rfl, y.a, dx, _, rfl, s2 _ _ h1, lkW_none (by decide +kernel), _, rfl, _, rfl, _, rfl, _, rfl, ?_⟩
      refine ⟨y, i, v, b, c, pi, ni, k, t, by show [V.ref y.a, V.int (0 + (i : Int)), v, V.int (pi : Int), V.int (ni : Int)] = _; rw [e0], Y.same s2, hf.same s2, hc, hB, hpi, hk, fun H3 u kb s3 hu hkb => ?_⟩
      refine ⟨u, _, rfl, SqT.of hu, rfl, _, _, rfl, _, _, rfl, rfl, ?_⟩
      refine ⟨_, rfl, _, rfl, _, _, rfl, rfl, ?_⟩
      refine ⟨_, rfl, _, rfl, y.a, dx, _, rfl, s3 _ _ (s2 _ _ h1), lkW_none (by decide +kernel), _, rfl, _, rfl, _, rfl, ?_⟩
      refine ⟨y, i, kb, v, b, c, k, by show [V.ref y.a, V.int (0 + (i : Int)), V.ref kb, v] = _; rw [e0], (Y.same s2).same s3, hc, hkb, mem_keys hkm, hB.same s3, fun H4 s4 => ?_⟩
      refine ⟨_, _, rfl, rfl, _, rfl, ?_⟩
      have l4 : H4 l = some (.lst (qs.map V.ref)) := s4 _ _ (s3 _ _ hqs)
      refine ⟨_, rfl, .inl ⟨rfl, _, SqL.of l4⟩, _, rfl, l, _, _, rfl, rfl, l4, ?_, ?_⟩
      · rw [List.length_map, eqs.1, hkl]
        have := Y.clen
        exact small1000 (by omega)
      · have s24 := (s2.trans s3).trans s4
        have up : ∀ b x, H4 b = some (kyO x) → upd H4 l (.lst (qs.map V.ref ++ [V.ref kb])) b = some (kyO x) := fun b x e => by
          rw [upd_ne (ne_of e l4 (kyO_no x _))]; exact e
        have sm : Same H (upd H4 l (.lst (qs.map V.ref ++ [V.ref kb]))) := fun b o e => by
          rw [upd_ne (ne_of_none e hl)]; exact s24 _ _ e
        have hkb4 := up kb k (s4 _ _ hkb)
        refine ⟨pi - spent y.q b c (y.cs.drop (i + 1)) k, ni - t, .ref kb, some (k, c), some (.int (0 + (i : Int))), some (.ref kb), some (.int (t : Int)), ks ++ [k], ?_, sm, ⟨qs ++ [kb], ?_, ?_⟩, .inr ⟨i, kb, k, c, rfl, hkb4, mem_keys hkm, rfl, hc, rfl⟩, by omega, g4, ?_, by rw [List.length_append, hkl]; rfl⟩
        · have e1 : (pi : Int) - (spent y.q b c (y.cs.drop (i + 1)) k : Int) = ((pi - spent y.q b c (y.cs.drop (i + 1)) k : Nat) : Int) := by omega
          have e2 : (ni : Int) - (t : Int) = ((ni - t : Nat) : Int) := by omega
          rw [← e1, ← e2]; rfl
        · rw [upd_same, List.map_append]; rfl
        · exact Each.snoc ⟨eqs.1, fun j b x a1 a2 => up b x (s4 _ _ (s3 _ _ (eqs.2 j b x a1 a2)))⟩ hkb4
        · rw [← hR, reading, hk, List.append_assoc]; rfl
    · rintro σ H2 ⟨pi, ni, v, b, v5, v6, v7, ks, rfl, s2, hS, hB, hpi, hE, hR, hkl⟩
      have e : y.cs.drop ((ps.map V.ref).length : Int).toNat = [] := by
        rw [List.length_map, h4.1, Int.toNat_natCast, List.drop_length]
      rw [e] at hR
      have hR' : ks = reading y.q y.cs none p n := by
        rw [← hR]; exact (List.append_nil ks).symm
      rw [hR'] at hS
      exact ⟨_, rfl, q H2 l s2 hl hS⟩
theorem ok_winit (T : Tx K mg CP CW CR CD) (DA : DefOk P w K mg base CX0 1 "all_keys" [] spAll) (DC : MethOk P w K mg base CX0 5 CW "counts_at" ["self", "place", "key"] (spCoA CP CW)) (F : Fun K "__init__" "Ways.__init__" sWInit f fd) :
    FnOk P w K mg base CX0 6 f fd ["self", "chords", "prices"] (spWInit CP CW) := by
  refine F.ok scWInit (fun vs H Q E h => ?_) (fun cdv A outer s H vs Q E hr h => ?_)
  · obtain ⟨a, r, p, d, q, n, cs, rfl, _⟩ := h; rfl
  · obtain ⟨a, r, p, d, q, n, cs, rfl, ⟨dx, h1⟩, hrow, hpr, tb, cok, clen, hq⟩ := h
    obtain ⟨ps, hr1, hr2⟩ := hrow
    refine ⟨_, pss_cons (ps_fld (pv 0) (pv 1) rfl) (pss_cons (ps_fld (pv 0) (pv 2) rfl) (pss_cons (ps_fld (pv 0) (pe_d0 DA (hr.mono (by decide)) pass0) rfl)
      (pss_cons (ps_fld (pv 0) (pe_lc (own := [("chord", 3)]) (g := gName 3) (tt := tYes) rfl scWInit.nd (pi_list (pv 1)) (blkOk_by (own := [("chord", 3)]) (N := ["self", "chords", "prices", "chord", "place", "key"]) (sc := defScope sWInit) (by decide +kernel))
        (fun _ _ _ _ _ => pg_name (i := 3) scWInit.nd rfl (Or.inl rfl)) (fun _ _ _ _ _ => pts_nil) (fun _ _ _ _ _ => pe_dnewT)) rfl)
      (pss_one (ps_for PassesOwn.never rfl (pi_range3 rfl T.fRange (pa_cons (pe_op op_sub (pe_callB call_len_seq (by rfl) T.fLen PySem.boot_len (pa_cons (pv 1) pa_nil)) pe_int) (pa_cons (pe_un un_neg pe_int) (pa_cons (pe_un un_neg pe_int) pa_nil))))
        (pg_name (i := 4) scWInit.nd rfl (Or.inl rfl))
        (pss_one (ps_for PassesOwn.never rfl (pi_list (pe_fld (pv 0) rfl)) (pg_name (i := 5) scWInit.nd rfl (Or.inl rfl))
          (pss_one (ps_dput (hu_of hr) (pe_ix ix_list (pe_fld (pv 0) rfl) (pv 4) (fun _ _ => rfl)) (pv 5) (pe_m (pv 0) T.cW DC hr pass0 (pa_cons (pv 4) (pa_cons (pv 5) pa_nil))) rfl))))))))), ?_⟩
    refine ⟨_, rfl, _, rfl, a, CW, dx, _, rfl, h1, T.cW, T.nW _ (by decide +kernel), (by show 0 < 1000; decide), ?_⟩
    refine ⟨_, rfl, _, rfl, a, CW, dx, _, rfl, upd_same, T.cW, T.nW _ (by decide +kernel), (by show 1 < 1000; decide), ?_⟩
    have Sb : ∀ b o, H b = some o → b ≠ a → (upd (upd H a (.ins CW dx (putF "row" (.ref r) []))) a (.ins CW dx (putF "prices" (.ref p) (putF "row" (.ref r) [])))) b = some o := fun b o e hb => by
      rw [upd_ne hb, upd_ne hb]; exact e
    refine ⟨rfl, fun H2 e s2 ne hke => ?_⟩
    have h2a := s2 a _ upd_same
    refine ⟨_, rfl, a, CW, dx, _, rfl, h2a, T.cW, T.nW _ (by decide +kernel), (by show 2 < 1000; decide), ?_⟩
    have nea : e ≠ a := fun z => by
      rw [z, upd_same] at ne; cases ne
    obtain ⟨ks, hk1, hk2⟩ := hke
    let I3 : HO := .ins CW dx (putF "every_key" (.ref e) (putF "prices" (.ref p) (putF "row" (.ref r) [])))
    have k3 : ∀ {b o}, H b = some o → b ≠ a → upd H2 a I3 b = some o := fun {b o} h hb => by rw [upd_ne hb]; exact s2 b o (Sb b o h hb)
    have nra : r ≠ a := ne_of hr1 h1 (fun z => by cases z)
    have r3 : upd H2 a I3 r = some (.lst (ps.map V.ref)) := k3 hr1 nra
    have same3 : ∀ {b o}, H2 b = some o → b ≠ a → upd H2 a I3 b = some o := fun {b o} h hb => by rw [upd_ne hb]; exact h
    refine ⟨_, rfl, r, rfl, ⟨_, SqL.of r3⟩, fun D hD => lc_gen (n := cs.length) (fun i H' => Same (upd H2 a I3) H' ∧ ∃ ds : List Addr, H' D = some (.lst (ds.map V.ref)) ∧ ds.length = i ∧ ds.Nodup ∧ ∀ da ∈ ds, H' da = some (.dT []) ∧ upd H2 a I3 da = none)
      ⟨same_upd hD, [], upd_same, rfl, List.nodup_nil, fun _ hz => by cases hz⟩ (fun i H' hi hP => go_list (hP.1.seq (SqL.of r3)) (by rw [List.length_map, hr2.1]; exact hi)) (fun H' hP => by rw [← hr2.1, ← List.length_map (f := V.ref)]; exact stop_list (hP.1.seq (SqL.of r3))) ?_ ?_⟩
    · rintro i H' x H'' hi ⟨sm, ds, hd1, hd2, hd3, hd4⟩ ⟨rfl, _⟩
      refine ⟨rfl, fun t ht => ⟨ds.map V.ref, same_upd ht _ _ hd1, by rw [List.length_map]; exact small1000 (by omega), fun b o e' => ?_, ds ++ [t], ?_, by rw [List.length_append, hd2]; rfl, ?_, fun da hda => ?_⟩⟩
      · rw [upd_ne (ne_of_none e' hD)]; exact same_upd ht _ _ (sm _ _ e')
      · rw [upd_same, List.map_append]; rfl
      · refine nd_snoc hd3 fun hm => ?_
        rw [(hd4 t hm).1] at ht; cases ht
      · rcases List.mem_append.mp hda with hm | hm
        · have nD : da ≠ D := fun z => by
            rw [z] at hm
            rw [(hd4 D hm).1] at hd1; cases hd1
          exact ⟨by rw [upd_ne nD]; exact same_upd ht _ _ (hd4 da hm).1, (hd4 da hm).2⟩
        · have z : da = t := List.mem_singleton.mp hm
          have nD : da ≠ D := fun z2 => by
            rw [← z, z2] at ht
            rw [ht] at hd1; cases hd1
          refine ⟨by rw [upd_ne nD, z, upd_same], ?_⟩
          rw [z]; exact sm.free ht
    · rintro H4 ⟨s4, ds, hd1, hd2, hd3, hd4⟩
      have h4a : H4 a = some I3 := s4 a _ upd_same
      refine ⟨_, rfl, a, CW, dx, _, rfl, h4a, T.cW, T.nW _ (by decide +kernel), (by show 3 < 1000; decide), ?_⟩
      rw [wF_init]
      have k5 : ∀ {b o}, H b = some o → b ≠ a → upd H4 a (.ins CW dx (wF r p e D)) b = some o := fun {b o} h hb => by rw [upd_ne hb]; exact s4 _ _ (k3 h hb)
      have k5' : ∀ {b o}, H2 b = some o → b ≠ a → upd H4 a (.ins CW dx (wF r p e D)) b = some o := fun {b o} h hb => by rw [upd_ne hb]; exact s4 _ _ (same3 h hb)
      have nDa : D ≠ a := ne_of hd1 (show H4 a = some (.ins CW dx _) from h4a) (fun z => by cases z)
      obtain ⟨⟨dp, hp1⟩, kvs0, hp2, hp3⟩ := hpr
      have hpa : p ≠ a := fun z => by
        rw [z, h1] at hp1
        have := Option.some.inj hp1
        injection this with _ _ z3
        cases z3
      have hda : d ≠ a := ne_of hp2 h1 (fun z => by cases z)
      let y : Wy := ⟨a, r, p, d, e, D, q, n, cs, ks, ds⟩
      have Y5 : WyAt CP CW (upd H4 a (.ins CW dx (wF r p e D))) y := ⟨⟨dx, upd_same⟩, ⟨ps, k5 hr1 nra, hr2.1, fun i b x e1 e2 => k5 (hr2.2 i b x e1 e2) (ne_of (hr2.2 i b x e1 e2) h1 (fun z => by cases z))⟩, ⟨⟨dp, k5 hp1 hpa⟩, kvs0, k5 hp2 hda, hp3⟩,
        k5' hk1 nea, ⟨hk2.1, fun i b x e1 e2 => k5' (hk2.2 i b x e1 e2) (ne_of (hk2.2 i b x e1 e2) h2a (fun z => by cases z))⟩, by rw [upd_ne nDa]; exact hd1, hd2, tb, cok, clen⟩
      have n0 : ∀ da ∈ ds, H da = none := fun da hm => by
        have z := (hd4 da hm).2
        have na : da ≠ a := fun z2 => by
          rw [z2, upd_same] at z; cases z
        cases c : H da with
        | none => rfl
        | some o => rw [k3 c na] at z; cases z
      have hlen : (((ps.map V.ref).length : Int) - 1 - -1).toNat = cs.length := by rw [List.length_map, hr2.1]; omega
      have rgc : RgC (((ps.map V.ref).length : Int) - 1) (-1) (-1) cs.length := by
        rw [← hlen]
        exact RgC.neg (by omega) (by rw [List.length_map, hr2.1]; omega) (by decide) (by decide)
      refine ⟨_, rfl, _, _, rfl, .inl (SqL.of (k5 hr1 nra)), _, _, rfl, rfl, 1, rfl, 1, rfl, _, _, _, cs.length, rfl, rgc, for_rangeC (lo := ((ps.map V.ref).length : Int) - 1) (c := -1) (n := cs.length)
        (fun i σ H' => (∃ v3 v4 v5, σ = [some (.ref a), some (.ref r), some (.ref p), v3, v4, v5]) ∧ WyAt CP CW H' y ∧ (∀ b o, H b = some o → b ≠ a → H' b = some o) ∧ ∀ j da, ds[j]? = some da → if cs.length ≤ i + j then Full H' da q (cs.drop j) else H' da = some (.dT []))
        ⟨⟨none, none, none, rfl⟩, Y5, fun b o h hb => k5 h hb, fun j da hj => ?_⟩ ?_ ?_⟩
      · have hjl := (List.getElem?_eq_some_iff.mp hj).1
        rw [if_neg (by omega)]
        have hm := List.mem_of_getElem? hj
        have na : da ≠ a := fun z => by
          have := (hd4 da hm).2
          rw [z, upd_same] at this; cases this
        rw [upd_ne na]; exact (hd4 da hm).1
      · rintro i σ H6 hi ⟨⟨v3, v4, v5, rfl⟩, Y6, f6, g6⟩
        obtain ⟨j0, ej0⟩ : ∃ j0, j0 + i + 1 = cs.length := ⟨cs.length - 1 - i, by omega⟩
        obtain ⟨c0, hc0⟩ : ∃ c0, cs[j0]? = some c0 := ⟨_, List.getElem?_eq_getElem (by omega)⟩
        obtain ⟨da0, hda0⟩ : ∃ da0, ds[j0]? = some da0 := ⟨_, List.getElem?_eq_getElem (by omega)⟩
        have e0 : ((ps.map V.ref).length : Int) - 1 + (i : Int) * -1 = (j0 : Int) := by rw [List.length_map, hr2.1]; omega
        have g0 := g6 j0 da0 hda0
        rw [if_neg (by omega)] at g0
        have nd0 : da0 ≠ d := fun z => by
          have := n0 da0 (List.mem_of_getElem? hda0)
          rw [z, hp2] at this; cases this
        obtain ⟨dx6, h6a⟩ := Y6.obj
        rw [e0]
        refine ⟨_, rfl, a, CW, dx6, _, _, rfl, h6a, T.cW, T.nW _ (by decide +kernel), lkW_keys, _, rfl, ⟨_, SqL.of Y6.keys⟩, for_list (K := K) (a := e) (xs := ks.map V.ref)
          (fun t σ H' => (∃ v3 v5, σ = [some (.ref a), some (.ref r), some (.ref p), v3, some (.int (j0 : Int)), v5]) ∧ WyAt CP CW H' y ∧ (∀ b o, H b = some o → b ≠ a → H' b = some o) ∧ (∀ j da, ds[j]? = some da → j ≠ j0 → if cs.length ≤ i + j then Full H' da q (cs.drop j) else H' da = some (.dT [])) ∧
            ∃ kvs, H' da0 = some (.dT kvs) ∧ kvs.length ≤ t ∧ ∀ k ∈ Cp09.keys.take t, ∃ l, valV kvs (ky2 k) = some (.ref l) ∧ H' l = some (.lst (ns (W q (cs.drop j0) k))))
          ⟨⟨v3, v5, rfl⟩, Y6, f6, fun j da h1 _ => g6 j da h1, [], g0, Nat.le_refl _, fun _ hz => by rw [List.take_zero] at hz; cases hz⟩ (fun t σ H' _ hP => SqL.of hP.2.1.keys) ?_ ?_⟩
        · rintro t v σ H7 ht ⟨⟨v3, v5, rfl⟩, Y7, f7, g7, kvs, hk1, hk2', hk3⟩
          obtain ⟨b5, g5, rfl⟩ := map_get ht
          obtain ⟨x, hx, ex⟩ := Y7.each.get' g5
          have hxk : KeyOk x := mem_keys (List.mem_of_getElem? hx)
          obtain ⟨dx7, h7a⟩ := Y7.obj
          refine ⟨_, rfl, a, dx7, _, rfl, h7a, lkW_none (by decide +kernel), _, rfl, _, rfl, ?_⟩
          refine ⟨y, j0, b5, c0, x, rfl, Y7, hc0, ex, hxk, fun da hda => ?_, fun H8 l s8 nl hl => ?_⟩
          · have z := g7 (j0 + 1) da hda (by omega)
            rw [if_pos (by omega)] at z
            exact z
          · have Y8 := Y7.same s8
            refine ⟨_, rfl, a, CW, dx7, _, _, rfl, s8 _ _ h7a, T.cW, T.nW _ (by decide +kernel), lkW_rows, _, rfl, _, _, _, _, rfl, rfl, SqL.of Y8.rows, atI_nat (get_map hda0), _, rfl, ?_⟩
            have hk8 := s8 _ _ hk1
            have tl : t < 24 := by
              have := (List.getElem?_eq_some_iff.mp hx).1
              have z : Cp09.keys.length = 24 := by decide +kernel
              omega
            refine ⟨da0, _, rfl, DPut.t (k := ky2 x) hk8 (s8 _ _ ex) (small1000 (by omega)), ⟨v3, _, rfl⟩, Y8.updD hk8 nd0, fun b o h hb => ?_, fun j da hj hne => ?_, _, upd_same, Nat.le_trans (put_len _ _ _) (by omega), fun k hk => ?_⟩
            · have nb : b ≠ da0 := ne_of_none h (n0 da0 (List.mem_of_getElem? hda0))
              rw [upd_ne nb]; exact s8 _ _ (f7 b o h hb)
            · have nda : da ≠ da0 := fun z => by
                rw [z] at hj
                exact hne (nd_ix hd3 hj hda0)
              have z := g7 j da hj hne
              split at z
              · rw [if_pos (by assumption)]; exact (z.same s8).updD hk8 nda
              · rw [if_neg (by assumption), upd_ne nda]; exact s8 _ _ z
            · rw [List.take_add_one, hx] at hk
              rw [valV_put]
              by_cases c : ky2 k = ky2 x
              · rw [if_pos c]
                have ekx := ky2_inj c
                subst ekx
                refine ⟨l, rfl, ?_⟩
                rw [upd_ne (ne_of hl hk8 (fun z => by cases z))]; exact hl
              · rw [if_neg c]
                rcases List.mem_append.mp hk with hm | hm
                · obtain ⟨l', e1, e2⟩ := hk3 k hm
                  refine ⟨l', e1, ?_⟩
                  have e3 := s8 _ _ e2
                  rw [upd_ne (ne_of e3 hk8 (fun z => by cases z))]; exact e3
                · exact absurd (congrArg ky2 (List.mem_singleton.mp hm)) c
        · rintro σ H7 ⟨⟨v3, v5, rfl⟩, Y7, f7, g7, kvs, hk1, hk2', hk3⟩
          rw [List.length_map, Y7.each.1, List.take_length] at hk3
          refine ⟨⟨v3, _, v5, rfl⟩, Y7, f7, fun j da hj => ?_⟩
          by_cases c : j = j0
          · subst c
            rw [if_pos (by omega)]
            have z : da = da0 := Option.some.inj (hj.symm.trans hda0)
            rw [z]
            exact ⟨kvs, hk1, hk3⟩
          · have z := g7 j da hj c
            by_cases c2 : cs.length ≤ i + j
            · rw [if_pos c2] at z
              rw [if_pos (by omega)]; exact z
            · rw [if_neg c2] at z
              rw [if_neg (by omega)]; exact z
      · rintro σ H6 ⟨⟨v3, v4, v5, rfl⟩, Y6, f6, g6⟩
        refine hq H6 y rfl rfl rfl Y6 (fun j da hj => ?_) f6
        have z := g6 j da hj
        rw [if_pos (by omega)] at z
        exact z
end
end CK
namespace CK
open PySem PySem.Spec PyProof.Rows L2
abbrev sRInit : Stmt := inClass (top 40) 0
abbrev sWant : Stmt := top 41
abbrev sCostOf : Stmt := top 42
abbrev sCadIn : Stmt := top 43
abbrev cDk : Stmt := top 44
theorem scRInit : FnScope ["self", "number"] ["self", "number"] (defScope sRInit) := ⟨rfl, rfl, rfl, by decide +kernel, rfl, by decide +kernel, by decide +kernel⟩
theorem scWant : FnScope ["is_so", "number"] ["is_so", "number"] (defScope sWant) := ⟨rfl, rfl, rfl, by decide +kernel, rfl, by decide +kernel, by decide +kernel⟩
/-- what the top has written of the error's class -/
structure Rx (K : PySem.W.Frag) (mg : Str → Option Value) (CR fI : Addr) : Prop where
  ox : OexC K CR
  xf : XfC K CR
  nN : PySem.W.findIn K (.ref CR) "number" = some none
  vV : PySem.W.findCls K (.type "ValueError") (.type "type") "__init__" = some (.val (.builtin "ValueError.__init__"))
  iC : PySem.W.findIn K (.ref CR) "__init__" = some (some (.ref fI))
  tI : PySem.W.typeIn K (.ref fI) = some (.type "function")
  gC : mg "Refused" = some (.ref CR)
  te : PySem.W.exmOne K (.ref CR) (.ref CR) = some true
def spRInit (CR : Addr) : Sp := fun vs H Q _ => ∃ (a : Addr) (n : Int), vs = [.ref a, .int n] ∧ H a = some (exo a CR none) ∧ ∀ dx, H dx = none → dx ≠ a → Q .non (upd (upd H dx (exd dx [("number", .int n)])) a (exo a CR (some dx)))
/-- what the error carries -/
def Told (CR : Addr) (H : Hp) (E : XK) (n : Int) : Prop := ∀ d H', Same H H' → H' d = some (.xd [("number", .int n)]) → E (.ref CR) (some d) H'
def spWant (CR : Addr) : Sp := fun vs H Q E => ∃ (b : Bool) (n : Int), vs = [.bl b, .int n] ∧ (b = true → Q .non H) ∧ (b = false → Told CR H E n)
section
variable {P : Program} {w : World} {K : PySem.W.Frag} {mg : Str → Option Value} {base : Heap} {CP CW CR CD : Addr} {f fI : Addr} {fd fdI : FuncData}
theorem ok_rinit (T : Tx K mg CP CW CR CD) (R : Rx K mg CR fI) (F : Fun K "__init__" "Refused.__init__" sRInit f fd) : FnOk P w K mg base CX0 1 f fd ["self", "number"] (spRInit CR) := by
  refine F.ok scRInit (fun vs H Q E h => ?_) (fun cdv A outer s H vs Q E hr h => ?_)
  · obtain ⟨a, n, rfl, _⟩ := h; rfl
  · obtain ⟨a, n, rfl, h1, q⟩ := h
    refine ⟨_, pss_cons (ps_expr (pe_veinit rfl T.fVE R.vV (pa_cons (pv 0) (pa_cons pe_str pa_nil)))) (pss_one (ps_ost (pv 0) (pv 1))), ?_⟩
    refine ⟨_, rfl, a, CR, _, rfl, by show 1 ≤ 1000; decide, R.ox, h1, ?_⟩
    exact ⟨_, rfl, _, rfl, a, CR, rfl, R.ox, R.nN, .inl ⟨h1, fun dx n1 n2 => q dx n1 n2⟩⟩
theorem ok_want (T : Tx K mg CP CW CR CD) (R : Rx K mg CR fI) (FI : Fun K "__init__" "Refused.__init__" sRInit fI fdI) (F : Fun K "want" "want" sWant f fd) : FnOk P w K mg base (L2.CX P w) 3 f fd ["is_so", "number"] (spWant CR) := by
  have GI : FnOk P w K mg base CX0 1 fI fdI ["self", "number"] (spRInit CR) := ok_rinit T R FI
  have bI : Binds K fdI ["self", "number"] [] := FI.binds fun _ _ _ _ _ _ us hl => match us, hl with | [_, _], _ => rfl
  refine F.okX scWant (fun vs H Q E h => ?_) (fun cdv A outer s H vs Q E hr h => ?_)
  · obtain ⟨b, n, rfl, _⟩ := h; rfl
  · obtain ⟨b, n, rfl, hT, hF⟩ := h
    refine ⟨_, pss_one (ps_if (pt_not (pt_val (pv 0))) (pss_one (ps_raise rfl (takes_of rfl rfl rfl rfl) (pmk_oex R.ox R.iC R.tI GI hr bI .nil pass0 rfl R.gC (pa_cons (pv 1) pa_nil)))) pss_nil), ?_⟩
    refine ⟨_, rfl, b, rfl, ?_⟩
    cases b with
    | true =>
      refine if_false_of rfl ?_
      exact hT rfl
    | false =>
      refine if_true_of rfl ?_
      refine ⟨_, rfl, by show 1 ≤ 1000; decide, fun a ha => ?_⟩
      refine ⟨a, n, rfl, upd_same, fun dx n1 n2 => ⟨rfl, dx, [("number", .int n)], upd_same, ?_, ?_, ?_⟩⟩
      · rw [upd_ne n2, upd_same]
      · rw [upd_ne n2] at n1; exact n1
      · have n3 : H dx = none := by rw [upd_ne n2] at n1; exact n1
        refine hF rfl dx _ (fun c o e => ?_) upd_same
        have nc : c ≠ a := ne_of_none e ha
        have ndx : c ≠ dx := ne_of_none e n3
        rw [upd_ne ndx, del_ne nc, upd_ne nc, upd_ne ndx, upd_ne nc]; exact e
end
theorem scCostOf : FnScope ["chords", "keys", "prices", "chord", "key", "found", "one", "other"] ["chords", "keys", "prices"] (defScope sCostOf) := ⟨rfl, rfl, rfl, by decide +kernel, rfl, by decide +kernel, by decide +kernel⟩
theorem scCadIn : FnScope ["chords", "keys", "found", "place"] ["chords", "keys"] (defScope sCadIn) := ⟨rfl, rfl, rfl, by decide +kernel, rfl, by decide +kernel, by decide +kernel⟩
def spCostOf (CP : Addr) : Sp := fun vs H Q _ => ∃ (a b p d : Addr) (q : Tb) (n : Nat) (cs : List Ch) (ks : List Ky), vs = [.ref a, .ref b, .ref p] ∧ Sq chO H a cs ∧ Sq kyO H b ks ∧ PrAt CP H p d q n ∧ TbOk q ∧ (∀ c ∈ cs, ChordOk c) ∧ (∀ k ∈ ks, KeyOk k) ∧ ks.length = cs.length ∧ cs ≠ [] ∧ cs.length ≤ 16 ∧
  ∀ H', Same H H' → Q (.int ((sumOwn q cs ks + sumGo q ks + endOf q (lastTwo cs) (lastTwo ks) : Nat) : Int)) H'
def spCadIn : Sp := fun vs H Q _ => ∃ (a b : Addr) (cs : List Ch) (ks : List Ky), vs = [.ref a, .ref b] ∧ Sq chO H a cs ∧ Sq kyO H b ks ∧ (∀ c ∈ cs, ChordOk c) ∧ (∀ k ∈ ks, KeyOk k) ∧ ks.length = cs.length ∧ cs.length ≤ 16 ∧
  ∀ H' l, Same H H' → H l = none → H' l = some (.lst (ns (cadTo cs ks (cs.length - 1)))) → Q (.ref l) H'
theorem cut_last (xs : List V) : cutV xs (some (-2)) none = lastTwo xs := by
  unfold cutV lastTwo
  have e : HT.sIx xs.length 0 (some (-2)) = xs.length - 2 := by
    show (if (-2 : Int) < 0 then ((-2 : Int) + (xs.length : Int)).toNat else min (-2 : Int).toNat xs.length) = xs.length - 2
    rw [if_pos (by decide)]; omega
  rw [e, HT.sIx_none]
  exact List.take_of_length_le (by rw [List.length_drop]; exact Nat.le_refl _)
theorem sum_cast (l : List Nat) : (l.map fun (n : Nat) => (n : Int)).sum = ((l.sum : Nat) : Int) := by
  induction l with
  | nil => rfl
  | cons a r ih => rw [List.map_cons, List.sum_cons, List.sum_cons, ih, Int.natCast_add]
section
variable {P : Program} {w : World} {K : PySem.W.Frag} {mg : Str → Option Value} {base : Heap} {CP CW CR CD : Addr} {f fI : Addr} {fd fdI : FuncData}
theorem ok_cadIn (T : Tx K mg CP CW CR CD) (DC : DefOk P w K mg base CX0 2 "is_cadence" ["first", "second", "key"] spCad) (F : Fun K "cadences_in" "cadences_in" sCadIn f fd) : FnOk P w K mg base CX0 3 f fd ["chords", "keys"] spCadIn := by
  refine F.ok scCadIn (fun vs H Q E h => ?_) (fun cdv A outer s H vs Q E hr h => ?_)
  · obtain ⟨a, b, cs, ks, rfl, _⟩ := h; rfl
  · obtain ⟨a, b, cs, ks, rfl, ⟨ps, h1, e1⟩, ⟨qs, h2, e2⟩, cok, kok, hlen, clen, q⟩ := h
    refine ⟨_, pss_cons (ps_set (i := 2) scCadIn.nd rfl (Or.inl rfl) (pe_lst pa_nil))
      (pss_cons (ps_for PassesOwn.never rfl (pi_range2 (by rfl) T.fRange (pa_cons pe_int (pa_cons (pe_callB call_len_seq (by rfl) T.fLen PySem.boot_len (pa_cons (pv 0) pa_nil)) pa_nil))) (pg_name (i := 3) scCadIn.nd rfl (Or.inl rfl))
        (pss_one (ps_if (PW.pt (pw_and (pt_cmpR (op_eqD hr.units) (pe_ix ix_list (pv 1) (pe_op op_sub (pv 3) pe_int) (fun _ _ => rfl)) (pe_ix ix_list (pv 1) (pv 3) (fun _ _ => rfl)) (nomark _))
            (pw_and1 (pt_val (pe_d DC hr pass0 (pa_cons (pe_ix ix_list (pv 0) (pe_op op_sub (pv 3) pe_int) (fun _ _ => rfl)) (pa_cons (pe_ix ix_list (pv 0) (pv 3) (fun _ _ => rfl)) (pa_cons (pe_ix ix_list (pv 1) (pv 3) (fun _ _ => rfl)) pa_nil))))))))
          (pss_one (ps_expr (pe_bm PySem.F.plainAttrs_list PySem.F.slot_list_append PySem.F.type_list_append mt_append (pv 2) (pa_cons (pv 3) pa_nil)))) pss_nil)))
      (pss_one (ps_ret (pv 2)))), ?_⟩
    refine ⟨Nat.zero_le _, fun l hl => ?_⟩
    have s1 := same_upd (o := .lst []) hl
    have hn : (((ps.map V.ref).length : Int) - 1).toNat = cs.length - 1 := by rw [List.length_map, e1.1]; omega
    refine ⟨_, rfl, _, _, rfl, .inl (s1.seq (SqL.of h1)), 1, ((ps.map V.ref).length : Int), rfl, ⟨by decide, by decide, by omega, by rw [List.length_map, e1.1]; omega⟩, ?_⟩
    refine for_range (lo := 1) (n := (((ps.map V.ref).length : Int) - 1).toNat) (fun i σ H' => ∃ v3, σ = [some (.ref a), some (.ref b), some (.ref l), v3] ∧ Same H H' ∧ H' l = some (.lst (ns (cadTo cs ks i)))) ⟨none, rfl, s1, by rw [upd_same]; rfl⟩ ?_ ?_
    · rintro i σ H2 hi ⟨v3, rfl, s2, h3⟩
      rw [hn] at hi
      have i1 : i < cs.length := by omega
      have i2 : i + 1 < cs.length := by omega
      obtain ⟨c, hc⟩ : ∃ c, cs[i]? = some c := ⟨_, List.getElem?_eq_getElem i1⟩
      obtain ⟨d, hd⟩ : ∃ c, cs[i + 1]? = some c := ⟨_, List.getElem?_eq_getElem i2⟩
      obtain ⟨k, hk⟩ : ∃ c, ks[i]? = some c := ⟨_, List.getElem?_eq_getElem (by omega)⟩
      obtain ⟨x, hx⟩ : ∃ c, ks[i + 1]? = some c := ⟨_, List.getElem?_eq_getElem (by omega)⟩
      obtain ⟨p1, g1, f1⟩ := e1.get hc
      obtain ⟨p2, g2, f2⟩ := e1.get hd
      obtain ⟨p3, g3, f3⟩ := e2.get hk
      obtain ⟨p4, g4, f4⟩ := e2.get hx
      have ca : cadAt cs ks i = (decide (k = x) && Cp09.cadence x c d) := by unfold cadAt; rw [hc, hd, hk, hx]
      have ei : (1 : Int) + (i : Int) - 1 = (i : Int) := by omega
      have ei' : (1 : Int) + (i : Int) = ((i + 1 : Nat) : Int) := by omega
      have no : ∀ H3, Same H2 H3 → cadAt cs ks i = false → ∃ v3', ([some (V.ref a), some (V.ref b), some (V.ref l), v3] : L2.St).set 3 (some (V.int (1 + (i : Int)))) = [some (.ref a), some (.ref b), some (.ref l), v3'] ∧ Same H H3 ∧ H3 l = some (.lst (ns (cadTo cs ks (i + 1)))) := fun H3 s3 e => by
        refine ⟨_, rfl, s2.trans s3, ?_⟩
        rw [cadTo_succ, e, if_neg Bool.false_ne_true, List.append_nil]
        exact s3 _ _ h3
      refine ⟨_, rfl, _, rfl, _, _, rfl, rfl, _, _, _, _, rfl, rfl, s2.seq (SqL.of h2), at_of ei (get_map g3), _, rfl, _, rfl, _, _, _, _, rfl, rfl, s2.seq (SqL.of h2), at_of ei' (get_map g4), _, _, dp_key (s2 _ _ f3), dp_key (s2 _ _ f4), rfl, rfl, _, rfl, ?_⟩
      rw [eq_keys]
      refine ite2 (fun e => ?_) (fun e => ?_)
      · refine ⟨_, rfl, _, rfl, _, _, rfl, rfl, _, _, _, _, rfl, rfl, s2.seq (SqL.of h1), at_of ei (get_map g1), _, rfl, _, rfl, _, _, _, _, rfl, rfl, s2.seq (SqL.of h1), at_of ei' (get_map g2), _, rfl, _, rfl, _, _, _, _, rfl, rfl, s2.seq (SqL.of h2), at_of ei' (get_map g4), ?_⟩
        refine ⟨p1, p2, p4, c, d, x, rfl, s2 _ _ f1, s2 _ _ f2, s2 _ _ f4, cok _ (List.mem_of_getElem? hc), cok _ (List.mem_of_getElem? hd), kok _ (List.mem_of_getElem? hx), fun H3 s3 => ⟨_, rfl, ite2 (fun e5 => ?_) (fun e5 => ?_)⟩⟩
        · rw [e, e5] at ca
          have h4 := s3 _ _ h3
          refine ⟨_, rfl, .inl ⟨rfl, _, SqL.of h4⟩, _, rfl, l, _, _, rfl, rfl, h4, ?_, _, rfl, fun b o e => ?_, ?_⟩
          · rw [List.length_map]
            have : (cadTo cs ks i).length ≤ i := by
              unfold cadTo
              rw [List.length_map]
              exact Nat.le_trans (List.length_filter_le _ _) (by rw [List.length_range]; exact Nat.le_refl _)
            exact small1000 (by omega)
          · rw [upd_ne (ne_of_none e hl)]; exact s3 _ _ (s2 _ _ e)
          · rw [upd_same, cadTo_succ, ca]
            show some (HO.lst (ns (cadTo cs ks i) ++ [V.int (1 + (i : Int))])) = some (HO.lst (ns (cadTo cs ks i ++ [i + 1])))
            unfold ns
            rw [List.map_append, ei']; rfl
        · refine no H3 s3 ?_
          rw [ca, Bool.eq_false_iff.mpr e5, Bool.and_false]
      · refine no H2 (Same.refl _) ?_
        rw [ca, Bool.eq_false_iff.mpr e, Bool.false_and]
    · rintro σ H2 ⟨v3, rfl, s2, h3⟩
      rw [hn] at h3
      exact ⟨_, rfl, q H2 l s2 hl h3⟩
theorem ok_costOf (T : Tx K mg CP CW CR CD) (DC : MethOk P w K mg base CX0 2 CP "of_chord" ["self", "chord", "key"] (spOfC CP)) (DS : MethOk P w K mg base CX0 2 CP "of_step" ["self", "one", "other"] (spOfS CP)) (DE : MethOk P w K mg base CX0 3 CP "of_end" ["self", "chords", "keys"] (spOfE CP))
    (F : Fun K "cost_of" "cost_of" sCostOf f fd) : FnOk P w K mg base CX0 4 f fd ["chords", "keys", "prices"] (spCostOf CP) := by
  refine F.ok scCostOf (fun vs H Q E h => ?_) (fun cdv A outer s H vs Q E hr h => ?_)
  · obtain ⟨a, b, p, d, q, n, cs, ks, rfl, _⟩ := h; rfl
  · obtain ⟨a, b, p, d, q, n, cs, ks, rfl, ⟨ps, h1, e1⟩, ⟨qs, h2, e2⟩, hp, tb, cok, kok, hlen, hne, clen, hq⟩ := h
    obtain ⟨dp, hp1⟩ := hp.obj
    have hr2 : Room 2 _ := hr.mono (by decide)
    refine ⟨_, pss_cons (ps_set (i := 5) scCostOf.nd rfl (Or.inl rfl) (pe_callB (cr_sum rfl) (by rfl) T.fSum (by decide +kernel) (pa_cons
        (pe_lc (own := [("chord", 3), ("key", 4)]) (g := gTup K 2 (gCons (gName 3) (gCons (gName 4) gNil))) (tt := tYes) rfl scCostOf.nd (pi_zip (by rfl) T.fZip (pa_cons (pv 0) (pa_cons (pv 1) pa_nil)))
          (blkOk_by (own := [("chord", 3), ("key", 4)]) (N := ["chords", "keys", "prices", "chord", "key", "found", "one", "other"]) (sc := defScope sCostOf) (by decide +kernel))
          (fun _ _ _ _ _ => pgT K rfl (pgs_cons (pg_name (i := 3) scCostOf.nd rfl (Or.inl rfl)) (pgs_cons (pg_name (i := 4) scCostOf.nd rfl (Or.inl rfl)) pgs_nil))) (fun _ _ _ _ _ => pts_nil)
          (fun _ _ _ _ _ => pe_m (pv 2) T.cP DC hr2 pass0 (pa_cons (pv 3) (pa_cons (pv 4) pa_nil)))) pa_nil)))
      (pss_cons (ps_set (i := 5) scCostOf.nd rfl (Or.inl rfl) (pe_op op_add (pv 5) (pe_callB (cr_sum rfl) (by rfl) T.fSum (by decide +kernel) (pa_cons
        (pe_lc (own := [("one", 6), ("other", 7)]) (g := gTup K 2 (gCons (gName 6) (gCons (gName 7) gNil))) (tt := tYes) rfl scCostOf.nd (pi_zip (by rfl) T.fZip (pa_cons (pv 1) (pa_cons (pe_slice sl_list (pv 1) (po_some pe_int) po_none) pa_nil)))
          (blkOk_by (own := [("one", 6), ("other", 7)]) (N := ["chords", "keys", "prices", "chord", "key", "found", "one", "other"]) (sc := defScope sCostOf) (by decide +kernel))
          (fun _ _ _ _ _ => pgT K rfl (pgs_cons (pg_name (i := 6) scCostOf.nd rfl (Or.inl rfl)) (pgs_cons (pg_name (i := 7) scCostOf.nd rfl (Or.inl rfl)) pgs_nil))) (fun _ _ _ _ _ => pts_nil)
          (fun _ _ _ _ _ => pe_m (pv 2) T.cP DS hr2 pass0 (pa_cons (pv 6) (pa_cons (pv 7) pa_nil)))) pa_nil))))
      (pss_one (ps_ret (pe_op op_add (pv 5) (pe_m (pv 2) T.cP DE hr pass0 (pa_cons (pe_slice sl_list (pv 0) (po_some (pe_un un_neg pe_int)) po_none) (pa_cons (pe_slice sl_list (pv 1) (po_some (pe_un un_neg pe_int)) po_none) pa_nil))))))), ?_⟩
    have zl : (cs.zip ks).length = cs.length := by rw [List.length_zip, hlen, Nat.min_self]
    have kp : ks.length = qs.length := e2.1.symm
    have cp : cs.length = ps.length := e1.1.symm
    refine ⟨_, rfl, _, rfl, a, b, _, _, rfl, SqL.of h1, SqL.of h2, fun D hD => lc_v (ys := ((cs.zip ks).map fun x => ((Cp09.own q x.2 x.1 : Nat) : Int)).map V.int) (by rw [List.length_map, List.length_map, zl]; exact small1000 (by omega)) hD
      (fun j H3 hj s3 => by
        rw [List.length_map, List.length_map, zl] at hj
        exact go_zip (s3.seq (SqL.of h1)) (s3.seq (SqL.of h2)) (by rw [List.length_map]; omega) (by rw [List.length_map]; omega))
      (fun H3 s3 => stop_zip (s3.seq (SqL.of h1)) (s3.seq (SqL.of h2)) (.inl (by rw [List.length_map, List.length_map, List.length_map, zl]; omega))) (fun j y H3 Q3 v H4 hy s3 hv hQ => ?_) (fun H3 s3 h3 => ?_)⟩
    · have hj : j < cs.length := by
        have z := (List.getElem?_eq_some_iff.mp hy).1
        rw [List.length_map, List.length_map, zl] at z; exact z
      obtain ⟨t, x1, x2, rfl, ht, rfl, f1, f2⟩ := hv
      obtain ⟨c, hc⟩ : ∃ c, cs[j]? = some c := ⟨_, List.getElem?_eq_getElem hj⟩
      obtain ⟨k, hk⟩ : ∃ k, ks[j]? = some k := ⟨_, List.getElem?_eq_getElem (by omega)⟩
      obtain ⟨p1, g1, g1'⟩ := e1.get hc
      obtain ⟨p2, g2, g2'⟩ := e2.get hk
      have i1 : x1 = .ref p1 := Option.some.inj ((f1 _ (s3.seq (SqL.of h1))).symm.trans (get_map g1))
      have i2 : x2 = .ref p2 := Option.some.inj ((f2 _ (s3.seq (SqL.of h2))).symm.trans (get_map g2))
      subst i1 i2
      have ey : y = .int (Cp09.own q k c : Int) := by
        rw [List.getElem?_map, List.getElem?_map, (List.getElem?_zip_eq_some (z := (c, k))).mpr ⟨hc, hk⟩] at hy
        exact (Option.some.inj hy).symm
      subst ey
      have s4 := same_upd (o := .tup [V.ref p1, V.ref p2]) ht
      have s34 := s3.trans s4
      refine ⟨t, _, rfl, SqT.of upd_same, rfl, _, _, rfl, _, _, rfl, rfl, rfl, _, rfl, p, dp, _, rfl, s34 _ _ hp1, lkP_none (by decide +kernel), _, rfl, _, rfl, ?_⟩
      exact ⟨p, d, p1, p2, q, n, c, k, rfl, hp.same s34, s34 _ _ g1', s34 _ _ g2', cok _ (List.mem_of_getElem? hc), kok _ (List.mem_of_getElem? hk), fun H5 s5 => hQ _ (s4.trans s5)⟩
    · refine ⟨D, _, rfl, SqL.of h3, ?_⟩
      have es : ((cs.zip ks).map fun x => ((Cp09.own q x.2 x.1 : Nat) : Int)).sum = ((sumOwn q cs ks : Nat) : Int) := by
        unfold sumOwn
        rw [← sum_cast, List.map_map]; rfl
      rw [es]
      refine ⟨_, rfl, _, rfl, _, rfl, 1, rfl, _, _, rfl, s3.seq (SqL.of h2), fun c hc => ?_⟩
      have s4 := s3.trans (same_upd (o := .lst (cutV (qs.map V.ref) (some 1) none)) hc)
      have ec : cutV (qs.map V.ref) (some 1) none = (qs.map V.ref).drop 1 := by
        cases qs with
        | nil => rfl
        | cons u r => exact cut_from _ 1 (by rw [List.length_map, List.length_cons]; omega)
      have hcl : upd H3 c (.lst (cutV (qs.map V.ref) (some 1) none)) c = some (.lst ((qs.drop 1).map V.ref)) := by rw [upd_same, ec, List.map_drop]
      have e3 := e2.drop 1
      have zl2 : (ks.zip (ks.drop 1)).length = ks.length - 1 := by rw [List.length_zip, List.length_drop]; omega
      refine ⟨_, c, _, _, rfl, s4.seq (SqL.of h2), SqL.of hcl, fun D2 hD2 => lc_v (ys := ((ks.zip (ks.drop 1)).map fun x => ((Cp09.going q x.1 x.2 : Nat) : Int)).map V.int) (by rw [List.length_map, List.length_map, zl2]; exact small1000 (by omega)) hD2
        (fun j H5 hj s5 => by
          rw [List.length_map, List.length_map, zl2] at hj
          exact go_zip (s5.seq (s4.seq (SqL.of h2))) (s5.seq (SqL.of hcl)) (by rw [List.length_map]; omega) (by rw [List.length_map, List.length_drop]; omega))
        (fun H5 s5 => stop_zip (s5.seq (s4.seq (SqL.of h2))) (s5.seq (SqL.of hcl)) (.inr (by rw [List.length_map, List.length_map, List.length_map, zl2, List.length_drop]; omega))) (fun j y H5 Q3 v H6 hy s5 hv hQ => ?_) (fun H5 s5 h5 => ?_)⟩
      · have hj : j < ks.length - 1 := by
          have z := (List.getElem?_eq_some_iff.mp hy).1
          rw [List.length_map, List.length_map, zl2] at z; exact z
        obtain ⟨t, x1, x2, rfl, ht, rfl, f1, f2⟩ := hv
        obtain ⟨k, hk⟩ : ∃ k, ks[j]? = some k := ⟨_, List.getElem?_eq_getElem (by omega)⟩
        obtain ⟨x, hx⟩ : ∃ k, (ks.drop 1)[j]? = some k := ⟨_, List.getElem?_eq_getElem (by rw [List.length_drop]; omega)⟩
        obtain ⟨p1, g1, g1'⟩ := e2.get hk
        obtain ⟨p2, g2, g2'⟩ := e3.get hx
        have i1 : x1 = .ref p1 := Option.some.inj ((f1 _ (s5.seq (s4.seq (SqL.of h2)))).symm.trans (get_map g1))
        have i2 : x2 = .ref p2 := Option.some.inj ((f2 _ (s5.seq (SqL.of hcl))).symm.trans (get_map g2))
        subst i1 i2
        have ey : y = .int (Cp09.going q k x : Int) := by
          rw [List.getElem?_map, List.getElem?_map, (List.getElem?_zip_eq_some (z := (k, x))).mpr ⟨hk, hx⟩] at hy
          exact (Option.some.inj hy).symm
        subst ey
        have s6 := same_upd (o := .tup [V.ref p1, V.ref p2]) ht
        have sA := (s4.trans s5).trans s6
        refine ⟨t, _, rfl, SqT.of upd_same, rfl, _, _, rfl, _, _, rfl, rfl, rfl, _, rfl, p, dp, _, rfl, sA _ _ hp1, lkP_none (by decide +kernel), _, rfl, _, rfl, ?_⟩
        have hx' : x ∈ ks := List.mem_of_mem_drop (List.mem_of_getElem? hx)
        exact ⟨p, d, p1, p2, q, n, k, x, rfl, hp.same sA, tb, sA _ _ g1', sA _ _ g2', kok _ (List.mem_of_getElem? hk), kok _ hx', fun H7 s7 => hQ _ (s6.trans s7)⟩
      · refine ⟨D2, _, rfl, SqL.of h5, ?_⟩
        have es2 : ((ks.zip (ks.drop 1)).map fun x => ((Cp09.going q x.1 x.2 : Nat) : Int)).sum = ((sumGo q ks : Nat) : Int) := by
          unfold sumGo
          rw [← sum_cast, List.map_map]; rfl
        rw [es2]
        have sB := s4.trans s5
        refine ⟨_, _, rfl, rfl, _, rfl, _, rfl, p, dp, _, rfl, sB _ _ hp1, lkP_none (by decide +kernel), ?_⟩
        refine ⟨_, rfl, 2, rfl, -2, rfl, _, _, rfl, sB.seq (SqL.of h1), fun t ht => ?_⟩
        have s6 := sB.trans (same_upd (o := .lst (cutV (ps.map V.ref) (some (-2)) none)) ht)
        refine ⟨_, rfl, 2, rfl, -2, rfl, _, _, rfl, s6.seq (SqL.of h2), fun u hu => ?_⟩
        have s7 := s6.trans (same_upd (o := .lst (cutV (qs.map V.ref) (some (-2)) none)) hu)
        have tl : ∀ {α : Type} (l : List α), (lastTwo l).length ≤ 2 := fun l => by unfold lastTwo; rw [List.length_drop]; omega
        have em : ∀ (l : List Addr), lastTwo (l.map V.ref) = (lastTwo l).map V.ref := fun l => by unfold lastTwo; rw [List.length_map, List.map_drop]
        have ea : Each chO (upd (upd H5 t (.lst (cutV (ps.map V.ref) (some (-2)) none))) u (.lst (cutV (qs.map V.ref) (some (-2)) none))) (lastTwo ps) (lastTwo cs) := by
          have z := (e1.drop (ps.length - 2)).same s7
          unfold lastTwo
          rw [← e1.1]; exact z
        have eb : Each kyO (upd (upd H5 t (.lst (cutV (ps.map V.ref) (some (-2)) none))) u (.lst (cutV (qs.map V.ref) (some (-2)) none))) (lastTwo qs) (lastTwo ks) := by
          have z := (e2.drop (qs.length - 2)).same s7
          unfold lastTwo
          rw [← e2.1]; exact z
        refine ⟨p, d, t, u, q, n, lastTwo cs, lastTwo ks, rfl, hp.same s7, ⟨lastTwo ps, ?_, ea⟩, ⟨lastTwo qs, ?_, eb⟩, fun c hc => cok c (List.mem_of_mem_drop hc), fun k hk => kok k (List.mem_of_mem_drop hk), tl cs, fun z => ?_, fun H8 s8 => ?_⟩
        · have z := same_upd (o := .lst (cutV (qs.map V.ref) (some (-2)) none)) hu t _ upd_same
          rw [z, cut_last, em]
        · rw [upd_same, cut_last, em]
        · have z2 : (lastTwo ks).length = (lastTwo cs).length := by unfold lastTwo; rw [List.length_drop, List.length_drop, hlen]
          have := tl cs
          omega
        · refine ⟨_, _, rfl, rfl, ?_⟩
          have z := hq H8 (s7.trans s8)
          rw [Int.natCast_add, Int.natCast_add] at z
          exact z
end
end CK
namespace CK
open PySem PySem.Spec PyProof.Rows L2
abbrev sDInit : Stmt := inClass cDk 0
abbrev sWantC : Stmt := inClass cDk 1
abbrev sChords : Stmt := inClass cDk 2
abbrev sPutP : Stmt := inClass cDk 3
abbrev sKnowD : Stmt := inClass cDk 4
abbrev sMove : Stmt := inClass cDk 5
abbrev sDegs : Stmt := inClass cDk 6
abbrev sCount : Stmt := inClass cDk 7
abbrev sCounts : Stmt := inClass cDk 8
abbrev sNth : Stmt := inClass cDk 9
abbrev sToldR : Stmt := inClass cDk 10
abbrev sCost : Stmt := inClass cDk 11
theorem scDInit : FnScope ["self"] ["self"] (defScope sDInit) := ⟨rfl, rfl, rfl, by decide +kernel, rfl, by decide +kernel, by decide +kernel⟩
theorem scWantC : FnScope ["self"] ["self"] (defScope sWantC) := ⟨rfl, rfl, rfl, by decide +kernel, rfl, by decide +kernel, by decide +kernel⟩
theorem scChords : FnScope ["self", "told", "found"] ["self", "told"] (defScope sChords) := ⟨rfl, rfl, rfl, by decide +kernel, rfl, by decide +kernel, by decide +kernel⟩
theorem scPutP : FnScope ["self", "numbers", "number"] ["self", "numbers"] (defScope sPutP) := ⟨rfl, rfl, rfl, by decide +kernel, rfl, by decide +kernel, by decide +kernel⟩
theorem scKnowD : FnScope ["self", "mode", "degree", "kind", "price"] ["self", "mode", "degree", "kind", "price"] (defScope sKnowD) := ⟨rfl, rfl, rfl, by decide +kernel, rfl, by decide +kernel, by decide +kernel⟩
theorem scMove : FnScope ["self", "many", "chord"] ["self", "many"] (defScope sMove) := ⟨rfl, rfl, rfl, by decide +kernel, rfl, by decide +kernel, by decide +kernel⟩
theorem scDegs : FnScope ["self", "tonic", "mode", "key", "found", "chord"] ["self", "tonic", "mode"] (defScope sDegs) := ⟨rfl, rfl, rfl, by decide +kernel, rfl, by decide +kernel, by decide +kernel⟩
/-! ### the desk -/
def dF (r p : Addr) : List (Str × V) := [("row", .ref r), ("prices", .ref p)]
theorem lkD_row {r p : Addr} : (dF r p).lookup ("row" : Str) = some (.ref r) := lk_here
theorem lkD_prices {r p : Addr} : (dF r p).lookup ("prices" : Str) = some (.ref p) := (lk_past (by decide +kernel)).trans lk_here
theorem lkD_none {r p : Addr} {m : Str} (h : (m == "row" || m == "prices") = false) : (dF r p).lookup m = none := by
  simp only [Bool.or_eq_false_iff] at h
  exact (lk_past h.1).trans ((lk_past h.2).trans rfl)
theorem dF_row {r p x : Addr} : putF "row" (.ref x) (dF r p) = dF x p := put_here
theorem dF_init (r p : Addr) : putF "prices" (.ref p) (putF "row" (.ref r) []) = dF r p := by
  repeat (first | rw [put_nil] | rw [put_past (by decide +kernel)])
  rfl
structure Dk where
  a : Addr
  p : Addr
  d : Addr
  r : Addr
  s : Cp09.Desk
  n : Nat
structure DkAt (CP CD : Addr) (H : Hp) (y : Dk) : Prop where
  obj : ∃ dx, H y.a = some (.ins CD dx (dF y.r y.p))
  row : Sq chO H y.r y.s.chords
  pr : PrAt CP H y.p y.d y.s.table y.n
  tb : TbOk y.s.table
  cok : ∀ c ∈ y.s.chords, ChordOk c
  clen : y.s.chords.length ≤ 16
theorem DkAt.same {CP CD : Addr} {H H' : Hp} {y : Dk} (h : DkAt CP CD H y) (s : Same H H') : DkAt CP CD H' y := by
  obtain ⟨⟨dx, h1⟩, h2, h3, h4, h5, h6⟩ := h
  exact ⟨⟨dx, s _ _ h1⟩, h2.same s, h3.same s, h4, h5, h6⟩
def Frm (H H' : Hp) (y : Dk) : Prop := ∀ b o, H b = some o → b ≠ y.a → b ≠ y.p → b ≠ y.d → H' b = some o
theorem Told.same {CR : Addr} {H H1 : Hp} {E : XK} {n : Int} (h : Told CR H E n) (s : Same H H1) : Told CR H1 E n := fun d H' s' e => h d H' (s.trans s') e
/-- what a call of the desk owes: the answer as a list, or the error with the refusal's number -/
def Due (CP CD CR : Addr) (H : Hp) (y : Dk) (q : Cp09.Call) (Q : VK) (E : XK) : Prop :=
  (∀ H' r' n' l, DkAt CP CD H' ⟨y.a, y.p, y.d, r', (Cp09.step y.s q).1, n'⟩ → n' ≤ y.n + 1 → Frm H H' y → (r' = y.r ∨ H r' = none) → H l = none → H' l = some (.lst (((Cp09.step y.s q).2.v :: (Cp09.step y.s q).2.l).map V.int)) → Q (.ref l) H') ∧
  ∀ m, Cp09.step y.s q = (y.s, Cp09.just m) → Told CR H E m
/-- where the desk stands as it was -/
theorem Due.kept {CP CD CR : Addr} {H : Hp} {y : Dk} {q : Cp09.Call} {Q : VK} {E : XK} (h : Due CP CD CR H y q Q E) (Y : DkAt CP CD H y) {v : Int} {l : List Int} (e : Cp09.step y.s q = (y.s, ⟨v, l⟩)) : ∀ H' a, Same H H' → H a = none → H' a = some (.lst ((v :: l).map V.int)) → Q (.ref a) H' := fun H' a s na ha => by
  refine h.1 H' y.r y.n a ?_ (Nat.le_succ _) (fun b o e _ _ _ => s _ _ e) (.inl rfl) na ?_
  · rw [e]; exact Y.same s
  · rw [e]; exact ha
def dueSp (CP CD CR : Addr) (C : List V → Hp → Addr → Cp09.Call → Prop) : Sp := fun vs H Q E => ∃ (y : Dk) (q : Cp09.Call) (rest : List V), vs = .ref y.a :: rest ∧ C rest H y.a q ∧ DkAt CP CD H y ∧ y.n < 900 ∧ Due CP CD CR H y q Q E
def chData (cs : List Ch) : PyData := .list (cs.map fun c => .tuple [.int (c.root : Int), .int (c.kind : Int)])
theorem ch_shaped (cs : List Ch) : SeqAt.shaped (chData cs) = true := by
  have h1 : ∀ cs : List Ch, PyData.canLayAll0 (cs.map fun c => .tuple [.int (c.root : Int), .int (c.kind : Int)]) = true := fun cs => by
    induction cs with
    | nil => rfl
    | cons c r ih => rw [List.map_cons]; unfold PyData.canLayAll0; rw [ih]; rfl
  have h2 : ∀ cs : List Ch, PyData.depthAll (cs.map fun c => .tuple [.int (c.root : Int), .int (c.kind : Int)]) ≤ 1 := fun cs => by
    induction cs with
    | nil => decide
    | cons c r ih =>
      rw [List.map_cons]
      unfold PyData.depthAll
      exact Nat.max_le.mpr ⟨by show PyData.depth (.tuple [.int (c.root : Int), .int (c.kind : Int)]) ≤ 1; exact Nat.le_refl 1, ih⟩
  unfold SeqAt.shaped
  rw [Bool.and_eq_true]
  refine ⟨h1 cs, decide_eq_true ?_⟩
  show PyData.depthAll (cs.map fun c => .tuple [.int (c.root : Int), .int (c.kind : Int)]) + 1 ≤ 64
  have := h2 cs
  omega
theorem dp_chs {K : PySem.W.Frag} {H : Hp} {a : Addr} {cs : List Ch} (h : Sq chO H a cs) : Dp K H (.ref a) (chData cs) := by
  obtain ⟨ps, h1, h2⟩ := h
  refine .lst (SqL.of h1) ?_
  have key : ∀ (ps : List Addr) (cs : List Ch), Each chO H ps cs → DpAll K H (ps.map V.ref) (cs.map fun c => .tuple [.int (c.root : Int), .int (c.kind : Int)]) := by
    intro ps
    induction ps with
    | nil =>
      intro cs e
      cases cs with
      | nil => exact .nil
      | cons c r => exact absurd e.1 (by simp)
    | cons p r ih =>
      intro cs e
      cases cs with
      | nil => exact absurd e.1 (by simp)
      | cons c cs =>
        exact .cons (.tup (SqT.of (e.2 0 p c rfl rfl)) (.cons (.int _) (.cons (.int _) .nil))) (ih cs ⟨by have := e.1; simp at this; exact this, fun i q x a b => e.2 (i + 1) q x a b⟩)
  exact key ps cs h2
theorem eq_nil (cs : List Ch) : PyData.eqv (chData cs) (.list []) = cs.isEmpty := by
  cases cs <;> rfl
def spWantC (CP CD CR : Addr) : Sp := fun vs H Q E => ∃ (y : Dk), vs = [.ref y.a] ∧ DkAt CP CD H y ∧ (y.s.chords ≠ [] → ∀ H', Same H H' → Q .non H') ∧ (y.s.chords = [] → Told CR H E (-7))
abbrev cChords (K : PySem.W.Frag) : List V → Hp → Addr → Cp09.Call → Prop := fun rest H _ q => ∃ t l, rest = [.ref t] ∧ SqL K H t (l.map V.int) ∧ l.length < 100 ∧ q = .chords l
abbrev cPrices (K : PySem.W.Frag) : List V → Hp → Addr → Cp09.Call → Prop := fun rest H _ q => ∃ t a b c e, rest = [.ref t] ∧ SqL K H t [V.int a, V.int b, V.int c, V.int e] ∧ q = .prices a b c e
abbrev cKnow : List V → Hp → Addr → Cp09.Call → Prop := fun rest _ _ q => ∃ m a k p, rest = [.int m, .int a, .int k, .int p] ∧ q = .know m a k p
abbrev cMove : List V → Hp → Addr → Cp09.Call → Prop := fun rest _ _ q => ∃ n, rest = [.int n] ∧ q = .move n
abbrev cDegs : List V → Hp → Addr → Cp09.Call → Prop := fun rest _ _ q => ∃ t m, rest = [.int t, .int m] ∧ q = .degrees t m
theorem below21 (i : Int) : (decide (0 ≤ i) && decide (i < 20 + 1)) = Cp09.isIn 0 20 i := by
  rw [Bool.eq_iff_iff, isIn_iff, Bool.and_eq_true, decide_eq_true_iff, decide_eq_true_iff]; omega
theorem below101 (i : Int) : (decide (0 ≤ i) && decide (i < 100 + 1)) = Cp09.isIn 0 100 i := by
  rw [Bool.eq_iff_iff, isIn_iff, Bool.and_eq_true, decide_eq_true_iff, decide_eq_true_iff]; omega
theorem below150 (i : Int) : (decide (0 ≤ i) && decide (i < 150)) = Cp09.isIn 0 149 i := by
  rw [Bool.eq_iff_iff, isIn_iff, Bool.and_eq_true, decide_eq_true_iff, decide_eq_true_iff]; omega
section
variable {P : Program} {w : World} {K : PySem.W.Frag} {mg : Str → Option Value} {base : Heap} {CP CW CR CD : Addr} {f fI : Addr} {fd fdI : FuncData}
theorem ok_wantC (T : Tx K mg CP CW CR CD) (DW : DefOk P w K mg base (L2.CX P w) 3 "want" ["is_so", "number"] (spWant CR)) (F : Fun K "want_chords" "Desk.want_chords" sWantC f fd) : FnOk P w K mg base (L2.CX P w) 4 f fd ["self"] (spWantC CP CD CR) := by
  refine F.okX scWantC (fun vs H Q E h => ?_) (fun cdv A outer s H vs Q E hr h => ?_)
  · obtain ⟨y, rfl, _⟩ := h; rfl
  · obtain ⟨y, rfl, Y, hQ, hE⟩ := h
    obtain ⟨dx, h1⟩ := Y.obj
    refine ⟨_, pss_one (ps_expr (pe_d (E := E) DW hr (passes_call (takes_of rfl rfl rfl rfl) fun _ _ _ _ h => h) (pa_cons (pe_cmpR (op_neD hr.units) (pe_fld (pv 0) rfl) (pe_lst pa_nil) (nomark _)) (pa_cons (pe_gi T.iNOCH) pa_nil)))), ?_⟩
    refine ⟨_, rfl, y.a, CD, dx, _, _, rfl, h1, T.cD, T.nD _ (by decide +kernel), lkD_row, Nat.zero_le _, fun l hl => ?_⟩
    have s1 := same_upd (o := .lst []) hl
    refine ⟨_, _, dp_chs (Y.row.same s1), .lst (SqL.of upd_same) .nil, ch_shaped _, rfl, ?_⟩
    rw [eq_nil]
    refine ⟨!y.s.chords.isEmpty, -7, rfl, fun e => ?_, fun e => ?_⟩
    · refine hQ (fun z => ?_) _ s1
      rw [z] at e; cases e
    · refine (hE ?_).same s1
      cases c : y.s.chords with
      | nil => rfl
      | cons a r => rw [c] at e; cases e
theorem ok_chords (T : Tx K mg CP CW CR CD) (DW : DefOk P w K mg base (L2.CX P w) 3 "want" ["is_so", "number"] (spWant CR)) (DR : DefOk P w K mg base CX0 2 "read_chords" ["row"] (spReadC K)) (F : Fun K "chords" "Desk.chords" sChords f fd) :
    FnOk P w K mg base (L2.CX P w) 4 f fd ["self", "told"] (dueSp CP CD CR (cChords K)) := by
  refine F.okX scChords (fun vs H Q E h => ?_) (fun cdv A outer s H vs Q E hr h => ?_)
  · obtain ⟨y, q, rest, rfl, ⟨t, l, rfl, _⟩, _⟩ := h; rfl
  · obtain ⟨y, q, rest, rfl, ⟨t, l, rfl, hS, hl, rfl⟩, Y, hn, D⟩ := h
    obtain ⟨dx, h1⟩ := Y.obj
    refine ⟨_, pss_cons (ps_set (i := 2) scChords.nd rfl (Or.inl rfl) (pe_d DR (hr.mono (by decide)) pass0 (pa_cons (pv 1) pa_nil)))
      (pss_cons (ps_expr (pe_d (E := E) DW hr (passes_call (takes_of rfl rfl rfl rfl) fun _ _ _ _ h => h) (pa_cons (pe_cmpR op_notN (pv 2) pe_non (nomark _)) (pa_cons (pe_gi T.iBAD) pa_nil))))
      (pss_cons (ps_expr (pe_d (E := E) DW hr (passes_call (takes_of rfl rfl rfl rfl) fun _ _ _ _ h => h) (pa_cons (pe_cmpR op_le (pe_callB call_len_seq (by rfl) T.fLen PySem.boot_len (pa_cons (pv 2) pa_nil)) (pe_gi T.iMOSTC) (nomark _)) (pa_cons (pe_gi T.iTOO) pa_nil))))
      (pss_cons (ps_fld (pv 0) (pv 2) rfl)
      (pss_one (ps_ret (pe_lst (pa_cons (pe_callB call_len_seq (by rfl) T.fLen PySem.boot_len (pa_cons (pv 2) pa_nil)) pa_nil))))))), ?_⟩
    refine ⟨_, rfl, t, l, rfl, hS, hl, fun H2 s2 e => ?_, fun cs H2 p s2 e cok cl np hp => ?_⟩
    · refine ⟨_, rfl, rfl, false, -1, rfl, (fun z => by cases z), fun _ => ?_⟩
      exact (D.2 (-1) (by simp only [Cp09.step, e])).same s2
    · refine ⟨_, rfl, rfl, true, -1, rfl, fun _ => ?_, (fun z => by cases z)⟩
      obtain ⟨ps, hp1, hp2⟩ := hp
      refine ⟨_, rfl, _, _, rfl, .inl (SqL.of hp1), _, _, rfl, rfl, decide (((ps.map V.ref).length : Int) ≤ 16), -5, rfl, fun z => ?_, fun z => ?_⟩
      · have hle : cs.length ≤ 16 := by
          have := of_decide_eq_true z
          rw [List.length_map, hp2.1] at this
          omega
        have es : Cp09.step y.s (.chords l) = ({ y.s with chords := cs }, Cp09.just cs.length) := by
          simp only [Cp09.step, e, Cp09.CHORDS]
          exact if_neg (by omega)
        refine ⟨_, rfl, _, rfl, y.a, CD, dx, _, rfl, s2 _ _ h1, T.cD, T.nD _ (by decide +kernel), (by show 2 < 1000; decide), ?_⟩
        rw [dF_row]
        have npa : p ≠ y.a := fun z2 => by rw [z2, h1] at np; cases np
        have Y2 := Y.same s2
        have k3 : ∀ {b o}, H2 b = some o → b ≠ y.a → upd H2 y.a (.ins CD dx (dF p y.p)) b = some o := fun {b o} h hb => by rw [upd_ne hb]; exact h
        have h3 := k3 hp1 npa
        refine ⟨_, rfl, _, _, rfl, .inl (SqL.of h3), (by show 1 ≤ sizeLine; decide), fun u hu => ?_⟩
        have s4 := same_upd (o := .lst [V.int ((ps.map V.ref).length : Int)]) hu
        obtain ⟨⟨dp, g1⟩, kvs, g2, g3⟩ := Y2.pr
        have npy : y.p ≠ y.a := fun z2 => by
          have z3 := s2 _ _ h1
          rw [z2, z3] at g1
          have g1' := Option.some.inj g1
          injection g1' with g1'
          exact T.ne g1'.symm
        have ndy : y.d ≠ y.a := ne_of g2 (s2 _ _ h1) (fun z => by cases z)
        refine D.1 _ p y.n u ?_ (Nat.le_succ _) (fun b o h hb _ _ => ?_) (.inr np) ?_ ?_
        · rw [es]
          exact DkAt.same ⟨⟨dx, upd_same⟩, ⟨ps, h3, hp2.1, fun i b x e1 e2 => k3 (hp2.2 i b x e1 e2) (ne_of (hp2.2 i b x e1 e2) (s2 _ _ h1) (fun z => by cases z))⟩, ⟨⟨dp, k3 g1 npy⟩, kvs, k3 g2 ndy, g3⟩, Y.tb, cok, hle⟩ s4
        · exact s4 _ _ (k3 (s2 _ _ h) hb)
        · have : upd H2 y.a (.ins CD dx (dF p y.p)) u = none := hu
          have nu : u ≠ y.a := fun z2 => by rw [z2, upd_same] at this; cases this
          rw [upd_ne nu] at this
          exact s2.free this
        · rw [upd_same, es, List.length_map, hp2.1]; rfl
      · have hgt : 16 < cs.length := by
          have := of_decide_eq_false z
          rw [List.length_map, hp2.1] at this
          omega
        refine (D.2 (-5) ?_).same s2
        simp only [Cp09.step, e, Cp09.CHORDS]
        exact if_pos (by omega)
end
end CK
namespace CK
open PySem PySem.Spec PyProof.Rows L2
theorem DkAt.ap {CP CD : Addr} {H : Hp} {y : Dk} (h : DkAt CP CD H y) (ne : CP ≠ CD) : y.a ≠ y.p := fun z => by
  obtain ⟨dx, h1⟩ := h.obj
  obtain ⟨dp, h2⟩ := h.pr.obj
  rw [z, h2] at h1
  have e := Option.some.inj h1
  injection e with e
  exact ne e
theorem DkAt.ad {CP CD : Addr} {H : Hp} {y : Dk} (h : DkAt CP CD H y) : y.a ≠ y.d := by
  obtain ⟨dx, h1⟩ := h.obj
  obtain ⟨kvs, h2, _⟩ := h.pr.dict
  exact ne_of h1 h2 (fun z => by cases z)
/-- the prices change, all else stands -/
theorem DkAt.upP {CP CD : Addr} {H H' : Hp} {y : Dk} {q' : Tb} {n' : Nat} (h : DkAt CP CD H y) (ne : CP ≠ CD) (hp : PrAt CP H' y.p y.d q' n') (tb : TbOk q') (fr : ∀ b o, H b = some o → b ≠ y.p → b ≠ y.d → H' b = some o) : DkAt CP CD H' ⟨y.a, y.p, y.d, y.r, { y.s with table := q' }, n'⟩ := by
  have ap := h.ap ne
  have ad := h.ad
  obtain ⟨⟨dx, h1⟩, ⟨ps, h2, h3⟩, ⟨⟨dp, h4⟩, kvs, h5, h6⟩, h7, h8, h9⟩ := h
  refine ⟨⟨dx, fr _ _ h1 ap ad⟩, ⟨ps, fr _ _ h2 (ne_of h2 h4 (fun z => by cases z)) (ne_of h2 h5 (fun z => by cases z)), h3.1, fun i b x e1 e2 => ?_⟩, hp, tb, h8, h9⟩
  have z := h3.2 i b x e1 e2
  exact fr _ _ z (ne_of z h4 (fun z => by cases z)) (ne_of z h5 (fun z => by cases z))
/-- the row changes, all else stands -/
theorem DkAt.upR {CP CD : Addr} {H : Hp} {y : Dk} {r' dx : Addr} {cs : List Ch} (h : DkAt CP CD H y) (ne : CP ≠ CD) (hr : Sq chO H r' cs) (cok : ∀ c ∈ cs, ChordOk c) (cl : cs.length ≤ 16) (hdx : H y.a = some (.ins CD dx (dF y.r y.p))) :
    DkAt CP CD (upd H y.a (.ins CD dx (dF r' y.p))) ⟨y.a, y.p, y.d, r', { y.s with chords := cs }, y.n⟩ := by
  have ap := h.ap ne
  have ad := h.ad
  obtain ⟨⟨_, h1⟩, h2, ⟨⟨dp, h4⟩, kvs, h5, h6⟩, h7, h8, h9⟩ := h
  obtain ⟨ps, g1, g2⟩ := hr
  have k : ∀ {b o}, H b = some o → (∀ C d fs, o ≠ .ins C d fs) → upd H y.a (.ins CD dx (dF r' y.p)) b = some o := fun {b o} e n => by rw [upd_ne (ne_of e hdx (n _ _ _))]; exact e
  exact ⟨⟨dx, upd_same⟩, ⟨ps, k g1 (fun _ _ _ z => by cases z), g2.1, fun i b x e1 e2 => k (g2.2 i b x e1 e2) (fun _ _ _ z => by cases z)⟩, ⟨⟨dp, by rw [upd_ne (Ne.symm ap)]; exact h4⟩, kvs, k h5 (fun _ _ _ z => by cases z), h6⟩, h7, cok, cl⟩
theorem nat_of {z : Int} {a b : Int} (h : Cp09.isIn a b z = true) (ha : 0 ≤ a) : ∃ n : Nat, z = (n : Int) ∧ a ≤ n ∧ (n : Int) ≤ b := by
  rw [isIn_iff] at h
  exact ⟨z.toNat, by omega, by omega, by omega⟩
theorem table0_ok : TbOk Cp09.table0 := ⟨by decide, by decide, by decide, by decide, by decide +kernel⟩
def spDInit (CP CD : Addr) : Sp := fun vs H Q _ => ∃ a dx, vs = [.ref a] ∧ H a = some (.ins CD dx []) ∧
  ∀ H' p d r, DkAt CP CD H' ⟨a, p, d, r, Cp09.start, 17⟩ → (∀ b o, H b = some o → b ≠ a → H' b = some o) → Q .non H'
section
variable {P : Program} {w : World} {K : PySem.W.Frag} {mg : Str → Option Value} {base : Heap} {CP CW CR CD : Addr} {f fI : Addr} {fd fdI : FuncData}
theorem ok_dinit (T : Tx K mg CP CW CR CD) (DP : MakeOk P w K mg base CX0 1 "Prices" CP ["self"] (spPInit CP)) (F : Fun K "__init__" "Desk.__init__" sDInit f fd) : FnOk P w K mg base CX0 3 f fd ["self"] (spDInit CP CD) := by
  refine F.ok scDInit (fun vs H Q E h => ?_) (fun cdv A outer s H vs Q E hr h => ?_)
  · obtain ⟨a, dx, rfl, _⟩ := h; rfl
  · obtain ⟨a, dx, rfl, h1, q⟩ := h
    refine ⟨_, pss_cons (ps_fld (pv 0) (pe_lst pa_nil) rfl) (pss_one (ps_fld (pv 0) (pe_k0 DP hr pass0) rfl)), ?_⟩
    refine ⟨Nat.zero_le _, fun r hr' => ?_⟩
    have s1 := same_upd (o := .lst []) hr'
    have nra : r ≠ a := fun z => by rw [z, h1] at hr'; cases hr'
    refine ⟨_, rfl, a, CD, dx, _, rfl, s1 _ _ h1, T.cD, T.nD _ (by decide +kernel), (by show 0 < 1000; decide), ?_⟩
    intro p dp np ndp ne
    have npa : p ≠ a := fun z => by rw [z, upd_same] at np; cases np
    have ndpa : dp ≠ a := fun z => by rw [z, upd_same] at ndp; cases ndp
    have npr : p ≠ r := fun z => by rw [z, upd_ne nra, upd_same] at np; cases np
    have ndpr : dp ≠ r := fun z => by rw [z, upd_ne nra, upd_same] at ndp; cases ndp
    refine ⟨p, dp, rfl, upd_same, fun H5 d hP nd fr => ⟨rfl, ?_⟩⟩
    have h5a : H5 a = some (.ins CD dx (putF "row" (.ref r) [])) := fr _ _ (by rw [upd_ne (Ne.symm npa), upd_ne (Ne.symm ndpa), upd_same]) (Ne.symm npa)
    refine ⟨_, rfl, a, CD, dx, _, rfl, h5a, T.cD, T.nD _ (by decide +kernel), (by show 1 < 1000; decide), ?_⟩
    rw [dF_init]
    have h5r : H5 r = some (.lst []) := fr _ _ (by rw [upd_ne (Ne.symm npr), upd_ne (Ne.symm ndpr), upd_ne nra, upd_same]) (Ne.symm npr)
    obtain ⟨⟨dq, g1⟩, kvs, g2, g3⟩ := hP
    have nda : d ≠ a := ne_of g2 h5a (fun z => by cases z)
    refine q _ p d r ⟨⟨dx, upd_same⟩, ⟨[], by rw [upd_ne nra]; exact h5r, Each.nil⟩, ⟨⟨dq, by rw [upd_ne npa]; exact g1⟩, kvs, by rw [upd_ne nda]; exact g2, g3⟩, table0_ok, (fun _ hz => by cases hz), Nat.zero_le _⟩ (fun b o e hb => ?_)
    have n1 : H p = none := by rw [upd_ne npa, upd_ne npr] at np; exact np
    have n2 : H dp = none := by rw [upd_ne ndpa, upd_ne ndpr] at ndp; exact ndp
    have nbp := ne_of_none e n1
    rw [upd_ne hb]
    exact fr _ _ (by rw [upd_ne nbp, upd_ne (ne_of_none e n2), upd_ne hb, upd_ne (ne_of_none e hr')]; exact e) nbp
theorem ok_putP (T : Tx K mg CP CW CR CD) (DW : DefOk P w K mg base (L2.CX P w) 3 "want" ["is_so", "number"] (spWant CR)) (DB : DefOk P w K mg base CX0 1 "is_below" ["number", "bound"] spBelow)
    (DP : MethOk P w K mg base CX0 1 CP "put" ["self", "change", "fifth", "other_mode", "end"] (spPut CP)) (F : Fun K "put_prices" "Desk.put_prices" sPutP f fd) : FnOk P w K mg base (L2.CX P w) 4 f fd ["self", "numbers"] (dueSp CP CD CR (cPrices K)) := by
  refine F.okX scPutP (fun vs H Q E h => ?_) (fun cdv A outer s H vs Q E hr h => ?_)
  · obtain ⟨y, q, rest, rfl, ⟨t, a, b, c, e, rfl, _⟩, _⟩ := h; rfl
  · obtain ⟨y, q, rest, rfl, ⟨t, a, b, c, e, rfl, hS, rfl⟩, Y, hn, D⟩ := h
    obtain ⟨dx, h1⟩ := Y.obj
    obtain ⟨dp, h2⟩ := Y.pr.obj
    have hr1 : Room 1 _ := hr.mono (by decide)
    refine ⟨_, pss_cons (ps_expr (pe_d (E := E) DW hr (passes_call (takes_of rfl rfl rfl rfl) fun _ _ _ _ h => h) (pa_cons (pe_callB (cr_all rfl) (by rfl) T.fAll (by decide +kernel) (pa_cons
        (pe_lc (own := [("number", 2)]) (g := gName 2) (tt := tYes) rfl scPutP.nd (pi_list (pv 1)) (blkOk_by (own := [("number", 2)]) (N := ["self", "numbers", "number"]) (sc := defScope sPutP) (by decide +kernel))
          (fun _ _ _ _ _ => pg_name (i := 2) scPutP.nd rfl (Or.inl rfl)) (fun _ _ _ _ _ => pts_nil)
          (fun _ _ _ _ _ => pe_d DB hr1 pass0 (pa_cons (pv 2) (pa_cons (pe_op op_add (pe_gi T.iMOSTP) pe_int) pa_nil)))) pa_nil)) (pa_cons (pe_gi T.iBAD) pa_nil))))
      (pss_cons (ps_expr (pe_m (pe_fld (pv 0) rfl) T.cP DP hr1 pass0 (pa_cons (pe_ix ix_list (pv 1) pe_int (fun _ _ => rfl)) (pa_cons (pe_ix ix_list (pv 1) pe_int (fun _ _ => rfl)) (pa_cons (pe_ix ix_list (pv 1) pe_int (fun _ _ => rfl)) (pa_cons (pe_ix ix_list (pv 1) pe_int (fun _ _ => rfl)) pa_nil))))))
      (pss_one (ps_ret (pe_lst (pa_cons pe_int pa_nil))))), ?_⟩
    have hS' : SqL K H t (([a, b, c, e] : List Int).map V.int) := hS
    refine ⟨_, rfl, t, rfl, ⟨_, hS⟩, fun L hL => lc_v (ys := (([a, b, c, e] : List Int).map (Cp09.isIn 0 20)).map V.bl) (by show 4 < sizeLine; decide) hL
      (fun j H3 hj s3 => go_list (s3.seq hS') hj) (fun H3 s3 => (stop_list (s3.seq hS') : (Itl K t).stop (([a, b, c, e] : List Int).map V.int).length H3)) (fun j v H3 Q3 u H4 hv s3 hu hQ => ?_) (fun H3 s3 h3 => ?_)⟩
    · obtain ⟨rfl, hu⟩ := hu
      have eu := hu _ (s3.seq hS')
      rw [List.getElem?_map] at eu
      rw [List.getElem?_map, List.getElem?_map] at hv
      cases ej : ([a, b, c, e] : List Int)[j]? with
      | none => rw [ej] at eu; cases eu
      | some z =>
        rw [ej] at eu hv
        cases eu; cases hv
        refine ⟨rfl, _, rfl, _, _, rfl, rfl, _, _, rfl, ?_⟩
        show Q3 (.bl (decide (0 ≤ z) && decide (z < 20 + 1))) _
        rw [below21]
        exact hQ _ (Same.refl _)
    · refine ⟨L, ([a, b, c, e] : List Int).map (Cp09.isIn 0 20), rfl, SqL.of h3, ?_⟩
      have ea : (([a, b, c, e] : List Int).map (Cp09.isIn 0 20)).all id = ([a, b, c, e] : List Int).all (Cp09.isIn 0 20) := by rw [List.all_map]; rfl
      rw [ea]
      refine ⟨_, -1, rfl, fun z => ?_, fun z => (D.2 (-1) ?_).same s3⟩
      · have z1 := z
        rw [List.all_cons, List.all_cons, List.all_cons, List.all_cons, Bool.and_eq_true, Bool.and_eq_true, Bool.and_eq_true] at z
        obtain ⟨za, zb, zc, ze⟩ := z
        rw [List.all_nil, Bool.and_true] at ze
        obtain ⟨a, rfl, _, a1⟩ := nat_of za (by decide)
        obtain ⟨b, rfl, _, b1⟩ := nat_of zb (by decide)
        obtain ⟨c, rfl, _, c1⟩ := nat_of zc (by decide)
        obtain ⟨e, rfl, _, e1⟩ := nat_of ze (by decide)
        have es : Cp09.step y.s (.prices a b c e) = ({ y.s with table := { y.s.table with change := a, fifth := b, mode := c, open_ := e } }, Cp09.just 0) := by
          simp only [Cp09.step]
          exact if_neg (by rw [z1]; decide)
        have S3 := s3.seq hS
        refine ⟨_, rfl, y.a, CD, dx, _, _, rfl, s3 _ _ h1, T.cD, T.nD _ (by decide +kernel), lkD_prices, y.p, dp, _, rfl, s3 _ _ h2, lkP_none (by decide +kernel), ?_⟩
        refine ⟨_, rfl, _, _, _, _, rfl, rfl, S3, atI_nat (j := 0) rfl, _, rfl, _, _, _, _, rfl, rfl, S3, atI_nat (j := 1) rfl, _, rfl, _, _, _, _, rfl, rfl, S3, atI_nat (j := 2) rfl, _, rfl, _, _, _, _, rfl, rfl, S3, atI_nat (j := 3) rfl, ?_⟩
        have Y3 := Y.same s3
        refine ⟨y.p, y.d, y.s.table, y.n, a, b, c, e, rfl, Y3.pr, fun H5 hP fr => ?_⟩
        refine ⟨(by show 1 ≤ sizeLine; decide), fun l hl => ?_⟩
        have s6 := same_upd (o := .lst [V.int 0]) hl
        have nl : H l = none := by
          cases c : H l with
          | none => rfl
          | some o =>
            by_cases hlp : l = y.p
            · obtain ⟨dq, z⟩ := hP.obj
              rw [hlp, z] at hl; cases hl
            · rw [fr _ _ (s3 _ _ c) hlp] at hl; cases hl
        refine D.1 _ y.r y.n l ?_ (Nat.le_succ _) (fun b o h _ hb _ => s6 _ _ (fr _ _ (s3 _ _ h) hb)) (.inl rfl) nl ?_
        · rw [es]
          exact (Y3.upP T.ne hP ⟨by show a ≤ 20; omega, by show b ≤ 20; omega, by show c ≤ 20; omega, by show e ≤ 20; omega, Y.tb.kn⟩ (fun b o h hb _ => fr b o h hb)).same s6
        · rw [upd_same, es]; rfl
      · simp only [Cp09.step]
        exact if_pos z
end
end CK
namespace CK
open PySem PySem.Spec PyProof.Rows L2
theorem not_bad {b : Bool} (h : ¬ b = true) : (!b) = true := by cases b <;> simp_all
section
variable {P : Program} {w : World} {K : PySem.W.Frag} {mg : Str → Option Value} {base : Heap} {CP CW CR CD : Addr} {f fI : Addr} {fd fdI : FuncData}
theorem ok_knowD (T : Tx K mg CP CW CR CD) (DW : DefOk P w K mg base (L2.CX P w) 3 "want" ["is_so", "number"] (spWant CR)) (DB : DefOk P w K mg base CX0 1 "is_below" ["number", "bound"] spBelow)
    (DK : MethOk P w K mg base CX0 1 CP "know" ["self", "mode", "degree", "kind", "price"] (spKnow CP)) (F : Fun K "know" "Desk.know" sKnowD f fd) : FnOk P w K mg base (L2.CX P w) 4 f fd ["self", "mode", "degree", "kind", "price"] (dueSp CP CD CR cKnow) := by
  refine F.okX scKnowD (fun vs H Q E h => ?_) (fun cdv A outer s H vs Q E hr h => ?_)
  · obtain ⟨y, q, rest, rfl, ⟨m, a, k, p, rfl, _⟩, _⟩ := h; rfl
  · obtain ⟨y, q, rest, rfl, ⟨m, a, k, p, rfl, rfl⟩, Y, hn, D⟩ := h
    obtain ⟨dx, h1⟩ := Y.obj
    obtain ⟨dp, h2⟩ := Y.pr.obj
    have hr1 : Room 1 _ := hr.mono (by decide)
    refine ⟨_, pss_cons (ps_expr (pe_d (E := E) DW hr (passes_call (takes_of rfl rfl rfl rfl) fun _ _ _ _ h => h) (pa_cons (pe_and (pe_d DB hr1 pass0 (pa_cons (pv 1) (pa_cons (pe_gi T.iMODES) pa_nil)))
          (pe_and (pe_d DB hr1 pass0 (pa_cons (pv 2) (pa_cons (pe_gi T.iTWELVE) pa_nil))) (pe_one (pe_d DB hr1 pass0 (pa_cons (pv 3) (pa_cons (pe_gi T.iKINDS) pa_nil)))))) (pa_cons (pe_gi T.iBAD) pa_nil))))
      (pss_cons (ps_expr (pe_d (E := E) DW hr (passes_call (takes_of rfl rfl rfl rfl) fun _ _ _ _ h => h) (pa_cons (pe_d DB hr1 pass0 (pa_cons (pv 4) (pa_cons (pe_op op_add (pe_gi T.iCANT) pe_int) pa_nil))) (pa_cons (pe_gi T.iBAD) pa_nil))))
      (pss_one (ps_ret (pe_lst (pa_cons (pe_m (pe_fld (pv 0) rfl) T.cP DK hr1 pass0 (pa_cons (pv 1) (pa_cons (pv 2) (pa_cons (pv 3) (pa_cons (pv 4) pa_nil))))) pa_nil))))), ?_⟩
    have bad : (!Cp09.isIn 0 1 m || (!Cp09.isIn 0 11 a || (!Cp09.isIn 0 3 k || !Cp09.isIn 0 100 p))) = true → Told CR H E (-1) := fun h => D.2 (-1) (by simp only [Cp09.step]; exact if_pos h)
    refine ⟨_, rfl, _, _, rfl, _, rfl, ite2 (fun c1 => ?_) (fun c1 => ?_)⟩
    · rw [below2] at c1
      refine ⟨_, rfl, _, _, rfl, _, rfl, ite2 (fun c2 => ?_) (fun c2 => ?_)⟩
      · rw [below12] at c2
        refine ⟨_, rfl, _, _, rfl, _, -1, rfl, fun c3 => ?_, fun c3 => ?_⟩
        · rw [below4] at c3
          refine ⟨_, rfl, _, _, rfl, rfl, _, _, rfl, _, -1, rfl, fun c4 => ?_, fun c4 => ?_⟩
          · rw [below101] at c4
            obtain ⟨m, rfl, _, _⟩ := nat_of c1 (by decide)
            obtain ⟨a, rfl, _, _⟩ := nat_of c2 (by decide)
            obtain ⟨k, rfl, _, _⟩ := nat_of c3 (by decide)
            obtain ⟨p, rfl, _, p1⟩ := nat_of c4 (by decide)
            have es : Cp09.step y.s (.know m a k p) = ({ y.s with table := knowT y.s.table m a k p }, Cp09.just ((((y.s.table.known.find? fun z => z.mode == m && (z.at_ == a && z.kind == k)).map fun z => z.price).getD Cp09.NO : Nat) : Int)) := by
              simp only [Cp09.step]
              exact if_neg (by rw [c1, c2, c3, c4]; decide)
            refine ⟨_, rfl, y.a, CD, dx, _, _, rfl, h1, T.cD, T.nD _ (by decide +kernel), lkD_prices, y.p, dp, _, rfl, h2, lkP_none (by decide +kernel), _, rfl, _, rfl, _, rfl, _, rfl, ?_⟩
            refine ⟨y.p, y.d, y.s.table, y.n, m, a, k, p, rfl, Y.pr, by omega, fun H5 hP fr => ⟨(by show 1 ≤ sizeLine; decide), fun l hl => ?_⟩⟩
            have s6 := same_upd (o := .lst [V.int ((((y.s.table.known.find? fun z => z.mode == m && (z.at_ == a && z.kind == k)).map fun z => z.price).getD Cp09.NO : Nat) : Int)]) hl
            have nl : H l = none := by
              cases c : H l with
              | none => rfl
              | some o =>
                by_cases hlp : l = y.d
                · obtain ⟨kvs, z, _⟩ := hP.dict
                  rw [hlp, z] at hl; cases hl
                · rw [fr _ _ c hlp] at hl; cases hl
            refine D.1 _ y.r (y.n + 1) l ?_ (Nat.le_refl _) (fun b o h _ _ hb => s6 _ _ (fr _ _ h hb)) (.inl rfl) nl ?_
            · rw [es]
              refine (Y.upP T.ne hP ⟨Y.tb.ch, Y.tb.fi, Y.tb.mo, Y.tb.op, fun x hx => ?_⟩ (fun b o h _ hb => fr b o h hb)).same s6
              rcases List.mem_append.mp hx with hx | hx
              · exact Y.tb.kn x (List.mem_filter.mp hx).1
              · rw [List.mem_singleton.mp hx]; show p ≤ 100; omega
            · rw [upd_same, es]; rfl
          · rw [below101] at c4
            refine bad ?_
            rw [c4]; simp
        · rw [below4] at c3
          refine bad ?_
          rw [c3]; simp
      · rw [below12] at c2
        refine ⟨false, -1, rfl, (fun z => by cases z), fun _ => bad ?_⟩
        rw [not_bad c2]; simp
    · rw [below2] at c1
      refine ⟨false, -1, rfl, (fun z => by cases z), fun _ => bad ?_⟩
      rw [not_bad c1]; simp
theorem mv_ok (n : Nat) (c : Ch) (h : ChordOk c) : ChordOk (mvC n c) := ⟨Nat.mod_lt _ (by decide), h.2⟩
theorem ok_move (T : Tx K mg CP CW CR CD) (DW : DefOk P w K mg base (L2.CX P w) 3 "want" ["is_so", "number"] (spWant CR)) (DB : DefOk P w K mg base CX0 1 "is_below" ["number", "bound"] spBelow)
    (DM : DefOk P w K mg base CX0 1 "moved" ["chord", "many"] spMoved) (F : Fun K "move" "Desk.move" sMove f fd) : FnOk P w K mg base (L2.CX P w) 4 f fd ["self", "many"] (dueSp CP CD CR cMove) := by
  refine F.okX scMove (fun vs H Q E h => ?_) (fun cdv A outer s H vs Q E hr h => ?_)
  · obtain ⟨y, q, rest, rfl, ⟨n, rfl, _⟩, _⟩ := h; rfl
  · obtain ⟨y, q, rest, rfl, ⟨n, rfl, rfl⟩, Y, hn, D⟩ := h
    obtain ⟨dx, h1⟩ := Y.obj
    obtain ⟨ps, h3, h4⟩ := Y.row
    have hr1 : Room 1 _ := hr.mono (by decide)
    refine ⟨_, pss_cons (ps_expr (pe_d (E := E) DW hr (passes_call (takes_of rfl rfl rfl rfl) fun _ _ _ _ h => h) (pa_cons (pe_d DB hr1 pass0 (pa_cons (pv 1) (pa_cons (pe_gi T.iTWELVE) pa_nil))) (pa_cons (pe_gi T.iBAD) pa_nil))))
      (pss_cons (ps_fld (pv 0) (pe_lc (own := [("chord", 2)]) (g := gName 2) (tt := tYes) rfl scMove.nd (pi_list (pe_fld (pv 0) rfl)) (blkOk_by (own := [("chord", 2)]) (N := ["self", "many", "chord"]) (sc := defScope sMove) (by decide +kernel))
          (fun _ _ _ _ _ => pg_name (i := 2) scMove.nd rfl (Or.inl rfl)) (fun _ _ _ _ _ => pts_nil) (fun _ _ _ _ _ => pe_d DM hr1 pass0 (pa_cons (pv 2) (pa_cons (pv 1) pa_nil)))) rfl)
      (pss_one (ps_ret (pe_lst (pa_cons (pe_callB call_len_seq (by rfl) T.fLen PySem.boot_len (pa_cons (pe_fld (pv 0) rfl) pa_nil)) pa_nil))))), ?_⟩
    refine ⟨_, rfl, _, _, rfl, _, -1, rfl, fun c1 => ?_, fun c1 => ?_⟩
    · rw [below12] at c1
      obtain ⟨n, rfl, _, _⟩ := nat_of c1 (by decide)
      have es : Cp09.step y.s (.move n) = ({ y.s with chords := y.s.chords.map (mvC n) }, Cp09.just y.s.chords.length) := by
        simp only [Cp09.step]
        exact if_neg (by rw [c1]; decide)
      refine ⟨_, rfl, y.a, CD, dx, _, _, rfl, h1, T.cD, T.nD _ (by decide +kernel), lkD_row, _, rfl, ⟨_, SqL.of h3⟩, fun L hL => lc_e (o := chO) (xs := y.s.chords.map (mvC n)) chO_no (by rw [List.length_map]; exact small1000 (by have := Y.clen; omega)) hL
        (fun j H3 hj s3 => go_list (s3.seq (SqL.of h3)) (by rw [List.length_map] at hj; rw [List.length_map, h4.1]; exact hj)) (fun H3 s3 => by rw [List.length_map, ← h4.1, ← List.length_map (f := V.ref)]; exact stop_list (s3.seq (SqL.of h3))) (fun j x H3 Q3 u H4 hx s3 hu hQ => ?_) (fun H3 qs s3 g3 g4 => ?_)⟩
      · obtain ⟨rfl, hu⟩ := hu
        rw [List.getElem?_map] at hx
        obtain ⟨c, hc, rfl⟩ : ∃ c, y.s.chords[j]? = some c ∧ x = mvC n c := by
          cases e : y.s.chords[j]? with
          | none => rw [e] at hx; cases hx
          | some c => rw [e] at hx; exact ⟨c, rfl, (Option.some.inj hx).symm⟩
        obtain ⟨b, hb, eb⟩ := h4.get hc
        have ev : u = .ref b := Option.some.inj ((hu _ (s3.seq (SqL.of h3))).symm.trans (get_map hb))
        subst ev
        refine ⟨rfl, _, rfl, _, rfl, b, c, n, rfl, s3 _ _ eb, fun p hp => hQ p _ (same_upd hp) upd_same⟩
      · have Y3 := Y.same s3
        have h1' := s3 _ _ h1
        refine ⟨_, rfl, y.a, CD, dx, _, rfl, h1', T.cD, T.nD _ (by decide +kernel), (by show 2 < 1000; decide), ?_⟩
        rw [dF_row]
        have hsq : Sq chO H3 L (y.s.chords.map (mvC n)) := ⟨qs, g3, g4⟩
        have Y4 := Y3.upR T.ne hsq (fun c hc => by
          obtain ⟨c0, h0, rfl⟩ := List.mem_map.mp hc
          exact mv_ok n c0 (Y.cok c0 h0)) (by rw [List.length_map]; exact Y.clen) h1'
        obtain ⟨ps4, k4, k5⟩ := Y4.row
        refine ⟨_, rfl, y.a, CD, dx, _, _, rfl, upd_same, T.cD, T.nD _ (by decide +kernel), lkD_row, _, _, rfl, .inl (SqL.of k4), (by show 1 ≤ sizeLine; decide), fun l hl => ?_⟩
        have s6 := same_upd (o := .lst [V.int ((ps4.map V.ref).length : Int)]) hl
        have nla : l ≠ y.a := fun z => by rw [z, upd_same] at hl; cases hl
        refine D.1 _ L y.n l ?_ (Nat.le_succ _) (fun b o h hb _ _ => s6 _ _ (by rw [upd_ne hb]; exact s3 _ _ h)) (.inr hL) (s3.free (by rw [upd_ne nla] at hl; exact hl)) ?_
        · rw [es]; exact Y4.same s6
        · have e5 : ps4.length = y.s.chords.length := by rw [k5.1]; exact List.length_map _
          rw [upd_same, es, List.length_map, e5]; rfl
    · rw [below12] at c1
      exact D.2 (-1) (by simp only [Cp09.step]; exact if_pos (by rw [c1]; rfl))
theorem ok_degs (T : Tx K mg CP CW CR CD) (DW : DefOk P w K mg base (L2.CX P w) 3 "want" ["is_so", "number"] (spWant CR)) (DB : DefOk P w K mg base CX0 1 "is_below" ["number", "bound"] spBelow)
    (DD : DefOk P w K mg base CX0 1 "degree_of" ["chord", "key"] spDegree) (DC : MethOk P w K mg base CX0 2 CP "of_chord" ["self", "chord", "key"] (spOfC CP)) (F : Fun K "degrees" "Desk.degrees" sDegs f fd) : FnOk P w K mg base (L2.CX P w) 4 f fd ["self", "tonic", "mode"] (dueSp CP CD CR cDegs) := by
  refine F.okX scDegs (fun vs H Q E h => ?_) (fun cdv A outer s H vs Q E hr h => ?_)
  · obtain ⟨y, q, rest, rfl, ⟨t, m, rfl, _⟩, _⟩ := h; rfl
  · obtain ⟨y, q, rest, rfl, ⟨t, m, rfl, rfl⟩, Y, hn, D⟩ := h
    obtain ⟨dx, h1⟩ := Y.obj
    obtain ⟨dp, h2⟩ := Y.pr.obj
    obtain ⟨ps, h3, h4⟩ := Y.row
    have hr1 : Room 1 _ := hr.mono (by decide)
    refine ⟨_, pss_cons (ps_expr (pe_d (E := E) DW hr (passes_call (takes_of rfl rfl rfl rfl) fun _ _ _ _ h => h) (pa_cons (pe_and (pe_d DB hr1 pass0 (pa_cons (pv 1) (pa_cons (pe_gi T.iTWELVE) pa_nil))) (pe_one (pe_d DB hr1 pass0 (pa_cons (pv 2) (pa_cons (pe_gi T.iMODES) pa_nil))))) (pa_cons (pe_gi T.iBAD) pa_nil))))
      (pss_cons (ps_set (i := 3) scDegs.nd rfl (Or.inl rfl) (pe_tup (pa_cons (pv 2) (pa_cons (pv 1) pa_nil))))
      (pss_cons (ps_set (i := 4) scDegs.nd rfl (Or.inl rfl) (pe_lst (pa_cons (pe_callB call_len_seq (by rfl) T.fLen PySem.boot_len (pa_cons (pe_fld (pv 0) rfl) pa_nil)) pa_nil)))
      (pss_cons (ps_for (passes_of rfl) rfl (pi_list (pe_fld (pv 0) rfl)) (pg_name (i := 5) scDegs.nd rfl (Or.inl rfl))
        (pss_one (ps_expr (pe_bm PySem.F.plainAttrs_list PySem.F.slot_list_extend PySem.F.type_list_extend mt_extend (pv 4) (pa_cons (pe_lst (pa_cons (pe_d DD hr1 pass0 (pa_cons (pv 5) (pa_cons (pv 3) pa_nil))) (pa_cons (pe_m (pe_fld (pv 0) rfl) T.cP DC (hr.mono (by decide)) pass0 (pa_cons (pv 5) (pa_cons (pv 3) pa_nil))) pa_nil))) pa_nil)))))
      (pss_one (ps_ret (pv 4)))))), ?_⟩
    have bad : (!Cp09.isIn 0 11 t || !Cp09.isIn 0 1 m) = true → Told CR H E (-1) := fun h => D.2 (-1) (by simp only [Cp09.step]; exact congrArg (Prod.mk y.s) (if_pos h))
    refine ⟨_, rfl, _, _, rfl, _, rfl, ite2 (fun c1 => ?_) (fun c1 => ?_)⟩
    · rw [below12] at c1
      refine ⟨_, rfl, _, _, rfl, _, -1, rfl, fun c2 => ?_, fun c2 => ?_⟩
      · rw [below2] at c2
        obtain ⟨t, rfl, _, t1⟩ := nat_of c1 (by decide)
        obtain ⟨m, rfl, _, m1⟩ := nat_of c2 (by decide)
        let k : Ky := ⟨t, m⟩
        have hk : KeyOk k := ⟨by show t < 12; omega, by show m < 2; omega⟩
        let g : Ch → List Int := fun c => [(Cp09.degree k c : Int), (Cp09.own y.s.table k c : Int)]
        have es : Cp09.step y.s (.degrees t m) = (y.s, ⟨(y.s.chords.length : Int), y.s.chords.flatMap g⟩) := by
          simp only [Cp09.step]
          exact congrArg (Prod.mk y.s) (if_neg (by rw [c1, c2]; decide))
        refine ⟨_, rfl, _, rfl, (by show 2 ≤ sizeLine; decide), fun kb hkb => ?_⟩
        have s2 := same_upd (o := kyO k) hkb
        refine ⟨_, rfl, y.a, CD, dx, _, _, rfl, s2 _ _ h1, T.cD, T.nD _ (by decide +kernel), lkD_row, _, _, rfl, .inl (s2.seq (SqL.of h3)), (by show 1 ≤ sizeLine; decide), fun l hl => ?_⟩
        have s3 := s2.trans (same_upd (o := .lst [V.int ((ps.map V.ref).length : Int)]) hl)
        have hkb3 : (upd (upd H kb (kyO k)) l (.lst [V.int ((ps.map V.ref).length : Int)])) kb = some (kyO k) := same_upd hl _ _ upd_same
        have lf : ∀ cs : List Ch, (cs.flatMap g).length = 2 * cs.length := fun cs => by
          induction cs with
          | nil => rfl
          | cons c r ih => rw [List.flatMap_cons, List.length_append, ih]; show 2 + 2 * r.length = 2 * (r.length + 1); omega
        refine ⟨_, rfl, y.a, CD, dx, _, _, rfl, s3 _ _ h1, T.cD, T.nD _ (by decide +kernel), lkD_row, _, rfl, ⟨_, SqL.of (s3 _ _ h3)⟩, for_list (K := K) (a := y.r) (xs := ps.map V.ref)
          (fun i σ H' => ∃ v5, σ = [some (.ref y.a), some (.int (t : Int)), some (.int (m : Int)), some (.ref kb), some (.ref l), v5] ∧ Same H H' ∧ H' kb = some (kyO k) ∧ H' l = some (.lst (((y.s.chords.length : Int) :: (y.s.chords.take i).flatMap g).map V.int)))
          ⟨none, rfl, s3, hkb3, by rw [upd_same, List.length_map, h4.1]; rfl⟩ (fun i σ H' _ hP => ?_) ?_ ?_⟩
        · obtain ⟨_, _, s', _⟩ := hP
          exact s'.seq (SqL.of h3)
        · rintro i v σ H4 hi ⟨v5, rfl, s4, k4, l4⟩
          obtain ⟨b5, g5, rfl⟩ := map_get hi
          obtain ⟨c, hc, ec⟩ := h4.get' g5
          have cok := Y.cok c (List.mem_of_getElem? hc)
          refine ⟨_, rfl, .inl ⟨rfl, _, SqL.of l4⟩, _, rfl, _, rfl, b5, kb, c, k, rfl, s4 _ _ ec, k4, cok, hk, ?_⟩
          refine ⟨_, rfl, y.a, CD, dx, _, _, rfl, s4 _ _ h1, T.cD, T.nD _ (by decide +kernel), lkD_prices, y.p, dp, _, rfl, s4 _ _ h2, lkP_none (by decide +kernel), _, rfl, _, rfl, ?_⟩
          refine ⟨y.p, y.d, b5, kb, y.s.table, y.n, c, k, rfl, Y.pr.same s4, s4 _ _ ec, k4, cok, hk, fun H5 s5 => ⟨(by show 2 ≤ sizeLine; decide), fun u hu => ?_⟩⟩
          have s6 := same_upd (o := .lst [V.int (Cp09.degree k c : Int), V.int (Cp09.own y.s.table k c : Int)]) hu
          have l6 := s6 _ _ (s5 _ _ l4)
          refine ⟨l, u, _, _, rfl, rfl, l6, upd_same, ?_, _, rfl, fun b o e => ?_, ?_, ?_⟩
          · rw [List.length_map, List.length_cons, lf, List.length_take]
            have := Y.clen
            have z : 100 ≤ sizeLine := by decide
            show _ + 2 ≤ sizeLine
            omega
          · have nl : H l = none := s2.free hl
            rw [upd_ne (ne_of_none e nl)]; exact s6 _ _ (s5 _ _ (s4 _ _ e))
          · rw [upd_ne (ne_of (s6 _ _ (s5 _ _ k4)) l6 (kyO_no k _))]; exact s6 _ _ (s5 _ _ k4)
          · rw [upd_same, List.take_add_one, hc]
            show some (HO.lst ((((y.s.chords.length : Int) :: (y.s.chords.take i).flatMap g).map V.int) ++ (g c).map V.int)) = some (HO.lst (((y.s.chords.length : Int) :: (y.s.chords.take i ++ [c]).flatMap g).map V.int))
            rw [← List.map_append, List.flatMap_append, List.flatMap_singleton]; rfl
        · rintro σ H4 ⟨v5, rfl, s4, k4, l4⟩
          rw [List.length_map, h4.1, List.take_length] at l4
          exact ⟨_, rfl, D.kept Y es H4 l s4 (s2.free hl) l4⟩
      · rw [below2] at c2
        refine bad ?_
        rw [c2]; simp
    · rw [below12] at c1
      refine ⟨false, -1, rfl, (fun z => by cases z), fun _ => bad ?_⟩
      rw [not_bad c1]; simp
end
end CK
namespace CK
open PySem PySem.Spec PyProof.Rows L2
theorem scCount : FnScope ["self", "cost", "found"] ["self", "cost"] (defScope sCount) := ⟨rfl, rfl, rfl, by decide +kernel, rfl, by decide +kernel, by decide +kernel⟩
theorem scCounts : FnScope ["self", "found", "cost", "many"] ["self"] (defScope sCounts) := ⟨rfl, rfl, rfl, by decide +kernel, rfl, by decide +kernel, by decide +kernel⟩
theorem scNth : FnScope ["self", "number", "ways", "left", "cost", "many"] ["self", "number"] (defScope sNth) := ⟨rfl, rfl, rfl, by decide +kernel, rfl, by decide +kernel, by decide +kernel⟩
theorem scToldR : FnScope ["self", "cost", "keys", "found", "mode", "tonic"] ["self", "cost", "keys"] (defScope sToldR) := ⟨rfl, rfl, rfl, by decide +kernel, rfl, by decide +kernel, by decide +kernel⟩
theorem scCost : FnScope ["self", "told", "keys", "chord", "key", "some", "price", "found"] ["self", "told"] (defScope sCost) := ⟨rfl, rfl, rfl, by decide +kernel, rfl, by decide +kernel, by decide +kernel⟩
/-- a loop over enumerate of a list -/
theorem for_enum {K : PySem.W.Frag} {a : Addr} {xs : List V} {g : TG} {tb : TS} {D : Ends} {σ : L2.St} {H : Hp} (Pv : Nat → L2.St → Hp → Prop) (h0 : Pv 0 σ H) (hq : ∀ i σ H, Pv i σ H → SqL K H a xs)
    (hs : ∀ (i : Nat) (x : V) (T : Addr) (σ : L2.St) (H : Hp), xs[i]? = some x → Pv i σ H → H T = none → g (.ref T) σ (upd H T (.tup [.int (i : Int), x])) fun σ2 H2 => tb { D with nx := Pv (i + 1), ct := Pv (i + 1), bk := D.nx } σ2 H2) (hd : ∀ σ H, Pv xs.length σ H → D.nx σ H) :
    ∃ W : Nat → Nat → L2.St → Hp → Prop, (∃ m, W 0 m σ H) ∧ ∀ i m σ H, W i m σ H →
      ((Ite K a).stop i H ∧ D.nx σ H) ∨ ((Ite K a).go i H ∧ ∃ N : L2.St → Hp → Prop, (∀ σ' H', N σ' H' → ∃ m', m' < m ∧ W (i + 1) m' σ' H') ∧ ∀ v H', (Ite K a).yld i H v H' → g v σ H' fun σ2 H2 => tb { D with nx := N, ct := N, bk := D.nx } σ2 H2) := by
  refine ⟨fun i m σ H => m = xs.length - i ∧ i ≤ xs.length ∧ Pv i σ H, ⟨xs.length, rfl, Nat.zero_le _, h0⟩, ?_⟩
  rintro i m σ H ⟨rfl, hi, p⟩
  have qx := hq i σ H p
  by_cases hlt : i < xs.length
  · have hx : xs[i]? = some xs[i] := List.getElem?_eq_getElem hlt
    refine .inr ⟨⟨xs, _, qx, hx⟩, Pv (i + 1), fun σ' H' p' => ⟨xs.length - (i + 1), by omega, rfl, hlt, p'⟩, fun v H' y => ?_⟩
    obtain ⟨T, x', rfl, hT, rfl, f1⟩ := y
    exact hs i x' T σ H (f1 xs qx) p hT
  · have e : i = xs.length := by omega
    subst e
    exact .inl ⟨⟨xs, qx, Nat.le_refl _⟩, hd σ H p⟩
theorem foldl_sum : ∀ (l : List Nat) (a : Nat), l.foldl (· + ·) a = a + l.sum
  | [], a => rfl
  | x :: r, a => by rw [List.foldl_cons, foldl_sum r, List.sum_cons]; omega
abbrev cCount : List V → Hp → Addr → Cp09.Call → Prop := fun rest _ _ q => ∃ p, rest = [.int p] ∧ q = .count p
abbrev cCounts : List V → Hp → Addr → Cp09.Call → Prop := fun rest _ _ q => rest = [] ∧ q = .counts
abbrev cNth : List V → Hp → Addr → Cp09.Call → Prop := fun rest _ _ q => ∃ n, rest = [.int n] ∧ q = .nth n
abbrev cCost (K : PySem.W.Frag) : List V → Hp → Addr → Cp09.Call → Prop := fun rest H _ q => ∃ t l, rest = [.ref t] ∧ SqL K H t (l.map V.int) ∧ l.length < 100 ∧ q = .cost l
theorem emp {cs : List Ch} (h : cs = []) : cs.isEmpty = true := by rw [h]; rfl
theorem nemp {cs : List Ch} (h : cs ≠ []) : cs.isEmpty = false := by cases cs with | nil => exact absurd rfl h | cons a r => rfl
theorem counts_is {q : Tb} {cs : List Ch} (h : cs ≠ []) : Cp09.counts q cs = total q cs := by cases cs with | nil => exact absurd rfl h | cons a r => exact counts_eq q a r
theorem mkO_told {CR : Addr} {H : Hp} {E : XK} {n : Int} {σ : L2.St} (h : Told CR H E n) : tMkO CR (spRInit CR) [] (tCons (tC (.int n)) tNil) σ H (fun cls d H' => E cls d H') := by
  refine ⟨by show 1 ≤ 1000; decide, fun a ha => ?_⟩
  refine ⟨a, n, rfl, upd_same, fun dx n1 n2 => ⟨rfl, dx, [("number", .int n)], upd_same, ?_, ?_, ?_⟩⟩
  · rw [upd_ne n2, upd_same]
  · rw [upd_ne n2] at n1; exact n1
  · have n3 : H dx = none := by rw [upd_ne n2] at n1; exact n1
    refine h dx _ (fun c o e => ?_) upd_same
    have nc : c ≠ a := ne_of_none e ha
    have ndx : c ≠ dx := ne_of_none e n3
    rw [upd_ne ndx, del_ne nc, upd_ne nc, upd_ne ndx, upd_ne nc]; exact e
theorem made_same {H : Hp} {x dx C : Addr} (nx : H x = none) (nd : H dx = none) : Same H (upd (upd H dx (.own x)) x (.ins C dx [])) := fun b o e => by
  rw [upd_ne (ne_of_none e nx), upd_ne (ne_of_none e nd)]; exact e
section
variable {P : Program} {w : World} {K : PySem.W.Frag} {mg : Str → Option Value} {base : Heap} {CP CW CR CD : Addr} {f fI : Addr} {fd fdI : FuncData}
theorem ok_count (T : Tx K mg CP CW CR CD) (DW : DefOk P w K mg base (L2.CX P w) 3 "want" ["is_so", "number"] (spWant CR)) (DB : DefOk P w K mg base CX0 1 "is_below" ["number", "bound"] spBelow)
    (DC : MethOk P w K mg base (L2.CX P w) 4 CD "want_chords" ["self"] (spWantC CP CD CR)) (DY : MakeOk P w K mg base CX0 6 "Ways" CW ["self", "chords", "prices"] (spWInit CP CW)) (DU : MethOk P w K mg base CX0 5 CW "counts" ["self"] (spCou CP CW))
    (F : Fun K "count" "Desk.count" sCount f fd) : FnOk P w K mg base (L2.CX P w) 8 f fd ["self", "cost"] (dueSp CP CD CR cCount) := by
  refine F.okX scCount (fun vs H Q E h => ?_) (fun cdv A outer s H vs Q E hr h => ?_)
  · obtain ⟨y, q, rest, rfl, ⟨p, rfl, _⟩, _⟩ := h; rfl
  · obtain ⟨y, q, rest, rfl, ⟨p, rfl, rfl⟩, Y, hn, D⟩ := h
    obtain ⟨dx, h1⟩ := Y.obj
    have hr1 : Room 1 _ := hr.mono (by decide)
    refine ⟨_, pss_cons (ps_expr (pe_d (E := E) DW (hr.mono (by decide)) (passes_call (takes_of rfl rfl rfl rfl) fun _ _ _ _ h => h) (pa_cons (pe_d DB hr1 pass0 (pa_cons (pv 1) (pa_cons (pe_gi T.iBOUND) pa_nil))) (pa_cons (pe_gi T.iBAD) pa_nil))))
      (pss_cons (ps_expr (pe_m0 (E := E) (pv 0) T.cD DC (hr.mono (by decide)) (passes_call (takes_of rfl rfl rfl rfl) fun _ _ _ _ h => h)))
      (pss_cons (ps_set (i := 2) scCount.nd rfl (Or.inl rfl) (pe_m0 (pe_k DY hr pass0 (pa_cons (pe_fld (pv 0) rfl) (pa_cons (pe_fld (pv 0) rfl) pa_nil))) T.cW DU (hr.mono (by decide)) pass0))
      (pss_one (ps_ret (pe_lst (pa_cons (pe_callB (cr_sum rfl) (by rfl) T.fSum (by decide +kernel) (pa_cons (pe_slice sl_list (pv 2) po_none (po_some (pe_op op_add (pv 1) pe_int))) pa_nil)) (pa_cons (pe_ix ix_list (pv 2) (pv 1) (fun _ _ => rfl)) pa_nil))))))), ?_⟩
    refine ⟨_, rfl, _, _, rfl, _, -1, rfl, fun c1 => ?_, fun c1 => ?_⟩
    · rw [below150] at c1
      obtain ⟨p, rfl, _, p1⟩ := nat_of c1 (by decide)
      refine ⟨_, rfl, y.a, dx, _, rfl, h1, lkD_none (by decide +kernel), y, rfl, Y, fun hne H1 s1 => ?_, fun he => ?_⟩
      · have es : Cp09.step y.s (.count p) = (y.s, ⟨((((total y.s.table y.s.chords).take (p + 1)).sum : Nat) : Int), [(((total y.s.table y.s.chords).getD p 0 : Nat) : Int)]⟩) := by
          simp only [Cp09.step, nemp hne, counts_is hne, foldl_sum, Nat.zero_add]
          exact congrArg (Prod.mk y.s) ((if_neg (by rw [c1]; decide)).trans (if_neg (by decide)))
        have Y1 := Y.same s1
        refine ⟨_, rfl, y.a, CD, dx, _, _, rfl, s1 _ _ h1, T.cD, T.nD _ (by decide +kernel), lkD_row, _, rfl, y.a, CD, dx, _, _, rfl, s1 _ _ h1, T.cD, T.nD _ (by decide +kernel), lkD_prices, ?_⟩
        intro x dw nx ndw ne
        have sn := made_same (C := CW) nx ndw
        refine ⟨x, y.r, y.p, y.d, y.s.table, y.n, y.s.chords, rfl, ⟨dw, upd_same⟩, Y1.row.same sn, Y1.pr.same sn, Y.tb, Y.cok, Y.clen, fun H2 yw e1 e2 e3 hW hF fr => ⟨rfl, ?_⟩⟩
        have s2 : Same H1 H2 := fun b o e => fr b o (sn b o e) (ne_of_none e nx)
        obtain ⟨dw2, hw⟩ := hW.obj
        rw [e1] at hw
        refine ⟨x, dw2, _, rfl, hw, lkW_none (by decide +kernel), yw, by rw [e1]; rfl, hW, hF, by rw [e3]; exact hne, fun H3 l s3 nl hl => ?_⟩
        rw [e2, e3] at hl
        have lt : (total y.s.table y.s.chords).length = 150 := len_total _ _
        have e4 : cutV (ns (total y.s.table y.s.chords)) none (some ((p + 1 : Nat) : Int)) = (((total y.s.table y.s.chords).take (p + 1)).map fun (n : Nat) => (n : Int)).map V.int := by
          rw [cut_to _ _ (by omega), List.map_map, List.map_take]; rfl
        refine ⟨_, rfl, _, rfl, _, _, rfl, rfl, ((p + 1 : Nat) : Int), by rw [Int.natCast_add]; rfl, _, _, rfl, SqL.of hl, fun u hu => ?_⟩
        have s4 := same_upd (o := .lst (cutV (ns (total y.s.table y.s.chords)) none (some ((p + 1 : Nat) : Int)))) hu
        refine ⟨u, _, rfl, SqL.of (by rw [upd_same, e4]), ?_⟩
        rw [sum_cast]
        refine ⟨_, rfl, _, rfl, l, _, _, _, rfl, rfl, SqL.of (s4 _ _ hl), atI_nat (j := p) (by rw [List.getElem?_map, List.getElem?_eq_getElem (by rw [lt]; omega)]; rfl), (by show 2 ≤ sizeLine; decide), fun v hv => ?_⟩
        have s14 := ((s1.trans s2).trans s3).trans s4
        refine D.kept Y es _ v (s14.trans (same_upd hv)) (s14.free hv) ?_
        rw [upd_same, getD_lt (by rw [lt]; omega)]; rfl
      · exact D.2 (-7) (by
          simp only [Cp09.step, emp he]
          exact congrArg (Prod.mk y.s) ((if_neg (by rw [c1]; decide)).trans (if_pos trivial)))
    · rw [below150] at c1
      exact D.2 (-1) (by simp only [Cp09.step]; exact congrArg (Prod.mk y.s) (if_pos (by rw [c1]; rfl)))
/-- what is told of the counts: each cost there are readings of, and how many -/
def toldC (l : List (Nat × Nat)) : List Int := (l.filter fun x => x.1 != 0).flatMap fun x => [(x.2 : Int), (x.1 : Int)]
theorem toldC_len (l : List (Nat × Nat)) : (toldC l).length = 2 * (l.filter fun x => x.1 != 0).length := by
  unfold toldC
  generalize (l.filter fun x => x.1 != 0) = m
  induction m with
  | nil => rfl
  | cons a r ih => rw [List.flatMap_cons, List.length_append, ih]; show 2 + 2 * r.length = 2 * (r.length + 1); omega
theorem toldC_snoc (l : List (Nat × Nat)) (x : Nat × Nat) : toldC (l ++ [x]) = toldC l ++ if 0 < x.1 then [(x.2 : Int), (x.1 : Int)] else [] := by
  unfold toldC
  rw [List.filter_append, List.flatMap_append]
  congr 1
  by_cases h : 0 < x.1
  · rw [if_pos h, List.filter_cons_of_pos (by simp; omega)]; rfl
  · rw [if_neg h, List.filter_cons_of_neg (by simp; omega)]; rfl
theorem zip_snoc {l : List Nat} {i : Nat} {m : Nat} (h : l[i]? = some m) : (l.take (i + 1)).zipIdx = (l.take i).zipIdx ++ [(m, i)] := by
  have hi := (List.getElem?_eq_some_iff.mp h).1
  rw [List.take_add_one, h, List.zipIdx_append]
  congr 1
  show [(m, 0 + (l.take i).length)] = [(m, i)]
  rw [List.length_take, Nat.min_eq_left (Nat.le_of_lt hi), Nat.zero_add]
theorem ok_counts (T : Tx K mg CP CW CR CD)
    (DC : MethOk P w K mg base (L2.CX P w) 4 CD "want_chords" ["self"] (spWantC CP CD CR)) (DY : MakeOk P w K mg base CX0 6 "Ways" CW ["self", "chords", "prices"] (spWInit CP CW)) (DU : MethOk P w K mg base CX0 5 CW "counts" ["self"] (spCou CP CW))
    (F : Fun K "counts" "Desk.counts" sCounts f fd) : FnOk P w K mg base (L2.CX P w) 8 f fd ["self"] (dueSp CP CD CR cCounts) := by
  refine F.okX scCounts (fun vs H Q E h => ?_) (fun cdv A outer s H vs Q E hr h => ?_)
  · obtain ⟨y, q, rest, rfl, ⟨rfl, _⟩, _⟩ := h; rfl
  · obtain ⟨y, q, rest, rfl, ⟨rfl, rfl⟩, Y, hn, D⟩ := h
    obtain ⟨dx, h1⟩ := Y.obj
    refine ⟨_, pss_cons (ps_expr (pe_m0 (E := E) (pv 0) T.cD DC (hr.mono (by decide)) (passes_call (takes_of rfl rfl rfl rfl) fun _ _ _ _ h => h)))
      (pss_cons (ps_set (i := 1) scCounts.nd rfl (Or.inl rfl) (pe_lst pa_nil))
      (pss_cons (ps_for (passes_of rfl) rfl (pi_enum (by rfl) T.fEnum (pa_cons (pe_m0 (pe_k DY hr pass0 (pa_cons (pe_fld (pv 0) rfl) (pa_cons (pe_fld (pv 0) rfl) pa_nil))) T.cW DU (hr.mono (by decide)) pass0) pa_nil))
          (pg_tup rfl (pgs_cons (pg_name (i := 2) scCounts.nd rfl (Or.inl rfl)) (pgs_cons (pg_name (i := 3) scCounts.nd rfl (Or.inl rfl)) pgs_nil)))
        (pss_one (ps_if (pt_cmpR op_gt (pv 3) pe_int (nomark _)) (pss_one (ps_expr (pe_bm PySem.F.plainAttrs_list PySem.F.slot_list_extend PySem.F.type_list_extend mt_extend (pv 1) (pa_cons (pe_lst (pa_cons (pv 2) (pa_cons (pv 3) pa_nil))) pa_nil)))) pss_nil)))
      (pss_one (ps_ret (pe_op op_cat (pe_lst (pa_cons (pe_op op_fdiv (pe_callB call_len_seq (by rfl) T.fLen PySem.boot_len (pa_cons (pv 1) pa_nil)) pe_int) pa_nil)) (pv 1)))))), ?_⟩
    refine ⟨_, rfl, y.a, dx, _, rfl, h1, lkD_none (by decide +kernel), y, rfl, Y, fun hne H1 s1 => ?_, fun he => ?_⟩
    · have es : Cp09.step y.s .counts = (y.s, ⟨(((total y.s.table y.s.chords).zipIdx.filter fun x => x.1 != 0).length : Int), toldC (total y.s.table y.s.chords).zipIdx⟩) := by
        simp only [Cp09.step, nemp hne, counts_is hne]
        exact congrArg (Prod.mk y.s) (if_neg (by decide))
      refine ⟨Nat.zero_le _, fun l hl => ?_⟩
      have s2 := s1.trans (same_upd (o := .lst []) hl)
      have nl : H l = none := s1.free hl
      have Y2 := Y.same s2
      refine ⟨_, rfl, y.a, CD, dx, _, _, rfl, s2 _ _ h1, T.cD, T.nD _ (by decide +kernel), lkD_row, _, rfl, y.a, CD, dx, _, _, rfl, s2 _ _ h1, T.cD, T.nD _ (by decide +kernel), lkD_prices, ?_⟩
      intro x dw nx ndw ne
      have sn := made_same (C := CW) nx ndw
      refine ⟨x, y.r, y.p, y.d, y.s.table, y.n, y.s.chords, rfl, ⟨dw, upd_same⟩, Y2.row.same sn, Y2.pr.same sn, Y.tb, Y.cok, Y.clen, fun H3 yw e1 e2 e3 hW hF fr => ⟨rfl, ?_⟩⟩
      have s3 : Same (upd H1 l (.lst [])) H3 := fun b o e => fr b o (sn b o e) (ne_of_none e nx)
      obtain ⟨dw2, hw⟩ := hW.obj
      rw [e1] at hw
      refine ⟨x, dw2, _, rfl, hw, lkW_none (by decide +kernel), yw, by rw [e1]; rfl, hW, hF, by rw [e3]; exact hne, fun H4 lc s4 nlc hlc => ?_⟩
      rw [e2, e3] at hlc
      have lt : (total y.s.table y.s.chords).length = 150 := len_total _ _
      have s24 := s2.trans (s3.trans s4)
      have hl4 : H4 l = some (.lst ((toldC ((total y.s.table y.s.chords).take 0).zipIdx).map V.int)) := s4 _ _ (s3 _ _ upd_same)
      have nlcl : lc ≠ l := fun z => by
        rw [z, s3 _ _ upd_same] at nlc; cases nlc
      refine ⟨lc, _, rfl, SqL.of hlc, for_enum (K := K) (a := lc) (xs := ns (total y.s.table y.s.chords)) (fun i σ H' => ∃ v2 v3, σ = [some (.ref y.a), some (.ref l), v2, v3] ∧ Same H H' ∧ H' lc = some (.lst (ns (total y.s.table y.s.chords))) ∧ H' l = some (.lst ((toldC ((total y.s.table y.s.chords).take i).zipIdx).map V.int)))
        ⟨none, none, rfl, s24, hlc, hl4⟩ (fun i σ H' hP => ?_) ?_ ?_⟩
      · obtain ⟨_, _, _, _, h, _⟩ := hP
        exact SqL.of h
      · rintro i v t σ H5 hv ⟨v2, v3, rfl, s5, hc5, hl5⟩ ht
        obtain ⟨m, hm, rfl⟩ : ∃ m, (total y.s.table y.s.chords)[i]? = some m ∧ v = V.int (m : Int) := by
          rw [List.getElem?_map] at hv
          cases e : (total y.s.table y.s.chords)[i]? with
          | none => rw [e] at hv; cases hv
          | some m => rw [e] at hv; exact ⟨m, rfl, (Option.some.inj hv).symm⟩
        have s6 := same_upd (o := .tup [V.int (i : Int), V.int (m : Int)]) ht
        have hil : i < 150 := by rw [← lt]; exact (List.getElem?_eq_some_iff.mp hm).1
        refine ⟨t, _, rfl, SqT.of upd_same, rfl, _, _, rfl, _, _, rfl, rfl, ?_⟩
        refine ⟨_, rfl, _, _, rfl, rfl, _, rfl, ite2 (fun e => ?_) (fun e => ?_)⟩
        · have e' : 0 < m := by have := of_decide_eq_true e; omega
          refine ⟨_, rfl, .inl ⟨rfl, _, SqL.of (s6 _ _ hl5)⟩, _, rfl, _, rfl, (by show 2 ≤ sizeLine; decide), fun u hu => ?_⟩
          have s7 := s6.trans (same_upd (o := .lst [V.int (i : Int), V.int (m : Int)]) hu)
          have l7 := s7 _ _ hl5
          refine ⟨l, u, _, _, rfl, rfl, l7, upd_same, ?_, _, _, rfl, fun b o e => ?_, ?_, ?_⟩
          · rw [List.length_map, toldC_len]
            have z1 : (((total y.s.table y.s.chords).take i).zipIdx.filter fun x => x.1 != 0).length ≤ i := by
              refine Nat.le_trans (List.length_filter_le _ _) ?_
              rw [List.length_zipIdx, List.length_take]; omega
            have z : 400 ≤ sizeLine := by decide
            show _ + 2 ≤ sizeLine
            omega
          · rw [upd_ne (ne_of_none e nl)]; exact s7 _ _ (s5 _ _ e)
          · rw [upd_ne nlcl]; exact s7 _ _ hc5
          · rw [upd_same, zip_snoc hm, toldC_snoc, if_pos e', List.map_append]; rfl
        · have e' : ¬ 0 < m := fun z => e (decide_eq_true (by omega))
          refine ⟨_, _, rfl, s5.trans s6, s6 _ _ hc5, ?_⟩
          rw [zip_snoc hm, toldC_snoc, if_neg e', List.append_nil]
          exact s6 _ _ hl5
      · rintro σ H5 ⟨v2, v3, rfl, s5, hc5, hl5⟩
        rw [List.length_map, List.take_length] at hl5
        refine ⟨_, rfl, _, _, rfl, .inl (SqL.of hl5), _, _, rfl, rfl, ⟨by decide, by decide⟩, (by show 1 ≤ sizeLine; decide), fun u hu => ?_⟩
        have e7 : (((toldC (total y.s.table y.s.chords).zipIdx).map V.int).length : Int) / 2 = (((total y.s.table y.s.chords).zipIdx.filter fun x => x.1 != 0).length : Int) := by
          rw [List.length_map, toldC_len]; omega
        have s6 := same_upd (o := .lst [V.int ((((toldC (total y.s.table y.s.chords).zipIdx).map V.int).length : Int) / 2)]) hu
        refine ⟨_, rfl, u, l, _, _, rfl, rfl, upd_same, s6 _ _ hl5, ?_, fun v hv => ?_⟩
        · rw [List.length_map, toldC_len]
          have z1 : ((total y.s.table y.s.chords).zipIdx.filter fun x => x.1 != 0).length ≤ 150 := by
            refine Nat.le_trans (List.length_filter_le _ _) ?_
            rw [List.length_zipIdx]; omega
          have z : 400 ≤ sizeLine := by decide
          show 1 + _ ≤ sizeLine
          omega
        · have s56 := s5.trans s6
          refine D.kept Y es _ v (s56.trans (same_upd hv)) (s56.free hv) ?_
          rw [upd_same, List.map_cons, ← e7]; rfl
    · exact D.2 (-7) (by
        simp only [Cp09.step, emp he]
        exact congrArg (Prod.mk y.s) (if_pos trivial))
end
end CK
namespace CK
open PySem PySem.Spec PyProof.Rows L2
def spToldR : Sp := fun vs H Q _ => ∃ (a l : Addr) (p : Nat) (ks : List Ky), vs = [.ref a, .int p, .ref l] ∧ Sq kyO H l ks ∧ ks.length ≤ 16 ∧ ∀ H' u, Same H H' → H u = none → H' u = some (.lst (((p : Int) :: Cp09.told ks).map V.int)) → Q (.ref u) H'
theorem told_len (ks : List Ky) : (Cp09.told ks).length = 2 * ks.length := by
  unfold Cp09.told
  induction ks with
  | nil => rfl
  | cons a r ih => rw [List.flatMap_cons, List.length_append, ih]; show 2 + 2 * r.length = 2 * (r.length + 1); omega
theorem told_snoc (ks : List Ky) (k : Ky) : Cp09.told (ks ++ [k]) = Cp09.told ks ++ [(k.tonic : Int), (k.mode : Int)] := by
  unfold Cp09.told
  rw [List.flatMap_append, List.flatMap_singleton]
theorem reading_len (q : Tb) : ∀ (cs : List Ch) (b : Option (Ky × Ch)) (p n : Nat), (reading q cs b p n).length ≤ cs.length
  | [], _, _, _ => Nat.le_refl _
  | c :: cs, b, p, n => by
    rw [reading]
    split
    · exact Nat.zero_le _
    · rw [List.length_cons, List.length_cons]
      have := reading_len q cs (some (‹Ky›, c)) (p - spent q b c cs ‹Ky›) (n - ‹Nat›)
      rename_i k t _
      have := reading_len q cs (some (k, c)) (p - spent q b c cs k) (n - t)
      omega
theorem nthAt_drop {l : List Nat} {i m s : Nat} (h : l[i]? = some m) : nthAt (l.drop i) i s = if s < m then some (i, s) else nthAt (l.drop (i + 1)) (i + 1) (s - m) := by
  rw [drop_at h]; rfl
theorem nth_is {q : Tb} {cs : List Ch} {n : Nat} (h : cs ≠ []) : Cp09.nth q cs n = (nthAt (total q cs) 0 n).map fun x => (x.1, reading q cs none x.1 x.2) := by
  cases cs with
  | nil => exact absurd rfl h
  | cons a r => exact nth_eq q a r n
section
variable {P : Program} {w : World} {K : PySem.W.Frag} {mg : Str → Option Value} {base : Heap} {CP CW CR CD : Addr} {f fI : Addr} {fd fdI : FuncData}
theorem ok_toldR (T : Tx K mg CP CW CR CD) (F : Fun K "told_reading" "Desk.told_reading" sToldR f fd) : FnOk P w K mg base CX0 1 f fd ["self", "cost", "keys"] spToldR := by
  refine F.ok scToldR (fun vs H Q E h => ?_) (fun cdv A outer s H vs Q E hr h => ?_)
  · obtain ⟨a, l, p, ks, rfl, _⟩ := h; rfl
  · obtain ⟨a, l, p, ks, rfl, ⟨ps, h1, h2⟩, hl, q⟩ := h
    refine ⟨_, pss_cons (ps_set (i := 3) scToldR.nd rfl (Or.inl rfl) (pe_lst (pa_cons (pv 1) pa_nil)))
      (pss_cons (ps_for PassesOwn.never rfl (pi_list (pv 2)) (pg_tup rfl (pgs_cons (pg_name (i := 4) scToldR.nd rfl (Or.inl rfl)) (pgs_cons (pg_name (i := 5) scToldR.nd rfl (Or.inl rfl)) pgs_nil)))
        (pss_one (ps_expr (pe_bm PySem.F.plainAttrs_list PySem.F.slot_list_extend PySem.F.type_list_extend mt_extend (pv 3) (pa_cons (pe_lst (pa_cons (pv 5) (pa_cons (pv 4) pa_nil))) pa_nil)))))
      (pss_one (ps_ret (pv 3)))), ?_⟩
    refine ⟨_, rfl, (by show 1 ≤ sizeLine; decide), fun u hu => ?_⟩
    have s1 := same_upd (o := .lst [V.int (p : Int)]) hu
    refine ⟨_, rfl, l, rfl, ⟨_, s1.seq (SqL.of h1)⟩, for_list (K := K) (a := l) (xs := ps.map V.ref) (fun i σ H' => ∃ v4 v5, σ = [some (.ref a), some (.int (p : Int)), some (.ref l), some (.ref u), v4, v5] ∧ Same H H' ∧ H' u = some (.lst (((p : Int) :: Cp09.told (ks.take i)).map V.int)))
      ⟨none, none, rfl, s1, upd_same⟩ (fun i σ H' _ hP => ?_) ?_ ?_⟩
    · obtain ⟨_, _, _, s', _⟩ := hP
      exact s'.seq (SqL.of h1)
    · rintro i v σ H3 hi ⟨v4, v5, rfl, s3, hu3⟩
      obtain ⟨b, g, rfl⟩ := map_get hi
      obtain ⟨k, hk, ek⟩ := h2.get' g
      refine ⟨b, _, rfl, SqT.of (s3 _ _ ek), rfl, _, _, rfl, _, _, rfl, rfl, ?_⟩
      refine ⟨_, rfl, .inl ⟨rfl, _, SqL.of hu3⟩, _, rfl, _, rfl, (by show 2 ≤ sizeLine; decide), fun t ht => ?_⟩
      have s4 := same_upd (o := .lst [V.int (k.tonic : Int), V.int (k.mode : Int)]) ht
      refine ⟨u, t, _, _, rfl, rfl, s4 _ _ hu3, upd_same, ?_, _, _, rfl, fun c o e => ?_, ?_⟩
      · rw [List.length_map, List.length_cons, told_len, List.length_take]
        have z : 100 ≤ sizeLine := by decide
        show _ + 2 ≤ sizeLine
        omega
      · rw [upd_ne (ne_of_none e hu)]; exact s4 _ _ (s3 _ _ e)
      · rw [upd_same, List.take_add_one, hk]
        show _ = some (HO.lst (((p : Int) :: Cp09.told (ks.take i ++ [k])).map V.int))
        rw [told_snoc, List.map_cons, List.map_cons, List.map_append]; rfl
    · rintro σ H3 ⟨v4, v5, rfl, s3, hu3⟩
      rw [List.length_map, h2.1, List.take_length] at hu3
      exact ⟨_, rfl, q H3 u s3 hu hu3⟩
theorem ok_nth (T : Tx K mg CP CW CR CD) (R : Rx K mg CR fI) (FI : Fun K "__init__" "Refused.__init__" sRInit fI fdI) (DW : DefOk P w K mg base (L2.CX P w) 3 "want" ["is_so", "number"] (spWant CR))
    (DC : MethOk P w K mg base (L2.CX P w) 4 CD "want_chords" ["self"] (spWantC CP CD CR)) (DY : MakeOk P w K mg base CX0 6 "Ways" CW ["self", "chords", "prices"] (spWInit CP CW)) (DU : MethOk P w K mg base CX0 5 CW "counts" ["self"] (spCou CP CW))
    (DR : MethOk P w K mg base CX0 8 CW "reading" ["self", "cost", "number"] (spRea CP CW)) (DT : MethOk P w K mg base CX0 1 CD "told_reading" ["self", "cost", "keys"] spToldR)
    (F : Fun K "nth" "Desk.nth" sNth f fd) : FnOk P w K mg base (L2.CX P w) 9 f fd ["self", "number"] (dueSp CP CD CR cNth) := by
  have GI : FnOk P w K mg base CX0 1 fI fdI ["self", "number"] (spRInit CR) := ok_rinit T R FI
  have bI : Binds K fdI ["self", "number"] [] := FI.binds fun _ _ _ _ _ _ us hl => match us, hl with | [_, _], _ => rfl
  refine F.okX scNth (fun vs H Q E h => ?_) (fun cdv A outer s H vs Q E hr h => ?_)
  · obtain ⟨y, q, rest, rfl, ⟨n, rfl, _⟩, _⟩ := h; rfl
  · obtain ⟨y, q, rest, rfl, ⟨n, rfl, rfl⟩, Y, hn, D⟩ := h
    obtain ⟨dx, h1⟩ := Y.obj
    refine ⟨_, pss_cons (ps_expr (pe_d (E := E) DW (hr.mono (by decide)) (passes_call (takes_of rfl rfl rfl rfl) fun _ _ _ _ h => h) (pa_cons (pe_cmpR op_ge (pv 1) pe_int (nomark _)) (pa_cons (pe_gi T.iBAD) pa_nil))))
      (pss_cons (ps_expr (pe_m0 (E := E) (pv 0) T.cD DC (hr.mono (by decide)) (passes_call (takes_of rfl rfl rfl rfl) fun _ _ _ _ h => h)))
      (pss_cons (ps_set (i := 2) scNth.nd rfl (Or.inl rfl) (pe_k DY (hr.mono (by decide)) pass0 (pa_cons (pe_fld (pv 0) rfl) (pa_cons (pe_fld (pv 0) rfl) pa_nil))))
      (pss_cons (ps_set (i := 3) scNth.nd rfl (Or.inl rfl) (pv 1))
      (pss_cons (ps_for (passes_of rfl) rfl (pi_enum (by rfl) T.fEnum (pa_cons (pe_m0 (pv 2) T.cW DU (hr.mono (by decide)) pass0) pa_nil))
          (pg_tup rfl (pgs_cons (pg_name (i := 4) scNth.nd rfl (Or.inl rfl)) (pgs_cons (pg_name (i := 5) scNth.nd rfl (Or.inl rfl)) pgs_nil)))
        (pss_cons (ps_if (pt_cmpR op_lt (pv 3) (pv 5) (nomark _)) (pss_one (ps_ret (pe_m (pv 0) T.cD DT (hr.mono (by decide)) pass0 (pa_cons (pv 4) (pa_cons (pe_m (pv 2) T.cW DR hr pass0 (pa_cons (pv 4) (pa_cons (pv 3) pa_nil))) pa_nil))))) pss_nil)
        (pss_one (ps_set (i := 3) scNth.nd rfl (Or.inl rfl) (pe_op op_sub (pv 3) (pv 5))))))
      (pss_one (ps_raise rfl (takes_of rfl rfl rfl rfl) (pmk_oex R.ox R.iC R.tI GI (hr.mono (by decide)) bI .nil pass0 rfl R.gC (pa_cons (pe_gi T.iNONE) pa_nil)))))))), ?_⟩
    refine ⟨_, rfl, _, _, rfl, rfl, _, -1, rfl, fun c1 => ?_, fun c1 => ?_⟩
    · have c1' : 0 ≤ n := of_decide_eq_true c1
      obtain ⟨n, rfl⟩ : ∃ m : Nat, n = (m : Int) := ⟨n.toNat, by omega⟩
      refine ⟨_, rfl, y.a, dx, _, rfl, h1, lkD_none (by decide +kernel), y, rfl, Y, fun hne H1 s1 => ?_, fun he => ?_⟩
      · have es : Cp09.step y.s (.nth n) = (y.s, match nthAt (total y.s.table y.s.chords) 0 n with
          | none => Cp09.just (-3)
          | some x => ⟨(x.1 : Int), Cp09.told (reading y.s.table y.s.chords none x.1 x.2)⟩) := by
          simp only [Cp09.step, nemp hne]
          refine congrArg (Prod.mk y.s) ((if_neg (by omega)).trans ((if_neg (by decide)).trans ?_))
          rw [show ((n : Int)).toNat = n from Int.toNat_natCast n, nth_is hne]
          cases nthAt (total y.s.table y.s.chords) 0 n <;> rfl
        have Y1 := Y.same s1
        refine ⟨_, rfl, y.a, CD, dx, _, _, rfl, s1 _ _ h1, T.cD, T.nD _ (by decide +kernel), lkD_row, _, rfl, y.a, CD, dx, _, _, rfl, s1 _ _ h1, T.cD, T.nD _ (by decide +kernel), lkD_prices, ?_⟩
        intro x dw nx ndw ne
        have sn := made_same (C := CW) nx ndw
        refine ⟨x, y.r, y.p, y.d, y.s.table, y.n, y.s.chords, rfl, ⟨dw, upd_same⟩, Y1.row.same sn, Y1.pr.same sn, Y.tb, Y.cok, Y.clen, fun H2 yw e1 e2 e3 hW hF fr => ⟨rfl, ?_⟩⟩
        have s2 : Same H1 H2 := fun b o e => fr b o (sn b o e) (ne_of_none e nx)
        obtain ⟨dw2, hw⟩ := hW.obj
        rw [e1] at hw
        refine ⟨_, rfl, ?_⟩
        refine ⟨_, rfl, x, dw2, _, rfl, hw, lkW_none (by decide +kernel), yw, by rw [e1]; rfl, hW, hF, by rw [e3]; exact hne, fun H3 l s3 nl hl => ?_⟩
        rw [e2, e3] at hl
        have lt : (total y.s.table y.s.chords).length = 150 := len_total _ _
        have s13 := s1.trans (s2.trans s3)
        refine ⟨l, _, rfl, SqL.of hl, for_enum (K := K) (a := l) (xs := ns (total y.s.table y.s.chords)) (fun i σ H' => ∃ (m : Nat) (v4 v5 : Option V), σ = [some (.ref y.a), some (.int (n : Int)), some (.ref x), some (.int (m : Int)), v4, v5] ∧ Same H H' ∧ Same H3 H' ∧ nthAt ((total y.s.table y.s.chords).drop i) i m = nthAt (total y.s.table y.s.chords) 0 n)
          ⟨n, none, none, rfl, s13, Same.refl _, rfl⟩ (fun i σ H' hP => ?_) ?_ ?_⟩
        · obtain ⟨_, _, _, _, _, s', _⟩ := hP
          exact s'.seq (SqL.of hl)
        · rintro i v t σ H5 hv ⟨m, v4, v5, rfl, s5, s5', hnt⟩ ht
          obtain ⟨u, hu, rfl⟩ : ∃ u, (total y.s.table y.s.chords)[i]? = some u ∧ v = V.int (u : Int) := by
            rw [List.getElem?_map] at hv
            cases e : (total y.s.table y.s.chords)[i]? with
            | none => rw [e] at hv; cases hv
            | some u => rw [e] at hv; exact ⟨u, rfl, (Option.some.inj hv).symm⟩
          have s6 := same_upd (o := .tup [V.int (i : Int), V.int (u : Int)]) ht
          rw [nthAt_drop hu] at hnt
          have hil : i < 150 := by rw [← lt]; exact (List.getElem?_eq_some_iff.mp hu).1
          refine ⟨t, _, rfl, SqT.of upd_same, rfl, _, _, rfl, _, _, rfl, rfl, ?_⟩
          refine ⟨_, rfl, _, rfl, _, _, rfl, rfl, _, rfl, ite2 (fun e => ?_) (fun e => ?_)⟩
          · have e' : m < u := by have := of_decide_eq_true e; omega
            rw [if_pos e'] at hnt
            rw [← hnt] at es
            have s56 := s5.trans s6
            have hW6 := (hW.same (s3.trans s5')).same s6
            obtain ⟨dw6, hw6⟩ := hW6.obj
            rw [e1] at hw6
            refine ⟨_, rfl, y.a, dx, _, rfl, s56 _ _ h1, lkD_none (by decide +kernel), _, rfl, _, rfl, x, dw6, _, rfl, hw6, lkW_none (by decide +kernel), _, rfl, _, rfl, ?_⟩
            have hen : Enough y.s.table y.s.chords none i m := by
              cases hcs : y.s.chords with
              | nil => exact trivial
              | cons c r =>
                refine enough_first hil ?_
                rw [← hcs, getD_lt (by rw [lt]; exact hil)]
                have := (List.getElem?_eq_some_iff.mp hu).2
                rw [this]; exact e'
            refine ⟨yw, i, m, by rw [e1]; rfl, hW6, (hF.same (s3.trans s5')).same s6, hil, by rw [e2, e3]; exact hen, fun H7 lk s7 nlk hlk => ?_⟩
            rw [e2, e3] at hlk
            refine ⟨y.a, lk, i, _, rfl, hlk, Nat.le_trans (reading_len _ _ _ _ _) Y.clen, fun H8 o s8 no ho => ?_⟩
            have s67 := s56.trans s7
            exact D.kept Y es H8 o (s67.trans s8) (s67.free no) ho
          · have e' : ¬ m < u := fun z => e (decide_eq_true (by omega))
            rw [if_neg e'] at hnt
            refine ⟨_, rfl, _, rfl, _, _, rfl, rfl, m - u, some (.int (i : Int)), some (.int (u : Int)), ?_, s5.trans s6, s5'.trans s6, hnt⟩
            have e8 : (m : Int) - (u : Int) = ((m - u : Nat) : Int) := by omega
            rw [← e8]; rfl
        · rintro σ H5 ⟨m, v4, v5, rfl, s5, _, hnt⟩
          rw [List.length_map, List.drop_length] at hnt
          rw [← hnt] at es
          exact mkO_told (σ := []) ((D.2 (-3) es).same s5)
      · exact D.2 (-7) (by
          simp only [Cp09.step, emp he]
          exact congrArg (Prod.mk y.s) ((if_neg (by omega)).trans (if_pos trivial)))
    · have c1' : n < 0 := by have := of_decide_eq_false c1; omega
      exact D.2 (-1) (by simp only [Cp09.step]; exact congrArg (Prod.mk y.s) (if_pos c1'))
theorem ok_cost (T : Tx K mg CP CW CR CD) (DW : DefOk P w K mg base (L2.CX P w) 3 "want" ["is_so", "number"] (spWant CR))
    (DC : MethOk P w K mg base (L2.CX P w) 4 CD "want_chords" ["self"] (spWantC CP CD CR)) (DR : DefOk P w K mg base CX0 2 "read_keys" ["row"] (spReadK K)) (DO : MethOk P w K mg base CX0 2 CP "of_chord" ["self", "chord", "key"] (spOfC CP))
    (DA : DefOk P w K mg base CX0 3 "cadences_in" ["chords", "keys"] spCadIn) (DT : DefOk P w K mg base CX0 4 "cost_of" ["chords", "keys", "prices"] (spCostOf CP)) (F : Fun K "cost" "Desk.cost" sCost f fd) :
    FnOk P w K mg base (L2.CX P w) 5 f fd ["self", "told"] (dueSp CP CD CR (cCost K)) := by
  refine F.okX scCost (fun vs H Q E h => ?_) (fun cdv A outer s H vs Q E hr h => ?_)
  · obtain ⟨y, q, rest, rfl, ⟨t, l, rfl, _⟩, _⟩ := h; rfl
  · obtain ⟨y, q, rest, rfl, ⟨t, l, rfl, hS, hl, rfl⟩, Y, hn, D⟩ := h
    obtain ⟨dx, h1⟩ := Y.obj
    obtain ⟨dp, h2⟩ := Y.pr.obj
    obtain ⟨ps, h3, h4⟩ := Y.row
    have hr2 : Room 2 _ := hr.mono (by decide)
    refine ⟨_, pss_cons (ps_set (i := 2) scCost.nd rfl (Or.inl rfl) (pe_d DR hr2 pass0 (pa_cons (pv 1) pa_nil)))
      (pss_cons (ps_expr (pe_d (E := E) DW (hr.mono (by decide)) (passes_call (takes_of rfl rfl rfl rfl) fun _ _ _ _ h => h) (pa_cons (pe_cmpR op_notN (pv 2) pe_non (nomark _)) (pa_cons (pe_gi T.iBAD) pa_nil))))
      (pss_cons (ps_expr (pe_m0 (E := E) (pv 0) T.cD DC hr (passes_call (takes_of rfl rfl rfl rfl) fun _ _ _ _ h => h)))
      (pss_cons (ps_expr (pe_d (E := E) DW (hr.mono (by decide)) (passes_call (takes_of rfl rfl rfl rfl) fun _ _ _ _ h => h) (pa_cons (pe_cmpR op_eq (pe_callB call_len_seq (by rfl) T.fLen PySem.boot_len (pa_cons (pv 2) pa_nil)) (pe_callB call_len_seq (by rfl) T.fLen PySem.boot_len (pa_cons (pe_fld (pv 0) rfl) pa_nil)) (nomark _)) (pa_cons (pe_gi T.iNOTAS) pa_nil))))
      (pss_cons (ps_setLc (i := 5) (own := [("chord", 3), ("key", 4)]) (g := gTup K 2 (gCons (gName 3) (gCons (gName 4) gNil))) (tt := tYes) rfl scCost.nd rfl rfl (sw_true rfl rfl rfl (by decide +kernel)) (pi_zip (by rfl) T.fZip (pa_cons (pe_fld (pv 0) rfl) (pa_cons (pv 2) pa_nil)))
          (blkOk_by (own := [("chord", 3), ("key", 4)]) (N := ["self", "told", "keys", "chord", "key", "some", "price", "found"]) (sc := defScope sCost) (by decide +kernel))
          (fun _ _ _ _ _ => pgT K rfl (pgs_cons (pg_name (i := 3) scCost.nd rfl (Or.inl rfl)) (pgs_cons (pg_name (i := 4) scCost.nd rfl (Or.inl rfl)) pgs_nil))) (fun _ _ _ _ _ => pts_nil)
          (fun _ _ _ _ _ => pe_m (pe_fldK K (pv 0)) T.cP DO hr2 pass0 (pa_cons (pv 3) (pa_cons (pv 4) pa_nil))))
      (pss_cons (ps_expr (pe_d (E := E) DW (hr.mono (by decide)) (passes_call (takes_of rfl rfl rfl rfl) fun _ _ _ _ h => h) (pa_cons (pe_callB (cr_all rfl) (by rfl) T.fAll (by decide +kernel) (pa_cons
          (pe_lc (own := [("price", 6)]) (g := gName 6) (tt := tYes) rfl scCost.nd (pi_list (pv 5)) (blkOk_by (own := [("price", 6)]) (N := ["self", "told", "keys", "chord", "key", "some", "price", "found"]) (sc := defScope sCost) (by decide +kernel))
            (fun _ _ _ _ _ => pg_name (i := 6) scCost.nd rfl (Or.inl rfl)) (fun _ _ _ _ _ => pts_nil) (fun _ _ _ _ _ => pe_cmpR op_lt (pv 6) (pe_gi T.iCANT) (nomark _))) pa_nil)) (pa_cons (pe_gi T.iNONE) pa_nil))))
      (pss_cons (ps_set (i := 7) scCost.nd rfl (Or.inl rfl) (pe_d DA (hr.mono (by decide)) pass0 (pa_cons (pe_fld (pv 0) rfl) (pa_cons (pv 2) pa_nil))))
      (pss_one (ps_ret (pe_op op_cat (pe_lst (pa_cons (pe_d DT hr pass0 (pa_cons (pe_fld (pv 0) rfl) (pa_cons (pv 2) (pa_cons (pe_fld (pv 0) rfl) pa_nil)))) (pa_cons (pe_callB call_len_seq (by rfl) T.fLen PySem.boot_len (pa_cons (pv 7) pa_nil)) pa_nil))) (pv 7)))))))))), ?_⟩
    refine ⟨_, rfl, t, l, rfl, hS, hl, fun H2 s2 e => ?_, fun ks H2 p s2 e kok kl np hp => ?_⟩
    · refine ⟨_, rfl, rfl, false, -1, rfl, (fun z => by cases z), fun _ => ?_⟩
      exact (D.2 (-1) (by simp only [Cp09.step, e])).same s2
    · refine ⟨_, rfl, rfl, true, -1, rfl, fun _ => ?_, (fun z => by cases z)⟩
      obtain ⟨qs, g1, g2⟩ := hp
      have Y2 := Y.same s2
      refine ⟨_, rfl, y.a, dx, _, rfl, s2 _ _ h1, lkD_none (by decide +kernel), y, rfl, Y2, fun hne H3 s3 => ?_, fun he => ?_⟩
      · have s23 := s2.trans s3
        have g13 := s3 _ _ g1
        have g23 := g2.same s3
        refine ⟨_, rfl, _, _, rfl, .inl (SqL.of g13), _, rfl, y.a, CD, dx, _, _, rfl, s23 _ _ h1, T.cD, T.nD _ (by decide +kernel), lkD_row, _, _, rfl, .inl (SqL.of (s23 _ _ h3)), rfl, decide (V.int ((qs.map V.ref).length : Int) = V.int ((ps.map V.ref).length : Int)), -2, rfl, fun z => ?_, fun z => ?_⟩
        · have hlen : ks.length = y.s.chords.length := by
            have z1 := V.int.inj (of_decide_eq_true z)
            rw [List.length_map, List.length_map, g2.1, h4.1] at z1
            omega
          have clen := Y.clen
          have zl : (y.s.chords.zip ks).length = y.s.chords.length := by rw [List.length_zip, hlen, Nat.min_self]
          have kp : ks.length = qs.length := g2.1.symm
          have cp : y.s.chords.length = ps.length := h4.1.symm
          have SA := SqL.of (K := K) (s23 _ _ h3)
          have SB := SqL.of (K := K) g13
          have st1 : Cp09.step y.s (.cost l) = (y.s, match Cp09.cost y.s.table y.s.chords ks with
            | none => Cp09.just (-3)
            | some p => ⟨(p : Int), ((Cp09.cadences y.s.chords ks).length : Int) :: (Cp09.cadences y.s.chords ks).map fun (i : Nat) => (i : Int)⟩) := by
            simp only [Cp09.step, e, nemp hne]
            exact congrArg (Prod.mk y.s) ((if_neg (by decide)).trans (if_neg (fun z => z hlen)))
          refine ⟨_, rfl, y.a, CD, dx, _, _, rfl, s23 _ _ h1, T.cD, T.nD _ (by decide +kernel), lkD_row, _, rfl, y.r, p, _, _, rfl, SA, SB, fun L hL => lc_v (ys := ((y.s.chords.zip ks).map fun x => Cp09.own y.s.table x.2 x.1).map fun (n : Nat) => V.int (n : Int)) (by rw [List.length_map, List.length_map, zl]; exact small1000 (by omega)) hL
            (fun j H4 hj s4 => by
              rw [List.length_map, List.length_map, zl] at hj
              exact go_zip (s4.seq SA) (s4.seq SB) (by rw [List.length_map]; omega) (by rw [List.length_map]; omega))
            (fun H4 s4 => stop_zip (s4.seq SA) (s4.seq SB) (.inl (by rw [List.length_map, List.length_map, List.length_map, zl]; omega))) (fun j v H4 Q3 u H5 hv s4 hu hQ => ?_) (fun H4 s4 k4 => ?_)⟩
          · have hj : j < y.s.chords.length := by
              have z := (List.getElem?_eq_some_iff.mp hv).1
              rw [List.length_map, List.length_map, zl] at z; exact z
            obtain ⟨b, x1, x2, rfl, hb, rfl, f1, f2⟩ := hu
            obtain ⟨c, hc⟩ : ∃ c, y.s.chords[j]? = some c := ⟨_, List.getElem?_eq_getElem hj⟩
            obtain ⟨k, hk⟩ : ∃ k, ks[j]? = some k := ⟨_, List.getElem?_eq_getElem (by omega)⟩
            obtain ⟨p1, a1, b1⟩ := h4.get hc
            obtain ⟨p2, a2, b2⟩ := g23.get hk
            have i1 : x1 = .ref p1 := Option.some.inj ((f1 _ (s4.seq SA)).symm.trans (get_map a1))
            have i2 : x2 = .ref p2 := Option.some.inj ((f2 _ (s4.seq SB)).symm.trans (get_map a2))
            subst i1 i2
            have ey : v = .int (Cp09.own y.s.table k c : Int) := by
              rw [List.getElem?_map, List.getElem?_map, (List.getElem?_zip_eq_some (z := (c, k))).mpr ⟨hc, hk⟩] at hv
              exact (Option.some.inj hv).symm
            subst ey
            have s5 := same_upd (o := .tup [V.ref p1, V.ref p2]) hb
            have sA := (s23.trans s4).trans s5
            refine ⟨b, _, rfl, SqT.of upd_same, rfl, _, _, rfl, _, _, rfl, rfl, rfl, _, rfl, y.a, CD, dx, _, _, rfl, sA _ _ h1, T.cD, T.nD _ (by decide +kernel), lkD_prices, y.p, dp, _, rfl, sA _ _ h2, lkP_none (by decide +kernel), _, rfl, _, rfl, ?_⟩
            exact ⟨y.p, y.d, p1, p2, y.s.table, y.n, c, k, rfl, Y.pr.same sA, sA _ _ b1, s5 _ _ (s4 _ _ b2), Y.cok _ (List.mem_of_getElem? hc), kok _ (List.mem_of_getElem? hk), fun H6 s6 => hQ _ (s5.trans s6)⟩
          · have s24 := s23.trans s4
            let os := (y.s.chords.zip ks).map fun x => Cp09.own y.s.table x.2 x.1
            have ol : os.length = y.s.chords.length := by rw [List.length_map, zl]
            refine ⟨_, rfl, L, rfl, ⟨_, SqL.of k4⟩, fun L2 hL2 => lc_v (ys := (os.map fun n => decide (n < 100)).map V.bl) (by rw [List.length_map, List.length_map, ol]; exact small1000 (by omega)) hL2
              (fun j H5 hj s5 => go_list (s5.seq (SqL.of k4)) (by rw [List.length_map, List.length_map] at hj; rw [List.length_map]; exact hj))
              (fun H5 s5 => by
                have z : (os.map fun (n : Nat) => V.int (n : Int)).length = ((os.map fun n => decide (n < 100)).map V.bl).length := by simp only [List.length_map]
                rw [← z]
                exact stop_list (s5.seq (SqL.of k4))) (fun j v H5 Q3 u H6 hv s5 hu hQ => ?_) (fun H5 s5 k5 => ?_)⟩
            · obtain ⟨rfl, hu⟩ := hu
              have eu := hu _ (s5.seq (SqL.of k4))
              have eu' : (os.map fun (n : Nat) => V.int (n : Int))[j]? = some u := eu
              rw [List.getElem?_map] at eu'
              rw [List.getElem?_map, List.getElem?_map] at hv
              cases ej : os[j]? with
              | none => rw [ej] at eu'; cases eu'
              | some z =>
                rw [ej] at eu' hv
                cases eu'; cases hv
                refine ⟨rfl, _, rfl, _, _, rfl, rfl, ?_⟩
                have e9 : decide ((z : Int) < 100) = decide (z < 100) := by
                  by_cases c : z < 100
                  · rw [decide_eq_true c, decide_eq_true (by omega)]
                  · rw [decide_eq_false c, decide_eq_false (by omega)]
                show Q3 (.bl (decide ((z : Int) < 100))) _
                rw [e9]
                exact hQ _ (Same.refl _)
            · refine ⟨L2, os.map fun n => decide (n < 100), rfl, SqL.of k5, ?_⟩
              have ea : (os.map fun n => decide (n < 100)).all id = canBe y.s.table y.s.chords ks := by
                unfold canBe
                rw [List.all_map, List.all_map]; rfl
              rw [ea]
              have s25 := s24.trans s5
              refine ⟨_, -3, rfl, fun z2 => ?_, fun z2 => ?_⟩
              · have s35 := (s3.trans s4).trans s5
                have ck := cost_eq y.s.table y.s.chords ks hne hlen
                rw [if_pos z2] at ck
                rw [ck, cadences_eq _ _ hlen] at st1
                have sqk : Sq kyO H5 p ks := ⟨qs, s35 _ _ g1, g2.same s35⟩
                refine ⟨_, rfl, y.a, CD, dx, _, _, rfl, s25 _ _ h1, T.cD, T.nD _ (by decide +kernel), lkD_row, _, rfl, y.r, p, y.s.chords, ks, rfl, Y.row.same s25, sqk, Y.cok, kok, hlen, clen, fun H6 lc s6 nc hc => ?_⟩
                have s26 := s25.trans s6
                refine ⟨_, rfl, y.a, CD, dx, _, _, rfl, s26 _ _ h1, T.cD, T.nD _ (by decide +kernel), lkD_row, _, rfl, _, rfl, y.a, CD, dx, _, _, rfl, s26 _ _ h1, T.cD, T.nD _ (by decide +kernel), lkD_prices, ?_⟩
                refine ⟨y.r, p, y.p, y.d, y.s.table, y.n, y.s.chords, ks, rfl, Y.row.same s26, sqk.same s6, Y.pr.same s26, Y.tb, Y.cok, kok, hlen, hne, clen, fun H7 s7 => ?_⟩
                have hc7 := s7 _ _ hc
                refine ⟨_, rfl, _, _, rfl, .inl (SqL.of hc7), (by show 2 ≤ sizeLine; decide), fun u hu => ?_⟩
                have s8 := same_upd (o := .lst [V.int ((sumOwn y.s.table y.s.chords ks + sumGo y.s.table ks + endOf y.s.table (lastTwo y.s.chords) (lastTwo ks) : Nat) : Int), V.int ((ns (cadTo y.s.chords ks (y.s.chords.length - 1))).length : Int)]) hu
                have cl : (cadTo y.s.chords ks (y.s.chords.length - 1)).length ≤ y.s.chords.length := by
                  unfold cadTo
                  rw [List.length_map]
                  exact Nat.le_trans (List.length_filter_le _ _) (by rw [List.length_range]; omega)
                refine ⟨_, rfl, u, lc, _, _, rfl, rfl, upd_same, s8 _ _ hc7, ?_, fun v hv => ?_⟩
                · rw [List.length_map]
                  have z : 100 ≤ sizeLine := by decide
                  show 2 + _ ≤ sizeLine
                  omega
                · have s28 := (s26.trans s7).trans s8
                  refine D.kept Y st1 _ v (s28.trans (same_upd hv)) (s28.free hv) ?_
                  rw [upd_same, List.map_cons, List.map_cons, List.map_map, List.length_map]; rfl
              · have ck := cost_eq y.s.table y.s.chords ks hne hlen
                rw [z2, if_neg Bool.false_ne_true] at ck
                rw [ck] at st1
                exact (D.2 (-3) st1).same s25
        · have hlen : ¬ ks.length = y.s.chords.length := fun z1 => by
            refine absurd z ?_
            rw [List.length_map, List.length_map, g2.1, h4.1, z1]
            simp
          refine (D.2 (-2) ?_).same s23
          simp only [Cp09.step, e, nemp hne]
          exact congrArg (Prod.mk y.s) ((if_neg (by decide)).trans (if_pos hlen))
      · refine (D.2 (-7) ?_).same s2
        simp only [Cp09.step, e, emp he]
        exact congrArg (Prod.mk y.s) (if_pos trivial)
end
end CK
namespace CK
open PySem PySem.Spec PyProof.Rows L2
abbrev sOfCall : Stmt := top 49
abbrev sAnswer : Stmt := top 50
abbrev sAns : Stmt := top 51
theorem scOfCall : FnScope ["desk", "call", "n", "row"] ["desk", "call", "n", "row"] (defScope sOfCall) := ⟨rfl, rfl, rfl, by decide +kernel, rfl, by decide +kernel, by decide +kernel⟩
theorem scAnswer : FnScope ["desk", "call", "n", "row", "found", "e"] ["desk", "call", "n", "row"] (defScope sAnswer) := ⟨rfl, rfl, rfl, by decide +kernel, rfl, by decide +kernel, by decide +kernel⟩
theorem scAns : FnScope ["calls", "desk", "found", "at", "call", "end", "n", "row", "begin", "told"] ["calls"] (defScope sAns) := ⟨rfl, rfl, rfl, by decide +kernel, rfl, by decide +kernel, by decide +kernel⟩
/-- what a call asks, by its number, the list of its numbers and the list of its row -/
def Asks (K : PySem.W.Frag) (H : Hp) (c : Int) (na ra : Addr) (q : Cp09.Call) : Prop := ∃ nums row, SqL K H na (nums.map V.int) ∧ SqL K H ra (row.map V.int) ∧ Reads c nums row q ∧ row.length < 100
def spOfCall (K : PySem.W.Frag) (CP CD CR : Addr) : Sp := fun vs H Q E => ∃ (y : Dk) (q : Cp09.Call) (c : Int) (na ra : Addr), vs = [.ref y.a, .int c, .ref na, .ref ra] ∧ Asks K H c na ra q ∧ DkAt CP CD H y ∧ y.n < 900 ∧ Due CP CD CR H y q Q E
def spAnswer (K : PySem.W.Frag) (CP CD : Addr) : Sp := fun vs H Q _ => ∃ (y : Dk) (q : Cp09.Call) (c : Int) (na ra : Addr), vs = [.ref y.a, .int c, .ref na, .ref ra] ∧ Asks K H c na ra q ∧ DkAt CP CD H y ∧ y.n < 900 ∧
  ∀ H' r' n' l, DkAt CP CD H' ⟨y.a, y.p, y.d, r', (Cp09.step y.s q).1, n'⟩ → n' ≤ y.n + 1 → Frm H H' y → (r' = y.r ∨ H r' = none) → H l = none → H' l = some (.lst (((Cp09.step y.s q).2.v :: (Cp09.step y.s q).2.l).map V.int)) → Q (.ref l) H'
/-- the calls of the desk -/
structure DeskOk (P : Program) (w : World) (K : PySem.W.Frag) (mg : Str → Option Value) (base : Heap) (CP CD CR : Addr) : Prop where
  d1 : MethOk P w K mg base (L2.CX P w) 4 CD "chords" ["self", "told"] (dueSp CP CD CR (cChords K))
  d2 : MethOk P w K mg base (L2.CX P w) 4 CD "put_prices" ["self", "numbers"] (dueSp CP CD CR (cPrices K))
  d3 : MethOk P w K mg base (L2.CX P w) 4 CD "know" ["self", "mode", "degree", "kind", "price"] (dueSp CP CD CR cKnow)
  d4 : MethOk P w K mg base (L2.CX P w) 4 CD "move" ["self", "many"] (dueSp CP CD CR cMove)
  d5 : MethOk P w K mg base (L2.CX P w) 4 CD "degrees" ["self", "tonic", "mode"] (dueSp CP CD CR cDegs)
  d6 : MethOk P w K mg base (L2.CX P w) 8 CD "count" ["self", "cost"] (dueSp CP CD CR cCount)
  d7 : MethOk P w K mg base (L2.CX P w) 8 CD "counts" ["self"] (dueSp CP CD CR cCounts)
  d8 : MethOk P w K mg base (L2.CX P w) 9 CD "nth" ["self", "number"] (dueSp CP CD CR cNth)
  d9 : MethOk P w K mg base (L2.CX P w) 5 CD "cost" ["self", "told"] (dueSp CP CD CR (cCost K))
section
variable {X : Cx} {CX : CXT} {k : Nat} {x m : Str} {C : Addr} {ps : List Str} {sp : Sp} {p pos apos : Pos} {o e : Expr} {es : List Expr} {ta : TE} {t : TA}
theorem pe_dS {E : L2.St → XK} (D : DefOk X.prog X.w X.K X.mg X.base CX k x ps sp) (hr : Room k X.A) (hx : ∀ σ, PassesAt CX X σ (E σ)) (ha : PA X (e :: es) t) (hg : Gl X x := by rfl)
    (hdb : (x == ("__debug__" : Str)) = false := by decide) (he : starEach (e :: es) X.env = (false, eval e X.env) :: starEach es X.env := by rfl) (hpl : (backTo pos (starEach es X.env)).any (·.1) = false := by rfl) :
    PE X (.Call (.Name x p) (e :: es) [] pos) (tCallS sp E t) := by
  obtain ⟨f, fd, F, hm, hk, hb⟩ := D.ex
  exact pe_callS F hr hg hm hk hb hx ha hdb he hpl
end
section
variable {P : Program} {w : World} {K : PySem.W.Frag} {mg : Str → Option Value} {base : Heap} {CP CW CR CD : Addr} {f fI : Addr} {fd fdI : FuncData}
theorem ok_ofCall (T : Tx K mg CP CW CR CD) (D : DeskOk P w K mg base CP CD CR) (F : Fun K "of_call" "of_call" sOfCall f fd) : FnOk P w K mg base (L2.CX P w) 10 f fd ["desk", "call", "n", "row"] (spOfCall K CP CD CR) := by
  refine F.okX scOfCall (fun vs H Q E h => ?_) (fun cdv A outer s H vs Q E hr h => ?_)
  · obtain ⟨y, q, c, na, ra, rfl, _⟩ := h; rfl
  · obtain ⟨y, q, c, na, ra, rfl, ⟨nums, row, hN, hR, hq, hrl⟩, Y, hn, Du⟩ := h
    obtain ⟨dx, h1⟩ := Y.obj
    have hr4 : Room 4 _ := hr.mono (by decide)
    have hr8 : Room 8 _ := hr.mono (by decide)
    refine ⟨_, pss_cons (ps_if (pt_cmpR op_eq (pv 1) (pe_gi T.iCHORDS) (nomark _)) (pss_one (ps_ret (pe_m (E := E) (pv 0) T.cD D.d1 hr4 (passes_call (takes_of rfl rfl rfl rfl) fun _ _ _ _ h => h) (pa_cons (pv 3) pa_nil)))) pss_nil)
      (pss_cons (ps_if (pt_cmpR op_eq (pv 1) pe_int (nomark _)) (pss_one (ps_ret (pe_m (E := E) (pv 0) T.cD D.d2 hr4 (passes_call (takes_of rfl rfl rfl rfl) fun _ _ _ _ h => h) (pa_cons (pv 2) pa_nil)))) pss_nil)
      (pss_cons (ps_if (pt_cmpR op_eq (pv 1) pe_int (nomark _)) (pss_one (ps_ret (pe_m (E := E) (pv 0) T.cD D.d3 hr4 (passes_call (takes_of rfl rfl rfl rfl) fun _ _ _ _ h => h) (pa_cons (pe_ix ix_list (pv 2) pe_int (fun _ _ => rfl)) (pa_cons (pe_ix ix_list (pv 2) pe_int (fun _ _ => rfl)) (pa_cons (pe_ix ix_list (pv 2) pe_int (fun _ _ => rfl)) (pa_cons (pe_ix ix_list (pv 2) pe_int (fun _ _ => rfl)) pa_nil))))))) pss_nil)
      (pss_cons (ps_if (pt_cmpR op_eq (pv 1) pe_int (nomark _)) (pss_one (ps_ret (pe_m (E := E) (pv 0) T.cD D.d4 hr4 (passes_call (takes_of rfl rfl rfl rfl) fun _ _ _ _ h => h) (pa_cons (pe_ix ix_list (pv 2) pe_int (fun _ _ => rfl)) pa_nil)))) pss_nil)
      (pss_cons (ps_if (pt_cmpR op_eq (pv 1) pe_int (nomark _)) (pss_one (ps_ret (pe_m (E := E) (pv 0) T.cD D.d5 hr4 (passes_call (takes_of rfl rfl rfl rfl) fun _ _ _ _ h => h) (pa_cons (pe_ix ix_list (pv 2) pe_int (fun _ _ => rfl)) (pa_cons (pe_ix ix_list (pv 2) pe_int (fun _ _ => rfl)) pa_nil))))) pss_nil)
      (pss_cons (ps_if (pt_cmpR op_eq (pv 1) pe_int (nomark _)) (pss_one (ps_ret (pe_m (E := E) (pv 0) T.cD D.d6 hr8 (passes_call (takes_of rfl rfl rfl rfl) fun _ _ _ _ h => h) (pa_cons (pe_ix ix_list (pv 2) pe_int (fun _ _ => rfl)) pa_nil)))) pss_nil)
      (pss_cons (ps_if (pt_cmpR op_eq (pv 1) pe_int (nomark _)) (pss_one (ps_ret (pe_m0 (E := E) (pv 0) T.cD D.d7 hr8 (passes_call (takes_of rfl rfl rfl rfl) fun _ _ _ _ h => h)))) pss_nil)
      (pss_cons (ps_if (pt_cmpR op_eq (pv 1) pe_int (nomark _)) (pss_one (ps_ret (pe_m (E := E) (pv 0) T.cD D.d8 hr (passes_call (takes_of rfl rfl rfl rfl) fun _ _ _ _ h => h) (pa_cons (pe_ix ix_list (pv 2) pe_int (fun _ _ => rfl)) pa_nil)))) pss_nil)
      (pss_one (ps_ret (pe_m (E := E) (pv 0) T.cD D.d9 (hr.mono (by decide)) (passes_call (takes_of rfl rfl rfl rfl) fun _ _ _ _ h => h) (pa_cons (pv 3) pa_nil))))))))))), ?_⟩
    cases q with
    | chords l =>
      obtain ⟨rfl, rfl, rfl⟩ := hq
      refine ⟨_, rfl, rfl, _, rfl, if_true_of (by decide) ?_⟩
      exact ⟨_, rfl, y.a, dx, _, rfl, h1, lkD_none (by decide +kernel), _, rfl, y, _, _, rfl, ⟨ra, _, rfl, hR, hrl, rfl⟩, Y, hn, Du⟩
    | prices a b c e =>
      obtain ⟨rfl, rfl⟩ := hq
      refine ⟨_, rfl, rfl, _, rfl, if_false_of (by decide) ?_⟩
      refine ⟨_, rfl, rfl, _, rfl, if_true_of (by decide) ?_⟩
      exact ⟨_, rfl, y.a, dx, _, rfl, h1, lkD_none (by decide +kernel), _, rfl, y, _, _, rfl, ⟨na, a, b, c, e, rfl, hN, rfl⟩, Y, hn, Du⟩
    | know m a k r =>
      obtain ⟨rfl, rfl⟩ := hq
      refine ⟨_, rfl, rfl, _, rfl, if_false_of (by decide) ?_⟩
      refine ⟨_, rfl, rfl, _, rfl, if_false_of (by decide) ?_⟩
      refine ⟨_, rfl, rfl, _, rfl, if_true_of (by decide) ?_⟩
      exact ⟨_, rfl, y.a, dx, _, rfl, h1, lkD_none (by decide +kernel), _, rfl, _, _, _, _, rfl, rfl, hN, atI_nat (j := 0) rfl, _, rfl, _, _, _, _, rfl, rfl, hN, atI_nat (j := 1) rfl, _, rfl, _, _, _, _, rfl, rfl, hN, atI_nat (j := 2) rfl, _, rfl, _, _, _, _, rfl, rfl, hN, atI_nat (j := 3) rfl,
        y, _, _, rfl, ⟨m, a, k, r, rfl, rfl⟩, Y, hn, Du⟩
    | move n =>
      obtain ⟨rfl, rfl⟩ := hq
      refine ⟨_, rfl, rfl, _, rfl, if_false_of (by decide) ?_⟩
      refine ⟨_, rfl, rfl, _, rfl, if_false_of (by decide) ?_⟩
      refine ⟨_, rfl, rfl, _, rfl, if_false_of (by decide) ?_⟩
      refine ⟨_, rfl, rfl, _, rfl, if_true_of (by decide) ?_⟩
      exact ⟨_, rfl, y.a, dx, _, rfl, h1, lkD_none (by decide +kernel), _, rfl, _, _, _, _, rfl, rfl, hN, atI_nat (j := 0) rfl, y, _, _, rfl, ⟨n, rfl, rfl⟩, Y, hn, Du⟩
    | degrees t m =>
      obtain ⟨rfl, rfl⟩ := hq
      refine ⟨_, rfl, rfl, _, rfl, if_false_of (by decide) ?_⟩
      refine ⟨_, rfl, rfl, _, rfl, if_false_of (by decide) ?_⟩
      refine ⟨_, rfl, rfl, _, rfl, if_false_of (by decide) ?_⟩
      refine ⟨_, rfl, rfl, _, rfl, if_false_of (by decide) ?_⟩
      refine ⟨_, rfl, rfl, _, rfl, if_true_of (by decide) ?_⟩
      exact ⟨_, rfl, y.a, dx, _, rfl, h1, lkD_none (by decide +kernel), _, rfl, _, _, _, _, rfl, rfl, hN, atI_nat (j := 0) rfl, _, rfl, _, _, _, _, rfl, rfl, hN, atI_nat (j := 1) rfl, y, _, _, rfl, ⟨t, m, rfl, rfl⟩, Y, hn, Du⟩
    | count p =>
      obtain ⟨rfl, rfl⟩ := hq
      refine ⟨_, rfl, rfl, _, rfl, if_false_of (by decide) ?_⟩
      refine ⟨_, rfl, rfl, _, rfl, if_false_of (by decide) ?_⟩
      refine ⟨_, rfl, rfl, _, rfl, if_false_of (by decide) ?_⟩
      refine ⟨_, rfl, rfl, _, rfl, if_false_of (by decide) ?_⟩
      refine ⟨_, rfl, rfl, _, rfl, if_false_of (by decide) ?_⟩
      refine ⟨_, rfl, rfl, _, rfl, if_true_of (by decide) ?_⟩
      exact ⟨_, rfl, y.a, dx, _, rfl, h1, lkD_none (by decide +kernel), _, rfl, _, _, _, _, rfl, rfl, hN, atI_nat (j := 0) rfl, y, _, _, rfl, ⟨p, rfl, rfl⟩, Y, hn, Du⟩
    | counts =>
      obtain ⟨rfl, rfl⟩ := hq
      refine ⟨_, rfl, rfl, _, rfl, if_false_of (by decide) ?_⟩
      refine ⟨_, rfl, rfl, _, rfl, if_false_of (by decide) ?_⟩
      refine ⟨_, rfl, rfl, _, rfl, if_false_of (by decide) ?_⟩
      refine ⟨_, rfl, rfl, _, rfl, if_false_of (by decide) ?_⟩
      refine ⟨_, rfl, rfl, _, rfl, if_false_of (by decide) ?_⟩
      refine ⟨_, rfl, rfl, _, rfl, if_false_of (by decide) ?_⟩
      refine ⟨_, rfl, rfl, _, rfl, if_true_of (by decide) ?_⟩
      exact ⟨_, rfl, y.a, dx, _, rfl, h1, lkD_none (by decide +kernel), y, _, _, rfl, ⟨rfl, rfl⟩, Y, hn, Du⟩
    | nth n =>
      obtain ⟨rfl, rfl⟩ := hq
      refine ⟨_, rfl, rfl, _, rfl, if_false_of (by decide) ?_⟩
      refine ⟨_, rfl, rfl, _, rfl, if_false_of (by decide) ?_⟩
      refine ⟨_, rfl, rfl, _, rfl, if_false_of (by decide) ?_⟩
      refine ⟨_, rfl, rfl, _, rfl, if_false_of (by decide) ?_⟩
      refine ⟨_, rfl, rfl, _, rfl, if_false_of (by decide) ?_⟩
      refine ⟨_, rfl, rfl, _, rfl, if_false_of (by decide) ?_⟩
      refine ⟨_, rfl, rfl, _, rfl, if_false_of (by decide) ?_⟩
      refine ⟨_, rfl, rfl, _, rfl, if_true_of (by decide) ?_⟩
      exact ⟨_, rfl, y.a, dx, _, rfl, h1, lkD_none (by decide +kernel), _, rfl, _, _, _, _, rfl, rfl, hN, atI_nat (j := 0) rfl, y, _, _, rfl, ⟨n, rfl, rfl⟩, Y, hn, Du⟩
    | cost l =>
      obtain ⟨rfl, rfl, rfl⟩ := hq
      refine ⟨_, rfl, rfl, _, rfl, if_false_of (by decide) ?_⟩
      refine ⟨_, rfl, rfl, _, rfl, if_false_of (by decide) ?_⟩
      refine ⟨_, rfl, rfl, _, rfl, if_false_of (by decide) ?_⟩
      refine ⟨_, rfl, rfl, _, rfl, if_false_of (by decide) ?_⟩
      refine ⟨_, rfl, rfl, _, rfl, if_false_of (by decide) ?_⟩
      refine ⟨_, rfl, rfl, _, rfl, if_false_of (by decide) ?_⟩
      refine ⟨_, rfl, rfl, _, rfl, if_false_of (by decide) ?_⟩
      refine ⟨_, rfl, rfl, _, rfl, if_false_of (by decide) ?_⟩
      exact ⟨_, rfl, y.a, dx, _, rfl, h1, lkD_none (by decide +kernel), _, rfl, y, _, _, rfl, ⟨ra, _, rfl, hR, hrl, rfl⟩, Y, hn, Du⟩
theorem ok_answer (T : Tx K mg CP CW CR CD) (R : Rx K mg CR fI) (D : DefOk P w K mg base (L2.CX P w) 10 "of_call" ["desk", "call", "n", "row"] (spOfCall K CP CD CR)) (F : Fun K "answer" "answer" sAnswer f fd) : FnOk P w K mg base CX0 11 f fd ["desk", "call", "n", "row"] (spAnswer K CP CD) := by
  refine F.ok scAnswer (fun vs H Q E h => ?_) (fun cdv A outer s H vs Q E hr h => ?_)
  · obtain ⟨y, q, c, na, ra, rfl, _⟩ := h; rfl
  · obtain ⟨y, q, c, na, ra, rfl, hA, Y, hn, hQ⟩ := h
    refine ⟨_, pss_cons (ps_try_as (i := 5) (tb := fun W => tAsg (tCallS (spOfCall K CP CD CR) (WE W) (tCons (tVar 0) (tCons (tVar 1) (tCons (tVar 2) (tCons (tVar 3) tNil))))) (gName 4))
        (ts := fun a cls d => tAsg (tLst (tCons (tXf a cls d CR "number" (tVar 5)) tNil)) (gName 4)) (Wout := fun _ _ _ _ => False) rfl rfl scAnswer.nd rfl rfl ⟨rfl, by decide, Or.inl R.gC⟩ takes0
        (fun W pn xe tk _ => pss_one (ps_set (i := 4) scAnswer.nd rfl (Or.inl rfl) (by exact (pe_dS D hr (fun σ => passAt tk σ) (by exact (pa_cons (pv 0) (pa_cons (pv 1) (pa_cons (pv 2) (pa_cons (pv 3) pa_nil)))))))))
        (fun a oe cls d pn hz hf => pss_one (ps_set (i := 4) scAnswer.nd rfl (Or.inl rfl) (by exact (pe_lst (pa_cons (pe_xf R.xf R.nN hz hf (pv 5)) pa_nil))))))
      (pss_one (ps_ret (pv 4))), ?_⟩
    refine ⟨_, rfl, _, rfl, _, rfl, _, rfl, y, q, c, na, ra, rfl, hA, Y, hn, fun H' r' n' l hy hn' fr hr' nl hl => ?_, fun m em d H' s' hd => ?_⟩
    · exact ⟨_, rfl, hQ H' r' n' l hy hn' fr hr' nl hl⟩
    · refine ⟨true, R.te, fun _ a0 _ => ?_, fun q => Bool.noConfusion q⟩
      refine ⟨_, rfl, rfl, rfl, d, _, _, rfl, hd, lk_here, (by show 1 ≤ sizeLine; decide), fun l hl => ?_⟩
      have s2 := s'.trans (same_upd (o := .lst [V.int m]) hl)
      refine ⟨_, rfl, ?_⟩
      refine hQ _ y.r y.n l ?_ (Nat.le_succ _) (fun b o h _ _ _ => s2 _ _ h) (.inl rfl) (s'.free hl) ?_
      · rw [em]; exact Y.same s2
      · rw [upd_same, em]; rfl
end
end CK
namespace CK
open PySem PySem.Spec PyProof.Rows L2
theorem cut_mid (xs : List V) (a b : Nat) (h : a ≤ b) (h' : b ≤ xs.length) : cutV xs (some (a : Int)) (some (b : Int)) = (xs.drop a).take (b - a) := by
  unfold cutV
  rw [show HT.sIx xs.length 0 (some (a : Int)) = min a xs.length from HT.sIx_nat xs.length 0 a, show HT.sIx xs.length xs.length (some (b : Int)) = min b xs.length from HT.sIx_nat xs.length xs.length b, Nat.min_eq_left h', Nat.min_eq_left (Nat.le_trans h h')]
theorem nums_at {p : Int} (h1 : 1 ≤ p) (h9 : p ≤ 9) : atI [V.int 0, V.int 0, V.int 4, V.int 4, V.int 1, V.int 2, V.int 1, V.int 0, V.int 1, V.int 0] p = some (.int (numbers p : Int)) := by
  have c : p = 1 ∨ p = 2 ∨ p = 3 ∨ p = 4 ∨ p = 5 ∨ p = 6 ∨ p = 7 ∨ p = 8 ∨ p = 9 := by omega
  rcases c with rfl | rfl | rfl | rfl | rfl | rfl | rfl | rfl | rfl <;> rfl
theorem in19 {p : Int} (h1 : 1 ≤ p) (h9 : p ≤ 9) : inV (.int p) [.int 1, .int 9] = decide (p = 1 ∨ p = 9) := by
  have c : p = 1 ∨ p = 2 ∨ p = 3 ∨ p = 4 ∨ p = 5 ∨ p = 6 ∨ p = 7 ∨ p = 8 ∨ p = 9 := by omega
  rcases c with rfl | rfl | rfl | rfl | rfl | rfl | rfl | rfl | rfl <;> decide
/-- a list that isn't the row changes: the desk stands -/
theorem DkAt.updL {CP CD : Addr} {H : Hp} {y : Dk} {lf : Addr} {xs ys : List V} (h : DkAt CP CD H y) (hl : H lf = some (.lst xs)) (ne : lf ≠ y.r) : DkAt CP CD (upd H lf (.lst ys)) y := by
  obtain ⟨⟨dx, h1⟩, ⟨ps, h2, h3⟩, ⟨⟨dp, h4⟩, kvs, h5, h6⟩, h7, h8, h9⟩ := h
  have k : ∀ {b o}, H b = some o → (∀ l, o ≠ .lst l) → upd H lf (.lst ys) b = some o := fun {b o} e n => by rw [upd_ne (ne_of e hl (n _))]; exact e
  exact ⟨⟨dx, k h1 (fun _ z => by cases z)⟩, ⟨ps, by rw [upd_ne (Ne.symm ne)]; exact h2, h3.1, fun i b x e1 e2 => k (h3.2 i b x e1 e2) (fun _ z => by cases z)⟩, ⟨⟨dp, k h4 (fun _ z => by cases z)⟩, kvs, k h5 (fun _ z => by cases z), h6⟩, h7, h8, h9⟩
def spAns (K : PySem.W.Frag) : Sp := fun vs H Q _ => ∃ (a : Addr) (l : List Int), vs = [.ref a] ∧ SqL K H a (l.map V.int) ∧ PyCp09.answers_asked l = true ∧ l.length ≤ 2460 ∧
  ∀ (H' : Hp) (p : Addr), H' p = some (.lst ((PyCp09.answers l).map V.int)) → Q (.ref p) H'
theorem app_told (out A : List Int) : (out.map V.int ++ [V.int (((A.map V.int).length : Nat) : Int)]) ++ A.map V.int = (out ++ ((A.length : Int) :: A)).map V.int := by
  rw [List.map_append, List.map_cons, List.length_map, List.append_assoc]; rfl
def pOf (σ : L2.St) : Nat := match σ[3]? with
  | some (some (V.int i)) => i.toNat
  | _ => 0
section
variable {P : Program} {w : World} {K : PySem.W.Frag} {mg : Str → Option Value} {base : Heap} {CP CW CR CD : Addr} {f fI : Addr} {fd fdI : FuncData}
theorem ok_ans (T : Tx K mg CP CW CR CD) (DD : MakeOk P w K mg base CX0 3 "Desk" CD ["self"] (spDInit CP CD)) (DA : DefOk P w K mg base CX0 11 "answer" ["desk", "call", "n", "row"] (spAnswer K CP CD)) (F : Fun K "answers" "answers" sAns f fd) : FnOk P w K mg base CX0 12 f fd ["calls"] (spAns K) := by
  refine F.ok scAns (fun vs H Q E h => ?_) (fun cdv A outer s H vs Q E hr h => ?_)
  · obtain ⟨a, l, rfl, _⟩ := h; rfl
  · obtain ⟨a0, l, rfl, hS, hask, hlen, hQ⟩ := h
    obtain ⟨aN, gN, kN⟩ := T.nums
    refine ⟨_, pss_cons (ps_set (i := 1) scAns.nd rfl (Or.inl rfl) (pe_k0 DD (hr.mono (by decide)) pass0))
      (pss_cons (ps_set (i := 2) scAns.nd rfl (Or.inl rfl) (pe_lst pa_nil))
      (pss_cons (ps_set (i := 3) scAns.nd rfl (Or.inl rfl) pe_int)
      (pss_cons (ps_while PassesOwn.never (pt_cmpR op_lt (pv 3) (pe_callB call_len_seq (by rfl) T.fLen PySem.boot_len (pa_cons (pv 0) pa_nil)) (nomark _))
        (pss_cons (ps_set (i := 4) scAns.nd rfl (Or.inl rfl) (pe_ix ix_list (pv 0) (pv 3) (fun _ _ => rfl)))
        (pss_cons (ps_set (i := 5) scAns.nd rfl (Or.inl rfl) (pe_op op_add (pe_op op_add (pv 3) pe_int) (pe_ix ix_tup (pe_glob (v := .ref aN) rfl gN rfl) (pv 4) (fun _ _ => rfl))))
        (pss_cons (ps_par (i := 6) (j := 7) (by rfl) scAns.nd rfl rfl (by decide) rfl rfl (pa_cons (pe_slice sl_list (pv 0) (po_some (pe_op op_add (pv 3) pe_int)) (po_some (pv 5))) (pa_cons (pe_lst pa_nil) pa_nil)) (by rfl))
        (pss_cons (ps_if (pt_cmpR op_in_seq (pv 4) (pe_tup (pa_cons (pe_gi T.iCHORDS) (pa_cons (pe_gi T.iCOST) pa_nil))) rfl)
          (pss_cons (ps_set (i := 8) scAns.nd rfl (Or.inl rfl) (pe_op op_add (pv 5) pe_int))
          (pss_cons (ps_set (i := 5) scAns.nd rfl (Or.inl rfl) (pe_op op_add (pv 8) (pe_ix ix_list (pv 0) (pv 5) (fun _ _ => rfl))))
          (pss_one (ps_set (i := 7) scAns.nd rfl (Or.inl rfl) (pe_slice sl_list (pv 0) (po_some (pv 8)) (po_some (pv 5))))))) pss_nil)
        (pss_cons (ps_set (i := 9) scAns.nd rfl (Or.inl rfl) (pe_d DA hr pass0 (pa_cons (pv 1) (pa_cons (pv 4) (pa_cons (pv 6) (pa_cons (pv 7) pa_nil))))))
        (pss_cons (ps_expr (pe_bm PySem.F.plainAttrs_list PySem.F.slot_list_append PySem.F.type_list_append mt_append (pv 2) (pa_cons (pe_callB call_len_seq (by rfl) T.fLen PySem.boot_len (pa_cons (pv 9) pa_nil)) pa_nil)))
        (pss_cons (ps_expr (pe_bm PySem.F.plainAttrs_list PySem.F.slot_list_extend PySem.F.type_list_extend mt_extend (pv 2) (pa_cons (pv 9) pa_nil)))
        (pss_one (ps_set (i := 3) scAns.nd rfl (Or.inl rfl) (pv 5)))))))))))
      (pss_one (ps_ret (pv 2)))))), ?_⟩
    obtain ⟨rest0, L0, r60, len7⟩ := left_start hask
    intro a dx na ndx nda
    have sn := made_same (C := CD) na ndx
    refine ⟨a, dx, rfl, upd_same, fun H1 p d r Y1 fr => ⟨rfl, ?_⟩⟩
    have s1 : Same H H1 := fun b o e => fr b o (sn b o e) (ne_of_none e na)
    refine ⟨Nat.zero_le _, fun lf hlf => ?_⟩
    have s2 := same_upd (o := .lst []) hlf
    have nlf : H lf = none := s1.free hlf
    have nr : lf ≠ r := fun z => by
      obtain ⟨ps, hp, _⟩ := Y1.row
      rw [z] at hlf
      have hp' : H1 r = some _ := hp
      rw [hp'] at hlf; cases hlf
    have N : a0 ≠ lf ∨ ∃ (o : Obj) (its : Array Value) (n : Nat), K.lookup a0 = some o ∧ o.cls = .type "list" ∧ o.dict = none ∧ o.data = .seq its n ∧ its.size ≤ sizeLine ∧ Vals (l.map V.int) its.toList := by
      rcases hS with (h | ⟨o, h⟩) | h
      · exact .inl (ne_of_none h nlf)
      · exact .inl (ne_of_none h nlf)
      · exact .inr h
    -- what of the list of calls stands
    have keepC : ∀ {H2 H3 : Hp} {y : Dk}, SqL K H2 a0 (l.map V.int) → DkAt CP CD H2 y → Frm H2 H3 y → SqL K H3 a0 (l.map V.int) := fun {H2 H3 y} h Y fr => by
      obtain ⟨dx, g1⟩ := Y.obj
      obtain ⟨⟨dp, g2⟩, kvs, g3, _⟩ := Y.pr
      rcases h with (h | ⟨o, h⟩) | h
      · exact .inl (.inl (fr _ _ h (ne_of h g1 (fun z => by cases z)) (ne_of h g2 (fun z => by cases z)) (ne_of h g3 (fun z => by cases z))))
      · exact .inl (.inr ⟨o, fr _ _ h (ne_of h g1 (fun z => by cases z)) (ne_of h g2 (fun z => by cases z)) (ne_of h g3 (fun z => by cases z))⟩)
      · exact .inr h
    have keepU : ∀ {H2 : Hp} {o : HO}, SqL K H2 a0 (l.map V.int) → SqL K (upd H2 lf o) a0 (l.map V.int) := fun {H2 o} h => by
      rcases N with n | n
      · rcases h with (h | ⟨o, h⟩) | h
        · exact .inl (.inl (by rw [upd_ne n]; exact h))
        · exact .inl (.inr ⟨o, by rw [upd_ne n]; exact h⟩)
        · exact .inr h
      · exact .inr n
    refine while_by (fun σ H' => ∃ (i : Nat) (y : Dk) (out : List Int) (rest : List (List (List Int))) (v4 v5 v6 v7 v8 v9 : Option V), σ = [some (.ref a0), some (.ref y.a), some (.ref lf), some (.int (i : Int)), v4, v5, v6, v7, v8, v9] ∧ DkAt CP CD H' y ∧ Left l i y.s out rest ∧ y.n + rest.length ≤ 100 ∧
        H' lf = some (.lst (out.map V.int)) ∧ lf ≠ y.r ∧ SqL K H' a0 (l.map V.int)) (fun σ _ => l.length - pOf σ)
      ⟨0, ⟨a, p, d, r, Cp09.start, 17⟩, [], rest0, none, none, none, none, none, none, rfl, Y1.same s2, L0, by show 17 + _ ≤ 100; omega, upd_same, nr, (s1.trans s2).seq hS⟩ ?_ ?_
    · rintro σ H2 ⟨i, y, out, rest, v4, v5, v6, v7, v8, v9, rfl, Y, L, hn, hlf2, hr2, S2⟩
      refine ⟨_, rfl, _, rfl, _, _, rfl, .inl S2, _, _, rfl, rfl, _, rfl, ite2 (fun c => ?_) (fun c => ?_)⟩
      · have hi : i < l.length := by
          have z := of_decide_eq_true c
          rw [List.length_map] at z
          omega
        obtain ⟨q, j, rest', ⟨pp, nums, row, hp, p1, p9, hnl, rfl, hq, hcase⟩, hij, hrl, h39, L'⟩ := left_turn L hi
        have hpm : (l.map V.int)[i]? = some (.int pp) := by rw [List.getElem?_map, hp]; rfl
        have e1 : (i : Int) + 1 = ((i + 1 : Nat) : Int) := by omega
        have e2 : (i : Int) + 1 + (numbers pp : Int) = ((i + 1 + numbers pp : Nat) : Int) := by omega
        refine ⟨_, rfl, _, rfl, _, _, _, _, rfl, rfl, S2, atI_nat hpm, ?_⟩
        refine ⟨_, rfl, _, _, rfl, rfl, _, rfl, _, _, _, _, rfl, rfl, kN.seq _, nums_at p1 p9, _, _, rfl, rfl, ?_⟩
        refine ⟨_, rfl, _, rfl, _, _, rfl, rfl, _, rfl, _, rfl, _, rfl, _, _, rfl, S2, fun na hna => ?_⟩
        have s3 := same_upd (o := .lst (cutV (l.map V.int) (some ((i : Int) + 1)) (some ((i : Int) + 1 + (numbers pp : Int))))) hna
        have cut1 : cutV (l.map V.int) (some ((i : Int) + 1)) (some ((i : Int) + 1 + (numbers pp : Int))) = ((l.drop (i + 1)).take (numbers pp)).map V.int := by
          rw [e2, e1, cut_mid _ _ _ (by omega) (by rw [List.length_map]; exact hnl), List.map_take, List.map_drop, Nat.add_sub_cancel_left]
        refine ⟨Nat.zero_le _, fun ra0 hra0 => ⟨_, _, rfl, ?_⟩⟩
        have s4 := s3.trans (same_upd (o := .lst []) hra0)
        have hna4 := (same_upd (o := .lst []) hra0 na _ upd_same).trans (congrArg (fun z => some (HO.lst z)) cut1)
        refine ⟨_, rfl, (by show 2 ≤ sizeLine; decide), fun t ht => ?_⟩
        have st := same_upd (o := .tup [V.int 1, V.int 9]) ht
        have s5 := s4.trans st
        refine ⟨t, _, rfl, .inr (SqT.of upd_same), rfl, rfl, _, rfl, ?_⟩
        show if inV (.int pp) [.int 1, .int 9] = true then _ else _
        rw [in19 p1 p9]
        have S5 := s5.seq S2
        have hna5 := st _ _ hna4
        have hra5 := st _ _ (upd_same (H := upd H2 na (.lst (cutV (l.map V.int) (some ((i : Int) + 1)) (some ((i : Int) + 1 + (numbers pp : Int)))))) (a := ra0) (o := .lst []))
        have Y5 := Y.same s5
        have lf5 := s5 _ _ hlf2
        have lfa : lf ≠ y.a := by
          obtain ⟨dx, g⟩ := Y.obj
          exact ne_of hlf2 g (fun z => by cases z)
        have lfp : lf ≠ y.p := by
          obtain ⟨⟨dx, g⟩, _⟩ := Y.pr
          exact ne_of hlf2 g (fun z => by cases z)
        have lfd : lf ≠ y.d := by
          obtain ⟨_, kvs, g, _⟩ := Y.pr
          exact ne_of hlf2 g (fun z => by cases z)
        rcases hcase with ⟨hpp, m, hm, hml, rfl, hj⟩ | ⟨hpp, rfl, hj⟩
        case' inl =>
          refine if_true_of (decide_eq_true hpp) ?_
          have hmm : (l.map V.int)[i + 1 + numbers pp]? = some (.int (m : Int)) := by rw [List.getElem?_map, hm]; rfl
          have e3 : (i : Int) + 1 + (numbers pp : Int) + 1 = ((i + 1 + numbers pp + 1 : Nat) : Int) := by omega
          have e4 : (i : Int) + 1 + (numbers pp : Int) + 1 + (m : Int) = ((i + 1 + numbers pp + 1 + m : Nat) : Int) := by omega
          refine ⟨_, rfl, _, _, rfl, rfl, ?_⟩
          refine ⟨_, rfl, _, rfl, _, rfl, _, _, _, _, rfl, rfl, S5, at_of e2 hmm, _, _, rfl, rfl, ?_⟩
          refine ⟨_, rfl, _, rfl, _, rfl, _, rfl, _, rfl, _, _, rfl, S5, fun ra hra => ?_⟩
          have cut2 : cutV (l.map V.int) (some ((i : Int) + 1 + (numbers pp : Int) + 1)) (some ((i : Int) + 1 + (numbers pp : Int) + 1 + (m : Int))) = ((l.drop (i + 1 + numbers pp + 1)).take m).map V.int := by
            rw [e4, e3, cut_mid _ _ _ (by omega) (by rw [List.length_map]; exact hml), List.map_take, List.map_drop, Nat.add_sub_cancel_left]
          have s6 := same_upd (o := .lst (cutV (l.map V.int) (some ((i : Int) + 1 + (numbers pp : Int) + 1)) (some ((i : Int) + 1 + (numbers pp : Int) + 1 + (m : Int))))) hra
          have hrl2 : ((l.drop (i + 1 + numbers pp + 1)).take m).length < 100 := by
            cases q with
            | chords x =>
              have z := h39 x (.inl rfl)
              rw [hq.2.2]; omega
            | cost x =>
              have z := h39 x (.inr rfl)
              rw [hq.2.2]; omega
            | prices a b c e => have z := hq.1; omega
            | know a b c e => have z := hq.1; omega
            | move a => have z := hq.1; omega
            | degrees a b => have z := hq.1; omega
            | count a => have z := hq.1; omega
            | counts => have z := hq.1; omega
            | nth a => have z := hq.1; omega
          have hA : Asks K _ pp na ra q := ⟨_, _, SqL.of (s6 _ _ hna5), SqL.of (upd_same.trans (congrArg (fun z => some (HO.lst z)) cut2)), hq, hrl2⟩
          have ej : (i : Int) + 1 + (numbers pp : Int) + 1 + (m : Int) = (j : Int) := by omega
        case' inr =>
          refine if_false_of (decide_eq_false hpp) ?_
          have s6 := Same.refl (upd (upd (upd H2 na (.lst (cutV (l.map V.int) (some ((i : Int) + 1)) (some ((i : Int) + 1 + (numbers pp : Int)))))) ra0 (.lst [])) t (.tup [V.int 1, V.int 9]))
          have hA : Asks K _ pp na ra0 q := ⟨_, _, SqL.of hna5, SqL.of (xs := []) hra5, hq, by decide⟩
          have ej : (i : Int) + 1 + (numbers pp : Int) = (j : Int) := by omega
        all_goals
          have Y6 := Y5.same s6
          have S6 := s6.seq S5
          have lf6 := s6 _ _ lf5
          refine ⟨_, rfl, _, rfl, _, rfl, _, rfl, y, q, pp, _, _, rfl, hA, Y6, by omega, fun H7 r' n' lt hy hn' fr hr' nlt hlt => ?_⟩
          have lf7 := fr _ _ lf6 lfa lfp lfd
          have S7 := keepC S6 Y6 fr
          have nlt' : lt ≠ lf := fun z => by
            rw [z, lf6] at nlt; cases nlt
          have nr' : lf ≠ r' := by
            rcases hr' with z | z
            · rw [z]; exact hr2
            · exact ne_of_none lf6 z
          have out' : (out ++ ((((Cp09.step y.s q).2.v :: (Cp09.step y.s q).2.l).length : Int) :: ((Cp09.step y.s q).2.v :: (Cp09.step y.s q).2.l))).length ≤ 10000000 := by
            have z := congrArg List.length L'.all
            rw [List.length_append] at z
            omega
          rw [List.length_append, List.length_cons] at out'
          have szl : 10000000 < sizeLine := by decide
          refine ⟨_, rfl, .inl ⟨rfl, _, SqL.of lf7⟩, _, rfl, lt, _, rfl, .inl (SqL.of hlt), lf, _, _, rfl, rfl, lf7, by rw [List.length_map]; omega, ?_⟩
          have lt8 : upd H7 lf (.lst (out.map V.int ++ [V.int (((((Cp09.step y.s q).2.v :: (Cp09.step y.s q).2.l).map V.int).length : Nat) : Int)])) lt = some (.lst (((Cp09.step y.s q).2.v :: (Cp09.step y.s q).2.l).map V.int)) := by
            rw [upd_ne nlt']; exact hlt
          refine ⟨_, rfl, .inl ⟨rfl, _, SqL.of upd_same⟩, _, rfl, lf, lt, _, _, rfl, rfl, upd_same, lt8, by
            rw [List.length_append, List.length_map, List.length_map]
            show out.length + 1 + _ ≤ sizeLine
            omega, ?_⟩
          refine ⟨_, rfl, ?_⟩
          have e11 : upd (upd H7 lf (.lst (out.map V.int ++ [V.int (((((Cp09.step y.s q).2.v :: (Cp09.step y.s q).2.l).map V.int).length : Nat) : Int)]))) lf (.lst ((out.map V.int ++ [V.int (((((Cp09.step y.s q).2.v :: (Cp09.step y.s q).2.l).map V.int).length : Nat) : Int)]) ++ ((Cp09.step y.s q).2.v :: (Cp09.step y.s q).2.l).map V.int)) lf = some (.lst ((out ++ ((((Cp09.step y.s q).2.v :: (Cp09.step y.s q).2.l).length : Int) :: ((Cp09.step y.s q).2.v :: (Cp09.step y.s q).2.l))).map V.int)) := by
            exact upd_same.trans (congrArg (fun z => some (HO.lst z)) (app_told out ((Cp09.step y.s q).2.v :: (Cp09.step y.s q).2.l)))
          have fin : ∀ (e : Int) (w4 w5 w6 w7 w8 w9 : Option V), e = (j : Int) → (∃ (i : Nat) (y' : Dk) (oo : List Int) (rest : List (List (List Int))) (v4 v5 v6 v7 v8 v9 : Option V), [some (.ref a0), some (.ref y.a), some (.ref lf), some (.int e), w4, w5, w6, w7, w8, w9] = [some (.ref a0), some (.ref y'.a), some (.ref lf), some (.int (i : Int)), v4, v5, v6, v7, v8, v9] ∧
              DkAt CP CD (upd (upd H7 lf (.lst (out.map V.int ++ [V.int (((((Cp09.step y.s q).2.v :: (Cp09.step y.s q).2.l).map V.int).length : Nat) : Int)]))) lf (.lst ((out.map V.int ++ [V.int (((((Cp09.step y.s q).2.v :: (Cp09.step y.s q).2.l).map V.int).length : Nat) : Int)]) ++ ((Cp09.step y.s q).2.v :: (Cp09.step y.s q).2.l).map V.int))) y' ∧ Left l i y'.s oo rest ∧ y'.n + rest.length ≤ 100 ∧
              (upd (upd H7 lf (.lst (out.map V.int ++ [V.int (((((Cp09.step y.s q).2.v :: (Cp09.step y.s q).2.l).map V.int).length : Nat) : Int)]))) lf (.lst ((out.map V.int ++ [V.int (((((Cp09.step y.s q).2.v :: (Cp09.step y.s q).2.l).map V.int).length : Nat) : Int)]) ++ ((Cp09.step y.s q).2.v :: (Cp09.step y.s q).2.l).map V.int))) lf = some (.lst (oo.map V.int)) ∧ lf ≠ y'.r ∧
              SqL K (upd (upd H7 lf (.lst (out.map V.int ++ [V.int (((((Cp09.step y.s q).2.v :: (Cp09.step y.s q).2.l).map V.int).length : Nat) : Int)]))) lf (.lst ((out.map V.int ++ [V.int (((((Cp09.step y.s q).2.v :: (Cp09.step y.s q).2.l).map V.int).length : Nat) : Int)]) ++ ((Cp09.step y.s q).2.v :: (Cp09.step y.s q).2.l).map V.int))) a0 (l.map V.int)) ∧
              l.length - pOf [some (.ref a0), some (.ref y.a), some (.ref lf), some (.int e), w4, w5, w6, w7, w8, w9] < l.length - pOf [some (.ref a0), some (.ref y.a), some (.ref lf), some (.int (i : Int)), v4, v5, v6, v7, v8, v9] := fun e w4 w5 w6 w7 w8 w9 he => by
            subst he
            refine ⟨⟨j, ⟨y.a, y.p, y.d, r', (Cp09.step y.s q).1, n'⟩, _, rest', w4, w5, w6, w7, w8, w9, rfl, (hy.updL lf7 nr').updL upd_same nr', L', by show n' + rest'.length ≤ 100; omega, e11, nr', keepU (keepU S7)⟩, ?_⟩
            show l.length - ((j : Int)).toNat < l.length - ((i : Int)).toNat
            rw [Int.toNat_natCast, Int.toNat_natCast]
            omega
          exact fin _ _ _ _ _ _ _ ej
      · have hi : l.length ≤ i := by
          by_cases z : i < l.length
          · exact absurd (decide_eq_true (by rw [List.length_map]; omega)) c
          · omega
        have e := left_end L hi
        rw [e] at hlf2
        exact ⟨_, rfl, hQ _ _ hlf2⟩
    · rintro σ H2 Q1 Q2 hq ⟨v, ev, u, eu, p, ys, e1, e2, i, j, e3, e4, k, e5, z⟩
      exact ⟨v, ev, u, eu, p, ys, e1, e2, i, j, e3, e4, k, e5, hq _ _ z⟩
end
end CK
namespace CK
open PySem PySem.Spec PyProof.Rows L2
/-! ### what the top has written, def by def -/
structure DefF (K : PySem.W.Frag) (mg : Str → Option Value) (x : Str) (st : Stmt) : Prop where
  ex : ∃ (f : Addr) (fd : FuncData), Fun K x x st f fd ∧ mg x = some (.ref f)
structure MethF (K : PySem.W.Frag) (C : Addr) (m qual : Str) (st : Stmt) : Prop where
  ex : ∃ (f : Addr) (fd : FuncData), Fun K m qual st f fd ∧ Meth K C m f
structure MakeF (K : PySem.W.Frag) (mg : Str → Option Value) (x : Str) (C : Addr) (qual : Str) (st : Stmt) : Prop where
  ex : ∃ (f : Addr) (fd : FuncData), Fun K "__init__" qual st f fd ∧ Mk K C f ∧ mg x = some (.ref C)
section
variable {K : PySem.W.Frag} {h : Heap} {mg : Str → Option Value} {x m qual : Str} {st : Stmt} {f C : Addr} {od an : Option Addr} {sl : Array (Option Value)} {oc kV dc pm cd ct : Value}
theorem defF_mk (X : K.In h) (G : h.Ns mainGlobals mg) (a : PySem.W.nsIn K mainGlobals x = some (some (.ref f)))
    (l : K.lookup f = some ⟨oc, od, .func (PySem.W.fnOf x x (defArgs st) (defBody st) (defScope st) .none kV dc pm an cd ct), sl⟩) (c : PySem.W.codeIn K cd x = true) (k : PySem.W.keepIn K (.ref f) = true) : DefF K mg x st :=
  ⟨f, _, fun_mk l c k, PySem.W.mg_of X G a⟩
theorem methF_mk (a : PySem.W.findIn K (.ref C) m = some (some (.ref f))) (i : PySem.W.isFn K (.ref f) = true)
    (l : K.lookup f = some ⟨oc, od, .func (PySem.W.fnOf m qual (defArgs st) (defBody st) (defScope st) .none kV dc pm an cd ct), sl⟩) (c : PySem.W.codeIn K cd qual = true) (k : PySem.W.keepIn K (.ref f) = true) : MethF K C m qual st :=
  ⟨f, _, fun_mk l c k, ⟨a, i, k⟩⟩
theorem makeF_mk (X : K.In h) (G : h.Ns mainGlobals mg) (e : PySem.W.nsIn K mainGlobals x = some (some (.ref C))) (mk : PySem.W.makesIn K C = true) (a : PySem.W.findIn K (.ref C) "__init__" = some (some (.ref f))) (i : PySem.W.isFn K (.ref f) = true) (kc : PySem.W.keepIn K (.ref C) = true)
    (l : K.lookup f = some ⟨oc, od, .func (PySem.W.fnOf "__init__" qual (defArgs st) (defBody st) (defScope st) .none kV dc pm an cd ct), sl⟩) (c : PySem.W.codeIn K cd qual = true) (k : PySem.W.keepIn K (.ref f) = true) : MakeF K mg x C qual st :=
  ⟨f, _, fun_mk l c k, ⟨mk, a, i, kc⟩, PySem.W.mg_of X G e⟩
theorem gi_mk {n : Int} {t : Tok} (X : K.In h) (G : h.Ns mainGlobals mg) (a : PySem.W.nsIn K mainGlobals x = some (some (.int n t))) : GI mg x n := ⟨t, PySem.W.mg_of X G a⟩
theorem cls_mk (pg : PySem.W.plainGet K C Str.empty = true) (hd : PySem.W.hasDictIn K C = true) (po : PySem.W.plainOver K C = true) (sa : PySem.W.findIn K (.ref C) "__setattr__" = some (some (.builtin "object.__setattr__"))) : Cls K C := ⟨pg, hd, po, sa⟩
theorem kt4 {a : Addr} {d : Option Addr} {i j k l : Int} {t1 t2 t3 t4 : Tok} {n : Nat} {sl : Array (Option Value)} (h : K.lookup a = some ⟨.type "tuple", d, .seq #[.int i t1, .int j t2, .int k t3, .int l t4] n, sl⟩) : KT K a [.int i, .int j, .int k, .int l] :=
  ⟨_, _, n, h, rfl, rfl, by show 4 ≤ sizeLine; decide, .cons ⟨t1, rfl⟩ (.cons ⟨t2, rfl⟩ (.cons ⟨t3, rfl⟩ (.cons ⟨t4, rfl⟩ .nil)))⟩
theorem kt10 {a : Addr} {d : Option Addr} {i0 i1 i2 i3 i4 i5 i6 i7 i8 i9 : Int} {t0 t1 t2 t3 t4 t5 t6 t7 t8 t9 : Tok} {n : Nat} {sl : Array (Option Value)} (h : K.lookup a = some ⟨.type "tuple", d, .seq #[.int i0 t0, .int i1 t1, .int i2 t2, .int i3 t3, .int i4 t4, .int i5 t5, .int i6 t6, .int i7 t7, .int i8 t8, .int i9 t9] n, sl⟩) :
    KT K a [.int i0, .int i1, .int i2, .int i3, .int i4, .int i5, .int i6, .int i7, .int i8, .int i9] :=
  ⟨_, _, n, h, rfl, rfl, by show 10 ≤ sizeLine; decide, .cons ⟨t0, rfl⟩ (.cons ⟨t1, rfl⟩ (.cons ⟨t2, rfl⟩ (.cons ⟨t3, rfl⟩ (.cons ⟨t4, rfl⟩ (.cons ⟨t5, rfl⟩ (.cons ⟨t6, rfl⟩ (.cons ⟨t7, rfl⟩ (.cons ⟨t8, rfl⟩ (.cons ⟨t9, rfl⟩ .nil)))))))))⟩
theorem vals_refs : ∀ (ts : List Addr), Vals (ts.map V.ref) (ts.map Value.ref)
  | [] => .nil
  | _ :: r => .cons rfl (vals_refs r)
/-- one of the first prices, as it is written -/
def KK (K : PySem.W.Frag) (t : Addr) (x : Cp09.Known) : Prop := KT K t [.int (x.mode : Int), .int (x.at_ : Int), .int (x.kind : Int), .int (x.price : Int)]
theorem told_mk {a : Addr} {d : Option Addr} {n : Nat} {sl : Array (Option Value)} {ts : List Addr} (X : K.In h) (G : h.Ns mainGlobals mg) (e : PySem.W.nsIn K mainGlobals "FIRST_TOLD" = some (some (.ref a)))
    (l : K.lookup a = some ⟨.type "tuple", d, .seq (ts.map Value.ref).toArray n, sl⟩) (hl : ts.length = 17) (p : Paired (KK K) ts (Cp09.major ++ Cp09.minor)) :
    ∃ a, mg "FIRST_TOLD" = some (.ref a) ∧ ∃ ts : List Addr, KT K a (ts.map V.ref) ∧ ts.length = (Cp09.major ++ Cp09.minor).length ∧ ∀ (i : Nat) (t : Addr) (x : Cp09.Known), ts[i]? = some t → (Cp09.major ++ Cp09.minor)[i]? = some x → KT K t [.int (x.mode : Int), .int (x.at_ : Int), .int (x.kind : Int), .int (x.price : Int)] := by
  refine ⟨a, PySem.W.mg_of X G e, ts, ⟨_, _, n, l, rfl, rfl, ?_, ?_⟩, hl.trans rfl, ?_⟩
  · rw [List.size_toArray, List.length_map, hl]; decide
  · exact vals_refs ts
  · have key : ∀ {ts : List Addr} {xs : List Cp09.Known}, Paired (KK K) ts xs → ∀ (i : Nat) (t : Addr) (x : Cp09.Known), ts[i]? = some t → xs[i]? = some x → KK K t x := by
      intro ts xs p
      induction p with
      | nil => intro i t x h; simp at h
      | cons h _ ih =>
        intro i t x e1 e2
        cases i with
        | zero => cases e1; cases e2; exact h
        | succ i => exact ih i t x e1 e2
    exact key p
theorem exm_self {S : Addr} (h1 : PySem.W.subIn K (.ref S) (.type "BaseException") = some true) (h2 : PySem.W.isClsIn K S = true) (h3 : PySem.W.typeIn K (.ref S) = some (.type "type")) (h4 : PySem.W.subIn K (.ref S) (.ref S) = some true) :
    PySem.W.exmOne K (.ref S) (.ref S) = some true := by
  have e1 : (PySem.W.subIn K (.ref S) (.type "BaseException") == some true) = true := by rw [h1] <;> rfl
  have e2 : ((PySem.W.clsIn K S).isSome && PySem.W.typeIn K (.ref S) == some (.type "type")) = true := by
    have h2' : (PySem.W.clsIn K S).isSome = true := h2
    rw [h2', h3] <;> rfl
  show (if (PySem.W.subIn K (.ref S) (.type "BaseException") == some true) = true then (if ((PySem.W.clsIn K S).isSome && PySem.W.typeIn K (.ref S) == some (.type "type")) = true then PySem.W.subIn K (.ref S) (.ref S) else none) else none) = some true
  rw [if_pos e1, if_pos e2]
  exact h4
theorem rx_mk {CR fI : Addr} {nm q : Str} {N : Addr} {bs : List Value} {sn : List Str} {sub : List Value} {ab : Bool} {col : Option Bool} {dd : Option Addr} {m0 m1 m2 m3 m5 : Option Value} (X : K.In h) (G : h.Ns mainGlobals mg)
    (aC : PySem.W.nsIn K mainGlobals "Refused" = some (some (.ref CR)))
    (xL : K.lookup CR = some (excClassObj nm q CR N bs [.type "ValueError", .type "Exception", .type "BaseException", .type "object"] true sn sub ab col dd m0 m1 m2 m3 m5 "ValueError.__new__"))
    (sa : PySem.W.findIn K (.ref CR) "__setattr__" = some (some (.builtin "object.__setattr__"))) (ga : PySem.W.findIn K (.ref CR) "__getattribute__" = some (some (.builtin "BaseException.__getattribute__"))) (gg : PySem.W.findIn K (.ref CR) "__getattr__" = some none) (nb : PySem.W.findIn K (.ref CR) "number" = some none)
    (a1 : PySem.W.findIn K (.ref CR) "__init__" = some (some (.ref fI))) (t1 : PySem.W.typeIn K (.ref fI) = some (.type "function")) (vV : PySem.W.findCls K (.type "ValueError") (.type "type") "__init__" = some (.val (.builtin "ValueError.__init__")))
    (kC : PySem.W.keepIn K (.ref CR) = true) (eC : PySem.W.subIn K (.ref CR) (.type "BaseException") = some true) (tC : PySem.W.typeIn K (.ref CR) = some (.type "type")) (hC : PySem.W.hasDictIn K CR = true) (iC : PySem.W.isClsIn K CR = true) (sC : PySem.W.subIn K (.ref CR) (.ref CR) = some true) :
    Rx K mg CR fI where
  ox := ⟨⟨nm, q, N, bs, _, sn, sub, ab, col, dd, m0, m1, m2, m3, m5, xL, by decide +kernel⟩, sa, eC, tC, kC⟩
  xf := ⟨ga, gg, eC, hC⟩
  nN := nb
  vV := vV
  iC := a1
  tI := t1
  gC := PySem.W.mg_of X G aC
  te := exm_self eC iC tC sC
end
/-! ### all defs keep their promises -/
section
variable {P : Program} {w : World} {K : PySem.W.Frag} {mg : Str → Option Value} {base : Heap} {CP CW CR CD fI : Addr} {fdI : FuncData}
theorem all_ok (T : Tx K mg CP CW CR CD) (R : Rx K mg CR fI) (FI : Fun K "__init__" "Refused.__init__" sRInit fI fdI)
    (f_all_keys : DefF K mg "all_keys" sAll)
    (f_is_below : DefF K mg "is_below" sBelow)
    (f_pairs_of : DefF K mg "pairs_of" sPairs)
    (f_read_chords : DefF K mg "read_chords" sReadC)
    (f_read_keys : DefF K mg "read_keys" sReadK)
    (f_degree_of : DefF K mg "degree_of" sDegree)
    (f_distance : DefF K mg "distance" sDist)
    (f_is_cadence : DefF K mg "is_cadence" sCad)
    (f_moved : DefF K mg "moved" sMoved)
    (f_counts_of_one : DefF K mg "counts_of_one" sOne)
    (f_no_counts : DefF K mg "no_counts" sNoC)
    (f_dearer : DefF K mg "dearer" sDear)
    (f_together : DefF K mg "together" sTog)
    (f_want : DefF K mg "want" sWant)
    (m_CP_of_chord : MethF K CP "of_chord" "Prices.of_chord" sOfC)
    (m_CP_of_step : MethF K CP "of_step" "Prices.of_step" sOfS)
    (m_CP_of_end : MethF K CP "of_end" "Prices.of_end" sOfE)
    (m_CP_put : MethF K CP "put" "Prices.put" sPut)
    (m_CP_know : MethF K CP "know" "Prices.know" sKnow)
    (k_Prices : MakeF K mg "Prices" CP "Prices.__init__" sPInit)
    (m_CW_price_at : MethF K CW "price_at" "Ways.price_at" sPrA)
    (m_CW_step_price : MethF K CW "step_price" "Ways.step_price" sStP)
    (m_CW_counts_at : MethF K CW "counts_at" "Ways.counts_at" sCoA)
    (m_CW_first_price : MethF K CW "first_price" "Ways.first_price" sFiP)
    (m_CW_counts : MethF K CW "counts" "Ways.counts" sCou)
    (m_CW_spent : MethF K CW "spent" "Ways.spent" sSpe)
    (m_CW_many_at : MethF K CW "many_at" "Ways.many_at" sMan)
    (m_CW_next_key : MethF K CW "next_key" "Ways.next_key" sNex)
    (m_CW_reading : MethF K CW "reading" "Ways.reading" sRea)
    (k_Ways : MakeF K mg "Ways" CW "Ways.__init__" sWInit)
    (f_cost_of : DefF K mg "cost_of" sCostOf)
    (f_cadences_in : DefF K mg "cadences_in" sCadIn)
    (m_CD_want_chords : MethF K CD "want_chords" "Desk.want_chords" sWantC)
    (m_CD_chords : MethF K CD "chords" "Desk.chords" sChords)
    (m_CD_put_prices : MethF K CD "put_prices" "Desk.put_prices" sPutP)
    (m_CD_know : MethF K CD "know" "Desk.know" sKnowD)
    (m_CD_move : MethF K CD "move" "Desk.move" sMove)
    (m_CD_degrees : MethF K CD "degrees" "Desk.degrees" sDegs)
    (m_CD_count : MethF K CD "count" "Desk.count" sCount)
    (m_CD_counts : MethF K CD "counts" "Desk.counts" sCounts)
    (m_CD_told_reading : MethF K CD "told_reading" "Desk.told_reading" sToldR)
    (m_CD_nth : MethF K CD "nth" "Desk.nth" sNth)
    (m_CD_cost : MethF K CD "cost" "Desk.cost" sCost)
    (k_Desk : MakeF K mg "Desk" CD "Desk.__init__" sDInit)
    (f_of_call : DefF K mg "of_call" sOfCall)
    (f_answer : DefF K mg "answer" sAnswer)
    {f : Addr} {fd : FuncData} (F0 : Fun K "answers" "answers" sAns f fd) : FnOk P w K mg base CX0 12 f fd ["calls"] (spAns K) := by
  have Dall_keys : DefOk P w K mg base CX0 1 "all_keys" [] spAll := by
    obtain ⟨f, fd, F, g⟩ := f_all_keys.ex
    exact ⟨f, fd, ok_all T F, g, F.kp, (F.binds (ps := ([] : List Str)) fun _ _ _ _ _ _ us hl => match us, hl with | [], _ => rfl)⟩
  have Dis_below : DefOk P w K mg base CX0 1 "is_below" ["number", "bound"] spBelow := by
    obtain ⟨f, fd, F, g⟩ := f_is_below.ex
    exact ⟨f, fd, ok_below T F, g, F.kp, (F.binds (ps := (["number", "bound"] : List Str)) fun _ _ _ _ _ _ us hl => match us, hl with | [_, _], _ => rfl)⟩
  have Dpairs_of : DefOk P w K mg base CX0 1 "pairs_of" ["row"] (spPairs K) := by
    obtain ⟨f, fd, F, g⟩ := f_pairs_of.ex
    exact ⟨f, fd, ok_pairs T F, g, F.kp, (F.binds (ps := (["row"] : List Str)) fun _ _ _ _ _ _ us hl => match us, hl with | [_], _ => rfl)⟩
  have Dread_chords : DefOk P w K mg base CX0 2 "read_chords" ["row"] (spReadC K) := by
    obtain ⟨f, fd, F, g⟩ := f_read_chords.ex
    exact ⟨f, fd, ok_readC T Dis_below Dpairs_of F, g, F.kp, (F.binds (ps := (["row"] : List Str)) fun _ _ _ _ _ _ us hl => match us, hl with | [_], _ => rfl)⟩
  have Dread_keys : DefOk P w K mg base CX0 2 "read_keys" ["row"] (spReadK K) := by
    obtain ⟨f, fd, F, g⟩ := f_read_keys.ex
    exact ⟨f, fd, ok_readK T Dis_below Dpairs_of F, g, F.kp, (F.binds (ps := (["row"] : List Str)) fun _ _ _ _ _ _ us hl => match us, hl with | [_], _ => rfl)⟩
  have Ddegree_of : DefOk P w K mg base CX0 1 "degree_of" ["chord", "key"] spDegree := by
    obtain ⟨f, fd, F, g⟩ := f_degree_of.ex
    exact ⟨f, fd, ok_degree T F, g, F.kp, (F.binds (ps := (["chord", "key"] : List Str)) fun _ _ _ _ _ _ us hl => match us, hl with | [_, _], _ => rfl)⟩
  have Ddistance : DefOk P w K mg base CX0 1 "distance" ["one", "other"] spDist := by
    obtain ⟨f, fd, F, g⟩ := f_distance.ex
    exact ⟨f, fd, ok_dist T F, g, F.kp, (F.binds (ps := (["one", "other"] : List Str)) fun _ _ _ _ _ _ us hl => match us, hl with | [_, _], _ => rfl)⟩
  have Dis_cadence : DefOk P w K mg base CX0 2 "is_cadence" ["first", "second", "key"] spCad := by
    obtain ⟨f, fd, F, g⟩ := f_is_cadence.ex
    exact ⟨f, fd, ok_cad T Ddegree_of F, g, F.kp, (F.binds (ps := (["first", "second", "key"] : List Str)) fun _ _ _ _ _ _ us hl => match us, hl with | [_, _, _], _ => rfl)⟩
  have Dmoved : DefOk P w K mg base CX0 1 "moved" ["chord", "many"] spMoved := by
    obtain ⟨f, fd, F, g⟩ := f_moved.ex
    exact ⟨f, fd, ok_moved T F, g, F.kp, (F.binds (ps := (["chord", "many"] : List Str)) fun _ _ _ _ _ _ us hl => match us, hl with | [_, _], _ => rfl)⟩
  have Dcounts_of_one : DefOk P w K mg base CX0 1 "counts_of_one" ["cost"] spOne := by
    obtain ⟨f, fd, F, g⟩ := f_counts_of_one.ex
    exact ⟨f, fd, ok_one T F, g, F.kp, (F.binds (ps := (["cost"] : List Str)) fun _ _ _ _ _ _ us hl => match us, hl with | [_], _ => rfl)⟩
  have Dno_counts : DefOk P w K mg base CX0 1 "no_counts" [] spNoC := by
    obtain ⟨f, fd, F, g⟩ := f_no_counts.ex
    exact ⟨f, fd, ok_noC T F, g, F.kp, (F.binds (ps := ([] : List Str)) fun _ _ _ _ _ _ us hl => match us, hl with | [], _ => rfl)⟩
  have Ddearer : DefOk P w K mg base CX0 1 "dearer" ["counts", "by"] spDear := by
    obtain ⟨f, fd, F, g⟩ := f_dearer.ex
    exact ⟨f, fd, ok_dear T F, g, F.kp, (F.binds (ps := (["counts", "by"] : List Str)) fun _ _ _ _ _ _ us hl => match us, hl with | [_, _], _ => rfl)⟩
  have Dtogether : DefOk P w K mg base CX0 1 "together" ["one", "other"] spTog := by
    obtain ⟨f, fd, F, g⟩ := f_together.ex
    exact ⟨f, fd, ok_tog T F, g, F.kp, (F.binds (ps := (["one", "other"] : List Str)) fun _ _ _ _ _ _ us hl => match us, hl with | [_, _], _ => rfl)⟩
  have Dwant : DefOk P w K mg base (L2.CX P w) 3 "want" ["is_so", "number"] (spWant CR) := by
    obtain ⟨f, fd, F, g⟩ := f_want.ex
    exact ⟨f, fd, ok_want T R FI F, g, F.kp, (F.binds (ps := (["is_so", "number"] : List Str)) fun _ _ _ _ _ _ us hl => match us, hl with | [_, _], _ => rfl)⟩
  have MCP_of_chord : MethOk P w K mg base CX0 2 CP "of_chord" ["self", "chord", "key"] (spOfC CP) := by
    obtain ⟨f, fd, F, g⟩ := m_CP_of_chord.ex
    exact ⟨f, fd, ok_ofC T Ddegree_of F, g, (F.binds (ps := (["self", "chord", "key"] : List Str)) fun _ _ _ _ _ _ us hl => match us, hl with | [_, _, _], _ => rfl)⟩
  have MCP_of_step : MethOk P w K mg base CX0 2 CP "of_step" ["self", "one", "other"] (spOfS CP) := by
    obtain ⟨f, fd, F, g⟩ := m_CP_of_step.ex
    exact ⟨f, fd, ok_ofS T Ddistance F, g, (F.binds (ps := (["self", "one", "other"] : List Str)) fun _ _ _ _ _ _ us hl => match us, hl with | [_, _, _], _ => rfl)⟩
  have MCP_of_end : MethOk P w K mg base CX0 3 CP "of_end" ["self", "chords", "keys"] (spOfE CP) := by
    obtain ⟨f, fd, F, g⟩ := m_CP_of_end.ex
    exact ⟨f, fd, ok_ofE T Dis_cadence F, g, (F.binds (ps := (["self", "chords", "keys"] : List Str)) fun _ _ _ _ _ _ us hl => match us, hl with | [_, _, _], _ => rfl)⟩
  have MCP_put : MethOk P w K mg base CX0 1 CP "put" ["self", "change", "fifth", "other_mode", "end"] (spPut CP) := by
    obtain ⟨f, fd, F, g⟩ := m_CP_put.ex
    exact ⟨f, fd, ok_put T F, g, (F.binds (ps := (["self", "change", "fifth", "other_mode", "end"] : List Str)) fun _ _ _ _ _ _ us hl => match us, hl with | [_, _, _, _, _], _ => rfl)⟩
  have MCP_know : MethOk P w K mg base CX0 1 CP "know" ["self", "mode", "degree", "kind", "price"] (spKnow CP) := by
    obtain ⟨f, fd, F, g⟩ := m_CP_know.ex
    exact ⟨f, fd, ok_know T F, g, (F.binds (ps := (["self", "mode", "degree", "kind", "price"] : List Str)) fun _ _ _ _ _ _ us hl => match us, hl with | [_, _, _, _, _], _ => rfl)⟩
  have KPrices : MakeOk P w K mg base CX0 1 "Prices" CP ["self"] (spPInit CP) := by
    obtain ⟨f, fd, F, g, e⟩ := k_Prices.ex
    exact ⟨f, fd, ok_pinit T F, g, e, (F.binds (ps := (["self"] : List Str)) fun _ _ _ _ _ _ us hl => match us, hl with | [_], _ => rfl)⟩
  have MCW_price_at : MethOk P w K mg base CX0 3 CW "price_at" ["self", "place", "key"] (spPrA CP CW) := by
    obtain ⟨f, fd, F, g⟩ := m_CW_price_at.ex
    exact ⟨f, fd, ok_prA T MCP_of_chord F, g, (F.binds (ps := (["self", "place", "key"] : List Str)) fun _ _ _ _ _ _ us hl => match us, hl with | [_, _, _], _ => rfl)⟩
  have MCW_step_price : MethOk P w K mg base CX0 4 CW "step_price" ["self", "place", "key", "other"] (spStP CP CW) := by
    obtain ⟨f, fd, F, g⟩ := m_CW_step_price.ex
    exact ⟨f, fd, ok_stP T MCP_of_step MCP_of_end F, g, (F.binds (ps := (["self", "place", "key", "other"] : List Str)) fun _ _ _ _ _ _ us hl => match us, hl with | [_, _, _, _], _ => rfl)⟩
  have MCW_counts_at : MethOk P w K mg base CX0 5 CW "counts_at" ["self", "place", "key"] (spCoA CP CW) := by
    obtain ⟨f, fd, F, g⟩ := m_CW_counts_at.ex
    exact ⟨f, fd, ok_coA T MCW_price_at MCW_step_price Dno_counts Dcounts_of_one Ddearer Dtogether F, g, (F.binds (ps := (["self", "place", "key"] : List Str)) fun _ _ _ _ _ _ us hl => match us, hl with | [_, _, _], _ => rfl)⟩
  have MCW_first_price : MethOk P w K mg base CX0 4 CW "first_price" ["self"] (spFiP CP CW) := by
    obtain ⟨f, fd, F, g⟩ := m_CW_first_price.ex
    exact ⟨f, fd, ok_fiP T MCP_of_end F, g, (F.binds (ps := (["self"] : List Str)) fun _ _ _ _ _ _ us hl => match us, hl with | [_], _ => rfl)⟩
  have MCW_counts : MethOk P w K mg base CX0 5 CW "counts" ["self"] (spCou CP CW) := by
    obtain ⟨f, fd, F, g⟩ := m_CW_counts.ex
    exact ⟨f, fd, ok_cou T MCW_first_price Dno_counts Ddearer Dtogether F, g, (F.binds (ps := (["self"] : List Str)) fun _ _ _ _ _ _ us hl => match us, hl with | [_], _ => rfl)⟩
  have MCW_spent : MethOk P w K mg base CX0 5 CW "spent" ["self", "place", "key", "behind"] (spSpe CP CW) := by
    obtain ⟨f, fd, F, g⟩ := m_CW_spent.ex
    exact ⟨f, fd, ok_spe T MCW_first_price MCW_price_at MCW_step_price F, g, (F.binds (ps := (["self", "place", "key", "behind"] : List Str)) fun _ _ _ _ _ _ us hl => match us, hl with | [_, _, _, _], _ => rfl)⟩
  have MCW_many_at : MethOk P w K mg base CX0 6 CW "many_at" ["self", "place", "key", "behind", "cost"] (spMan CP CW) := by
    obtain ⟨f, fd, F, g⟩ := m_CW_many_at.ex
    exact ⟨f, fd, ok_man T MCW_spent F, g, (F.binds (ps := (["self", "place", "key", "behind", "cost"] : List Str)) fun _ _ _ _ _ _ us hl => match us, hl with | [_, _, _, _, _], _ => rfl)⟩
  have MCW_next_key : MethOk P w K mg base CX0 7 CW "next_key" ["self", "place", "behind", "cost", "number"] (spNex CP CW) := by
    obtain ⟨f, fd, F, g⟩ := m_CW_next_key.ex
    exact ⟨f, fd, ok_nex T MCW_many_at F, g, (F.binds (ps := (["self", "place", "behind", "cost", "number"] : List Str)) fun _ _ _ _ _ _ us hl => match us, hl with | [_, _, _, _, _], _ => rfl)⟩
  have MCW_reading : MethOk P w K mg base CX0 8 CW "reading" ["self", "cost", "number"] (spRea CP CW) := by
    obtain ⟨f, fd, F, g⟩ := m_CW_reading.ex
    exact ⟨f, fd, ok_rea T MCW_next_key MCW_spent F, g, (F.binds (ps := (["self", "cost", "number"] : List Str)) fun _ _ _ _ _ _ us hl => match us, hl with | [_, _, _], _ => rfl)⟩
  have KWays : MakeOk P w K mg base CX0 6 "Ways" CW ["self", "chords", "prices"] (spWInit CP CW) := by
    obtain ⟨f, fd, F, g, e⟩ := k_Ways.ex
    exact ⟨f, fd, ok_winit T Dall_keys MCW_counts_at F, g, e, (F.binds (ps := (["self", "chords", "prices"] : List Str)) fun _ _ _ _ _ _ us hl => match us, hl with | [_, _, _], _ => rfl)⟩
  have Dcost_of : DefOk P w K mg base CX0 4 "cost_of" ["chords", "keys", "prices"] (spCostOf CP) := by
    obtain ⟨f, fd, F, g⟩ := f_cost_of.ex
    exact ⟨f, fd, ok_costOf T MCP_of_chord MCP_of_step MCP_of_end F, g, F.kp, (F.binds (ps := (["chords", "keys", "prices"] : List Str)) fun _ _ _ _ _ _ us hl => match us, hl with | [_, _, _], _ => rfl)⟩
  have Dcadences_in : DefOk P w K mg base CX0 3 "cadences_in" ["chords", "keys"] spCadIn := by
    obtain ⟨f, fd, F, g⟩ := f_cadences_in.ex
    exact ⟨f, fd, ok_cadIn T Dis_cadence F, g, F.kp, (F.binds (ps := (["chords", "keys"] : List Str)) fun _ _ _ _ _ _ us hl => match us, hl with | [_, _], _ => rfl)⟩
  have MCD_want_chords : MethOk P w K mg base (L2.CX P w) 4 CD "want_chords" ["self"] (spWantC CP CD CR) := by
    obtain ⟨f, fd, F, g⟩ := m_CD_want_chords.ex
    exact ⟨f, fd, ok_wantC T Dwant F, g, (F.binds (ps := (["self"] : List Str)) fun _ _ _ _ _ _ us hl => match us, hl with | [_], _ => rfl)⟩
  have MCD_chords : MethOk P w K mg base (L2.CX P w) 4 CD "chords" ["self", "told"] (dueSp CP CD CR (cChords K)) := by
    obtain ⟨f, fd, F, g⟩ := m_CD_chords.ex
    exact ⟨f, fd, ok_chords T Dwant Dread_chords F, g, (F.binds (ps := (["self", "told"] : List Str)) fun _ _ _ _ _ _ us hl => match us, hl with | [_, _], _ => rfl)⟩
  have MCD_put_prices : MethOk P w K mg base (L2.CX P w) 4 CD "put_prices" ["self", "numbers"] (dueSp CP CD CR (cPrices K)) := by
    obtain ⟨f, fd, F, g⟩ := m_CD_put_prices.ex
    exact ⟨f, fd, ok_putP T Dwant Dis_below MCP_put F, g, (F.binds (ps := (["self", "numbers"] : List Str)) fun _ _ _ _ _ _ us hl => match us, hl with | [_, _], _ => rfl)⟩
  have MCD_know : MethOk P w K mg base (L2.CX P w) 4 CD "know" ["self", "mode", "degree", "kind", "price"] (dueSp CP CD CR cKnow) := by
    obtain ⟨f, fd, F, g⟩ := m_CD_know.ex
    exact ⟨f, fd, ok_knowD T Dwant Dis_below MCP_know F, g, (F.binds (ps := (["self", "mode", "degree", "kind", "price"] : List Str)) fun _ _ _ _ _ _ us hl => match us, hl with | [_, _, _, _, _], _ => rfl)⟩
  have MCD_move : MethOk P w K mg base (L2.CX P w) 4 CD "move" ["self", "many"] (dueSp CP CD CR cMove) := by
    obtain ⟨f, fd, F, g⟩ := m_CD_move.ex
    exact ⟨f, fd, ok_move T Dwant Dis_below Dmoved F, g, (F.binds (ps := (["self", "many"] : List Str)) fun _ _ _ _ _ _ us hl => match us, hl with | [_, _], _ => rfl)⟩
  have MCD_degrees : MethOk P w K mg base (L2.CX P w) 4 CD "degrees" ["self", "tonic", "mode"] (dueSp CP CD CR cDegs) := by
    obtain ⟨f, fd, F, g⟩ := m_CD_degrees.ex
    exact ⟨f, fd, ok_degs T Dwant Dis_below Ddegree_of MCP_of_chord F, g, (F.binds (ps := (["self", "tonic", "mode"] : List Str)) fun _ _ _ _ _ _ us hl => match us, hl with | [_, _, _], _ => rfl)⟩
  have MCD_count : MethOk P w K mg base (L2.CX P w) 8 CD "count" ["self", "cost"] (dueSp CP CD CR cCount) := by
    obtain ⟨f, fd, F, g⟩ := m_CD_count.ex
    exact ⟨f, fd, ok_count T Dwant Dis_below MCD_want_chords KWays MCW_counts F, g, (F.binds (ps := (["self", "cost"] : List Str)) fun _ _ _ _ _ _ us hl => match us, hl with | [_, _], _ => rfl)⟩
  have MCD_counts : MethOk P w K mg base (L2.CX P w) 8 CD "counts" ["self"] (dueSp CP CD CR cCounts) := by
    obtain ⟨f, fd, F, g⟩ := m_CD_counts.ex
    exact ⟨f, fd, ok_counts T MCD_want_chords KWays MCW_counts F, g, (F.binds (ps := (["self"] : List Str)) fun _ _ _ _ _ _ us hl => match us, hl with | [_], _ => rfl)⟩
  have MCD_told_reading : MethOk P w K mg base CX0 1 CD "told_reading" ["self", "cost", "keys"] spToldR := by
    obtain ⟨f, fd, F, g⟩ := m_CD_told_reading.ex
    exact ⟨f, fd, ok_toldR T F, g, (F.binds (ps := (["self", "cost", "keys"] : List Str)) fun _ _ _ _ _ _ us hl => match us, hl with | [_, _, _], _ => rfl)⟩
  have MCD_nth : MethOk P w K mg base (L2.CX P w) 9 CD "nth" ["self", "number"] (dueSp CP CD CR cNth) := by
    obtain ⟨f, fd, F, g⟩ := m_CD_nth.ex
    exact ⟨f, fd, ok_nth T R FI Dwant MCD_want_chords KWays MCW_counts MCW_reading MCD_told_reading F, g, (F.binds (ps := (["self", "number"] : List Str)) fun _ _ _ _ _ _ us hl => match us, hl with | [_, _], _ => rfl)⟩
  have MCD_cost : MethOk P w K mg base (L2.CX P w) 5 CD "cost" ["self", "told"] (dueSp CP CD CR (cCost K)) := by
    obtain ⟨f, fd, F, g⟩ := m_CD_cost.ex
    exact ⟨f, fd, ok_cost T Dwant MCD_want_chords Dread_keys MCP_of_chord Dcadences_in Dcost_of F, g, (F.binds (ps := (["self", "told"] : List Str)) fun _ _ _ _ _ _ us hl => match us, hl with | [_, _], _ => rfl)⟩
  have KDesk : MakeOk P w K mg base CX0 3 "Desk" CD ["self"] (spDInit CP CD) := by
    obtain ⟨f, fd, F, g, e⟩ := k_Desk.ex
    exact ⟨f, fd, ok_dinit T KPrices F, g, e, (F.binds (ps := (["self"] : List Str)) fun _ _ _ _ _ _ us hl => match us, hl with | [_], _ => rfl)⟩
  have DO : DeskOk P w K mg base CP CD CR := ⟨MCD_chords, MCD_put_prices, MCD_know, MCD_move, MCD_degrees, MCD_count, MCD_counts, MCD_nth, MCD_cost⟩
  have Dof_call : DefOk P w K mg base (L2.CX P w) 10 "of_call" ["desk", "call", "n", "row"] (spOfCall K CP CD CR) := by
    obtain ⟨f, fd, F, g⟩ := f_of_call.ex
    exact ⟨f, fd, ok_ofCall T DO F, g, F.kp, (F.binds (ps := (["desk", "call", "n", "row"] : List Str)) fun _ _ _ _ _ _ us hl => match us, hl with | [_, _, _, _], _ => rfl)⟩
  have Danswer : DefOk P w K mg base CX0 11 "answer" ["desk", "call", "n", "row"] (spAnswer K CP CD) := by
    obtain ⟨f, fd, F, g⟩ := f_answer.ex
    exact ⟨f, fd, ok_answer T R Dof_call F, g, F.kp, (F.binds (ps := (["desk", "call", "n", "row"] : List Str)) fun _ _ _ _ _ _ us hl => match us, hl with | [_, _, _, _], _ => rfl)⟩
  exact ok_ans T KDesk Danswer F0
end
section
variable {K : PySem.W.Frag} {h : Heap} {mg : Str → Option Value} {CP CW CR CD : Addr}
theorem tx_mk {t0 t1 t2 t3 t4 t5 t6 t7 t8 t9 t10 t11 t12 t13 t14 t15 t16 t17 t18 t19 t20 t21 : Tok} (X : K.In h) (G : h.Ns mainGlobals mg)
    (aP : PySem.W.nsIn K mainGlobals "Prices" = some (some (.ref CP)))
    (aW : PySem.W.nsIn K mainGlobals "Ways" = some (some (.ref CW)))
    (aD : PySem.W.nsIn K mainGlobals "Desk" = some (some (.ref CD)))
    (aR : PySem.W.nsIn K mainGlobals "Refused" = some (some (.ref CR)))
    (j0 : PySem.W.nsIn K mainGlobals "TWELVE" = some (some (.int (12) t0)))
    (j1 : PySem.W.nsIn K mainGlobals "FIFTH_STEP" = some (some (.int (7) t1)))
    (j2 : PySem.W.nsIn K mainGlobals "MAJOR" = some (some (.int (0) t2)))
    (j3 : PySem.W.nsIn K mainGlobals "WITH_SEVENTH" = some (some (.int (3) t3)))
    (j4 : PySem.W.nsIn K mainGlobals "KINDS" = some (some (.int (4) t4)))
    (j5 : PySem.W.nsIn K mainGlobals "MODES" = some (some (.int (2) t5)))
    (j6 : PySem.W.nsIn K mainGlobals "DOMINANT" = some (some (.int (7) t6)))
    (j7 : PySem.W.nsIn K mainGlobals "CANT_BE" = some (some (.int (100) t7)))
    (j8 : PySem.W.nsIn K mainGlobals "FIRST_CHANGE" = some (some (.int (4) t8)))
    (j9 : PySem.W.nsIn K mainGlobals "FIRST_FIFTH" = some (some (.int (1) t9)))
    (j10 : PySem.W.nsIn K mainGlobals "FIRST_MODE" = some (some (.int (2) t10)))
    (j11 : PySem.W.nsIn K mainGlobals "FIRST_END" = some (some (.int (3) t11)))
    (j12 : PySem.W.nsIn K mainGlobals "BOUND" = some (some (.int (150) t12)))
    (j13 : PySem.W.nsIn K mainGlobals "BAD" = some (some (.int (-1) t13)))
    (j14 : PySem.W.nsIn K mainGlobals "NOT_AS_MANY" = some (some (.int (-2) t14)))
    (j15 : PySem.W.nsIn K mainGlobals "NONE_SUCH" = some (some (.int (-3) t15)))
    (j16 : PySem.W.nsIn K mainGlobals "TOO_MANY" = some (some (.int (-5) t16)))
    (j17 : PySem.W.nsIn K mainGlobals "NO_CHORDS" = some (some (.int (-7) t17)))
    (j18 : PySem.W.nsIn K mainGlobals "MOST_CHORDS" = some (some (.int (16) t18)))
    (j19 : PySem.W.nsIn K mainGlobals "MOST_PRICE" = some (some (.int (20) t19)))
    (j20 : PySem.W.nsIn K mainGlobals "CHORDS" = some (some (.int (1) t20)))
    (j21 : PySem.W.nsIn K mainGlobals "COST" = some (some (.int (9) t21)))
    (z0 : PySem.W.nsIn K mainGlobals "len" = some none)
    (z1 : PySem.W.nsIn K mainGlobals "range" = some none)
    (z2 : PySem.W.nsIn K mainGlobals "all" = some none)
    (z3 : PySem.W.nsIn K mainGlobals "sum" = some none)
    (z4 : PySem.W.nsIn K mainGlobals "zip" = some none)
    (z5 : PySem.W.nsIn K mainGlobals "enumerate" = some none)
    (z6 : PySem.W.nsIn K mainGlobals "int" = some none)
    (z7 : PySem.W.nsIn K mainGlobals "min" = some none)
    (z8 : PySem.W.nsIn K mainGlobals "ValueError" = some none)
    (pgP : PySem.W.plainGet K CP Str.empty = true)
    (hdP : PySem.W.hasDictIn K CP = true)
    (poP : PySem.W.plainOver K CP = true)
    (saP : PySem.W.findIn K (.ref CP) "__setattr__" = some (some (.builtin "object.__setattr__")))
    (pgW : PySem.W.plainGet K CW Str.empty = true)
    (hdW : PySem.W.hasDictIn K CW = true)
    (poW : PySem.W.plainOver K CW = true)
    (saW : PySem.W.findIn K (.ref CW) "__setattr__" = some (some (.builtin "object.__setattr__")))
    (pgD : PySem.W.plainGet K CD Str.empty = true)
    (hdD : PySem.W.hasDictIn K CD = true)
    (poD : PySem.W.plainOver K CD = true)
    (saD : PySem.W.findIn K (.ref CD) "__setattr__" = some (some (.builtin "object.__setattr__")))
    (nP0 : PySem.W.findIn K (.ref CP) "change" = some none)
    (nP1 : PySem.W.findIn K (.ref CP) "fifth" = some none)
    (nP2 : PySem.W.findIn K (.ref CP) "other_mode" = some none)
    (nP3 : PySem.W.findIn K (.ref CP) "end" = some none)
    (nP4 : PySem.W.findIn K (.ref CP) "told" = some none)
    (nW0 : PySem.W.findIn K (.ref CW) "row" = some none)
    (nW1 : PySem.W.findIn K (.ref CW) "prices" = some none)
    (nW2 : PySem.W.findIn K (.ref CW) "every_key" = some none)
    (nW3 : PySem.W.findIn K (.ref CW) "rows" = some none)
    (nD0 : PySem.W.findIn K (.ref CD) "row" = some none)
    (nD1 : PySem.W.findIn K (.ref CD) "prices" = some none)
    (ne : CP ≠ CD)
    (told : ∃ a, mg "FIRST_TOLD" = some (.ref a) ∧ ∃ ts : List Addr, KT K a (ts.map V.ref) ∧ ts.length = (Cp09.major ++ Cp09.minor).length ∧ ∀ (i : Nat) (t : Addr) (x : Cp09.Known), ts[i]? = some t → (Cp09.major ++ Cp09.minor)[i]? = some x → KT K t [.int (x.mode : Int), .int (x.at_ : Int), .int (x.kind : Int), .int (x.price : Int)])
    (nums : ∃ a, mg "NUMBERS" = some (.ref a) ∧ KT K a [.int 0, .int 0, .int 4, .int 4, .int 1, .int 2, .int 1, .int 0, .int 1, .int 0]) : Tx K mg CP CW CR CD where
  iTWELVE := gi_mk X G j0
  iFIFTH := gi_mk X G j1
  iMAJOR := gi_mk X G j2
  iSEVENTH := gi_mk X G j3
  iKINDS := gi_mk X G j4
  iMODES := gi_mk X G j5
  iDOMINANT := gi_mk X G j6
  iCANT := gi_mk X G j7
  iCHANGE := gi_mk X G j8
  iFFIFTH := gi_mk X G j9
  iFMODE := gi_mk X G j10
  iFEND := gi_mk X G j11
  iBOUND := gi_mk X G j12
  iBAD := gi_mk X G j13
  iNOTAS := gi_mk X G j14
  iNONE := gi_mk X G j15
  iTOO := gi_mk X G j16
  iNOCH := gi_mk X G j17
  iMOSTC := gi_mk X G j18
  iMOSTP := gi_mk X G j19
  iCHORDS := gi_mk X G j20
  iCOST := gi_mk X G j21
  fLen := PySem.W.mg_none_of X G z0
  fRange := PySem.W.mg_none_of X G z1
  fAll := PySem.W.mg_none_of X G z2
  fSum := PySem.W.mg_none_of X G z3
  fZip := PySem.W.mg_none_of X G z4
  fEnum := PySem.W.mg_none_of X G z5
  fInt := PySem.W.mg_none_of X G z6
  fMin := PySem.W.mg_none_of X G z7
  fVE := PySem.W.mg_none_of X G z8
  cP := cls_mk pgP hdP poP saP
  cW := cls_mk pgW hdW poW saW
  cD := cls_mk pgD hdD poD saD
  nP := fun f hf => by
    simp only [List.mem_cons, List.not_mem_nil, or_false] at hf
    rcases hf with rfl | rfl | rfl | rfl | rfl
    · exact nP0
    · exact nP1
    · exact nP2
    · exact nP3
    · exact nP4
  nW := fun f hf => by
    simp only [List.mem_cons, List.not_mem_nil, or_false] at hf
    rcases hf with rfl | rfl | rfl | rfl
    · exact nW0
    · exact nW1
    · exact nW2
    · exact nW3
  nD := fun f hf => by
    simp only [List.mem_cons, List.not_mem_nil, or_false] at hf
    rcases hf with rfl | rfl
    · exact nD0
    · exact nD1
  gD := PySem.W.mg_of X G aD
  ne := ne
  told := told
  nums := nums
theorem told_mk2 {a u0 u1 u2 u3 u4 u5 u6 u7 u8 u9 u10 u11 u12 u13 u14 u15 u16 : Addr} {d : Option Addr} {n : Nat} {sl : Array (Option Value)} (X : K.In h) (G : h.Ns mainGlobals mg) (e : PySem.W.nsIn K mainGlobals "FIRST_TOLD" = some (some (.ref a)))
    (l : K.lookup a = some ⟨.type "tuple", d, .seq #[.ref u0, .ref u1, .ref u2, .ref u3, .ref u4, .ref u5, .ref u6, .ref u7, .ref u8, .ref u9, .ref u10, .ref u11, .ref u12, .ref u13, .ref u14, .ref u15, .ref u16] n, sl⟩)
    (p0 : KT K u0 [.int 0, .int 0, .int 0, .int 0])
    (p1 : KT K u1 [.int 0, .int 7, .int 0, .int 0])
    (p2 : KT K u2 [.int 0, .int 7, .int 3, .int 0])
    (p3 : KT K u3 [.int 0, .int 5, .int 0, .int 1])
    (p4 : KT K u4 [.int 0, .int 2, .int 1, .int 1])
    (p5 : KT K u5 [.int 0, .int 9, .int 1, .int 2])
    (p6 : KT K u6 [.int 0, .int 4, .int 1, .int 4])
    (p7 : KT K u7 [.int 0, .int 11, .int 2, .int 2])
    (p8 : KT K u8 [.int 1, .int 0, .int 1, .int 0])
    (p9 : KT K u9 [.int 1, .int 7, .int 0, .int 0])
    (p10 : KT K u10 [.int 1, .int 7, .int 3, .int 0])
    (p11 : KT K u11 [.int 1, .int 5, .int 1, .int 1])
    (p12 : KT K u12 [.int 1, .int 2, .int 2, .int 1])
    (p13 : KT K u13 [.int 1, .int 8, .int 0, .int 2])
    (p14 : KT K u14 [.int 1, .int 3, .int 0, .int 3])
    (p15 : KT K u15 [.int 1, .int 11, .int 2, .int 2])
    (p16 : KT K u16 [.int 1, .int 10, .int 0, .int 4])
    : ∃ a, mg "FIRST_TOLD" = some (.ref a) ∧ ∃ ts : List Addr, KT K a (ts.map V.ref) ∧ ts.length = (Cp09.major ++ Cp09.minor).length ∧ ∀ (i : Nat) (t : Addr) (x : Cp09.Known), ts[i]? = some t → (Cp09.major ++ Cp09.minor)[i]? = some x → KT K t [.int (x.mode : Int), .int (x.at_ : Int), .int (x.kind : Int), .int (x.price : Int)] :=
  told_mk (ts := [u0, u1, u2, u3, u4, u5, u6, u7, u8, u9, u10, u11, u12, u13, u14, u15, u16]) X G e l rfl (.cons p0 (.cons p1 (.cons p2 (.cons p3 (.cons p4 (.cons p5 (.cons p6 (.cons p7 (.cons p8 (.cons p9 (.cons p10 (.cons p11 (.cons p12 (.cons p13 (.cons p14 (.cons p15 (.cons p16 .nil)))))))))))))))))
theorem nums_mk {a : Addr} (X : K.In h) (G : h.Ns mainGlobals mg) (e : PySem.W.nsIn K mainGlobals "NUMBERS" = some (some (.ref a))) (p : KT K a [.int 0, .int 0, .int 4, .int 4, .int 1, .int 2, .int 1, .int 0, .int 1, .int 0]) :
    ∃ a, mg "NUMBERS" = some (.ref a) ∧ KT K a [.int 0, .int 0, .int 4, .int 4, .int 1, .int 2, .int 1, .int 0, .int 1, .int 0] := ⟨a, PySem.W.mg_of X G e, p⟩
theorem mR_mk {fI : Addr} {od an : Option Addr} {sl : Array (Option Value)} {oc kV dc pm cd ct : Value} (l : K.lookup fI = some ⟨oc, od, .func (PySem.W.fnOf "__init__" "Refused.__init__" (defArgs sRInit) (defBody sRInit) (defScope sRInit) .none kV dc pm an cd ct), sl⟩)
    (c : PySem.W.codeIn K cd "Refused.__init__" = true) (k : PySem.W.keepIn K (.ref fI) = true) : ∃ fdI, Fun K "__init__" "Refused.__init__" sRInit fI fdI := ⟨_, fun_mk l c k⟩
end
theorem all_mk {P : Program} {w : World} {K : PySem.W.Frag} {mg : Str → Option Value} {fa CP CW CR CD fI : Addr} (hfa : mg "answers" = some (.ref fa)) (T : Tx K mg CP CW CR CD) (R : Rx K mg CR fI) (mR : ∃ fdI, Fun K "__init__" "Refused.__init__" sRInit fI fdI)
    (f_all_keys : DefF K mg "all_keys" sAll)
    (f_is_below : DefF K mg "is_below" sBelow)
    (f_pairs_of : DefF K mg "pairs_of" sPairs)
    (f_read_chords : DefF K mg "read_chords" sReadC)
    (f_read_keys : DefF K mg "read_keys" sReadK)
    (f_degree_of : DefF K mg "degree_of" sDegree)
    (f_distance : DefF K mg "distance" sDist)
    (f_is_cadence : DefF K mg "is_cadence" sCad)
    (f_moved : DefF K mg "moved" sMoved)
    (f_counts_of_one : DefF K mg "counts_of_one" sOne)
    (f_no_counts : DefF K mg "no_counts" sNoC)
    (f_dearer : DefF K mg "dearer" sDear)
    (f_together : DefF K mg "together" sTog)
    (f_want : DefF K mg "want" sWant)
    (m_CP_of_chord : MethF K CP "of_chord" "Prices.of_chord" sOfC)
    (m_CP_of_step : MethF K CP "of_step" "Prices.of_step" sOfS)
    (m_CP_of_end : MethF K CP "of_end" "Prices.of_end" sOfE)
    (m_CP_put : MethF K CP "put" "Prices.put" sPut)
    (m_CP_know : MethF K CP "know" "Prices.know" sKnow)
    (k_Prices : MakeF K mg "Prices" CP "Prices.__init__" sPInit)
    (m_CW_price_at : MethF K CW "price_at" "Ways.price_at" sPrA)
    (m_CW_step_price : MethF K CW "step_price" "Ways.step_price" sStP)
    (m_CW_counts_at : MethF K CW "counts_at" "Ways.counts_at" sCoA)
    (m_CW_first_price : MethF K CW "first_price" "Ways.first_price" sFiP)
    (m_CW_counts : MethF K CW "counts" "Ways.counts" sCou)
    (m_CW_spent : MethF K CW "spent" "Ways.spent" sSpe)
    (m_CW_many_at : MethF K CW "many_at" "Ways.many_at" sMan)
    (m_CW_next_key : MethF K CW "next_key" "Ways.next_key" sNex)
    (m_CW_reading : MethF K CW "reading" "Ways.reading" sRea)
    (k_Ways : MakeF K mg "Ways" CW "Ways.__init__" sWInit)
    (f_cost_of : DefF K mg "cost_of" sCostOf)
    (f_cadences_in : DefF K mg "cadences_in" sCadIn)
    (m_CD_want_chords : MethF K CD "want_chords" "Desk.want_chords" sWantC)
    (m_CD_chords : MethF K CD "chords" "Desk.chords" sChords)
    (m_CD_put_prices : MethF K CD "put_prices" "Desk.put_prices" sPutP)
    (m_CD_know : MethF K CD "know" "Desk.know" sKnowD)
    (m_CD_move : MethF K CD "move" "Desk.move" sMove)
    (m_CD_degrees : MethF K CD "degrees" "Desk.degrees" sDegs)
    (m_CD_count : MethF K CD "count" "Desk.count" sCount)
    (m_CD_counts : MethF K CD "counts" "Desk.counts" sCounts)
    (m_CD_told_reading : MethF K CD "told_reading" "Desk.told_reading" sToldR)
    (m_CD_nth : MethF K CD "nth" "Desk.nth" sNth)
    (m_CD_cost : MethF K CD "cost" "Desk.cost" sCost)
    (k_Desk : MakeF K mg "Desk" CD "Desk.__init__" sDInit)
    (f_of_call : DefF K mg "of_call" sOfCall)
    (f_answer : DefF K mg "answer" sAnswer)
    (f_answers : DefF K mg "answers" sAns)
    : ∃ fd : FuncData, (∀ (s : Shared) (us : List Value), us.length = (["calls"] : List Str).length → BindsTo s fd ⟨us, []⟩ ((["calls"] : List Str).zip us)) ∧ ∀ base : Heap, K.In base → base.Ns mainGlobals mg → FnOk P w K mg base CX0 12 fa fd ["calls"] (spAns K) := by
  obtain ⟨fdI, FI⟩ := mR
  obtain ⟨f, fd, F, g⟩ := f_answers.ex
  have e := hfa.symm.trans g
  cases e
  have hb : ∀ (s : Shared) (us : List Value), us.length = (["calls"] : List Str).length → BindsTo s fd ⟨us, []⟩ ((["calls"] : List Str).zip us) := by
    obtain ⟨oc, od, kV, doc, pm, an, cdv, ct, osl, rfl, lk, hcd⟩ := F.ex
    exact fun s us hu => match us, hu with | [_], _ => .of_eq rfl
  exact ⟨fd, hb, fun base _ _ => all_ok T R FI f_all_keys f_is_below f_pairs_of f_read_chords f_read_keys f_degree_of f_distance f_is_cadence f_moved f_counts_of_one f_no_counts f_dearer f_together f_want m_CP_of_chord m_CP_of_step m_CP_of_end m_CP_put m_CP_know k_Prices m_CW_price_at m_CW_step_price m_CW_counts_at m_CW_first_price m_CW_counts m_CW_spent m_CW_many_at m_CW_next_key m_CW_reading k_Ways f_cost_of f_cadences_in m_CD_want_chords m_CD_chords m_CD_put_prices m_CD_know m_CD_move m_CD_degrees m_CD_count m_CD_counts m_CD_told_reading m_CD_nth m_CD_cost k_Desk f_of_call f_answer F⟩
end CK
open PySem PySem.W PyProof.Rows
set_option maxRecDepth 100000 in
set_option maxHeartbeats 0 in
theorem PySem.Challenge.cw_chordkeys_s01_answers_holds : PySem.Challenge.rw_chordkeys_s01_answers.Holds := by
  w_on; k_headS; (case hw => exact ⟨[.list [.int 7]], by decide +kernel, by decide +kernel⟩)
  k_fillS
  refine L2.walk_specK (r := PySem.Challenge.rw_chordkeys_s01_answers) (k := 12) (CX := L2.CX0) (ps := ["calls"]) (sp := CK.spAns) (by decide +kernel) rfl rfl ⟨rfl, by decide, by decide⟩ (fun w h Y => PySem.W.kIn_of Y) ?F ?S (fun _ _ _ _ z => z)
  case F =>
    intro w mg fa h Y KX G hmg0
    have hmg : mg "answers" = some (.ref fa) := hmg0
    clear hmg0
    refine' CK.all_mk hmg ?T ?R ?mR ?f_all_keys ?f_is_below ?f_pairs_of ?f_read_chords ?f_read_keys ?f_degree_of ?f_distance ?f_is_cadence ?f_moved ?f_counts_of_one ?f_no_counts ?f_dearer ?f_together ?f_want ?m_CP_of_chord ?m_CP_of_step ?m_CP_of_end ?m_CP_put ?m_CP_know ?k_Prices ?m_CW_price_at ?m_CW_step_price ?m_CW_counts_at ?m_CW_first_price ?m_CW_counts ?m_CW_spent ?m_CW_many_at ?m_CW_next_key ?m_CW_reading ?k_Ways ?f_cost_of ?f_cadences_in ?m_CD_want_chords ?m_CD_chords ?m_CD_put_prices ?m_CD_know ?m_CD_move ?m_CD_degrees ?m_CD_count ?m_CD_counts ?m_CD_told_reading ?m_CD_nth ?m_CD_cost ?k_Desk ?f_of_call ?f_answer ?f_answers
    case T =>
      refine' CK.tx_mk KX G ?x_aP ?x_aW ?x_aD ?x_aR ?x_j0 ?x_j1 ?x_j2 ?x_j3 ?x_j4 ?x_j5 ?x_j6 ?x_j7 ?x_j8 ?x_j9 ?x_j10 ?x_j11 ?x_j12 ?x_j13 ?x_j14 ?x_j15 ?x_j16 ?x_j17 ?x_j18 ?x_j19 ?x_j20 ?x_j21 ?x_z0 ?x_z1 ?x_z2 ?x_z3 ?x_z4 ?x_z5 ?x_z6 ?x_z7 ?x_z8 ?x_pgP ?x_hdP ?x_poP ?x_saP ?x_pgW ?x_hdW ?x_poW ?x_saW ?x_pgD ?x_hdD ?x_poD ?x_saD ?x_nP0 ?x_nP1 ?x_nP2 ?x_nP3 ?x_nP4 ?x_nW0 ?x_nW1 ?x_nW2 ?x_nW3 ?x_nD0 ?x_nD1 ?x_ne ?x_told ?x_nums
      (case x_aP => k_is)
      (case x_aW => k_is)
      (case x_aD => k_is)
      (case x_aR => k_is)
      (case x_j0 => k_is)
      (case x_j1 => k_is)
      (case x_j2 => k_is)
      (case x_j3 => k_is)
      (case x_j4 => k_is)
      (case x_j5 => k_is)
      (case x_j6 => k_is)
      (case x_j7 => k_is)
      (case x_j8 => k_is)
      (case x_j9 => k_is)
      (case x_j10 => k_is)
      (case x_j11 => k_is)
      (case x_j12 => k_is)
      (case x_j13 => k_is)
      (case x_j14 => k_is)
      (case x_j15 => k_is)
      (case x_j16 => k_is)
      (case x_j17 => k_is)
      (case x_j18 => k_is)
      (case x_j19 => k_is)
      (case x_j20 => k_is)
      (case x_j21 => k_is)
      (case x_z0 => k_is)
      (case x_z1 => k_is)
      (case x_z2 => k_is)
      (case x_z3 => k_is)
      (case x_z4 => k_is)
      (case x_z5 => k_is)
      (case x_z6 => k_is)
      (case x_z7 => k_is)
      (case x_z8 => k_is)
      (case x_pgP => k_is)
      (case x_hdP => k_is)
      (case x_poP => k_is)
      (case x_saP => k_is)
      (case x_pgW => k_is)
      (case x_hdW => k_is)
      (case x_poW => k_is)
      (case x_saW => k_is)
      (case x_pgD => k_is)
      (case x_hdD => k_is)
      (case x_poD => k_is)
      (case x_saD => k_is)
      (case x_nP0 => k_is)
      (case x_nP1 => k_is)
      (case x_nP2 => k_is)
      (case x_nP3 => k_is)
      (case x_nP4 => k_is)
      (case x_nW0 => k_is)
      (case x_nW1 => k_is)
      (case x_nW2 => k_is)
      (case x_nW3 => k_is)
      (case x_nD0 => k_is)
      (case x_nD1 => k_is)
      (case x_ne => decide)
      case x_told =>
        refine' CK.told_mk2 KX G ?x_e ?x_l ?x_p0 ?x_p1 ?x_p2 ?x_p3 ?x_p4 ?x_p5 ?x_p6 ?x_p7 ?x_p8 ?x_p9 ?x_p10 ?x_p11 ?x_p12 ?x_p13 ?x_p14 ?x_p15 ?x_p16
        (case x_e => k_is)
        (case x_l => k_is)
        case x_p0 =>
          refine' CK.kt4 ?x_h0
          (case x_h0 => k_is)
        case x_p1 =>
          refine' CK.kt4 ?x_h1
          (case x_h1 => k_is)
        case x_p2 =>
          refine' CK.kt4 ?x_h2
          (case x_h2 => k_is)
        case x_p3 =>
          refine' CK.kt4 ?x_h3
          (case x_h3 => k_is)
        case x_p4 =>
          refine' CK.kt4 ?x_h4
          (case x_h4 => k_is)
        case x_p5 =>
          refine' CK.kt4 ?x_h5
          (case x_h5 => k_is)
        case x_p6 =>
          refine' CK.kt4 ?x_h6
          (case x_h6 => k_is)
        case x_p7 =>
          refine' CK.kt4 ?x_h7
          (case x_h7 => k_is)
        case x_p8 =>
          refine' CK.kt4 ?x_h8
          (case x_h8 => k_is)
        case x_p9 =>
          refine' CK.kt4 ?x_h9
          (case x_h9 => k_is)
        case x_p10 =>
          refine' CK.kt4 ?x_h10
          (case x_h10 => k_is)
        case x_p11 =>
          refine' CK.kt4 ?x_h11
          (case x_h11 => k_is)
        case x_p12 =>
          refine' CK.kt4 ?x_h12
          (case x_h12 => k_is)
        case x_p13 =>
          refine' CK.kt4 ?x_h13
          (case x_h13 => k_is)
        case x_p14 =>
          refine' CK.kt4 ?x_h14
          (case x_h14 => k_is)
        case x_p15 =>
          refine' CK.kt4 ?x_h15
          (case x_h15 => k_is)
        case x_p16 =>
          refine' CK.kt4 ?x_h16
          (case x_h16 => k_is)
      case x_nums =>
        refine' CK.nums_mk KX G ?x_e ?x_p
        (case x_e => k_is)
        case x_p =>
          refine' CK.kt10 ?x_h
          (case x_h => k_is)
    case R =>
      refine' CK.rx_mk KX G ?x_aC ?x_xL ?x_sa ?x_ga ?x_gg ?x_nb ?x_a1 ?x_t1 ?x_vV ?x_kC ?x_eC ?x_tC ?x_hC ?x_iC ?x_sC
      (case x_aC => k_is)
      (case x_xL => k_is)
      (case x_sa => k_is)
      (case x_ga => k_is)
      (case x_gg => k_is)
      (case x_nb => k_is)
      (case x_a1 => k_is)
      (case x_t1 => k_is)
      (case x_vV => k_is)
      (case x_kC => k_is)
      (case x_eC => k_is)
      (case x_tC => k_is)
      (case x_hC => k_is)
      (case x_iC => k_is)
      (case x_sC => first | rfl | k_is)
    case mR =>
      refine' CK.mR_mk ?x_l ?x_c ?x_k
      (case x_l => k_is)
      (case x_c => k_is)
      (case x_k => k_is)
    case f_all_keys =>
      refine' CK.defF_mk KX G ?x_a ?x_l ?x_c ?x_k
      (case x_a => k_is)
      (case x_l => k_is)
      (case x_c => k_is)
      (case x_k => k_is)
    case f_is_below =>
      refine' CK.defF_mk KX G ?x_a ?x_l ?x_c ?x_k
      (case x_a => k_is)
      (case x_l => k_is)
      (case x_c => k_is)
      (case x_k => k_is)
    case f_pairs_of =>
      refine' CK.defF_mk KX G ?x_a ?x_l ?x_c ?x_k
      (case x_a => k_is)
      (case x_l => k_is)
      (case x_c => k_is)
      (case x_k => k_is)
    case f_read_chords =>
      refine' CK.defF_mk KX G ?x_a ?x_l ?x_c ?x_k
      (case x_a => k_is)
      (case x_l => k_is)
      (case x_c => k_is)
      (case x_k => k_is)
    case f_read_keys =>
      refine' CK.defF_mk KX G ?x_a ?x_l ?x_c ?x_k
      (case x_a => k_is)
      (case x_l => k_is)
      (case x_c => k_is)
      (case x_k => k_is)
    case f_degree_of =>
      refine' CK.defF_mk KX G ?x_a ?x_l ?x_c ?x_k
      (case x_a => k_is)
      (case x_l => k_is)
      (case x_c => k_is)
      (case x_k => k_is)
    case f_distance =>
      refine' CK.defF_mk KX G ?x_a ?x_l ?x_c ?x_k
      (case x_a => k_is)
      (case x_l => k_is)
      (case x_c => k_is)
      (case x_k => k_is)
    case f_is_cadence =>
      refine' CK.defF_mk KX G ?x_a ?x_l ?x_c ?x_k
      (case x_a => k_is)
      (case x_l => k_is)
      (case x_c => k_is)
      (case x_k => k_is)
    case f_moved =>
      refine' CK.defF_mk KX G ?x_a ?x_l ?x_c ?x_k
      (case x_a => k_is)
      (case x_l => k_is)
      (case x_c => k_is)
      (case x_k => k_is)
    case f_counts_of_one =>
      refine' CK.defF_mk KX G ?x_a ?x_l ?x_c ?x_k
      (case x_a => k_is)
      (case x_l => k_is)
      (case x_c => k_is)
      (case x_k => k_is)
    case f_no_counts =>
      refine' CK.defF_mk KX G ?x_a ?x_l ?x_c ?x_k
      (case x_a => k_is)
      (case x_l => k_is)
      (case x_c => k_is)
      (case x_k => k_is)
    case f_dearer =>
      refine' CK.defF_mk KX G ?x_a ?x_l ?x_c ?x_k
      (case x_a => k_is)
      (case x_l => k_is)
      (case x_c => k_is)
      (case x_k => k_is)
    case f_together =>
      refine' CK.defF_mk KX G ?x_a ?x_l ?x_c ?x_k
      (case x_a => k_is)
      (case x_l => k_is)
      (case x_c => k_is)
      (case x_k => k_is)
    case f_want =>
      refine' CK.defF_mk KX G ?x_a ?x_l ?x_c ?x_k
      (case x_a => k_is)
      (case x_l => k_is)
      (case x_c => k_is)
      (case x_k => k_is)
    case m_CP_of_chord =>
      refine' CK.methF_mk ?x_a ?x_i ?x_l ?x_c ?x_k
      (case x_a => k_is)
      (case x_i => k_is)
      (case x_l => k_is)
      (case x_c => k_is)
      (case x_k => k_is)
    case m_CP_of_step =>
      refine' CK.methF_mk ?x_a ?x_i ?x_l ?x_c ?x_k
      (case x_a => k_is)
      (case x_i => k_is)
      (case x_l => k_is)
      (case x_c => k_is)
      (case x_k => k_is)
    case m_CP_of_end =>
      refine' CK.methF_mk ?x_a ?x_i ?x_l ?x_c ?x_k
      (case x_a => k_is)
      (case x_i => k_is)
      (case x_l => k_is)
      (case x_c => k_is)
      (case x_k => k_is)
    case m_CP_put =>
      refine' CK.methF_mk ?x_a ?x_i ?x_l ?x_c ?x_k
      (case x_a => k_is)
      (case x_i => k_is)
      (case x_l => k_is)
      (case x_c => k_is)
      (case x_k => k_is)
    case m_CP_know =>
      refine' CK.methF_mk ?x_a ?x_i ?x_l ?x_c ?x_k
      (case x_a => k_is)
      (case x_i => k_is)
      (case x_l => k_is)
      (case x_c => k_is)
      (case x_k => k_is)
    case k_Prices =>
      refine' CK.makeF_mk KX G ?x_e ?x_mk ?x_a ?x_i ?x_kc ?x_l ?x_c ?x_k
      (case x_e => k_is)
      (case x_mk => k_is)
      (case x_a => k_is)
      (case x_i => k_is)
      (case x_kc => k_is)
      (case x_l => k_is)
      (case x_c => k_is)
      (case x_k => k_is)
    case m_CW_price_at =>
      refine' CK.methF_mk ?x_a ?x_i ?x_l ?x_c ?x_k
      (case x_a => k_is)
      (case x_i => k_is)
      (case x_l => k_is)
      (case x_c => k_is)
      (case x_k => k_is)
    case m_CW_step_price =>
      refine' CK.methF_mk ?x_a ?x_i ?x_l ?x_c ?x_k
      (case x_a => k_is)
      (case x_i => k_is)
      (case x_l => k_is)
      (case x_c => k_is)
      (case x_k => k_is)
    case m_CW_counts_at =>
      refine' CK.methF_mk ?x_a ?x_i ?x_l ?x_c ?x_k
      (case x_a => k_is)
      (case x_i => k_is)
      (case x_l => k_is)
      (case x_c => k_is)
      (case x_k => k_is)
    case m_CW_first_price =>
      refine' CK.methF_mk ?x_a ?x_i ?x_l ?x_c ?x_k
      (case x_a => k_is)
      (case x_i => k_is)
      (case x_l => k_is)
      (case x_c => k_is)
      (case x_k => k_is)
    case m_CW_counts =>
      refine' CK.methF_mk ?x_a ?x_i ?x_l ?x_c ?x_k
      (case x_a => k_is)
      (case x_i => k_is)
      (case x_l => k_is)
      (case x_c => k_is)
      (case x_k => k_is)
    case m_CW_spent =>
      refine' CK.methF_mk ?x_a ?x_i ?x_l ?x_c ?x_k
      (case x_a => k_is)
      (case x_i => k_is)
      (case x_l => k_is)
      (case x_c => k_is)
      (case x_k => k_is)
    case m_CW_many_at =>
      refine' CK.methF_mk ?x_a ?x_i ?x_l ?x_c ?x_k
      (case x_a => k_is)
      (case x_i => k_is)
      (case x_l => k_is)
      (case x_c => k_is)
      (case x_k => k_is)
    case m_CW_next_key =>
      refine' CK.methF_mk ?x_a ?x_i ?x_l ?x_c ?x_k
      (case x_a => k_is)
      (case x_i => k_is)
      (case x_l => k_is)
      (case x_c => k_is)
      (case x_k => k_is)
    case m_CW_reading =>
      refine' CK.methF_mk ?x_a ?x_i ?x_l ?x_c ?x_k
      (case x_a => k_is)
      (case x_i => k_is)
      (case x_l => k_is)
      (case x_c => k_is)
      (case x_k => k_is)
    case k_Ways =>
      refine' CK.makeF_mk KX G ?x_e ?x_mk ?x_a ?x_i ?x_kc ?x_l ?x_c ?x_k
      (case x_e => k_is)
      (case x_mk => k_is)
      (case x_a => k_is)
      (case x_i => k_is)
      (case x_kc => k_is)
      (case x_l => k_is)
      (case x_c => k_is)
      (case x_k => k_is)
    case f_cost_of =>
      refine' CK.defF_mk KX G ?x_a ?x_l ?x_c ?x_k
      (case x_a => k_is)
      (case x_l => k_is)
      (case x_c => k_is)
      (case x_k => k_is)
    case f_cadences_in =>
      refine' CK.defF_mk KX G ?x_a ?x_l ?x_c ?x_k
      (case x_a => k_is)
      (case x_l => k_is)
      (case x_c => k_is)
      (case x_k => k_is)
    case m_CD_want_chords =>
      refine' CK.methF_mk ?x_a ?x_i ?x_l ?x_c ?x_k
      (case x_a => k_is)
      (case x_i => k_is)
      (case x_l => k_is)
      (case x_c => k_is)
      (case x_k => k_is)
    case m_CD_chords =>
      refine' CK.methF_mk ?x_a ?x_i ?x_l ?x_c ?x_k
      (case x_a => k_is)
      (case x_i => k_is)
      (case x_l => k_is)
      (case x_c => k_is)
      (case x_k => k_is)
    case m_CD_put_prices =>
      refine' CK.methF_mk ?x_a ?x_i ?x_l ?x_c ?x_k
      (case x_a => k_is)
      (case x_i => k_is)
      (case x_l => k_is)
      (case x_c => k_is)
      (case x_k => k_is)
    case m_CD_know =>
      refine' CK.methF_mk ?x_a ?x_i ?x_l ?x_c ?x_k
      (case x_a => k_is)
      (case x_i => k_is)
      (case x_l => k_is)
      (case x_c => k_is)
      (case x_k => k_is)
    case m_CD_move =>
      refine' CK.methF_mk ?x_a ?x_i ?x_l ?x_c ?x_k
      (case x_a => k_is)
      (case x_i => k_is)
      (case x_l => k_is)
      (case x_c => k_is)
      (case x_k => k_is)
    case m_CD_degrees =>
      refine' CK.methF_mk ?x_a ?x_i ?x_l ?x_c ?x_k
      (case x_a => k_is)
      (case x_i => k_is)
      (case x_l => k_is)
      (case x_c => k_is)
      (case x_k => k_is)
    case m_CD_count =>
      refine' CK.methF_mk ?x_a ?x_i ?x_l ?x_c ?x_k
      (case x_a => k_is)
      (case x_i => k_is)
      (case x_l => k_is)
      (case x_c => k_is)
      (case x_k => k_is)
    case m_CD_counts =>
      refine' CK.methF_mk ?x_a ?x_i ?x_l ?x_c ?x_k
      (case x_a => k_is)
      (case x_i => k_is)
      (case x_l => k_is)
      (case x_c => k_is)
      (case x_k => k_is)
    case m_CD_told_reading =>
      refine' CK.methF_mk ?x_a ?x_i ?x_l ?x_c ?x_k
      (case x_a => k_is)
      (case x_i => k_is)
      (case x_l => k_is)
      (case x_c => k_is)
      (case x_k => k_is)
    case m_CD_nth =>
      refine' CK.methF_mk ?x_a ?x_i ?x_l ?x_c ?x_k
      (case x_a => k_is)
      (case x_i => k_is)
      (case x_l => k_is)
      (case x_c => k_is)
      (case x_k => k_is)
    case m_CD_cost =>
      refine' CK.methF_mk ?x_a ?x_i ?x_l ?x_c ?x_k
      (case x_a => k_is)
      (case x_i => k_is)
      (case x_l => k_is)
      (case x_c => k_is)
      (case x_k => k_is)
    case k_Desk =>
      refine' CK.makeF_mk KX G ?x_e ?x_mk ?x_a ?x_i ?x_kc ?x_l ?x_c ?x_k
      (case x_e => k_is)
      (case x_mk => k_is)
      (case x_a => k_is)
      (case x_i => k_is)
      (case x_kc => k_is)
      (case x_l => k_is)
      (case x_c => k_is)
      (case x_k => k_is)
    case f_of_call =>
      refine' CK.defF_mk KX G ?x_a ?x_l ?x_c ?x_k
      (case x_a => k_is)
      (case x_l => k_is)
      (case x_c => k_is)
      (case x_k => k_is)
    case f_answer =>
      refine' CK.defF_mk KX G ?x_a ?x_l ?x_c ?x_k
      (case x_a => k_is)
      (case x_l => k_is)
      (case x_c => k_is)
      (case x_k => k_is)
    case f_answers =>
      refine' CK.defF_mk KX G ?x_a ?x_l ?x_c ?x_k
      (case x_a => k_is)
      (case x_l => k_is)
      (case x_c => k_is)
      (case x_k => k_is)
  case S =>
    intro K H xs a hO hwi hask hx
    cases hx with
    | cons h1 h2 =>
      cases h2
      cases h1 with
      | lst hs ha =>
        have e := L2.ints_dw a.1 _ ha
        subst e
        have q : ((Codec.inLen 0 2460 a.1 && a.1.all (Codec.inInt (-9007199254740992) 9007199254740992)) && true) = true := hwi
        rw [Bool.and_eq_true, Bool.and_eq_true] at q
        exact ⟨_, a.1, rfl, hs, hask, (Codec.inNat_iff.mp q.1.1).2, fun H' p hp => .lst (L2.SqL.of hp) (L2.dw_ints _)⟩
